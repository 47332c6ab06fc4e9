/-
 The common ground of the contracts of this program's functions. Conditions: none.
-/
import Derived.Test.YtbppfpdgahopeaaGreatDoorGlE
import Derived.Test.YtbppfpdgahopeaaGreatDoorChecked
namespace Go.Gl
open Go Go.Proofs
def aR:FuncId→List Bool:=fun _=>[]
theorem J5 {f:FuncId}:aR f=[]:=rfl
theorem A7:fJ aR=false:=_root_.id rfl
theorem A5:ga aR=false:=_root_.id rfl
theorem A4:f9 aR=false:=_root_.id rfl
theorem A3:f8 aR=false:=_root_.id rfl
theorem A6:gb aR=false:=_root_.id rfl
theorem mo:Tryz.prog.follows .mixedOrders=true:=Tryz.checked.mixed
theorem sz1:bc Tryz.prog 1=some (1,false):=by kernel_rfl
theorem it2:jo Tryz.prog 2=some .i64:=by kernel_rfl
theorem st2:cE Tryz.prog 2=false:=by kernel_rfl
theorem sz2:bc Tryz.prog 2=some (1,false):=by kernel_rfl
theorem zt2:bh Tryz.prog 2=some [.int .i64 0]:=by kernel_rfl
theorem it3:jo Tryz.prog 3=some .i64:=by kernel_rfl
theorem st3:cE Tryz.prog 3=false:=by kernel_rfl
theorem sz3:bc Tryz.prog 3=some (1,false):=by kernel_rfl
theorem zt3:bh Tryz.prog 3=some [.int .i64 0]:=by kernel_rfl
theorem bo4:qZ Tryz.prog 4=true:=by kernel_rfl
theorem sz4:bc Tryz.prog 4=some (1,false):=by kernel_rfl
theorem zt4:bh Tryz.prog 4=some [.bool false]:=by kernel_rfl
theorem it5:jo Tryz.prog 5=some .u8:=by kernel_rfl
theorem st5:cE Tryz.prog 5=false:=by kernel_rfl
theorem sz5:bc Tryz.prog 5=some (1,false):=by kernel_rfl
theorem zt5:bh Tryz.prog 5=some [.int .u8 0]:=by kernel_rfl
theorem it6:jo Tryz.prog 6=some .u8:=by kernel_rfl
theorem st6:cE Tryz.prog 6=false:=by kernel_rfl
theorem sz6:bc Tryz.prog 6=some (1,false):=by kernel_rfl
theorem zt6:bh Tryz.prog 6=some [.int .u8 0]:=by kernel_rfl
theorem sz7:bc Tryz.prog 7=some (4,true):=by kernel_rfl
theorem zt7:bh Tryz.prog 7=some [.int .i64 0,.int .i64 0,.bool false,.int .u8 0]:=by kernel_rfl
theorem Us:bv Tryz.prog 7 0=some (0,1,false):=by kernel_rfl
theorem Ur:bv Tryz.prog 7 1=some (1,1,false):=by kernel_rfl
theorem Uq:bv Tryz.prog 7 2=some (2,1,false):=by kernel_rfl
theorem Up:bv Tryz.prog 7 3=some (3,1,false):=by kernel_rfl
theorem pl7:bi Tryz.prog 7=some [0,1,2,3]:=by kernel_rfl
theorem sz8:bc Tryz.prog 8=some (4,true):=by kernel_rfl
theorem zt8:bh Tryz.prog 8=some [.int .i64 0,.int .i64 0,.bool false,.int .u8 0]:=by kernel_rfl
theorem Uo:bv Tryz.prog 8 0=some (0,1,false):=by kernel_rfl
theorem Un:bv Tryz.prog 8 1=some (1,1,false):=by kernel_rfl
theorem Um:bv Tryz.prog 8 2=some (2,1,false):=by kernel_rfl
theorem Ul:bv Tryz.prog 8 3=some (3,1,false):=by kernel_rfl
theorem pl8:bi Tryz.prog 8=some [0,1,2,3]:=by kernel_rfl
theorem st9:cE Tryz.prog 9=true:=by kernel_rfl
theorem sz9:bc Tryz.prog 9=some (1,false):=by kernel_rfl
theorem zt9:bh Tryz.prog 9=some [.str []]:=by kernel_rfl
theorem YI:cE Tryz.prog 10=true:=by kernel_rfl
theorem Yx:bc Tryz.prog 10=some (1,false):=by kernel_rfl
theorem WX:bh Tryz.prog 10=some [.str []]:=by kernel_rfl
theorem YH:cE Tryz.prog 11=true:=by kernel_rfl
theorem Yw:bc Tryz.prog 11=some (1,false):=by kernel_rfl
theorem WW:bh Tryz.prog 11=some [.str []]:=by kernel_rfl
theorem ZN:jo Tryz.prog 12=some .u64:=by kernel_rfl
theorem YG:cE Tryz.prog 12=false:=by kernel_rfl
theorem Yv:bc Tryz.prog 12=some (1,false):=by kernel_rfl
theorem WV:bh Tryz.prog 12=some [.int .u64 0]:=by kernel_rfl
theorem Yu:bc Tryz.prog 13=some (2,true):=by kernel_rfl
theorem WU:bh Tryz.prog 13=some [.str [],.int .u64 0]:=by kernel_rfl
theorem Np:bv Tryz.prog 13 0=some (0,1,false):=by kernel_rfl
theorem No:bv Tryz.prog 13 1=some (1,1,false):=by kernel_rfl
theorem Za:bi Tryz.prog 13=some [0,1]:=by kernel_rfl
theorem Yt:bc Tryz.prog 14=some (2,true):=by kernel_rfl
theorem WT:bh Tryz.prog 14=some [.str [],.int .u64 0]:=by kernel_rfl
theorem Nn:bv Tryz.prog 14 0=some (0,1,false):=by kernel_rfl
theorem Nm:bv Tryz.prog 14 1=some (1,1,false):=by kernel_rfl
theorem Y9:bi Tryz.prog 14=some [0,1]:=by kernel_rfl
theorem Ys:bc Tryz.prog 15=some (1,false):=by kernel_rfl
theorem Yr:bc Tryz.prog 16=some (1,false):=by kernel_rfl
theorem Yq:bc Tryz.prog 17=some (1,false):=by kernel_rfl
theorem Yp:bc Tryz.prog 18=some (1,true):=by kernel_rfl
theorem Nl:bv Tryz.prog 18 0=some (0,1,false):=by kernel_rfl
theorem Y8:bi Tryz.prog 18=some [0]:=by kernel_rfl
theorem Yo:bc Tryz.prog 19=some (1,true):=by kernel_rfl
theorem Nk:bv Tryz.prog 19 0=some (0,1,false):=by kernel_rfl
theorem Y7:bi Tryz.prog 19=some [0]:=by kernel_rfl
theorem ZM:jo Tryz.prog 21=some .i32:=by kernel_rfl
theorem YF:cE Tryz.prog 21=false:=by kernel_rfl
theorem Yn:bc Tryz.prog 21=some (1,false):=by kernel_rfl
theorem WR:bh Tryz.prog 21=some [.int .i32 0]:=by kernel_rfl
theorem YN:fh Tryz.prog 22=some (8,.int .i64 0):=by kernel_rfl
theorem Xf:AJ Tryz.prog 22=false:=by kernel_rfl
theorem YE:cE Tryz.prog 22=false:=by kernel_rfl
theorem Ym:bc Tryz.prog 22=some (1,false):=by kernel_rfl
theorem WQ:bh Tryz.prog 22=some [.sl (.lent false) []]:=by kernel_rfl
theorem Yl:bc Tryz.prog 23=some (1,false):=by kernel_rfl
theorem Yk:bc Tryz.prog 24=some (1,false):=by kernel_rfl
theorem Yj:bc Tryz.prog 25=some (1,false):=by kernel_rfl
theorem Yi:bc Tryz.prog 26=some (1,false):=by kernel_rfl
theorem YM:fh Tryz.prog 27=some (1,.int .u8 0):=by kernel_rfl
theorem Xe:AJ Tryz.prog 27=true:=by kernel_rfl
theorem YD:cE Tryz.prog 27=false:=by kernel_rfl
theorem Yh:bc Tryz.prog 27=some (1,false):=by kernel_rfl
theorem WP:bh Tryz.prog 27=some [.sl (.lent false) []]:=by kernel_rfl
theorem Yg:bc Tryz.prog 28=some (1,false):=by kernel_rfl
theorem Yf:bc Tryz.prog 29=some (1,false):=by kernel_rfl
theorem YL:fh Tryz.prog 30=some (24,.sl (.lent false) []):=by kernel_rfl
theorem Xd:AJ Tryz.prog 30=false:=by kernel_rfl
theorem YC:cE Tryz.prog 30=false:=by kernel_rfl
theorem Ye:bc Tryz.prog 30=some (1,false):=by kernel_rfl
theorem WO:bh Tryz.prog 30=some [.sl (.lent false) []]:=by kernel_rfl
theorem Yd:bc Tryz.prog 31=some (1,false):=by kernel_rfl
theorem Yc:bc Tryz.prog 32=some (1,false):=by kernel_rfl
theorem Yb:bc Tryz.prog 33=some (1,false):=by kernel_rfl
theorem Ya:bc Tryz.prog 34=some (1,false):=by kernel_rfl
theorem X9:bc Tryz.prog 35=some (1,false):=by kernel_rfl
theorem YK:fh Tryz.prog 36=some (16,.str []):=by kernel_rfl
theorem Xc:AJ Tryz.prog 36=false:=by kernel_rfl
theorem YB:cE Tryz.prog 36=false:=by kernel_rfl
theorem X8:bc Tryz.prog 36=some (1,false):=by kernel_rfl
theorem WN:bh Tryz.prog 36=some [.sl (.lent false) []]:=by kernel_rfl
theorem X7:bc Tryz.prog 37=some (1,false):=by kernel_rfl
theorem X6:bc Tryz.prog 38=some (1,false):=by kernel_rfl
theorem X5:bc Tryz.prog 39=some (1,false):=by kernel_rfl
theorem X4:bc Tryz.prog 40=some (1,false):=by kernel_rfl
theorem X3:bc Tryz.prog 41=some (1,false):=by kernel_rfl
theorem X2:bc Tryz.prog 43=some (1,false):=by kernel_rfl
theorem X1:bc Tryz.prog 44=some (1,false):=by kernel_rfl
theorem X0:bc Tryz.prog 45=some (1,false):=by kernel_rfl
theorem XZ:bc Tryz.prog 46=some (1,false):=by kernel_rfl
theorem XY:bc Tryz.prog 47=some (2,true):=by kernel_rfl
theorem WM:bh Tryz.prog 47=some [.sl (.lent false) [],.sl (.lent false) []]:=by kernel_rfl
theorem Nj:bv Tryz.prog 47 0=some (0,1,false):=by kernel_rfl
theorem Ni:bv Tryz.prog 47 1=some (1,1,false):=by kernel_rfl
theorem Y6:bi Tryz.prog 47=some [0,1]:=by kernel_rfl
theorem XX:bc Tryz.prog 48=some (2,true):=by kernel_rfl
theorem WL:bh Tryz.prog 48=some [.sl (.lent false) [],.sl (.lent false) []]:=by kernel_rfl
theorem Nh:bv Tryz.prog 48 0=some (0,1,false):=by kernel_rfl
theorem Ng:bv Tryz.prog 48 1=some (1,1,false):=by kernel_rfl
theorem Y5:bi Tryz.prog 48=some [0,1]:=by kernel_rfl
theorem XW:bc Tryz.prog 50=some (1,false):=by kernel_rfl
theorem XV:bc Tryz.prog 51=some (1,false):=by kernel_rfl
theorem YJ:fh Tryz.prog 52=some (1,.bool false):=by kernel_rfl
theorem Xb:AJ Tryz.prog 52=false:=by kernel_rfl
theorem YA:cE Tryz.prog 52=false:=by kernel_rfl
theorem XU:bc Tryz.prog 52=some (1,false):=by kernel_rfl
theorem WK:bh Tryz.prog 52=some [.sl (.lent false) []]:=by kernel_rfl
theorem XT:bc Tryz.prog 53=some (1,false):=by kernel_rfl
theorem XS:bc Tryz.prog 54=some (1,false):=by kernel_rfl
theorem XR:bc Tryz.prog 55=some (1,false):=by kernel_rfl
theorem XQ:bc Tryz.prog 56=some (1,false):=by kernel_rfl
theorem XP:bc Tryz.prog 57=some (2,true):=by kernel_rfl
theorem WJ:bh Tryz.prog 57=some [.str [],.nilf]:=by kernel_rfl
theorem Nf:bv Tryz.prog 57 0=some (0,1,false):=by kernel_rfl
theorem Nd:bv Tryz.prog 57 1=some (1,1,false):=by kernel_rfl
theorem Y4:bi Tryz.prog 57=some [0,1]:=by kernel_rfl
theorem Yz:cE Tryz.prog 58=false:=by kernel_rfl
theorem XO:bc Tryz.prog 58=some (1,false):=by kernel_rfl
theorem WI:bh Tryz.prog 58=some [.sl (.lent false) []]:=by kernel_rfl
theorem XN:bc Tryz.prog 59=some (1,false):=by kernel_rfl
theorem XM:bc Tryz.prog 60=some (2,true):=by kernel_rfl
theorem Nc:bv Tryz.prog 60 0=some (0,1,false):=by kernel_rfl
theorem Nb:bv Tryz.prog 60 1=some (1,1,false):=by kernel_rfl
theorem Y3:bi Tryz.prog 60=some [0,1]:=by kernel_rfl
theorem XL:bc Tryz.prog 61=some (2,true):=by kernel_rfl
theorem Na:bv Tryz.prog 61 0=some (0,1,false):=by kernel_rfl
theorem M9:bv Tryz.prog 61 1=some (1,1,false):=by kernel_rfl
theorem Y2:bi Tryz.prog 61=some [0,1]:=by kernel_rfl
theorem XK:bc Tryz.prog 62=some (1,false):=by kernel_rfl
theorem XJ:bc Tryz.prog 66=some (1,false):=by kernel_rfl
theorem XI:bc Tryz.prog 67=some (1,false):=by kernel_rfl
theorem XH:bc Tryz.prog 68=some (1,false):=by kernel_rfl
theorem XG:bc Tryz.prog 69=some (3,true):=by kernel_rfl
theorem WH:bh Tryz.prog 69=some [.sl (.lent false) [],.int .i64 0,.int .i64 0]:=by kernel_rfl
theorem M8:bv Tryz.prog 69 0=some (0,1,false):=by kernel_rfl
theorem M7:bv Tryz.prog 69 1=some (1,1,false):=by kernel_rfl
theorem M6:bv Tryz.prog 69 2=some (2,1,false):=by kernel_rfl
theorem Y1:bi Tryz.prog 69=some [0,1,2]:=by kernel_rfl
theorem XF:bc Tryz.prog 70=some (3,true):=by kernel_rfl
theorem WG:bh Tryz.prog 70=some [.sl (.lent false) [],.int .i64 0,.int .i64 0]:=by kernel_rfl
theorem M5:bv Tryz.prog 70 0=some (0,1,false):=by kernel_rfl
theorem M4:bv Tryz.prog 70 1=some (1,1,false):=by kernel_rfl
theorem M3:bv Tryz.prog 70 2=some (2,1,false):=by kernel_rfl
theorem Y0:bi Tryz.prog 70=some [0,1,2]:=by kernel_rfl
theorem XE:bc Tryz.prog 71=some (1,false):=by kernel_rfl
theorem XD:bc Tryz.prog 72=some (1,false):=by kernel_rfl
theorem XC:bc Tryz.prog 74=some (1,false):=by kernel_rfl
theorem XB:bc Tryz.prog 75=some (1,false):=by kernel_rfl
theorem XA:bc Tryz.prog 76=some (1,false):=by kernel_rfl
theorem Xz:bc Tryz.prog 77=some (1,false):=by kernel_rfl
theorem Xy:bc Tryz.prog 78=some (1,false):=by kernel_rfl
theorem Xx:bc Tryz.prog 79=some (1,false):=by kernel_rfl
theorem Xw:bc Tryz.prog 80=some (1,false):=by kernel_rfl
theorem Xv:bc Tryz.prog 81=some (1,false):=by kernel_rfl
theorem Xu:bc Tryz.prog 82=some (1,false):=by kernel_rfl
theorem Xt:bc Tryz.prog 84=some (1,false):=by kernel_rfl
theorem Xs:bc Tryz.prog 85=some (1,false):=by kernel_rfl
theorem Xr:bc Tryz.prog 86=some (1,false):=by kernel_rfl
theorem Xq:bc Tryz.prog 87=some (1,false):=by kernel_rfl
theorem Xp:bc Tryz.prog 88=some (1,false):=by kernel_rfl
theorem Xo:bc Tryz.prog 90=some (1,false):=by kernel_rfl
theorem Xn:bc Tryz.prog 91=some (1,false):=by kernel_rfl
theorem Xm:bc Tryz.prog 92=some (1,false):=by kernel_rfl
theorem Xl:bc Tryz.prog 93=some (1,false):=by kernel_rfl
theorem Xk:bc Tryz.prog 94=some (1,false):=by kernel_rfl
theorem Xj:bc Tryz.prog 96=some (1,false):=by kernel_rfl
theorem Xi:bc Tryz.prog 97=some (1,false):=by kernel_rfl
theorem Xh:bc Tryz.prog 98=some (1,false):=by kernel_rfl
theorem Xg:bc Tryz.prog 99=some (1,false):=by kernel_rfl
theorem QX:bc Tryz.prog 100=some (1,false):=by kernel_rfl
theorem QW:bc Tryz.prog 101=some (1,false):=by kernel_rfl
theorem QV:bc Tryz.prog 102=some (1,false):=by kernel_rfl
theorem QU:bc Tryz.prog 104=some (1,false):=by kernel_rfl
theorem QT:bc Tryz.prog 105=some (1,false):=by kernel_rfl
theorem QS:bc Tryz.prog 106=some (1,false):=by kernel_rfl
theorem QR:bc Tryz.prog 107=some (1,false):=by kernel_rfl
theorem QQ:bc Tryz.prog 108=some (1,false):=by kernel_rfl
theorem QP:bc Tryz.prog 109=some (1,false):=by kernel_rfl
theorem QO:bc Tryz.prog 111=some (1,false):=by kernel_rfl
theorem QN:bc Tryz.prog 112=some (1,false):=by kernel_rfl
theorem QM:bc Tryz.prog 113=some (1,false):=by kernel_rfl
theorem Tt:jo Tryz.prog 114=some .u64:=by kernel_rfl
theorem Q9:cE Tryz.prog 114=false:=by kernel_rfl
theorem QL:bc Tryz.prog 114=some (1,false):=by kernel_rfl
theorem Pe:bh Tryz.prog 114=some [.int .u64 0]:=by kernel_rfl
theorem QK:bc Tryz.prog 115=some (1,false):=by kernel_rfl
theorem QJ:bc Tryz.prog 116=some (1,false):=by kernel_rfl
theorem QI:bc Tryz.prog 117=some (1,false):=by kernel_rfl
theorem QH:bc Tryz.prog 118=some (1,false):=by kernel_rfl
theorem QG:bc Tryz.prog 119=some (1,false):=by kernel_rfl
theorem QF:bc Tryz.prog 120=some (1,false):=by kernel_rfl
theorem QE:bc Tryz.prog 121=some (24,true):=by kernel_rfl
theorem RL:bi Tryz.prog 121=some [0,1,2,3,4,5,6,7,8,9,10,11,12,13,14,15,16,17,18,19,20,21,22,23]:=by kernel_rfl
theorem Pd:bh Tryz.prog 121=some [.int .u8 0,.int .u8 0,.int .u8 0,.int .u8 0,.int .u8 0,.int .u8 0,.int .u8 0,.int .u8 0,.int .u8 0,.int .u8 0,.int .u8 0,.int .u8 0,.int .u8 0,.int .u8 0,.int .u8 0,.int .u8 0,.int .u8 0,.int .u8 0,.int .u8 0,.int .u8 0,.int .u8 0,.int .u8 0,.int .u8 0,.int .u8 0]:=by kernel_rfl
theorem Ts:jo Tryz.prog 122=some .u64:=by kernel_rfl
theorem Q8:cE Tryz.prog 122=false:=by kernel_rfl
theorem QD:bc Tryz.prog 122=some (1,false):=by kernel_rfl
theorem Pc:bh Tryz.prog 122=some [.int .u64 0]:=by kernel_rfl
theorem QC:bc Tryz.prog 123=some (1,false):=by kernel_rfl
theorem QB:bc Tryz.prog 124=some (1,false):=by kernel_rfl
theorem QA:bc Tryz.prog 126=some (1,false):=by kernel_rfl
theorem Qz:bc Tryz.prog 127=some (1,false):=by kernel_rfl
theorem Qy:bc Tryz.prog 128=some (1,false):=by kernel_rfl
theorem Tr:jo Tryz.prog 129=some .i64:=by kernel_rfl
theorem Q7:cE Tryz.prog 129=false:=by kernel_rfl
theorem Qx:bc Tryz.prog 129=some (1,false):=by kernel_rfl
theorem Pb:bh Tryz.prog 129=some [.int .i64 0]:=by kernel_rfl
theorem Qw:bc Tryz.prog 131=some (1,false):=by kernel_rfl
theorem Qv:bc Tryz.prog 132=some (1,false):=by kernel_rfl
theorem Qu:bc Tryz.prog 133=some (1,false):=by kernel_rfl
theorem Qt:bc Tryz.prog 135=some (1,false):=by kernel_rfl
theorem Qs:bc Tryz.prog 136=some (1,false):=by kernel_rfl
theorem Tq:jo Tryz.prog 137=some .u32:=by kernel_rfl
theorem Q6:cE Tryz.prog 137=false:=by kernel_rfl
theorem Qr:bc Tryz.prog 137=some (1,false):=by kernel_rfl
theorem Pa:bh Tryz.prog 137=some [.int .u32 0]:=by kernel_rfl
theorem Qq:bc Tryz.prog 138=some (1,false):=by kernel_rfl
theorem Qp:bc Tryz.prog 139=some (1,false):=by kernel_rfl
theorem Qo:bc Tryz.prog 140=some (20,true):=by kernel_rfl
theorem RK:bi Tryz.prog 140=some [0,1,2,3,4,5,6,7,8,9,10,11,12,13,14,15,16,17,18,19]:=by kernel_rfl
theorem O9:bh Tryz.prog 140=some [.int .u64 0,.int .u64 0,.int .u64 0,.int .u64 0,.int .u64 0,.int .u64 0,.int .u64 0,.int .u64 0,.int .u64 0,.int .u64 0,.int .u64 0,.int .u64 0,.int .u64 0,.int .u64 0,.int .u64 0,.int .u64 0,.int .u64 0,.int .u64 0,.int .u64 0,.int .u64 0]:=by kernel_rfl
theorem Tp:jo Tryz.prog 142=some .u64:=by kernel_rfl
theorem Q5:cE Tryz.prog 142=false:=by kernel_rfl
theorem Qn:bc Tryz.prog 142=some (1,false):=by kernel_rfl
theorem O8:bh Tryz.prog 142=some [.int .u64 0]:=by kernel_rfl
theorem Qm:bc Tryz.prog 143=some (1,false):=by kernel_rfl
theorem Ql:bc Tryz.prog 144=some (1,false):=by kernel_rfl
theorem Qk:bc Tryz.prog 145=some (1,false):=by kernel_rfl
theorem Qj:bc Tryz.prog 146=some (1,false):=by kernel_rfl
theorem Qi:bc Tryz.prog 147=some (1,false):=by kernel_rfl
theorem Qh:bc Tryz.prog 148=some (1,false):=by kernel_rfl
theorem Qg:bc Tryz.prog 149=some (1,false):=by kernel_rfl
theorem Qf:bc Tryz.prog 151=some (1,false):=by kernel_rfl
theorem Qe:bc Tryz.prog 152=some (32,true):=by kernel_rfl
theorem RJ:bi Tryz.prog 152=some [0,1,2,3,4,5,6,7,8,9,10,11,12,13,14,15,16,17,18,19,20,21,22,23,24,25,26,27,28,29,30,31]:=by kernel_rfl
theorem O7:bh Tryz.prog 152=some [.int .u8 0,.int .u8 0,.int .u8 0,.int .u8 0,.int .u8 0,.int .u8 0,.int .u8 0,.int .u8 0,.int .u8 0,.int .u8 0,.int .u8 0,.int .u8 0,.int .u8 0,.int .u8 0,.int .u8 0,.int .u8 0,.int .u8 0,.int .u8 0,.int .u8 0,.int .u8 0,.int .u8 0,.int .u8 0,.int .u8 0,.int .u8 0,.int .u8 0,.int .u8 0,.int .u8 0,.int .u8 0,.int .u8 0,.int .u8 0,.int .u8 0,.int .u8 0]:=by kernel_rfl
theorem Qd:bc Tryz.prog 153=some (64,true):=by kernel_rfl
theorem RI:bi Tryz.prog 153=some [0,1,2,3,4,5,6,7,8,9,10,11,12,13,14,15,16,17,18,19,20,21,22,23,24,25,26,27,28,29,30,31,32,33,34,35,36,37,38,39,40,41,42,43,44,45,46,47,48,49,50,51,52,53,54,55,56,57,58,59,60,61,62,63]:=by kernel_rfl
theorem O6:bh Tryz.prog 153=some [.int .u8 0,.int .u8 0,.int .u8 0,.int .u8 0,.int .u8 0,.int .u8 0,.int .u8 0,.int .u8 0,.int .u8 0,.int .u8 0,.int .u8 0,.int .u8 0,.int .u8 0,.int .u8 0,.int .u8 0,.int .u8 0,.int .u8 0,.int .u8 0,.int .u8 0,.int .u8 0,.int .u8 0,.int .u8 0,.int .u8 0,.int .u8 0,.int .u8 0,.int .u8 0,.int .u8 0,.int .u8 0,.int .u8 0,.int .u8 0,.int .u8 0,.int .u8 0,.int .u8 0,.int .u8 0,.int .u8 0,.int .u8 0,.int .u8 0,.int .u8 0,.int .u8 0,.int .u8 0,.int .u8 0,.int .u8 0,.int .u8 0,.int .u8 0,.int .u8 0,.int .u8 0,.int .u8 0,.int .u8 0,.int .u8 0,.int .u8 0,.int .u8 0,.int .u8 0,.int .u8 0,.int .u8 0,.int .u8 0,.int .u8 0,.int .u8 0,.int .u8 0,.int .u8 0,.int .u8 0,.int .u8 0,.int .u8 0,.int .u8 0,.int .u8 0]:=by kernel_rfl
theorem Qb:bc Tryz.prog 154=some (4,true):=by kernel_rfl
theorem HO:bv Tryz.prog 154 0=some (0,1,false):=by kernel_rfl
theorem HN:bv Tryz.prog 154 1=some (1,1,false):=by kernel_rfl
theorem HM:bv Tryz.prog 154 2=some (2,1,false):=by kernel_rfl
theorem HL:bv Tryz.prog 154 3=some (3,1,false):=by kernel_rfl
theorem RH:bi Tryz.prog 154=some [0,1,2,3]:=by kernel_rfl
theorem Qa:bc Tryz.prog 155=some (4,true):=by kernel_rfl
theorem HK:bv Tryz.prog 155 0=some (0,1,false):=by kernel_rfl
theorem HJ:bv Tryz.prog 155 1=some (1,1,false):=by kernel_rfl
theorem HI:bv Tryz.prog 155 2=some (2,1,false):=by kernel_rfl
theorem HF:bv Tryz.prog 155 3=some (3,1,false):=by kernel_rfl
theorem RG:bi Tryz.prog 155=some [0,1,2,3]:=by kernel_rfl
theorem P9:bc Tryz.prog 156=some (0,true):=by kernel_rfl
theorem P8:bc Tryz.prog 157=some (0,true):=by kernel_rfl
theorem HE:bv Tryz.prog 157 0=some (0,0,true):=by kernel_rfl
theorem P7:bc Tryz.prog 158=some (0,true):=by kernel_rfl
theorem HD:bv Tryz.prog 158 0=some (0,0,true):=by kernel_rfl
theorem P6:bc Tryz.prog 159=some (1,false):=by kernel_rfl
theorem To:jo Tryz.prog 160=some .u8:=by kernel_rfl
theorem Q4:cE Tryz.prog 160=false:=by kernel_rfl
theorem P5:bc Tryz.prog 160=some (1,false):=by kernel_rfl
theorem O5:bh Tryz.prog 160=some [.int .u8 0]:=by kernel_rfl
theorem Tn:jo Tryz.prog 161=some .u8:=by kernel_rfl
theorem Q3:cE Tryz.prog 161=false:=by kernel_rfl
theorem P4:bc Tryz.prog 161=some (1,false):=by kernel_rfl
theorem O4:bh Tryz.prog 161=some [.int .u8 0]:=by kernel_rfl
theorem P3:bc Tryz.prog 162=some (1,false):=by kernel_rfl
theorem Tm:jo Tryz.prog 163=some .i32:=by kernel_rfl
theorem Q2:cE Tryz.prog 163=false:=by kernel_rfl
theorem P2:bc Tryz.prog 163=some (1,false):=by kernel_rfl
theorem O3:bh Tryz.prog 163=some [.int .i32 0]:=by kernel_rfl
theorem Tl:jo Tryz.prog 164=some .i32:=by kernel_rfl
theorem Q1:cE Tryz.prog 164=false:=by kernel_rfl
theorem P0:bc Tryz.prog 164=some (1,false):=by kernel_rfl
theorem O1:bh Tryz.prog 164=some [.int .i32 0]:=by kernel_rfl
theorem PZ:bc Tryz.prog 165=some (11,true):=by kernel_rfl
theorem HC:bv Tryz.prog 165 0=some (0,1,false):=by kernel_rfl
theorem HB:bv Tryz.prog 165 1=some (1,1,false):=by kernel_rfl
theorem HA:bv Tryz.prog 165 2=some (2,1,false):=by kernel_rfl
theorem Hz:bv Tryz.prog 165 3=some (3,1,false):=by kernel_rfl
theorem Hy:bv Tryz.prog 165 4=some (4,1,false):=by kernel_rfl
theorem Hx:bv Tryz.prog 165 5=some (5,1,false):=by kernel_rfl
theorem Hw:bv Tryz.prog 165 6=some (6,1,false):=by kernel_rfl
theorem Hv:bv Tryz.prog 165 7=some (7,1,false):=by kernel_rfl
theorem Hu:bv Tryz.prog 165 8=some (8,1,false):=by kernel_rfl
theorem Ht:bv Tryz.prog 165 9=some (9,1,false):=by kernel_rfl
theorem DF:bv Tryz.prog 165 10=some (10,1,false):=by kernel_rfl
theorem RE:bi Tryz.prog 165=some [0,1,2,3,4,5,6,7,8,9,10]:=by kernel_rfl
theorem PY:bc Tryz.prog 166=some (11,true):=by kernel_rfl
theorem Hs:bv Tryz.prog 166 0=some (0,1,false):=by kernel_rfl
theorem Hr:bv Tryz.prog 166 1=some (1,1,false):=by kernel_rfl
theorem Hq:bv Tryz.prog 166 2=some (2,1,false):=by kernel_rfl
theorem Hp:bv Tryz.prog 166 3=some (3,1,false):=by kernel_rfl
theorem Ho:bv Tryz.prog 166 4=some (4,1,false):=by kernel_rfl
theorem Hn:bv Tryz.prog 166 5=some (5,1,false):=by kernel_rfl
theorem Hm:bv Tryz.prog 166 6=some (6,1,false):=by kernel_rfl
theorem Hl:bv Tryz.prog 166 7=some (7,1,false):=by kernel_rfl
theorem Hk:bv Tryz.prog 166 8=some (8,1,false):=by kernel_rfl
theorem Hj:bv Tryz.prog 166 9=some (9,1,false):=by kernel_rfl
theorem DE:bv Tryz.prog 166 10=some (10,1,false):=by kernel_rfl
theorem RD:bi Tryz.prog 166=some [0,1,2,3,4,5,6,7,8,9,10]:=by kernel_rfl
attribute [go_sem] J5 A7 A5 A4 A3 A6 sz1 it2 st2 sz2 zt2 it3 st3 sz3 zt3 bo4 sz4 zt4
attribute [go_sem] it5 st5 sz5 zt5 it6 st6 sz6 zt6 sz7 zt7 Us Ur
attribute [go_sem] Uq Up pl7 sz8 zt8 Uo Un Um Ul pl8 st9 sz9
attribute [go_sem] zt9 YI Yx WX YH Yw WW ZN YG Yv WV Yu
attribute [go_sem] WU Np No Za Yt WT Nn Nm Y9 Ys Yr Yq
attribute [go_sem] Yp Nl Y8 Yo Nk Y7 ZM YF Yn WR YN Xf
attribute [go_sem] YE Ym WQ Yl Yk Yj Yi YM Xe YD Yh WP
attribute [go_sem] Yg Yf YL Xd YC Ye WO Yd Yc Yb Ya X9
attribute [go_sem] YK Xc YB X8 WN X7 X6 X5 X4 X3 X2 X1
attribute [go_sem] X0 XZ XY WM Nj Ni Y6 XX WL Nh Ng Y5
attribute [go_sem] XW XV YJ Xb YA XU WK XT XS XR XQ XP
attribute [go_sem] WJ Nf Nd Y4 Yz XO WI XN XM Nc Nb Y3
attribute [go_sem] XL Na M9 Y2 XK XJ XI XH XG WH M8 M7
attribute [go_sem] M6 Y1 XF WG M5 M4 M3 Y0 XE XD XC XB
attribute [go_sem] XA Xz Xy Xx Xw Xv Xu Xt Xs Xr Xq Xp
attribute [go_sem] Xo Xn Xm Xl Xk Xj Xi Xh Xg QX QW QV
attribute [go_sem] QU QT QS QR QQ QP QO QN QM Tt Q9 QL
attribute [go_sem] Pe QK QJ QI QH QG QF QE RL Pd Ts Q8
attribute [go_sem] QD Pc QC QB QA Qz Qy Tr Q7 Qx Pb Qw
attribute [go_sem] Qv Qu Qt Qs Tq Q6 Qr Pa Qq Qp Qo RK
attribute [go_sem] O9 Tp Q5 Qn O8 Qm Ql Qk Qj Qi Qh Qg
attribute [go_sem] Qf Qe RJ O7 Qd RI O6 Qb HO HN HM HL
attribute [go_sem] RH Qa HK HJ HI HF RG P9 P8 HE P7 HD
attribute [go_sem] P6 To Q4 P5 O5 Tn Q3 P4 O4 P3 Tm Q2
attribute [go_sem] P2 O3 Tl Q1 P0 O1 PZ HC HB HA Hz Hy
attribute [go_sem] Hx Hw Hv Hu Ht DF RE PY Hs Hr Hq Hp
attribute [go_sem] Ho Hn Hm Hl Hk Hj DE RD
end Go.Gl
