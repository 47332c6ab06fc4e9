/-
 The common ground of the contracts of this program's functions. Conditions: none.
-/
import Derived.Test.YtbppfpdgahopeaaGreatDoorGlE
import Derived.Test.YtbppfpdgahopeaaGreatDoorChecked
namespace Go.Gl
open Go Go.Proofs
def bA:FuncId→List Bool:=fun _=>[]
theorem Kx {f:FuncId}:bA f=[]:=rfl
theorem Bz:gk bA=false:=_root_.id rfl
theorem Bw:gG bA=false:=_root_.id rfl
theorem Bv:gF bA=false:=_root_.id rfl
theorem Bu:gE bA=false:=_root_.id rfl
theorem By:gH bA=false:=_root_.id rfl
theorem mo:Tryz.prog.follows .mixedOrders=true:=Tryz.checked.mixed
theorem sz1:bK Tryz.prog 1=some (1,false):=by kernel_rfl
theorem it2:jP Tryz.prog 2=some .i64:=by kernel_rfl
theorem st2:c8 Tryz.prog 2=false:=by kernel_rfl
theorem sz2:bK Tryz.prog 2=some (1,false):=by kernel_rfl
theorem zt2:bP Tryz.prog 2=some [.int .i64 0]:=by kernel_rfl
theorem it3:jP Tryz.prog 3=some .i64:=by kernel_rfl
theorem st3:c8 Tryz.prog 3=false:=by kernel_rfl
theorem sz3:bK Tryz.prog 3=some (1,false):=by kernel_rfl
theorem zt3:bP Tryz.prog 3=some [.int .i64 0]:=by kernel_rfl
theorem bo4:rF Tryz.prog 4=true:=by kernel_rfl
theorem sz4:bK Tryz.prog 4=some (1,false):=by kernel_rfl
theorem zt4:bP Tryz.prog 4=some [.bool false]:=by kernel_rfl
theorem it5:jP Tryz.prog 5=some .u8:=by kernel_rfl
theorem st5:c8 Tryz.prog 5=false:=by kernel_rfl
theorem sz5:bK Tryz.prog 5=some (1,false):=by kernel_rfl
theorem zt5:bP Tryz.prog 5=some [.int .u8 0]:=by kernel_rfl
theorem it6:jP Tryz.prog 6=some .u8:=by kernel_rfl
theorem st6:c8 Tryz.prog 6=false:=by kernel_rfl
theorem sz6:bK Tryz.prog 6=some (1,false):=by kernel_rfl
theorem zt6:bP Tryz.prog 6=some [.int .u8 0]:=by kernel_rfl
theorem sz7:bK Tryz.prog 7=some (4,true):=by kernel_rfl
theorem zt7:bP Tryz.prog 7=some [.int .i64 0,.int .i64 0,.bool false,.int .u8 0]:=by kernel_rfl
theorem UW:bY Tryz.prog 7 0=some (0,1,false):=by kernel_rfl
theorem UV:bY Tryz.prog 7 1=some (1,1,false):=by kernel_rfl
theorem UU:bY Tryz.prog 7 2=some (2,1,false):=by kernel_rfl
theorem UT:bY Tryz.prog 7 3=some (3,1,false):=by kernel_rfl
theorem pl7:bQ Tryz.prog 7=some [0,1,2,3]:=by kernel_rfl
theorem sz8:bK Tryz.prog 8=some (4,true):=by kernel_rfl
theorem zt8:bP Tryz.prog 8=some [.int .i64 0,.int .i64 0,.bool false,.int .u8 0]:=by kernel_rfl
theorem US:bY Tryz.prog 8 0=some (0,1,false):=by kernel_rfl
theorem UR:bY Tryz.prog 8 1=some (1,1,false):=by kernel_rfl
theorem UQ:bY Tryz.prog 8 2=some (2,1,false):=by kernel_rfl
theorem UO:bY Tryz.prog 8 3=some (3,1,false):=by kernel_rfl
theorem pl8:bQ Tryz.prog 8=some [0,1,2,3]:=by kernel_rfl
theorem st9:c8 Tryz.prog 9=true:=by kernel_rfl
theorem sz9:bK Tryz.prog 9=some (1,false):=by kernel_rfl
theorem zt9:bP Tryz.prog 9=some [.str []]:=by kernel_rfl
theorem Y9:c8 Tryz.prog 10=true:=by kernel_rfl
theorem YY:bK Tryz.prog 10=some (1,false):=by kernel_rfl
theorem Xo:bP Tryz.prog 10=some [.str []]:=by kernel_rfl
theorem Y8:c8 Tryz.prog 11=true:=by kernel_rfl
theorem YX:bK Tryz.prog 11=some (1,false):=by kernel_rfl
theorem Xn:bP Tryz.prog 11=some [.str []]:=by kernel_rfl
theorem aae:jP Tryz.prog 12=some .u64:=by kernel_rfl
theorem Y7:c8 Tryz.prog 12=false:=by kernel_rfl
theorem YW:bK Tryz.prog 12=some (1,false):=by kernel_rfl
theorem Xm:bP Tryz.prog 12=some [.int .u64 0]:=by kernel_rfl
theorem YV:bK Tryz.prog 13=some (2,true):=by kernel_rfl
theorem Xl:bP Tryz.prog 13=some [.str [],.int .u64 0]:=by kernel_rfl
theorem NR:bY Tryz.prog 13 0=some (0,1,false):=by kernel_rfl
theorem NQ:bY Tryz.prog 13 1=some (1,1,false):=by kernel_rfl
theorem ZB:bQ Tryz.prog 13=some [0,1]:=by kernel_rfl
theorem YU:bK Tryz.prog 14=some (2,true):=by kernel_rfl
theorem Xk:bP Tryz.prog 14=some [.str [],.int .u64 0]:=by kernel_rfl
theorem NP:bY Tryz.prog 14 0=some (0,1,false):=by kernel_rfl
theorem NO:bY Tryz.prog 14 1=some (1,1,false):=by kernel_rfl
theorem ZA:bQ Tryz.prog 14=some [0,1]:=by kernel_rfl
theorem YT:bK Tryz.prog 15=some (1,false):=by kernel_rfl
theorem YS:bK Tryz.prog 16=some (1,false):=by kernel_rfl
theorem YR:bK Tryz.prog 17=some (1,false):=by kernel_rfl
theorem YQ:bK Tryz.prog 18=some (1,true):=by kernel_rfl
theorem NN:bY Tryz.prog 18 0=some (0,1,false):=by kernel_rfl
theorem Zz:bQ Tryz.prog 18=some [0]:=by kernel_rfl
theorem YP:bK Tryz.prog 19=some (1,true):=by kernel_rfl
theorem NM:bY Tryz.prog 19 0=some (0,1,false):=by kernel_rfl
theorem Zy:bQ Tryz.prog 19=some [0]:=by kernel_rfl
theorem aad:jP Tryz.prog 21=some .i32:=by kernel_rfl
theorem Y6:c8 Tryz.prog 21=false:=by kernel_rfl
theorem YO:bK Tryz.prog 21=some (1,false):=by kernel_rfl
theorem Xj:bP Tryz.prog 21=some [.int .i32 0]:=by kernel_rfl
theorem Ze:fN Tryz.prog 22=some (8,.int .i64 0):=by kernel_rfl
theorem XG:Bc Tryz.prog 22=false:=by kernel_rfl
theorem Y5:c8 Tryz.prog 22=false:=by kernel_rfl
theorem YN:bK Tryz.prog 22=some (1,false):=by kernel_rfl
theorem Xi:bP Tryz.prog 22=some [.sl (.lent false) []]:=by kernel_rfl
theorem YM:bK Tryz.prog 23=some (1,false):=by kernel_rfl
theorem YL:bK Tryz.prog 24=some (1,false):=by kernel_rfl
theorem YK:bK Tryz.prog 25=some (1,false):=by kernel_rfl
theorem YJ:bK Tryz.prog 26=some (1,false):=by kernel_rfl
theorem Zd:fN Tryz.prog 27=some (1,.int .u8 0):=by kernel_rfl
theorem XF:Bc Tryz.prog 27=true:=by kernel_rfl
theorem Y4:c8 Tryz.prog 27=false:=by kernel_rfl
theorem YI:bK Tryz.prog 27=some (1,false):=by kernel_rfl
theorem Xh:bP Tryz.prog 27=some [.sl (.lent false) []]:=by kernel_rfl
theorem YH:bK Tryz.prog 28=some (1,false):=by kernel_rfl
theorem YG:bK Tryz.prog 29=some (1,false):=by kernel_rfl
theorem Zc:fN Tryz.prog 30=some (24,.sl (.lent false) []):=by kernel_rfl
theorem XE:Bc Tryz.prog 30=false:=by kernel_rfl
theorem Y3:c8 Tryz.prog 30=false:=by kernel_rfl
theorem YF:bK Tryz.prog 30=some (1,false):=by kernel_rfl
theorem Xg:bP Tryz.prog 30=some [.sl (.lent false) []]:=by kernel_rfl
theorem YE:bK Tryz.prog 31=some (1,false):=by kernel_rfl
theorem YD:bK Tryz.prog 32=some (1,false):=by kernel_rfl
theorem YC:bK Tryz.prog 33=some (1,false):=by kernel_rfl
theorem YB:bK Tryz.prog 34=some (1,false):=by kernel_rfl
theorem YA:bK Tryz.prog 35=some (1,false):=by kernel_rfl
theorem Zb:fN Tryz.prog 36=some (16,.str []):=by kernel_rfl
theorem XD:Bc Tryz.prog 36=false:=by kernel_rfl
theorem Y2:c8 Tryz.prog 36=false:=by kernel_rfl
theorem Yz:bK Tryz.prog 36=some (1,false):=by kernel_rfl
theorem Xf:bP Tryz.prog 36=some [.sl (.lent false) []]:=by kernel_rfl
theorem Yy:bK Tryz.prog 37=some (1,false):=by kernel_rfl
theorem Yx:bK Tryz.prog 38=some (1,false):=by kernel_rfl
theorem Yw:bK Tryz.prog 39=some (1,false):=by kernel_rfl
theorem Yv:bK Tryz.prog 40=some (1,false):=by kernel_rfl
theorem Yu:bK Tryz.prog 41=some (1,false):=by kernel_rfl
theorem Yt:bK Tryz.prog 43=some (1,false):=by kernel_rfl
theorem Ys:bK Tryz.prog 44=some (1,false):=by kernel_rfl
theorem Yr:bK Tryz.prog 45=some (1,false):=by kernel_rfl
theorem Yq:bK Tryz.prog 46=some (1,false):=by kernel_rfl
theorem Yp:bK Tryz.prog 47=some (2,true):=by kernel_rfl
theorem Xe:bP Tryz.prog 47=some [.sl (.lent false) [],.sl (.lent false) []]:=by kernel_rfl
theorem NL:bY Tryz.prog 47 0=some (0,1,false):=by kernel_rfl
theorem NK:bY Tryz.prog 47 1=some (1,1,false):=by kernel_rfl
theorem Zx:bQ Tryz.prog 47=some [0,1]:=by kernel_rfl
theorem Yo:bK Tryz.prog 48=some (2,true):=by kernel_rfl
theorem Xd:bP Tryz.prog 48=some [.sl (.lent false) [],.sl (.lent false) []]:=by kernel_rfl
theorem NJ:bY Tryz.prog 48 0=some (0,1,false):=by kernel_rfl
theorem NI:bY Tryz.prog 48 1=some (1,1,false):=by kernel_rfl
theorem Zw:bQ Tryz.prog 48=some [0,1]:=by kernel_rfl
theorem Yn:bK Tryz.prog 50=some (1,false):=by kernel_rfl
theorem Ym:bK Tryz.prog 51=some (1,false):=by kernel_rfl
theorem Za:fN Tryz.prog 52=some (1,.bool false):=by kernel_rfl
theorem XC:Bc Tryz.prog 52=false:=by kernel_rfl
theorem Y1:c8 Tryz.prog 52=false:=by kernel_rfl
theorem Yl:bK Tryz.prog 52=some (1,false):=by kernel_rfl
theorem Xc:bP Tryz.prog 52=some [.sl (.lent false) []]:=by kernel_rfl
theorem Yk:bK Tryz.prog 53=some (1,false):=by kernel_rfl
theorem Yj:bK Tryz.prog 54=some (1,false):=by kernel_rfl
theorem Yi:bK Tryz.prog 55=some (1,false):=by kernel_rfl
theorem Yh:bK Tryz.prog 56=some (1,false):=by kernel_rfl
theorem Yg:bK Tryz.prog 57=some (2,true):=by kernel_rfl
theorem Xb:bP Tryz.prog 57=some [.str [],.nilf]:=by kernel_rfl
theorem NH:bY Tryz.prog 57 0=some (0,1,false):=by kernel_rfl
theorem NG:bY Tryz.prog 57 1=some (1,1,false):=by kernel_rfl
theorem Zv:bQ Tryz.prog 57=some [0,1]:=by kernel_rfl
theorem Y0:c8 Tryz.prog 58=false:=by kernel_rfl
theorem Yf:bK Tryz.prog 58=some (1,false):=by kernel_rfl
theorem Xa:bP Tryz.prog 58=some [.sl (.lent false) []]:=by kernel_rfl
theorem Ye:bK Tryz.prog 59=some (1,false):=by kernel_rfl
theorem Yd:bK Tryz.prog 60=some (2,true):=by kernel_rfl
theorem NF:bY Tryz.prog 60 0=some (0,1,false):=by kernel_rfl
theorem NE:bY Tryz.prog 60 1=some (1,1,false):=by kernel_rfl
theorem Zu:bQ Tryz.prog 60=some [0,1]:=by kernel_rfl
theorem Yc:bK Tryz.prog 61=some (2,true):=by kernel_rfl
theorem ND:bY Tryz.prog 61 0=some (0,1,false):=by kernel_rfl
theorem NC:bY Tryz.prog 61 1=some (1,1,false):=by kernel_rfl
theorem Zt:bQ Tryz.prog 61=some [0,1]:=by kernel_rfl
theorem Yb:bK Tryz.prog 62=some (1,false):=by kernel_rfl
theorem Ya:bK Tryz.prog 66=some (1,false):=by kernel_rfl
theorem X9:bK Tryz.prog 67=some (1,false):=by kernel_rfl
theorem X8:bK Tryz.prog 68=some (1,false):=by kernel_rfl
theorem X7:bK Tryz.prog 69=some (3,true):=by kernel_rfl
theorem W9:bP Tryz.prog 69=some [.sl (.lent false) [],.int .i64 0,.int .i64 0]:=by kernel_rfl
theorem NB:bY Tryz.prog 69 0=some (0,1,false):=by kernel_rfl
theorem NA:bY Tryz.prog 69 1=some (1,1,false):=by kernel_rfl
theorem Nz:bY Tryz.prog 69 2=some (2,1,false):=by kernel_rfl
theorem Zs:bQ Tryz.prog 69=some [0,1,2]:=by kernel_rfl
theorem X6:bK Tryz.prog 70=some (3,true):=by kernel_rfl
theorem W8:bP Tryz.prog 70=some [.sl (.lent false) [],.int .i64 0,.int .i64 0]:=by kernel_rfl
theorem Ny:bY Tryz.prog 70 0=some (0,1,false):=by kernel_rfl
theorem Nw:bY Tryz.prog 70 1=some (1,1,false):=by kernel_rfl
theorem Nv:bY Tryz.prog 70 2=some (2,1,false):=by kernel_rfl
theorem Zr:bQ Tryz.prog 70=some [0,1,2]:=by kernel_rfl
theorem X5:bK Tryz.prog 71=some (1,false):=by kernel_rfl
theorem X4:bK Tryz.prog 72=some (1,false):=by kernel_rfl
theorem X3:bK Tryz.prog 74=some (1,false):=by kernel_rfl
theorem X2:bK Tryz.prog 75=some (1,false):=by kernel_rfl
theorem X1:bK Tryz.prog 76=some (1,false):=by kernel_rfl
theorem X0:bK Tryz.prog 77=some (1,false):=by kernel_rfl
theorem XZ:bK Tryz.prog 78=some (1,false):=by kernel_rfl
theorem XY:bK Tryz.prog 79=some (1,false):=by kernel_rfl
theorem XX:bK Tryz.prog 80=some (1,false):=by kernel_rfl
theorem XW:bK Tryz.prog 81=some (1,false):=by kernel_rfl
theorem XV:bK Tryz.prog 82=some (1,false):=by kernel_rfl
theorem XU:bK Tryz.prog 84=some (1,false):=by kernel_rfl
theorem XT:bK Tryz.prog 85=some (1,false):=by kernel_rfl
theorem XS:bK Tryz.prog 86=some (1,false):=by kernel_rfl
theorem XR:bK Tryz.prog 87=some (1,false):=by kernel_rfl
theorem XQ:bK Tryz.prog 88=some (1,false):=by kernel_rfl
theorem XP:bK Tryz.prog 90=some (1,false):=by kernel_rfl
theorem XO:bK Tryz.prog 91=some (1,false):=by kernel_rfl
theorem XN:bK Tryz.prog 92=some (1,false):=by kernel_rfl
theorem XM:bK Tryz.prog 93=some (1,false):=by kernel_rfl
theorem XL:bK Tryz.prog 94=some (1,false):=by kernel_rfl
theorem XK:bK Tryz.prog 96=some (1,false):=by kernel_rfl
theorem XJ:bK Tryz.prog 97=some (1,false):=by kernel_rfl
theorem XI:bK Tryz.prog 98=some (1,false):=by kernel_rfl
theorem XH:bK Tryz.prog 99=some (1,false):=by kernel_rfl
theorem Ro:bK Tryz.prog 100=some (1,false):=by kernel_rfl
theorem Rn:bK Tryz.prog 101=some (1,false):=by kernel_rfl
theorem Rm:bK Tryz.prog 102=some (1,false):=by kernel_rfl
theorem Rl:bK Tryz.prog 104=some (1,false):=by kernel_rfl
theorem Rk:bK Tryz.prog 105=some (1,false):=by kernel_rfl
theorem Rj:bK Tryz.prog 106=some (1,false):=by kernel_rfl
theorem Ri:bK Tryz.prog 107=some (1,false):=by kernel_rfl
theorem Rh:bK Tryz.prog 108=some (1,false):=by kernel_rfl
theorem Rg:bK Tryz.prog 109=some (1,false):=by kernel_rfl
theorem Rf:bK Tryz.prog 111=some (1,false):=by kernel_rfl
theorem Re:bK Tryz.prog 112=some (1,false):=by kernel_rfl
theorem Rd:bK Tryz.prog 113=some (1,false):=by kernel_rfl
theorem TW:jP Tryz.prog 114=some .u64:=by kernel_rfl
theorem RA:c8 Tryz.prog 114=false:=by kernel_rfl
theorem Rc:bK Tryz.prog 114=some (1,false):=by kernel_rfl
theorem PH:bP Tryz.prog 114=some [.int .u64 0]:=by kernel_rfl
theorem Rb:bK Tryz.prog 115=some (1,false):=by kernel_rfl
theorem Ra:bK Tryz.prog 116=some (1,false):=by kernel_rfl
theorem Q9:bK Tryz.prog 117=some (1,false):=by kernel_rfl
theorem Q8:bK Tryz.prog 118=some (1,false):=by kernel_rfl
theorem Q7:bK Tryz.prog 119=some (1,false):=by kernel_rfl
theorem Q6:bK Tryz.prog 120=some (1,false):=by kernel_rfl
theorem Q5:bK Tryz.prog 121=some (24,true):=by kernel_rfl
theorem Sc:bQ Tryz.prog 121=some [0,1,2,3,4,5,6,7,8,9,10,11,12,13,14,15,16,17,18,19,20,21,22,23]:=by kernel_rfl
theorem PG:bP Tryz.prog 121=some [.int .u8 0,.int .u8 0,.int .u8 0,.int .u8 0,.int .u8 0,.int .u8 0,.int .u8 0,.int .u8 0,.int .u8 0,.int .u8 0,.int .u8 0,.int .u8 0,.int .u8 0,.int .u8 0,.int .u8 0,.int .u8 0,.int .u8 0,.int .u8 0,.int .u8 0,.int .u8 0,.int .u8 0,.int .u8 0,.int .u8 0,.int .u8 0]:=by kernel_rfl
theorem TV:jP Tryz.prog 122=some .u64:=by kernel_rfl
theorem Rz:c8 Tryz.prog 122=false:=by kernel_rfl
theorem Q4:bK Tryz.prog 122=some (1,false):=by kernel_rfl
theorem PF:bP Tryz.prog 122=some [.int .u64 0]:=by kernel_rfl
theorem Q3:bK Tryz.prog 123=some (1,false):=by kernel_rfl
theorem Q2:bK Tryz.prog 124=some (1,false):=by kernel_rfl
theorem Q1:bK Tryz.prog 126=some (1,false):=by kernel_rfl
theorem Q0:bK Tryz.prog 127=some (1,false):=by kernel_rfl
theorem QZ:bK Tryz.prog 128=some (1,false):=by kernel_rfl
theorem TU:jP Tryz.prog 129=some .i64:=by kernel_rfl
theorem Ry:c8 Tryz.prog 129=false:=by kernel_rfl
theorem QY:bK Tryz.prog 129=some (1,false):=by kernel_rfl
theorem PE:bP Tryz.prog 129=some [.int .i64 0]:=by kernel_rfl
theorem QX:bK Tryz.prog 131=some (1,false):=by kernel_rfl
theorem QW:bK Tryz.prog 132=some (1,false):=by kernel_rfl
theorem QV:bK Tryz.prog 133=some (1,false):=by kernel_rfl
theorem QU:bK Tryz.prog 135=some (1,false):=by kernel_rfl
theorem QT:bK Tryz.prog 136=some (1,false):=by kernel_rfl
theorem TT:jP Tryz.prog 137=some .u32:=by kernel_rfl
theorem Rx:c8 Tryz.prog 137=false:=by kernel_rfl
theorem QS:bK Tryz.prog 137=some (1,false):=by kernel_rfl
theorem PD:bP Tryz.prog 137=some [.int .u32 0]:=by kernel_rfl
theorem QR:bK Tryz.prog 138=some (1,false):=by kernel_rfl
theorem QQ:bK Tryz.prog 139=some (1,false):=by kernel_rfl
theorem QP:bK Tryz.prog 140=some (20,true):=by kernel_rfl
theorem Sb:bQ Tryz.prog 140=some [0,1,2,3,4,5,6,7,8,9,10,11,12,13,14,15,16,17,18,19]:=by kernel_rfl
theorem PC:bP Tryz.prog 140=some [.int .u64 0,.int .u64 0,.int .u64 0,.int .u64 0,.int .u64 0,.int .u64 0,.int .u64 0,.int .u64 0,.int .u64 0,.int .u64 0,.int .u64 0,.int .u64 0,.int .u64 0,.int .u64 0,.int .u64 0,.int .u64 0,.int .u64 0,.int .u64 0,.int .u64 0,.int .u64 0]:=by kernel_rfl
theorem TS:jP Tryz.prog 142=some .u64:=by kernel_rfl
theorem Rw:c8 Tryz.prog 142=false:=by kernel_rfl
theorem QO:bK Tryz.prog 142=some (1,false):=by kernel_rfl
theorem PB:bP Tryz.prog 142=some [.int .u64 0]:=by kernel_rfl
theorem QN:bK Tryz.prog 143=some (1,false):=by kernel_rfl
theorem QM:bK Tryz.prog 144=some (1,false):=by kernel_rfl
theorem QL:bK Tryz.prog 145=some (1,false):=by kernel_rfl
theorem QK:bK Tryz.prog 146=some (1,false):=by kernel_rfl
theorem QJ:bK Tryz.prog 147=some (1,false):=by kernel_rfl
theorem QI:bK Tryz.prog 148=some (1,false):=by kernel_rfl
theorem QH:bK Tryz.prog 149=some (1,false):=by kernel_rfl
theorem QG:bK Tryz.prog 151=some (1,false):=by kernel_rfl
theorem QF:bK Tryz.prog 152=some (32,true):=by kernel_rfl
theorem Sa:bQ Tryz.prog 152=some [0,1,2,3,4,5,6,7,8,9,10,11,12,13,14,15,16,17,18,19,20,21,22,23,24,25,26,27,28,29,30,31]:=by kernel_rfl
theorem PA:bP Tryz.prog 152=some [.int .u8 0,.int .u8 0,.int .u8 0,.int .u8 0,.int .u8 0,.int .u8 0,.int .u8 0,.int .u8 0,.int .u8 0,.int .u8 0,.int .u8 0,.int .u8 0,.int .u8 0,.int .u8 0,.int .u8 0,.int .u8 0,.int .u8 0,.int .u8 0,.int .u8 0,.int .u8 0,.int .u8 0,.int .u8 0,.int .u8 0,.int .u8 0,.int .u8 0,.int .u8 0,.int .u8 0,.int .u8 0,.int .u8 0,.int .u8 0,.int .u8 0,.int .u8 0]:=by kernel_rfl
theorem QE:bK Tryz.prog 153=some (64,true):=by kernel_rfl
theorem R9:bQ Tryz.prog 153=some [0,1,2,3,4,5,6,7,8,9,10,11,12,13,14,15,16,17,18,19,20,21,22,23,24,25,26,27,28,29,30,31,32,33,34,35,36,37,38,39,40,41,42,43,44,45,46,47,48,49,50,51,52,53,54,55,56,57,58,59,60,61,62,63]:=by kernel_rfl
theorem Pz:bP Tryz.prog 153=some [.int .u8 0,.int .u8 0,.int .u8 0,.int .u8 0,.int .u8 0,.int .u8 0,.int .u8 0,.int .u8 0,.int .u8 0,.int .u8 0,.int .u8 0,.int .u8 0,.int .u8 0,.int .u8 0,.int .u8 0,.int .u8 0,.int .u8 0,.int .u8 0,.int .u8 0,.int .u8 0,.int .u8 0,.int .u8 0,.int .u8 0,.int .u8 0,.int .u8 0,.int .u8 0,.int .u8 0,.int .u8 0,.int .u8 0,.int .u8 0,.int .u8 0,.int .u8 0,.int .u8 0,.int .u8 0,.int .u8 0,.int .u8 0,.int .u8 0,.int .u8 0,.int .u8 0,.int .u8 0,.int .u8 0,.int .u8 0,.int .u8 0,.int .u8 0,.int .u8 0,.int .u8 0,.int .u8 0,.int .u8 0,.int .u8 0,.int .u8 0,.int .u8 0,.int .u8 0,.int .u8 0,.int .u8 0,.int .u8 0,.int .u8 0,.int .u8 0,.int .u8 0,.int .u8 0,.int .u8 0,.int .u8 0,.int .u8 0,.int .u8 0,.int .u8 0]:=by kernel_rfl
theorem QD:bK Tryz.prog 154=some (4,true):=by kernel_rfl
theorem Ih:bY Tryz.prog 154 0=some (0,1,false):=by kernel_rfl
theorem Ig:bY Tryz.prog 154 1=some (1,1,false):=by kernel_rfl
theorem If:bY Tryz.prog 154 2=some (2,1,false):=by kernel_rfl
theorem Ie:bY Tryz.prog 154 3=some (3,1,false):=by kernel_rfl
theorem R8:bQ Tryz.prog 154=some [0,1,2,3]:=by kernel_rfl
theorem QC:bK Tryz.prog 155=some (4,true):=by kernel_rfl
theorem Id:bY Tryz.prog 155 0=some (0,1,false):=by kernel_rfl
theorem Ic:bY Tryz.prog 155 1=some (1,1,false):=by kernel_rfl
theorem Ib:bY Tryz.prog 155 2=some (2,1,false):=by kernel_rfl
theorem Ia:bY Tryz.prog 155 3=some (3,1,false):=by kernel_rfl
theorem R7:bQ Tryz.prog 155=some [0,1,2,3]:=by kernel_rfl
theorem QB:bK Tryz.prog 156=some (0,true):=by kernel_rfl
theorem QA:bK Tryz.prog 157=some (0,true):=by kernel_rfl
theorem H9:bY Tryz.prog 157 0=some (0,0,true):=by kernel_rfl
theorem Qz:bK Tryz.prog 158=some (0,true):=by kernel_rfl
theorem H8:bY Tryz.prog 158 0=some (0,0,true):=by kernel_rfl
theorem Qy:bK Tryz.prog 159=some (1,false):=by kernel_rfl
theorem TR:jP Tryz.prog 160=some .u8:=by kernel_rfl
theorem Rv:c8 Tryz.prog 160=false:=by kernel_rfl
theorem Qx:bK Tryz.prog 160=some (1,false):=by kernel_rfl
theorem Py:bP Tryz.prog 160=some [.int .u8 0]:=by kernel_rfl
theorem TQ:jP Tryz.prog 161=some .u8:=by kernel_rfl
theorem Ru:c8 Tryz.prog 161=false:=by kernel_rfl
theorem Qw:bK Tryz.prog 161=some (1,false):=by kernel_rfl
theorem Px:bP Tryz.prog 161=some [.int .u8 0]:=by kernel_rfl
theorem Qv:bK Tryz.prog 162=some (1,false):=by kernel_rfl
theorem TP:jP Tryz.prog 163=some .i32:=by kernel_rfl
theorem Rt:c8 Tryz.prog 163=false:=by kernel_rfl
theorem Qu:bK Tryz.prog 163=some (1,false):=by kernel_rfl
theorem Pw:bP Tryz.prog 163=some [.int .i32 0]:=by kernel_rfl
theorem TO:jP Tryz.prog 164=some .i32:=by kernel_rfl
theorem Rs:c8 Tryz.prog 164=false:=by kernel_rfl
theorem Qt:bK Tryz.prog 164=some (1,false):=by kernel_rfl
theorem Pv:bP Tryz.prog 164=some [.int .i32 0]:=by kernel_rfl
theorem Qs:bK Tryz.prog 165=some (11,true):=by kernel_rfl
theorem H7:bY Tryz.prog 165 0=some (0,1,false):=by kernel_rfl
theorem H6:bY Tryz.prog 165 1=some (1,1,false):=by kernel_rfl
theorem H5:bY Tryz.prog 165 2=some (2,1,false):=by kernel_rfl
theorem H4:bY Tryz.prog 165 3=some (3,1,false):=by kernel_rfl
theorem H3:bY Tryz.prog 165 4=some (4,1,false):=by kernel_rfl
theorem H0:bY Tryz.prog 165 5=some (5,1,false):=by kernel_rfl
theorem HZ:bY Tryz.prog 165 6=some (6,1,false):=by kernel_rfl
theorem HY:bY Tryz.prog 165 7=some (7,1,false):=by kernel_rfl
theorem HX:bY Tryz.prog 165 8=some (8,1,false):=by kernel_rfl
theorem HW:bY Tryz.prog 165 9=some (9,1,false):=by kernel_rfl
theorem D7:bY Tryz.prog 165 10=some (10,1,false):=by kernel_rfl
theorem R6:bQ Tryz.prog 165=some [0,1,2,3,4,5,6,7,8,9,10]:=by kernel_rfl
theorem Qr:bK Tryz.prog 166=some (11,true):=by kernel_rfl
theorem HV:bY Tryz.prog 166 0=some (0,1,false):=by kernel_rfl
theorem HU:bY Tryz.prog 166 1=some (1,1,false):=by kernel_rfl
theorem HT:bY Tryz.prog 166 2=some (2,1,false):=by kernel_rfl
theorem HS:bY Tryz.prog 166 3=some (3,1,false):=by kernel_rfl
theorem HR:bY Tryz.prog 166 4=some (4,1,false):=by kernel_rfl
theorem HQ:bY Tryz.prog 166 5=some (5,1,false):=by kernel_rfl
theorem HP:bY Tryz.prog 166 6=some (6,1,false):=by kernel_rfl
theorem HO:bY Tryz.prog 166 7=some (7,1,false):=by kernel_rfl
theorem HN:bY Tryz.prog 166 8=some (8,1,false):=by kernel_rfl
theorem HM:bY Tryz.prog 166 9=some (9,1,false):=by kernel_rfl
theorem D6:bY Tryz.prog 166 10=some (10,1,false):=by kernel_rfl
theorem R5:bQ Tryz.prog 166=some [0,1,2,3,4,5,6,7,8,9,10]:=by kernel_rfl
attribute [go_sem] Kx Bz Bw Bv Bu By sz1 it2 st2 sz2 zt2 it3 st3 sz3 zt3 bo4 sz4 zt4
attribute [go_sem] it5 st5 sz5 zt5 it6 st6 sz6 zt6 sz7 zt7 UW UV
attribute [go_sem] UU UT pl7 sz8 zt8 US UR UQ UO pl8 st9 sz9
attribute [go_sem] zt9 Y9 YY Xo Y8 YX Xn aae Y7 YW Xm YV
attribute [go_sem] Xl NR NQ ZB YU Xk NP NO ZA YT YS YR
attribute [go_sem] YQ NN Zz YP NM Zy aad Y6 YO Xj Ze XG
attribute [go_sem] Y5 YN Xi YM YL YK YJ Zd XF Y4 YI Xh
attribute [go_sem] YH YG Zc XE Y3 YF Xg YE YD YC YB YA
attribute [go_sem] Zb XD Y2 Yz Xf Yy Yx Yw Yv Yu Yt Ys
attribute [go_sem] Yr Yq Yp Xe NL NK Zx Yo Xd NJ NI Zw
attribute [go_sem] Yn Ym Za XC Y1 Yl Xc Yk Yj Yi Yh Yg
attribute [go_sem] Xb NH NG Zv Y0 Yf Xa Ye Yd NF NE Zu
attribute [go_sem] Yc ND NC Zt Yb Ya X9 X8 X7 W9 NB NA
attribute [go_sem] Nz Zs X6 W8 Ny Nw Nv Zr X5 X4 X3 X2
attribute [go_sem] X1 X0 XZ XY XX XW XV XU XT XS XR XQ
attribute [go_sem] XP XO XN XM XL XK XJ XI XH Ro Rn Rm
attribute [go_sem] Rl Rk Rj Ri Rh Rg Rf Re Rd TW RA Rc
attribute [go_sem] PH Rb Ra Q9 Q8 Q7 Q6 Q5 Sc PG TV Rz
attribute [go_sem] Q4 PF Q3 Q2 Q1 Q0 QZ TU Ry QY PE QX
attribute [go_sem] QW QV QU QT TT Rx QS PD QR QQ QP Sb
attribute [go_sem] PC TS Rw QO PB QN QM QL QK QJ QI QH
attribute [go_sem] QG QF Sa PA QE R9 Pz QD Ih Ig If Ie
attribute [go_sem] R8 QC Id Ic Ib Ia R7 QB QA H9 Qz H8
attribute [go_sem] Qy TR Rv Qx Py TQ Ru Qw Px Qv TP Rt
attribute [go_sem] Qu Pw TO Rs Qt Pv Qs H7 H6 H5 H4 H3
attribute [go_sem] H0 HZ HY HX HW D7 R6 Qr HV HU HT HS
attribute [go_sem] HR HQ HP HO HN HM D6 R5
end Go.Gl
