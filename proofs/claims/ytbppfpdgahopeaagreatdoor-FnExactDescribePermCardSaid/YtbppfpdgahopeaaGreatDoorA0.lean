/-
 The common ground of the contracts of this program's functions. Conditions: none.
-/
import Derived.Test.YtbppfpdgahopeaaGreatDoorGlE
import Derived.Test.YtbppfpdgahopeaaGreatDoorChecked
namespace Go.Gl
open Go Go.Proofs
def sg0:FuncId→List Bool:=fun _=>[]
theorem sg0_eq {f:FuncId}:sg0 f=[]:=rfl
theorem wayE_sg0:wayE sg0=false:=_root_.id rfl
theorem wayN_sg0:wayN sg0=false:=_root_.id rfl
theorem wayS_sg0:wayS sg0=false:=_root_.id rfl
theorem wayZ_sg0:wayZ sg0=false:=_root_.id rfl
theorem wayM_sg0:wayM sg0=false:=_root_.id rfl
theorem mo:Tryz.prog.follows .mixedOrders=true:=Tryz.checked.mixed
theorem sz1:szT Tryz.prog 1=some (1,false):=by kernel_rfl
theorem it2:intT Tryz.prog 2=some .i64:=by kernel_rfl
theorem st2:strT Tryz.prog 2=false:=by kernel_rfl
theorem sz2:szT Tryz.prog 2=some (1,false):=by kernel_rfl
theorem zt2:zeroT Tryz.prog 2=some [.int .i64 0]:=by kernel_rfl
theorem it3:intT Tryz.prog 3=some .i64:=by kernel_rfl
theorem st3:strT Tryz.prog 3=false:=by kernel_rfl
theorem sz3:szT Tryz.prog 3=some (1,false):=by kernel_rfl
theorem zt3:zeroT Tryz.prog 3=some [.int .i64 0]:=by kernel_rfl
theorem bo4:boolT Tryz.prog 4=true:=by kernel_rfl
theorem sz4:szT Tryz.prog 4=some (1,false):=by kernel_rfl
theorem zt4:zeroT Tryz.prog 4=some [.bool false]:=by kernel_rfl
theorem it5:intT Tryz.prog 5=some .u8:=by kernel_rfl
theorem st5:strT Tryz.prog 5=false:=by kernel_rfl
theorem sz5:szT Tryz.prog 5=some (1,false):=by kernel_rfl
theorem zt5:zeroT Tryz.prog 5=some [.int .u8 0]:=by kernel_rfl
theorem it6:intT Tryz.prog 6=some .u8:=by kernel_rfl
theorem st6:strT Tryz.prog 6=false:=by kernel_rfl
theorem sz6:szT Tryz.prog 6=some (1,false):=by kernel_rfl
theorem zt6:zeroT Tryz.prog 6=some [.int .u8 0]:=by kernel_rfl
theorem sz7:szT Tryz.prog 7=some (4,true):=by kernel_rfl
theorem zt7:zeroT Tryz.prog 7=some [.int .i64 0,.int .i64 0,.bool false,.int .u8 0]:=by kernel_rfl
theorem fd7x0:fldT Tryz.prog 7 0=some (0,1,false):=by kernel_rfl
theorem fd7x1:fldT Tryz.prog 7 1=some (1,1,false):=by kernel_rfl
theorem fd7x2:fldT Tryz.prog 7 2=some (2,1,false):=by kernel_rfl
theorem fd7x3:fldT Tryz.prog 7 3=some (3,1,false):=by kernel_rfl
theorem pl7:placesT Tryz.prog 7=some [0,1,2,3]:=by kernel_rfl
theorem sz8:szT Tryz.prog 8=some (4,true):=by kernel_rfl
theorem zt8:zeroT Tryz.prog 8=some [.int .i64 0,.int .i64 0,.bool false,.int .u8 0]:=by kernel_rfl
theorem fd8x0:fldT Tryz.prog 8 0=some (0,1,false):=by kernel_rfl
theorem fd8x1:fldT Tryz.prog 8 1=some (1,1,false):=by kernel_rfl
theorem fd8x2:fldT Tryz.prog 8 2=some (2,1,false):=by kernel_rfl
theorem fd8x3:fldT Tryz.prog 8 3=some (3,1,false):=by kernel_rfl
theorem pl8:placesT Tryz.prog 8=some [0,1,2,3]:=by kernel_rfl
theorem st9:strT Tryz.prog 9=true:=by kernel_rfl
theorem sz9:szT Tryz.prog 9=some (1,false):=by kernel_rfl
theorem zt9:zeroT Tryz.prog 9=some [.str []]:=by kernel_rfl
theorem st10:strT Tryz.prog 10=true:=by kernel_rfl
theorem sz10:szT Tryz.prog 10=some (1,false):=by kernel_rfl
theorem zt10:zeroT Tryz.prog 10=some [.str []]:=by kernel_rfl
theorem st11:strT Tryz.prog 11=true:=by kernel_rfl
theorem sz11:szT Tryz.prog 11=some (1,false):=by kernel_rfl
theorem zt11:zeroT Tryz.prog 11=some [.str []]:=by kernel_rfl
theorem it12:intT Tryz.prog 12=some .u64:=by kernel_rfl
theorem st12:strT Tryz.prog 12=false:=by kernel_rfl
theorem sz12:szT Tryz.prog 12=some (1,false):=by kernel_rfl
theorem zt12:zeroT Tryz.prog 12=some [.int .u64 0]:=by kernel_rfl
theorem sz13:szT Tryz.prog 13=some (2,true):=by kernel_rfl
theorem zt13:zeroT Tryz.prog 13=some [.str [],.int .u64 0]:=by kernel_rfl
theorem fd13x0:fldT Tryz.prog 13 0=some (0,1,false):=by kernel_rfl
theorem fd13x1:fldT Tryz.prog 13 1=some (1,1,false):=by kernel_rfl
theorem pl13:placesT Tryz.prog 13=some [0,1]:=by kernel_rfl
theorem sz14:szT Tryz.prog 14=some (2,true):=by kernel_rfl
theorem zt14:zeroT Tryz.prog 14=some [.str [],.int .u64 0]:=by kernel_rfl
theorem fd14x0:fldT Tryz.prog 14 0=some (0,1,false):=by kernel_rfl
theorem fd14x1:fldT Tryz.prog 14 1=some (1,1,false):=by kernel_rfl
theorem pl14:placesT Tryz.prog 14=some [0,1]:=by kernel_rfl
theorem sz15:szT Tryz.prog 15=some (1,false):=by kernel_rfl
theorem sz16:szT Tryz.prog 16=some (1,false):=by kernel_rfl
theorem sz17:szT Tryz.prog 17=some (1,false):=by kernel_rfl
theorem sz18:szT Tryz.prog 18=some (1,true):=by kernel_rfl
theorem fd18x0:fldT Tryz.prog 18 0=some (0,1,false):=by kernel_rfl
theorem pl18:placesT Tryz.prog 18=some [0]:=by kernel_rfl
theorem sz19:szT Tryz.prog 19=some (1,true):=by kernel_rfl
theorem fd19x0:fldT Tryz.prog 19 0=some (0,1,false):=by kernel_rfl
theorem pl19:placesT Tryz.prog 19=some [0]:=by kernel_rfl
theorem it21:intT Tryz.prog 21=some .i32:=by kernel_rfl
theorem st21:strT Tryz.prog 21=false:=by kernel_rfl
theorem sz21:szT Tryz.prog 21=some (1,false):=by kernel_rfl
theorem zt21:zeroT Tryz.prog 21=some [.int .i32 0]:=by kernel_rfl
theorem sl22:slT Tryz.prog 22=some (8,.int .i64 0):=by kernel_rfl
theorem us22:u8T Tryz.prog 22=false:=by kernel_rfl
theorem st22:strT Tryz.prog 22=false:=by kernel_rfl
theorem sz22:szT Tryz.prog 22=some (1,false):=by kernel_rfl
theorem zt22:zeroT Tryz.prog 22=some [.sl (.lent false) []]:=by kernel_rfl
theorem sz23:szT Tryz.prog 23=some (1,false):=by kernel_rfl
theorem sz24:szT Tryz.prog 24=some (1,false):=by kernel_rfl
theorem sz25:szT Tryz.prog 25=some (1,false):=by kernel_rfl
theorem sz26:szT Tryz.prog 26=some (1,false):=by kernel_rfl
theorem sl27:slT Tryz.prog 27=some (1,.int .u8 0):=by kernel_rfl
theorem us27:u8T Tryz.prog 27=true:=by kernel_rfl
theorem st27:strT Tryz.prog 27=false:=by kernel_rfl
theorem sz27:szT Tryz.prog 27=some (1,false):=by kernel_rfl
theorem zt27:zeroT Tryz.prog 27=some [.sl (.lent false) []]:=by kernel_rfl
theorem sz28:szT Tryz.prog 28=some (1,false):=by kernel_rfl
theorem sz29:szT Tryz.prog 29=some (1,false):=by kernel_rfl
theorem sl30:slT Tryz.prog 30=some (24,.sl (.lent false) []):=by kernel_rfl
theorem us30:u8T Tryz.prog 30=false:=by kernel_rfl
theorem st30:strT Tryz.prog 30=false:=by kernel_rfl
theorem sz30:szT Tryz.prog 30=some (1,false):=by kernel_rfl
theorem zt30:zeroT Tryz.prog 30=some [.sl (.lent false) []]:=by kernel_rfl
theorem sz31:szT Tryz.prog 31=some (1,false):=by kernel_rfl
theorem sz32:szT Tryz.prog 32=some (1,false):=by kernel_rfl
theorem sz33:szT Tryz.prog 33=some (1,false):=by kernel_rfl
theorem sz34:szT Tryz.prog 34=some (1,false):=by kernel_rfl
theorem sz35:szT Tryz.prog 35=some (1,false):=by kernel_rfl
theorem sl36:slT Tryz.prog 36=some (16,.str []):=by kernel_rfl
theorem us36:u8T Tryz.prog 36=false:=by kernel_rfl
theorem st36:strT Tryz.prog 36=false:=by kernel_rfl
theorem sz36:szT Tryz.prog 36=some (1,false):=by kernel_rfl
theorem zt36:zeroT Tryz.prog 36=some [.sl (.lent false) []]:=by kernel_rfl
theorem sz37:szT Tryz.prog 37=some (1,false):=by kernel_rfl
theorem sz38:szT Tryz.prog 38=some (1,false):=by kernel_rfl
theorem sz39:szT Tryz.prog 39=some (1,false):=by kernel_rfl
theorem sz40:szT Tryz.prog 40=some (1,false):=by kernel_rfl
theorem sz41:szT Tryz.prog 41=some (1,false):=by kernel_rfl
theorem sz43:szT Tryz.prog 43=some (1,false):=by kernel_rfl
theorem sz44:szT Tryz.prog 44=some (1,false):=by kernel_rfl
theorem sz45:szT Tryz.prog 45=some (1,false):=by kernel_rfl
theorem sz46:szT Tryz.prog 46=some (1,false):=by kernel_rfl
theorem sz47:szT Tryz.prog 47=some (2,true):=by kernel_rfl
theorem zt47:zeroT Tryz.prog 47=some [.sl (.lent false) [],.sl (.lent false) []]:=by kernel_rfl
theorem fd47x0:fldT Tryz.prog 47 0=some (0,1,false):=by kernel_rfl
theorem fd47x1:fldT Tryz.prog 47 1=some (1,1,false):=by kernel_rfl
theorem pl47:placesT Tryz.prog 47=some [0,1]:=by kernel_rfl
theorem sz48:szT Tryz.prog 48=some (2,true):=by kernel_rfl
theorem zt48:zeroT Tryz.prog 48=some [.sl (.lent false) [],.sl (.lent false) []]:=by kernel_rfl
theorem fd48x0:fldT Tryz.prog 48 0=some (0,1,false):=by kernel_rfl
theorem fd48x1:fldT Tryz.prog 48 1=some (1,1,false):=by kernel_rfl
theorem pl48:placesT Tryz.prog 48=some [0,1]:=by kernel_rfl
theorem sz50:szT Tryz.prog 50=some (1,false):=by kernel_rfl
theorem sz51:szT Tryz.prog 51=some (1,false):=by kernel_rfl
theorem sl52:slT Tryz.prog 52=some (1,.bool false):=by kernel_rfl
theorem us52:u8T Tryz.prog 52=false:=by kernel_rfl
theorem st52:strT Tryz.prog 52=false:=by kernel_rfl
theorem sz52:szT Tryz.prog 52=some (1,false):=by kernel_rfl
theorem zt52:zeroT Tryz.prog 52=some [.sl (.lent false) []]:=by kernel_rfl
theorem sz53:szT Tryz.prog 53=some (1,false):=by kernel_rfl
theorem sz54:szT Tryz.prog 54=some (1,false):=by kernel_rfl
theorem sz55:szT Tryz.prog 55=some (1,false):=by kernel_rfl
theorem sz56:szT Tryz.prog 56=some (1,false):=by kernel_rfl
theorem sz57:szT Tryz.prog 57=some (2,true):=by kernel_rfl
theorem zt57:zeroT Tryz.prog 57=some [.str [],.nilf]:=by kernel_rfl
theorem fd57x0:fldT Tryz.prog 57 0=some (0,1,false):=by kernel_rfl
theorem fd57x1:fldT Tryz.prog 57 1=some (1,1,false):=by kernel_rfl
theorem pl57:placesT Tryz.prog 57=some [0,1]:=by kernel_rfl
theorem st58:strT Tryz.prog 58=false:=by kernel_rfl
theorem sz58:szT Tryz.prog 58=some (1,false):=by kernel_rfl
theorem zt58:zeroT Tryz.prog 58=some [.sl (.lent false) []]:=by kernel_rfl
theorem sz59:szT Tryz.prog 59=some (1,false):=by kernel_rfl
theorem sz60:szT Tryz.prog 60=some (2,true):=by kernel_rfl
theorem fd60x0:fldT Tryz.prog 60 0=some (0,1,false):=by kernel_rfl
theorem fd60x1:fldT Tryz.prog 60 1=some (1,1,false):=by kernel_rfl
theorem pl60:placesT Tryz.prog 60=some [0,1]:=by kernel_rfl
theorem sz61:szT Tryz.prog 61=some (2,true):=by kernel_rfl
theorem fd61x0:fldT Tryz.prog 61 0=some (0,1,false):=by kernel_rfl
theorem fd61x1:fldT Tryz.prog 61 1=some (1,1,false):=by kernel_rfl
theorem pl61:placesT Tryz.prog 61=some [0,1]:=by kernel_rfl
theorem sz62:szT Tryz.prog 62=some (1,false):=by kernel_rfl
theorem sz66:szT Tryz.prog 66=some (1,false):=by kernel_rfl
theorem sz67:szT Tryz.prog 67=some (1,false):=by kernel_rfl
theorem sz68:szT Tryz.prog 68=some (1,false):=by kernel_rfl
theorem sz69:szT Tryz.prog 69=some (3,true):=by kernel_rfl
theorem zt69:zeroT Tryz.prog 69=some [.sl (.lent false) [],.int .i64 0,.int .i64 0]:=by kernel_rfl
theorem fd69x0:fldT Tryz.prog 69 0=some (0,1,false):=by kernel_rfl
theorem fd69x1:fldT Tryz.prog 69 1=some (1,1,false):=by kernel_rfl
theorem fd69x2:fldT Tryz.prog 69 2=some (2,1,false):=by kernel_rfl
theorem pl69:placesT Tryz.prog 69=some [0,1,2]:=by kernel_rfl
theorem sz70:szT Tryz.prog 70=some (3,true):=by kernel_rfl
theorem zt70:zeroT Tryz.prog 70=some [.sl (.lent false) [],.int .i64 0,.int .i64 0]:=by kernel_rfl
theorem fd70x0:fldT Tryz.prog 70 0=some (0,1,false):=by kernel_rfl
theorem fd70x1:fldT Tryz.prog 70 1=some (1,1,false):=by kernel_rfl
theorem fd70x2:fldT Tryz.prog 70 2=some (2,1,false):=by kernel_rfl
theorem pl70:placesT Tryz.prog 70=some [0,1,2]:=by kernel_rfl
theorem sz71:szT Tryz.prog 71=some (1,false):=by kernel_rfl
theorem sz72:szT Tryz.prog 72=some (1,false):=by kernel_rfl
theorem sz74:szT Tryz.prog 74=some (1,false):=by kernel_rfl
theorem sz75:szT Tryz.prog 75=some (1,false):=by kernel_rfl
theorem sz76:szT Tryz.prog 76=some (1,false):=by kernel_rfl
theorem sz77:szT Tryz.prog 77=some (1,false):=by kernel_rfl
theorem sz78:szT Tryz.prog 78=some (1,false):=by kernel_rfl
theorem sz79:szT Tryz.prog 79=some (1,false):=by kernel_rfl
theorem sz80:szT Tryz.prog 80=some (1,false):=by kernel_rfl
theorem sz81:szT Tryz.prog 81=some (1,false):=by kernel_rfl
theorem sz82:szT Tryz.prog 82=some (1,false):=by kernel_rfl
theorem sz84:szT Tryz.prog 84=some (1,false):=by kernel_rfl
theorem sz85:szT Tryz.prog 85=some (1,false):=by kernel_rfl
theorem sz86:szT Tryz.prog 86=some (1,false):=by kernel_rfl
theorem sz87:szT Tryz.prog 87=some (1,false):=by kernel_rfl
theorem sz88:szT Tryz.prog 88=some (1,false):=by kernel_rfl
theorem sz90:szT Tryz.prog 90=some (1,false):=by kernel_rfl
theorem sz91:szT Tryz.prog 91=some (1,false):=by kernel_rfl
theorem sz92:szT Tryz.prog 92=some (1,false):=by kernel_rfl
theorem sz93:szT Tryz.prog 93=some (1,false):=by kernel_rfl
theorem sz94:szT Tryz.prog 94=some (1,false):=by kernel_rfl
theorem sz96:szT Tryz.prog 96=some (1,false):=by kernel_rfl
theorem sz97:szT Tryz.prog 97=some (1,false):=by kernel_rfl
theorem sz98:szT Tryz.prog 98=some (1,false):=by kernel_rfl
theorem sz99:szT Tryz.prog 99=some (1,false):=by kernel_rfl
theorem sz100:szT Tryz.prog 100=some (1,false):=by kernel_rfl
theorem sz101:szT Tryz.prog 101=some (1,false):=by kernel_rfl
theorem sz102:szT Tryz.prog 102=some (1,false):=by kernel_rfl
theorem sz104:szT Tryz.prog 104=some (1,false):=by kernel_rfl
theorem sz105:szT Tryz.prog 105=some (1,false):=by kernel_rfl
theorem sz106:szT Tryz.prog 106=some (1,false):=by kernel_rfl
theorem sz107:szT Tryz.prog 107=some (1,false):=by kernel_rfl
theorem sz108:szT Tryz.prog 108=some (1,false):=by kernel_rfl
theorem sz109:szT Tryz.prog 109=some (1,false):=by kernel_rfl
theorem sz111:szT Tryz.prog 111=some (1,false):=by kernel_rfl
theorem sz112:szT Tryz.prog 112=some (1,false):=by kernel_rfl
theorem sz113:szT Tryz.prog 113=some (1,false):=by kernel_rfl
theorem it114:intT Tryz.prog 114=some .u64:=by kernel_rfl
theorem st114:strT Tryz.prog 114=false:=by kernel_rfl
theorem sz114:szT Tryz.prog 114=some (1,false):=by kernel_rfl
theorem zt114:zeroT Tryz.prog 114=some [.int .u64 0]:=by kernel_rfl
theorem sz115:szT Tryz.prog 115=some (1,false):=by kernel_rfl
theorem sz116:szT Tryz.prog 116=some (1,false):=by kernel_rfl
theorem sz117:szT Tryz.prog 117=some (1,false):=by kernel_rfl
theorem sz118:szT Tryz.prog 118=some (1,false):=by kernel_rfl
theorem sz119:szT Tryz.prog 119=some (1,false):=by kernel_rfl
theorem sz120:szT Tryz.prog 120=some (1,false):=by kernel_rfl
theorem sz121:szT Tryz.prog 121=some (24,true):=by kernel_rfl
theorem pl121:placesT Tryz.prog 121=some [0,1,2,3,4,5,6,7,8,9,10,11,12,13,14,15,16,17,18,19,20,21,22,23]:=by kernel_rfl
theorem zt121:zeroT Tryz.prog 121=some [.int .u8 0,.int .u8 0,.int .u8 0,.int .u8 0,.int .u8 0,.int .u8 0,.int .u8 0,.int .u8 0,.int .u8 0,.int .u8 0,.int .u8 0,.int .u8 0,.int .u8 0,.int .u8 0,.int .u8 0,.int .u8 0,.int .u8 0,.int .u8 0,.int .u8 0,.int .u8 0,.int .u8 0,.int .u8 0,.int .u8 0,.int .u8 0]:=by kernel_rfl
theorem it122:intT Tryz.prog 122=some .u64:=by kernel_rfl
theorem st122:strT Tryz.prog 122=false:=by kernel_rfl
theorem sz122:szT Tryz.prog 122=some (1,false):=by kernel_rfl
theorem zt122:zeroT Tryz.prog 122=some [.int .u64 0]:=by kernel_rfl
theorem sz123:szT Tryz.prog 123=some (1,false):=by kernel_rfl
theorem sz124:szT Tryz.prog 124=some (1,false):=by kernel_rfl
theorem sz126:szT Tryz.prog 126=some (1,false):=by kernel_rfl
theorem sz127:szT Tryz.prog 127=some (1,false):=by kernel_rfl
theorem sz128:szT Tryz.prog 128=some (1,false):=by kernel_rfl
theorem it129:intT Tryz.prog 129=some .i64:=by kernel_rfl
theorem st129:strT Tryz.prog 129=false:=by kernel_rfl
theorem sz129:szT Tryz.prog 129=some (1,false):=by kernel_rfl
theorem zt129:zeroT Tryz.prog 129=some [.int .i64 0]:=by kernel_rfl
theorem sz131:szT Tryz.prog 131=some (1,false):=by kernel_rfl
theorem sz132:szT Tryz.prog 132=some (1,false):=by kernel_rfl
theorem sz133:szT Tryz.prog 133=some (1,false):=by kernel_rfl
theorem sz135:szT Tryz.prog 135=some (1,false):=by kernel_rfl
theorem sz136:szT Tryz.prog 136=some (1,false):=by kernel_rfl
theorem it137:intT Tryz.prog 137=some .u32:=by kernel_rfl
theorem st137:strT Tryz.prog 137=false:=by kernel_rfl
theorem sz137:szT Tryz.prog 137=some (1,false):=by kernel_rfl
theorem zt137:zeroT Tryz.prog 137=some [.int .u32 0]:=by kernel_rfl
theorem sz138:szT Tryz.prog 138=some (1,false):=by kernel_rfl
theorem sz139:szT Tryz.prog 139=some (1,false):=by kernel_rfl
theorem sz140:szT Tryz.prog 140=some (20,true):=by kernel_rfl
theorem pl140:placesT Tryz.prog 140=some [0,1,2,3,4,5,6,7,8,9,10,11,12,13,14,15,16,17,18,19]:=by kernel_rfl
theorem zt140:zeroT Tryz.prog 140=some [.int .u64 0,.int .u64 0,.int .u64 0,.int .u64 0,.int .u64 0,.int .u64 0,.int .u64 0,.int .u64 0,.int .u64 0,.int .u64 0,.int .u64 0,.int .u64 0,.int .u64 0,.int .u64 0,.int .u64 0,.int .u64 0,.int .u64 0,.int .u64 0,.int .u64 0,.int .u64 0]:=by kernel_rfl
theorem it142:intT Tryz.prog 142=some .u64:=by kernel_rfl
theorem st142:strT Tryz.prog 142=false:=by kernel_rfl
theorem sz142:szT Tryz.prog 142=some (1,false):=by kernel_rfl
theorem zt142:zeroT Tryz.prog 142=some [.int .u64 0]:=by kernel_rfl
theorem sz143:szT Tryz.prog 143=some (1,false):=by kernel_rfl
theorem sz144:szT Tryz.prog 144=some (1,false):=by kernel_rfl
theorem sz145:szT Tryz.prog 145=some (1,false):=by kernel_rfl
theorem sz146:szT Tryz.prog 146=some (1,false):=by kernel_rfl
theorem sz147:szT Tryz.prog 147=some (1,false):=by kernel_rfl
theorem sz148:szT Tryz.prog 148=some (1,false):=by kernel_rfl
theorem sz149:szT Tryz.prog 149=some (1,false):=by kernel_rfl
theorem sz151:szT Tryz.prog 151=some (1,false):=by kernel_rfl
theorem sz152:szT Tryz.prog 152=some (32,true):=by kernel_rfl
theorem pl152:placesT Tryz.prog 152=some [0,1,2,3,4,5,6,7,8,9,10,11,12,13,14,15,16,17,18,19,20,21,22,23,24,25,26,27,28,29,30,31]:=by kernel_rfl
theorem zt152:zeroT Tryz.prog 152=some [.int .u8 0,.int .u8 0,.int .u8 0,.int .u8 0,.int .u8 0,.int .u8 0,.int .u8 0,.int .u8 0,.int .u8 0,.int .u8 0,.int .u8 0,.int .u8 0,.int .u8 0,.int .u8 0,.int .u8 0,.int .u8 0,.int .u8 0,.int .u8 0,.int .u8 0,.int .u8 0,.int .u8 0,.int .u8 0,.int .u8 0,.int .u8 0,.int .u8 0,.int .u8 0,.int .u8 0,.int .u8 0,.int .u8 0,.int .u8 0,.int .u8 0,.int .u8 0]:=by kernel_rfl
theorem sz153:szT Tryz.prog 153=some (64,true):=by kernel_rfl
theorem pl153:placesT Tryz.prog 153=some [0,1,2,3,4,5,6,7,8,9,10,11,12,13,14,15,16,17,18,19,20,21,22,23,24,25,26,27,28,29,30,31,32,33,34,35,36,37,38,39,40,41,42,43,44,45,46,47,48,49,50,51,52,53,54,55,56,57,58,59,60,61,62,63]:=by kernel_rfl
theorem zt153:zeroT Tryz.prog 153=some [.int .u8 0,.int .u8 0,.int .u8 0,.int .u8 0,.int .u8 0,.int .u8 0,.int .u8 0,.int .u8 0,.int .u8 0,.int .u8 0,.int .u8 0,.int .u8 0,.int .u8 0,.int .u8 0,.int .u8 0,.int .u8 0,.int .u8 0,.int .u8 0,.int .u8 0,.int .u8 0,.int .u8 0,.int .u8 0,.int .u8 0,.int .u8 0,.int .u8 0,.int .u8 0,.int .u8 0,.int .u8 0,.int .u8 0,.int .u8 0,.int .u8 0,.int .u8 0,.int .u8 0,.int .u8 0,.int .u8 0,.int .u8 0,.int .u8 0,.int .u8 0,.int .u8 0,.int .u8 0,.int .u8 0,.int .u8 0,.int .u8 0,.int .u8 0,.int .u8 0,.int .u8 0,.int .u8 0,.int .u8 0,.int .u8 0,.int .u8 0,.int .u8 0,.int .u8 0,.int .u8 0,.int .u8 0,.int .u8 0,.int .u8 0,.int .u8 0,.int .u8 0,.int .u8 0,.int .u8 0,.int .u8 0,.int .u8 0,.int .u8 0,.int .u8 0]:=by kernel_rfl
theorem sz154:szT Tryz.prog 154=some (4,true):=by kernel_rfl
theorem fd154x0:fldT Tryz.prog 154 0=some (0,1,false):=by kernel_rfl
theorem fd154x1:fldT Tryz.prog 154 1=some (1,1,false):=by kernel_rfl
theorem fd154x2:fldT Tryz.prog 154 2=some (2,1,false):=by kernel_rfl
theorem fd154x3:fldT Tryz.prog 154 3=some (3,1,false):=by kernel_rfl
theorem pl154:placesT Tryz.prog 154=some [0,1,2,3]:=by kernel_rfl
theorem sz155:szT Tryz.prog 155=some (4,true):=by kernel_rfl
theorem fd155x0:fldT Tryz.prog 155 0=some (0,1,false):=by kernel_rfl
theorem fd155x1:fldT Tryz.prog 155 1=some (1,1,false):=by kernel_rfl
theorem fd155x2:fldT Tryz.prog 155 2=some (2,1,false):=by kernel_rfl
theorem fd155x3:fldT Tryz.prog 155 3=some (3,1,false):=by kernel_rfl
theorem pl155:placesT Tryz.prog 155=some [0,1,2,3]:=by kernel_rfl
theorem sz156:szT Tryz.prog 156=some (0,true):=by kernel_rfl
theorem sz157:szT Tryz.prog 157=some (0,true):=by kernel_rfl
theorem fd157x0:fldT Tryz.prog 157 0=some (0,0,true):=by kernel_rfl
theorem sz158:szT Tryz.prog 158=some (0,true):=by kernel_rfl
theorem fd158x0:fldT Tryz.prog 158 0=some (0,0,true):=by kernel_rfl
theorem sz159:szT Tryz.prog 159=some (1,false):=by kernel_rfl
theorem it160:intT Tryz.prog 160=some .u8:=by kernel_rfl
theorem st160:strT Tryz.prog 160=false:=by kernel_rfl
theorem sz160:szT Tryz.prog 160=some (1,false):=by kernel_rfl
theorem zt160:zeroT Tryz.prog 160=some [.int .u8 0]:=by kernel_rfl
theorem it161:intT Tryz.prog 161=some .u8:=by kernel_rfl
theorem st161:strT Tryz.prog 161=false:=by kernel_rfl
theorem sz161:szT Tryz.prog 161=some (1,false):=by kernel_rfl
theorem zt161:zeroT Tryz.prog 161=some [.int .u8 0]:=by kernel_rfl
theorem sz162:szT Tryz.prog 162=some (1,false):=by kernel_rfl
theorem it163:intT Tryz.prog 163=some .i32:=by kernel_rfl
theorem st163:strT Tryz.prog 163=false:=by kernel_rfl
theorem sz163:szT Tryz.prog 163=some (1,false):=by kernel_rfl
theorem zt163:zeroT Tryz.prog 163=some [.int .i32 0]:=by kernel_rfl
theorem it164:intT Tryz.prog 164=some .i32:=by kernel_rfl
theorem st164:strT Tryz.prog 164=false:=by kernel_rfl
theorem sz164:szT Tryz.prog 164=some (1,false):=by kernel_rfl
theorem zt164:zeroT Tryz.prog 164=some [.int .i32 0]:=by kernel_rfl
theorem sz165:szT Tryz.prog 165=some (11,true):=by kernel_rfl
theorem fd165x0:fldT Tryz.prog 165 0=some (0,1,false):=by kernel_rfl
theorem fd165x1:fldT Tryz.prog 165 1=some (1,1,false):=by kernel_rfl
theorem fd165x2:fldT Tryz.prog 165 2=some (2,1,false):=by kernel_rfl
theorem fd165x3:fldT Tryz.prog 165 3=some (3,1,false):=by kernel_rfl
theorem fd165x4:fldT Tryz.prog 165 4=some (4,1,false):=by kernel_rfl
theorem fd165x5:fldT Tryz.prog 165 5=some (5,1,false):=by kernel_rfl
theorem fd165x6:fldT Tryz.prog 165 6=some (6,1,false):=by kernel_rfl
theorem fd165x7:fldT Tryz.prog 165 7=some (7,1,false):=by kernel_rfl
theorem fd165x8:fldT Tryz.prog 165 8=some (8,1,false):=by kernel_rfl
theorem fd165x9:fldT Tryz.prog 165 9=some (9,1,false):=by kernel_rfl
theorem fd165x10:fldT Tryz.prog 165 10=some (10,1,false):=by kernel_rfl
theorem pl165:placesT Tryz.prog 165=some [0,1,2,3,4,5,6,7,8,9,10]:=by kernel_rfl
theorem sz166:szT Tryz.prog 166=some (11,true):=by kernel_rfl
theorem fd166x0:fldT Tryz.prog 166 0=some (0,1,false):=by kernel_rfl
theorem fd166x1:fldT Tryz.prog 166 1=some (1,1,false):=by kernel_rfl
theorem fd166x2:fldT Tryz.prog 166 2=some (2,1,false):=by kernel_rfl
theorem fd166x3:fldT Tryz.prog 166 3=some (3,1,false):=by kernel_rfl
theorem fd166x4:fldT Tryz.prog 166 4=some (4,1,false):=by kernel_rfl
theorem fd166x5:fldT Tryz.prog 166 5=some (5,1,false):=by kernel_rfl
theorem fd166x6:fldT Tryz.prog 166 6=some (6,1,false):=by kernel_rfl
theorem fd166x7:fldT Tryz.prog 166 7=some (7,1,false):=by kernel_rfl
theorem fd166x8:fldT Tryz.prog 166 8=some (8,1,false):=by kernel_rfl
theorem fd166x9:fldT Tryz.prog 166 9=some (9,1,false):=by kernel_rfl
theorem fd166x10:fldT Tryz.prog 166 10=some (10,1,false):=by kernel_rfl
theorem pl166:placesT Tryz.prog 166=some [0,1,2,3,4,5,6,7,8,9,10]:=by kernel_rfl
attribute [go_sem] sg0_eq wayE_sg0 wayN_sg0 wayS_sg0 wayZ_sg0 wayM_sg0 sz1 it2 st2 sz2 zt2 it3 st3 sz3 zt3 bo4 sz4 zt4
attribute [go_sem] it5 st5 sz5 zt5 it6 st6 sz6 zt6 sz7 zt7 fd7x0 fd7x1
attribute [go_sem] fd7x2 fd7x3 pl7 sz8 zt8 fd8x0 fd8x1 fd8x2 fd8x3 pl8 st9 sz9
attribute [go_sem] zt9 st10 sz10 zt10 st11 sz11 zt11 it12 st12 sz12 zt12 sz13
attribute [go_sem] zt13 fd13x0 fd13x1 pl13 sz14 zt14 fd14x0 fd14x1 pl14 sz15 sz16 sz17
attribute [go_sem] sz18 fd18x0 pl18 sz19 fd19x0 pl19 it21 st21 sz21 zt21 sl22 us22
attribute [go_sem] st22 sz22 zt22 sz23 sz24 sz25 sz26 sl27 us27 st27 sz27 zt27
attribute [go_sem] sz28 sz29 sl30 us30 st30 sz30 zt30 sz31 sz32 sz33 sz34 sz35
attribute [go_sem] sl36 us36 st36 sz36 zt36 sz37 sz38 sz39 sz40 sz41 sz43 sz44
attribute [go_sem] sz45 sz46 sz47 zt47 fd47x0 fd47x1 pl47 sz48 zt48 fd48x0 fd48x1 pl48
attribute [go_sem] sz50 sz51 sl52 us52 st52 sz52 zt52 sz53 sz54 sz55 sz56 sz57
attribute [go_sem] zt57 fd57x0 fd57x1 pl57 st58 sz58 zt58 sz59 sz60 fd60x0 fd60x1 pl60
attribute [go_sem] sz61 fd61x0 fd61x1 pl61 sz62 sz66 sz67 sz68 sz69 zt69 fd69x0 fd69x1
attribute [go_sem] fd69x2 pl69 sz70 zt70 fd70x0 fd70x1 fd70x2 pl70 sz71 sz72 sz74 sz75
attribute [go_sem] sz76 sz77 sz78 sz79 sz80 sz81 sz82 sz84 sz85 sz86 sz87 sz88
attribute [go_sem] sz90 sz91 sz92 sz93 sz94 sz96 sz97 sz98 sz99 sz100 sz101 sz102
attribute [go_sem] sz104 sz105 sz106 sz107 sz108 sz109 sz111 sz112 sz113 it114 st114 sz114
attribute [go_sem] zt114 sz115 sz116 sz117 sz118 sz119 sz120 sz121 pl121 zt121 it122 st122
attribute [go_sem] sz122 zt122 sz123 sz124 sz126 sz127 sz128 it129 st129 sz129 zt129 sz131
attribute [go_sem] sz132 sz133 sz135 sz136 it137 st137 sz137 zt137 sz138 sz139 sz140 pl140
attribute [go_sem] zt140 it142 st142 sz142 zt142 sz143 sz144 sz145 sz146 sz147 sz148 sz149
attribute [go_sem] sz151 sz152 pl152 zt152 sz153 pl153 zt153 sz154 fd154x0 fd154x1 fd154x2 fd154x3
attribute [go_sem] pl154 sz155 fd155x0 fd155x1 fd155x2 fd155x3 pl155 sz156 sz157 fd157x0 sz158 fd158x0
attribute [go_sem] sz159 it160 st160 sz160 zt160 it161 st161 sz161 zt161 sz162 it163 st163
attribute [go_sem] sz163 zt163 it164 st164 sz164 zt164 sz165 fd165x0 fd165x1 fd165x2 fd165x3 fd165x4
attribute [go_sem] fd165x5 fd165x6 fd165x7 fd165x8 fd165x9 fd165x10 pl165 sz166 fd166x0 fd166x1 fd166x2 fd166x3
attribute [go_sem] fd166x4 fd166x5 fd166x6 fd166x7 fd166x8 fd166x9 fd166x10 pl166
end Go.Gl
