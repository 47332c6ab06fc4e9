/-
 The common ground of the contracts of this program's functions. Conditions: none.
-/
import Derived.Test.YtbppfpdgahopeaaGreatGlE
import Derived.Test.YtbppfpdgahopeaaGreatChecked
namespace Go.Gl
open Go Go.Proofs
def sg0:FuncId→List Bool:=fun _=>[]
theorem sg0_eq {f:FuncId}:sg0 f=[]:=rfl
theorem wayE_sg0:wayE sg0=false:=_root_.id rfl
theorem wayN_sg0:wayN sg0=false:=_root_.id rfl
theorem wayS_sg0:wayS sg0=false:=_root_.id rfl
theorem wayZ_sg0:wayZ sg0=false:=_root_.id rfl
theorem wayM_sg0:wayM sg0=false:=_root_.id rfl
theorem mo:Tryz.prog.follows .mixedOrders=true:=Tryz.checked.mixed
theorem sz1:szT Tryz.prog 1=some (1,false):=by kernel_rfl
theorem it2:intT Tryz.prog 2=some .i64:=by kernel_rfl
theorem st2:strT Tryz.prog 2=false:=by kernel_rfl
theorem sz2:szT Tryz.prog 2=some (1,false):=by kernel_rfl
theorem zt2:zeroT Tryz.prog 2=some [.int .i64 0]:=by kernel_rfl
theorem it3:intT Tryz.prog 3=some .i64:=by kernel_rfl
theorem st3:strT Tryz.prog 3=false:=by kernel_rfl
theorem sz3:szT Tryz.prog 3=some (1,false):=by kernel_rfl
theorem zt3:zeroT Tryz.prog 3=some [.int .i64 0]:=by kernel_rfl
theorem bo4:boolT Tryz.prog 4=true:=by kernel_rfl
theorem sz4:szT Tryz.prog 4=some (1,false):=by kernel_rfl
theorem zt4:zeroT Tryz.prog 4=some [.bool false]:=by kernel_rfl
theorem it5:intT Tryz.prog 5=some .u8:=by kernel_rfl
theorem st5:strT Tryz.prog 5=false:=by kernel_rfl
theorem sz5:szT Tryz.prog 5=some (1,false):=by kernel_rfl
theorem zt5:zeroT Tryz.prog 5=some [.int .u8 0]:=by kernel_rfl
theorem it6:intT Tryz.prog 6=some .u8:=by kernel_rfl
theorem st6:strT Tryz.prog 6=false:=by kernel_rfl
theorem sz6:szT Tryz.prog 6=some (1,false):=by kernel_rfl
theorem zt6:zeroT Tryz.prog 6=some [.int .u8 0]:=by kernel_rfl
theorem sz7:szT Tryz.prog 7=some (4,true):=by kernel_rfl
theorem zt7:zeroT Tryz.prog 7=some [.int .i64 0,.int .i64 0,.bool false,.int .u8 0]:=by kernel_rfl
theorem fd7x0:fldT Tryz.prog 7 0=some (0,1,false):=by kernel_rfl
theorem fd7x1:fldT Tryz.prog 7 1=some (1,1,false):=by kernel_rfl
theorem fd7x2:fldT Tryz.prog 7 2=some (2,1,false):=by kernel_rfl
theorem fd7x3:fldT Tryz.prog 7 3=some (3,1,false):=by kernel_rfl
theorem pl7:placesT Tryz.prog 7=some [0,1,2,3]:=by kernel_rfl
theorem sz8:szT Tryz.prog 8=some (4,true):=by kernel_rfl
theorem zt8:zeroT Tryz.prog 8=some [.int .i64 0,.int .i64 0,.bool false,.int .u8 0]:=by kernel_rfl
theorem fd8x0:fldT Tryz.prog 8 0=some (0,1,false):=by kernel_rfl
theorem fd8x1:fldT Tryz.prog 8 1=some (1,1,false):=by kernel_rfl
theorem fd8x2:fldT Tryz.prog 8 2=some (2,1,false):=by kernel_rfl
theorem fd8x3:fldT Tryz.prog 8 3=some (3,1,false):=by kernel_rfl
theorem pl8:placesT Tryz.prog 8=some [0,1,2,3]:=by kernel_rfl
theorem st9:strT Tryz.prog 9=true:=by kernel_rfl
theorem sz9:szT Tryz.prog 9=some (1,false):=by kernel_rfl
theorem zt9:zeroT Tryz.prog 9=some [.str []]:=by kernel_rfl
theorem st10:strT Tryz.prog 10=true:=by kernel_rfl
theorem sz10:szT Tryz.prog 10=some (1,false):=by kernel_rfl
theorem zt10:zeroT Tryz.prog 10=some [.str []]:=by kernel_rfl
theorem st11:strT Tryz.prog 11=true:=by kernel_rfl
theorem sz11:szT Tryz.prog 11=some (1,false):=by kernel_rfl
theorem zt11:zeroT Tryz.prog 11=some [.str []]:=by kernel_rfl
theorem it12:intT Tryz.prog 12=some .u64:=by kernel_rfl
theorem st12:strT Tryz.prog 12=false:=by kernel_rfl
theorem sz12:szT Tryz.prog 12=some (1,false):=by kernel_rfl
theorem zt12:zeroT Tryz.prog 12=some [.int .u64 0]:=by kernel_rfl
theorem sz13:szT Tryz.prog 13=some (2,true):=by kernel_rfl
theorem zt13:zeroT Tryz.prog 13=some [.str [],.int .u64 0]:=by kernel_rfl
theorem fd13x0:fldT Tryz.prog 13 0=some (0,1,false):=by kernel_rfl
theorem fd13x1:fldT Tryz.prog 13 1=some (1,1,false):=by kernel_rfl
theorem pl13:placesT Tryz.prog 13=some [0,1]:=by kernel_rfl
theorem sz14:szT Tryz.prog 14=some (2,true):=by kernel_rfl
theorem zt14:zeroT Tryz.prog 14=some [.str [],.int .u64 0]:=by kernel_rfl
theorem fd14x0:fldT Tryz.prog 14 0=some (0,1,false):=by kernel_rfl
theorem fd14x1:fldT Tryz.prog 14 1=some (1,1,false):=by kernel_rfl
theorem pl14:placesT Tryz.prog 14=some [0,1]:=by kernel_rfl
theorem sz15:szT Tryz.prog 15=some (1,false):=by kernel_rfl
theorem sz16:szT Tryz.prog 16=some (1,false):=by kernel_rfl
theorem sz17:szT Tryz.prog 17=some (1,false):=by kernel_rfl
theorem sz18:szT Tryz.prog 18=some (1,true):=by kernel_rfl
theorem fd18x0:fldT Tryz.prog 18 0=some (0,1,false):=by kernel_rfl
theorem pl18:placesT Tryz.prog 18=some [0]:=by kernel_rfl
theorem sz19:szT Tryz.prog 19=some (1,true):=by kernel_rfl
theorem fd19x0:fldT Tryz.prog 19 0=some (0,1,false):=by kernel_rfl
theorem pl19:placesT Tryz.prog 19=some [0]:=by kernel_rfl
theorem it21:intT Tryz.prog 21=some .i32:=by kernel_rfl
theorem st21:strT Tryz.prog 21=false:=by kernel_rfl
theorem sz21:szT Tryz.prog 21=some (1,false):=by kernel_rfl
theorem zt21:zeroT Tryz.prog 21=some [.int .i32 0]:=by kernel_rfl
theorem sl22:slT Tryz.prog 22=some (1,.int .u8 0):=by kernel_rfl
theorem us22:u8T Tryz.prog 22=true:=by kernel_rfl
theorem st22:strT Tryz.prog 22=false:=by kernel_rfl
theorem sz22:szT Tryz.prog 22=some (1,false):=by kernel_rfl
theorem zt22:zeroT Tryz.prog 22=some [.sl (.lent false) []]:=by kernel_rfl
theorem sz23:szT Tryz.prog 23=some (1,false):=by kernel_rfl
theorem sl24:slT Tryz.prog 24=some (8,.int .i64 0):=by kernel_rfl
theorem us24:u8T Tryz.prog 24=false:=by kernel_rfl
theorem st24:strT Tryz.prog 24=false:=by kernel_rfl
theorem sz24:szT Tryz.prog 24=some (1,false):=by kernel_rfl
theorem zt24:zeroT Tryz.prog 24=some [.sl (.lent false) []]:=by kernel_rfl
theorem sz25:szT Tryz.prog 25=some (1,false):=by kernel_rfl
theorem sz26:szT Tryz.prog 26=some (1,false):=by kernel_rfl
theorem sz27:szT Tryz.prog 27=some (1,false):=by kernel_rfl
theorem sz28:szT Tryz.prog 28=some (1,false):=by kernel_rfl
theorem sl29:slT Tryz.prog 29=some (24,.sl (.lent false) []):=by kernel_rfl
theorem us29:u8T Tryz.prog 29=false:=by kernel_rfl
theorem st29:strT Tryz.prog 29=false:=by kernel_rfl
theorem sz29:szT Tryz.prog 29=some (1,false):=by kernel_rfl
theorem zt29:zeroT Tryz.prog 29=some [.sl (.lent false) []]:=by kernel_rfl
theorem sz30:szT Tryz.prog 30=some (1,false):=by kernel_rfl
theorem sz32:szT Tryz.prog 32=some (1,false):=by kernel_rfl
theorem sz34:szT Tryz.prog 34=some (1,false):=by kernel_rfl
theorem sz35:szT Tryz.prog 35=some (1,false):=by kernel_rfl
theorem sz36:szT Tryz.prog 36=some (1,false):=by kernel_rfl
theorem sz37:szT Tryz.prog 37=some (1,false):=by kernel_rfl
theorem sz38:szT Tryz.prog 38=some (1,false):=by kernel_rfl
theorem sz39:szT Tryz.prog 39=some (1,false):=by kernel_rfl
theorem sz40:szT Tryz.prog 40=some (1,false):=by kernel_rfl
theorem sz42:szT Tryz.prog 42=some (1,false):=by kernel_rfl
theorem sz43:szT Tryz.prog 43=some (1,false):=by kernel_rfl
theorem sz44:szT Tryz.prog 44=some (1,false):=by kernel_rfl
theorem sz45:szT Tryz.prog 45=some (2,true):=by kernel_rfl
theorem zt45:zeroT Tryz.prog 45=some [.str [],.nilf]:=by kernel_rfl
theorem fd45x0:fldT Tryz.prog 45 0=some (0,1,false):=by kernel_rfl
theorem fd45x1:fldT Tryz.prog 45 1=some (1,1,false):=by kernel_rfl
theorem pl45:placesT Tryz.prog 45=some [0,1]:=by kernel_rfl
theorem st46:strT Tryz.prog 46=false:=by kernel_rfl
theorem sz46:szT Tryz.prog 46=some (1,false):=by kernel_rfl
theorem zt46:zeroT Tryz.prog 46=some [.sl (.lent false) []]:=by kernel_rfl
theorem sl47:slT Tryz.prog 47=some (16,.str []):=by kernel_rfl
theorem us47:u8T Tryz.prog 47=false:=by kernel_rfl
theorem st47:strT Tryz.prog 47=false:=by kernel_rfl
theorem sz47:szT Tryz.prog 47=some (1,false):=by kernel_rfl
theorem zt47:zeroT Tryz.prog 47=some [.sl (.lent false) []]:=by kernel_rfl
theorem sz48:szT Tryz.prog 48=some (1,false):=by kernel_rfl
theorem sz49:szT Tryz.prog 49=some (1,false):=by kernel_rfl
theorem sz50:szT Tryz.prog 50=some (1,false):=by kernel_rfl
theorem sz51:szT Tryz.prog 51=some (1,false):=by kernel_rfl
theorem sz52:szT Tryz.prog 52=some (1,false):=by kernel_rfl
theorem sz53:szT Tryz.prog 53=some (1,false):=by kernel_rfl
theorem sz54:szT Tryz.prog 54=some (1,false):=by kernel_rfl
theorem sz55:szT Tryz.prog 55=some (1,false):=by kernel_rfl
theorem sz56:szT Tryz.prog 56=some (1,false):=by kernel_rfl
theorem sz57:szT Tryz.prog 57=some (1,false):=by kernel_rfl
theorem sz58:szT Tryz.prog 58=some (1,false):=by kernel_rfl
theorem sz59:szT Tryz.prog 59=some (1,false):=by kernel_rfl
theorem sz60:szT Tryz.prog 60=some (1,false):=by kernel_rfl
theorem sz61:szT Tryz.prog 61=some (3,true):=by kernel_rfl
theorem zt61:zeroT Tryz.prog 61=some [.sl (.lent false) [],.int .i64 0,.int .i64 0]:=by kernel_rfl
theorem fd61x0:fldT Tryz.prog 61 0=some (0,1,false):=by kernel_rfl
theorem fd61x1:fldT Tryz.prog 61 1=some (1,1,false):=by kernel_rfl
theorem fd61x2:fldT Tryz.prog 61 2=some (2,1,false):=by kernel_rfl
theorem pl61:placesT Tryz.prog 61=some [0,1,2]:=by kernel_rfl
theorem sz62:szT Tryz.prog 62=some (3,true):=by kernel_rfl
theorem zt62:zeroT Tryz.prog 62=some [.sl (.lent false) [],.int .i64 0,.int .i64 0]:=by kernel_rfl
theorem fd62x0:fldT Tryz.prog 62 0=some (0,1,false):=by kernel_rfl
theorem fd62x1:fldT Tryz.prog 62 1=some (1,1,false):=by kernel_rfl
theorem fd62x2:fldT Tryz.prog 62 2=some (2,1,false):=by kernel_rfl
theorem pl62:placesT Tryz.prog 62=some [0,1,2]:=by kernel_rfl
theorem sz63:szT Tryz.prog 63=some (1,false):=by kernel_rfl
theorem sz64:szT Tryz.prog 64=some (1,false):=by kernel_rfl
theorem sz65:szT Tryz.prog 65=some (1,false):=by kernel_rfl
theorem sz67:szT Tryz.prog 67=some (1,false):=by kernel_rfl
theorem sz68:szT Tryz.prog 68=some (1,false):=by kernel_rfl
theorem sz69:szT Tryz.prog 69=some (1,false):=by kernel_rfl
theorem sz70:szT Tryz.prog 70=some (1,false):=by kernel_rfl
theorem sz71:szT Tryz.prog 71=some (1,false):=by kernel_rfl
theorem sz72:szT Tryz.prog 72=some (2,true):=by kernel_rfl
theorem fd72x0:fldT Tryz.prog 72 0=some (0,1,false):=by kernel_rfl
theorem fd72x1:fldT Tryz.prog 72 1=some (1,1,false):=by kernel_rfl
theorem pl72:placesT Tryz.prog 72=some [0,1]:=by kernel_rfl
theorem sz73:szT Tryz.prog 73=some (2,true):=by kernel_rfl
theorem fd73x0:fldT Tryz.prog 73 0=some (0,1,false):=by kernel_rfl
theorem fd73x1:fldT Tryz.prog 73 1=some (1,1,false):=by kernel_rfl
theorem pl73:placesT Tryz.prog 73=some [0,1]:=by kernel_rfl
theorem sz74:szT Tryz.prog 74=some (1,false):=by kernel_rfl
theorem sz78:szT Tryz.prog 78=some (1,false):=by kernel_rfl
theorem sz79:szT Tryz.prog 79=some (1,false):=by kernel_rfl
theorem sz80:szT Tryz.prog 80=some (1,false):=by kernel_rfl
theorem sz81:szT Tryz.prog 81=some (1,false):=by kernel_rfl
theorem sz82:szT Tryz.prog 82=some (1,false):=by kernel_rfl
theorem sz83:szT Tryz.prog 83=some (1,false):=by kernel_rfl
theorem it84:intT Tryz.prog 84=some .u64:=by kernel_rfl
theorem st84:strT Tryz.prog 84=false:=by kernel_rfl
theorem sz84:szT Tryz.prog 84=some (1,false):=by kernel_rfl
theorem zt84:zeroT Tryz.prog 84=some [.int .u64 0]:=by kernel_rfl
theorem sz85:szT Tryz.prog 85=some (1,false):=by kernel_rfl
theorem sz86:szT Tryz.prog 86=some (1,false):=by kernel_rfl
theorem sz87:szT Tryz.prog 87=some (1,false):=by kernel_rfl
theorem sz88:szT Tryz.prog 88=some (1,false):=by kernel_rfl
theorem sl89:slT Tryz.prog 89=some (1,.bool false):=by kernel_rfl
theorem us89:u8T Tryz.prog 89=false:=by kernel_rfl
theorem st89:strT Tryz.prog 89=false:=by kernel_rfl
theorem sz89:szT Tryz.prog 89=some (1,false):=by kernel_rfl
theorem zt89:zeroT Tryz.prog 89=some [.sl (.lent false) []]:=by kernel_rfl
theorem sz90:szT Tryz.prog 90=some (1,false):=by kernel_rfl
theorem sz91:szT Tryz.prog 91=some (2,true):=by kernel_rfl
theorem zt91:zeroT Tryz.prog 91=some [.sl (.lent false) [],.sl (.lent false) []]:=by kernel_rfl
theorem fd91x0:fldT Tryz.prog 91 0=some (0,1,false):=by kernel_rfl
theorem fd91x1:fldT Tryz.prog 91 1=some (1,1,false):=by kernel_rfl
theorem pl91:placesT Tryz.prog 91=some [0,1]:=by kernel_rfl
theorem sz92:szT Tryz.prog 92=some (2,true):=by kernel_rfl
theorem zt92:zeroT Tryz.prog 92=some [.sl (.lent false) [],.sl (.lent false) []]:=by kernel_rfl
theorem fd92x0:fldT Tryz.prog 92 0=some (0,1,false):=by kernel_rfl
theorem fd92x1:fldT Tryz.prog 92 1=some (1,1,false):=by kernel_rfl
theorem pl92:placesT Tryz.prog 92=some [0,1]:=by kernel_rfl
theorem sz93:szT Tryz.prog 93=some (1,false):=by kernel_rfl
theorem sz94:szT Tryz.prog 94=some (1,false):=by kernel_rfl
theorem sz95:szT Tryz.prog 95=some (1,false):=by kernel_rfl
theorem sz96:szT Tryz.prog 96=some (1,false):=by kernel_rfl
theorem sz97:szT Tryz.prog 97=some (1,false):=by kernel_rfl
theorem sz98:szT Tryz.prog 98=some (1,false):=by kernel_rfl
theorem sz99:szT Tryz.prog 99=some (1,false):=by kernel_rfl
theorem sz100:szT Tryz.prog 100=some (1,false):=by kernel_rfl
theorem sz101:szT Tryz.prog 101=some (1,false):=by kernel_rfl
theorem sz103:szT Tryz.prog 103=some (1,false):=by kernel_rfl
theorem sz104:szT Tryz.prog 104=some (1,false):=by kernel_rfl
theorem sz105:szT Tryz.prog 105=some (1,false):=by kernel_rfl
theorem sz106:szT Tryz.prog 106=some (1,false):=by kernel_rfl
theorem sz107:szT Tryz.prog 107=some (1,false):=by kernel_rfl
theorem sz108:szT Tryz.prog 108=some (4,true):=by kernel_rfl
theorem fd108x0:fldT Tryz.prog 108 0=some (0,1,false):=by kernel_rfl
theorem fd108x1:fldT Tryz.prog 108 1=some (1,1,false):=by kernel_rfl
theorem fd108x2:fldT Tryz.prog 108 2=some (2,1,false):=by kernel_rfl
theorem fd108x3:fldT Tryz.prog 108 3=some (3,1,false):=by kernel_rfl
theorem pl108:placesT Tryz.prog 108=some [0,1,2,3]:=by kernel_rfl
theorem sz109:szT Tryz.prog 109=some (4,true):=by kernel_rfl
theorem fd109x0:fldT Tryz.prog 109 0=some (0,1,false):=by kernel_rfl
theorem fd109x1:fldT Tryz.prog 109 1=some (1,1,false):=by kernel_rfl
theorem fd109x2:fldT Tryz.prog 109 2=some (2,1,false):=by kernel_rfl
theorem fd109x3:fldT Tryz.prog 109 3=some (3,1,false):=by kernel_rfl
theorem pl109:placesT Tryz.prog 109=some [0,1,2,3]:=by kernel_rfl
theorem sz110:szT Tryz.prog 110=some (0,true):=by kernel_rfl
theorem sz111:szT Tryz.prog 111=some (0,true):=by kernel_rfl
theorem fd111x0:fldT Tryz.prog 111 0=some (0,0,true):=by kernel_rfl
theorem sz112:szT Tryz.prog 112=some (0,true):=by kernel_rfl
theorem fd112x0:fldT Tryz.prog 112 0=some (0,0,true):=by kernel_rfl
theorem sz113:szT Tryz.prog 113=some (1,false):=by kernel_rfl
theorem it114:intT Tryz.prog 114=some .u32:=by kernel_rfl
theorem st114:strT Tryz.prog 114=false:=by kernel_rfl
theorem sz114:szT Tryz.prog 114=some (1,false):=by kernel_rfl
theorem zt114:zeroT Tryz.prog 114=some [.int .u32 0]:=by kernel_rfl
theorem it115:intT Tryz.prog 115=some .u8:=by kernel_rfl
theorem st115:strT Tryz.prog 115=false:=by kernel_rfl
theorem sz115:szT Tryz.prog 115=some (1,false):=by kernel_rfl
theorem zt115:zeroT Tryz.prog 115=some [.int .u8 0]:=by kernel_rfl
theorem it116:intT Tryz.prog 116=some .u8:=by kernel_rfl
theorem st116:strT Tryz.prog 116=false:=by kernel_rfl
theorem sz116:szT Tryz.prog 116=some (1,false):=by kernel_rfl
theorem zt116:zeroT Tryz.prog 116=some [.int .u8 0]:=by kernel_rfl
theorem sz117:szT Tryz.prog 117=some (1,false):=by kernel_rfl
theorem it118:intT Tryz.prog 118=some .i32:=by kernel_rfl
theorem st118:strT Tryz.prog 118=false:=by kernel_rfl
theorem sz118:szT Tryz.prog 118=some (1,false):=by kernel_rfl
theorem zt118:zeroT Tryz.prog 118=some [.int .i32 0]:=by kernel_rfl
theorem it119:intT Tryz.prog 119=some .i32:=by kernel_rfl
theorem st119:strT Tryz.prog 119=false:=by kernel_rfl
theorem sz119:szT Tryz.prog 119=some (1,false):=by kernel_rfl
theorem zt119:zeroT Tryz.prog 119=some [.int .i32 0]:=by kernel_rfl
theorem sz120:szT Tryz.prog 120=some (11,true):=by kernel_rfl
theorem fd120x0:fldT Tryz.prog 120 0=some (0,1,false):=by kernel_rfl
theorem fd120x1:fldT Tryz.prog 120 1=some (1,1,false):=by kernel_rfl
theorem fd120x2:fldT Tryz.prog 120 2=some (2,1,false):=by kernel_rfl
theorem fd120x3:fldT Tryz.prog 120 3=some (3,1,false):=by kernel_rfl
theorem fd120x4:fldT Tryz.prog 120 4=some (4,1,false):=by kernel_rfl
theorem fd120x5:fldT Tryz.prog 120 5=some (5,1,false):=by kernel_rfl
theorem fd120x6:fldT Tryz.prog 120 6=some (6,1,false):=by kernel_rfl
theorem fd120x7:fldT Tryz.prog 120 7=some (7,1,false):=by kernel_rfl
theorem fd120x8:fldT Tryz.prog 120 8=some (8,1,false):=by kernel_rfl
theorem fd120x9:fldT Tryz.prog 120 9=some (9,1,false):=by kernel_rfl
theorem fd120x10:fldT Tryz.prog 120 10=some (10,1,false):=by kernel_rfl
theorem pl120:placesT Tryz.prog 120=some [0,1,2,3,4,5,6,7,8,9,10]:=by kernel_rfl
theorem sz121:szT Tryz.prog 121=some (11,true):=by kernel_rfl
theorem fd121x0:fldT Tryz.prog 121 0=some (0,1,false):=by kernel_rfl
theorem fd121x1:fldT Tryz.prog 121 1=some (1,1,false):=by kernel_rfl
theorem fd121x2:fldT Tryz.prog 121 2=some (2,1,false):=by kernel_rfl
theorem fd121x3:fldT Tryz.prog 121 3=some (3,1,false):=by kernel_rfl
theorem fd121x4:fldT Tryz.prog 121 4=some (4,1,false):=by kernel_rfl
theorem fd121x5:fldT Tryz.prog 121 5=some (5,1,false):=by kernel_rfl
theorem fd121x6:fldT Tryz.prog 121 6=some (6,1,false):=by kernel_rfl
theorem fd121x7:fldT Tryz.prog 121 7=some (7,1,false):=by kernel_rfl
theorem fd121x8:fldT Tryz.prog 121 8=some (8,1,false):=by kernel_rfl
theorem fd121x9:fldT Tryz.prog 121 9=some (9,1,false):=by kernel_rfl
theorem fd121x10:fldT Tryz.prog 121 10=some (10,1,false):=by kernel_rfl
theorem pl121:placesT Tryz.prog 121=some [0,1,2,3,4,5,6,7,8,9,10]:=by kernel_rfl
attribute [go_sem] sg0_eq wayE_sg0 wayN_sg0 wayS_sg0 wayZ_sg0 wayM_sg0 sz1 it2 st2 sz2 zt2 it3 st3 sz3 zt3 bo4 sz4 zt4
attribute [go_sem] it5 st5 sz5 zt5 it6 st6 sz6 zt6 sz7 zt7 fd7x0 fd7x1
attribute [go_sem] fd7x2 fd7x3 pl7 sz8 zt8 fd8x0 fd8x1 fd8x2 fd8x3 pl8 st9 sz9
attribute [go_sem] zt9 st10 sz10 zt10 st11 sz11 zt11 it12 st12 sz12 zt12 sz13
attribute [go_sem] zt13 fd13x0 fd13x1 pl13 sz14 zt14 fd14x0 fd14x1 pl14 sz15 sz16 sz17
attribute [go_sem] sz18 fd18x0 pl18 sz19 fd19x0 pl19 it21 st21 sz21 zt21 sl22 us22
attribute [go_sem] st22 sz22 zt22 sz23 sl24 us24 st24 sz24 zt24 sz25 sz26 sz27
attribute [go_sem] sz28 sl29 us29 st29 sz29 zt29 sz30 sz32 sz34 sz35 sz36 sz37
attribute [go_sem] sz38 sz39 sz40 sz42 sz43 sz44 sz45 zt45 fd45x0 fd45x1 pl45 st46
attribute [go_sem] sz46 zt46 sl47 us47 st47 sz47 zt47 sz48 sz49 sz50 sz51 sz52
attribute [go_sem] sz53 sz54 sz55 sz56 sz57 sz58 sz59 sz60 sz61 zt61 fd61x0 fd61x1
attribute [go_sem] fd61x2 pl61 sz62 zt62 fd62x0 fd62x1 fd62x2 pl62 sz63 sz64 sz65 sz67
attribute [go_sem] sz68 sz69 sz70 sz71 sz72 fd72x0 fd72x1 pl72 sz73 fd73x0 fd73x1 pl73
attribute [go_sem] sz74 sz78 sz79 sz80 sz81 sz82 sz83 it84 st84 sz84 zt84 sz85
attribute [go_sem] sz86 sz87 sz88 sl89 us89 st89 sz89 zt89 sz90 sz91 zt91 fd91x0
attribute [go_sem] fd91x1 pl91 sz92 zt92 fd92x0 fd92x1 pl92 sz93 sz94 sz95 sz96 sz97
attribute [go_sem] sz98 sz99 sz100 sz101 sz103 sz104 sz105 sz106 sz107 sz108 fd108x0 fd108x1
attribute [go_sem] fd108x2 fd108x3 pl108 sz109 fd109x0 fd109x1 fd109x2 fd109x3 pl109 sz110 sz111 fd111x0
attribute [go_sem] sz112 fd112x0 sz113 it114 st114 sz114 zt114 it115 st115 sz115 zt115 it116
attribute [go_sem] st116 sz116 zt116 sz117 it118 st118 sz118 zt118 it119 st119 sz119 zt119
attribute [go_sem] sz120 fd120x0 fd120x1 fd120x2 fd120x3 fd120x4 fd120x5 fd120x6 fd120x7 fd120x8 fd120x9 fd120x10
attribute [go_sem] pl120 sz121 fd121x0 fd121x1 fd121x2 fd121x3 fd121x4 fd121x5 fd121x6 fd121x7 fd121x8 fd121x9
attribute [go_sem] fd121x10 pl121
end Go.Gl
