/-
 The common ground of the contracts of this program's functions. Conditions: none.
-/
import Derived.Test.YtjimcmbfljdelaaGreatDoorGlE
import Derived.Test.YtjimcmbfljdelaaGreatDoorChecked
namespace Go.Gl
open Go Go.Proofs
def au:FuncId->List Bool:=λ_=>[]
theorem aag{f:FuncId}:au f=[]:=rfl
theorem Kh:ga au=false:=_root_.id rfl
theorem Kd:gu au=false:=_root_.id rfl
theorem Ka:gs au=false:=_root_.id rfl
theorem JY:gr au=false:=_root_.id rfl
theorem Kf:gB au=false:=_root_.id rfl
theorem mo:Tryz.prog.follows .mixedOrders=true:=Tryz.checked.mixed
theorem it3:Cn Tryz.prog 3=some .i64:=by kernel_rfl
theorem sz3:pU Tryz.prog 3=some (1,false):=by kernel_rfl
theorem zt3:ip Tryz.prog 3=some [.int .i64 0]:=by kernel_rfl
theorem bo4:wQ Tryz.prog 4=true:=by kernel_rfl
theorem sz4:pU Tryz.prog 4=some (1,false):=by kernel_rfl
theorem it5:Cn Tryz.prog 5=some .u8:=by kernel_rfl
theorem st9:jX Tryz.prog 9=true:=by kernel_rfl
theorem sz9:pU Tryz.prog 9=some (1,false):=by kernel_rfl
theorem afa:jK Tryz.prog 22=some (16,.str []):=by kernel_rfl
theorem ae6:jX Tryz.prog 22=false:=by kernel_rfl
theorem ae9:jK Tryz.prog 29=some (8,.int .i64 0):=by kernel_rfl
theorem ae5:jX Tryz.prog 29=false:=by kernel_rfl
theorem ae1:pU Tryz.prog 29=some (1,false):=by kernel_rfl
theorem aeK:ip Tryz.prog 29=some [.sl (.lent false) []]:=by kernel_rfl
theorem ae8:jK Tryz.prog 30=some (24,.sl (.lent false) []):=by kernel_rfl
theorem ae4:jX Tryz.prog 30=false:=by kernel_rfl
theorem ae0:pU Tryz.prog 30=some (1,false):=by kernel_rfl
theorem aeZ:pU Tryz.prog 32=some (3,true):=by kernel_rfl
theorem aeJ:ip Tryz.prog 32=some [.sl (.lent false) [],.sl (.lent false) [],.sl (.lent false) []]:=by kernel_rfl
theorem YP:nc Tryz.prog 32 0=some (0,1,false):=by kernel_rfl
theorem YO:nc Tryz.prog 32 1=some (1,1,false):=by kernel_rfl
theorem YN:nc Tryz.prog 32 2=some (2,1,false):=by kernel_rfl
theorem afr:fJ Tryz.prog 32=some [0,1,2]:=by kernel_rfl
theorem aeY:pU Tryz.prog 42=some (3,true):=by kernel_rfl
theorem aeI:ip Tryz.prog 42=some [.sl (.lent false) [],.bool false,.bool false]:=by kernel_rfl
theorem YM:nc Tryz.prog 42 0=some (0,1,false):=by kernel_rfl
theorem YL:nc Tryz.prog 42 1=some (1,1,false):=by kernel_rfl
theorem YK:nc Tryz.prog 42 2=some (2,1,false):=by kernel_rfl
theorem afq:fJ Tryz.prog 42=some [0,1,2]:=by kernel_rfl
theorem ae7:jK Tryz.prog 51=some (1,.int .u8 0):=by kernel_rfl
theorem aeV:ZQ Tryz.prog 51=true:=by kernel_rfl
theorem ae3:jX Tryz.prog 51=false:=by kernel_rfl
theorem aeX:pU Tryz.prog 63=some (1,false):=by kernel_rfl
theorem aeW:pU Tryz.prog 82=some (2,true):=by kernel_rfl
theorem aeH:ip Tryz.prog 82=some [.sl (.lent false) [],.sl (.lent false) []]:=by kernel_rfl
theorem YJ:nc Tryz.prog 82 0=some (0,1,false):=by kernel_rfl
theorem YI:nc Tryz.prog 82 1=some (1,1,false):=by kernel_rfl
theorem afp:fJ Tryz.prog 82=some [0,1]:=by kernel_rfl
theorem aa1:pU Tryz.prog 118=some (2,true):=by kernel_rfl
theorem aan:ip Tryz.prog 118=some [.sl (.lent false) [],.sl (.lent false) []]:=by kernel_rfl
theorem SW:nc Tryz.prog 118 0=some (0,1,false):=by kernel_rfl
theorem SV:nc Tryz.prog 118 1=some (1,1,false):=by kernel_rfl
theorem abD:fJ Tryz.prog 118=some [0,1]:=by kernel_rfl
theorem aa9:jK Tryz.prog 131=some (24,.sl (.lent false) []):=by kernel_rfl
theorem aa5:jX Tryz.prog 131=false:=by kernel_rfl
theorem aa0:pU Tryz.prog 144=some (1,false):=by kernel_rfl
theorem aaZ:pU Tryz.prog 146=some (2,true):=by kernel_rfl
theorem aam:ip Tryz.prog 146=some [.str [],.nilf]:=by kernel_rfl
theorem SU:nc Tryz.prog 146 0=some (0,1,false):=by kernel_rfl
theorem SS:nc Tryz.prog 146 1=some (1,1,false):=by kernel_rfl
theorem abC:fJ Tryz.prog 146=some [0,1]:=by kernel_rfl
theorem aa8:jK Tryz.prog 156=some (1,.bool false):=by kernel_rfl
theorem act:Cn Tryz.prog 166=some .u64:=by kernel_rfl
theorem aaY:pU Tryz.prog 173=some (2,true):=by kernel_rfl
theorem aal:ip Tryz.prog 173=some [.str [],.nilf]:=by kernel_rfl
theorem SR:nc Tryz.prog 173 0=some (0,1,false):=by kernel_rfl
theorem SQ:nc Tryz.prog 173 1=some (1,1,false):=by kernel_rfl
theorem abB:fJ Tryz.prog 173=some [0,1]:=by kernel_rfl
attribute [go_sem] aag Kh Kd Ka JY Kf it3 sz3 zt3 bo4 sz4
attribute [go_sem] it5
attribute [go_sem] st9 sz9
attribute [go_sem] afa
attribute [go_sem] ae6 ae9 ae5 ae1
attribute [go_sem] aeK ae8 ae4 ae0
attribute [go_sem] aeZ aeJ YP YO YN afr
attribute [go_sem] aeY aeI YM YL YK afq
attribute [go_sem] ae7 aeV ae3
attribute [go_sem] aeX
attribute [go_sem] aeW
attribute [go_sem] aeH YJ YI afp
attribute [go_sem] aa1 aan SW SV abD
attribute [go_sem] aa9 aa5
attribute [go_sem] aa0
attribute [go_sem] aaZ aam SU SS abC
attribute [go_sem] aa8
attribute [go_sem] act
attribute [go_sem] aaY aal SR SQ abB
end Go.Gl
