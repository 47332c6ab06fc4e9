/-
  The common ground of the contracts of this program's functions. Conditions: none.
-/
import Derived.Test.YtnoedblfedppkaaDoorGlC
import Derived.Test.YtnoedblfedppkaaDoorChecked
namespace Go.Gl
open Go Go.Proofs
def sg0 : FuncId → List Bool := fun _ => []
theorem sg0_eq {f : FuncId} : sg0 f = [] := rfl
theorem wayE_sg0 : wayE sg0 = false := _root_.id rfl
theorem wayN_sg0 : wayN sg0 = false := _root_.id rfl
theorem wayS_sg0 : wayS sg0 = false := _root_.id rfl
theorem wayZ_sg0 : wayZ sg0 = false := _root_.id rfl
theorem mo : Tryd.prog.follows .mixedOrders = true := Tryd.checked.mixed
theorem sz1 : szT Tryd.prog 1 = some (1, false) := by kernel_rfl
theorem it2 : intT Tryd.prog 2 = some .i64 := by kernel_rfl
theorem st2 : strT Tryd.prog 2 = false := by kernel_rfl
theorem sz2 : szT Tryd.prog 2 = some (1, false) := by kernel_rfl
theorem zt2 : zeroT Tryd.prog 2 = some [.int .i64 0] := by kernel_rfl
theorem it3 : intT Tryd.prog 3 = some .i64 := by kernel_rfl
theorem st3 : strT Tryd.prog 3 = false := by kernel_rfl
theorem sz3 : szT Tryd.prog 3 = some (1, false) := by kernel_rfl
theorem zt3 : zeroT Tryd.prog 3 = some [.int .i64 0] := by kernel_rfl
theorem bo4 : boolT Tryd.prog 4 = true := by kernel_rfl
theorem sz4 : szT Tryd.prog 4 = some (1, false) := by kernel_rfl
theorem zt4 : zeroT Tryd.prog 4 = some [.bool false] := by kernel_rfl
theorem it5 : intT Tryd.prog 5 = some .u8 := by kernel_rfl
theorem st5 : strT Tryd.prog 5 = false := by kernel_rfl
theorem sz5 : szT Tryd.prog 5 = some (1, false) := by kernel_rfl
theorem zt5 : zeroT Tryd.prog 5 = some [.int .u8 0] := by kernel_rfl
theorem it6 : intT Tryd.prog 6 = some .u8 := by kernel_rfl
theorem st6 : strT Tryd.prog 6 = false := by kernel_rfl
theorem sz6 : szT Tryd.prog 6 = some (1, false) := by kernel_rfl
theorem zt6 : zeroT Tryd.prog 6 = some [.int .u8 0] := by kernel_rfl
theorem sz7 : szT Tryd.prog 7 = some (4, true) := by kernel_rfl
theorem zt7 : zeroT Tryd.prog 7 = some [.int .i64 0, .int .i64 0, .bool false, .int .u8 0] := by kernel_rfl
theorem fd7x0 : fldT Tryd.prog 7 0 = some (0, 1, false) := by kernel_rfl
theorem fd7x1 : fldT Tryd.prog 7 1 = some (1, 1, false) := by kernel_rfl
theorem fd7x2 : fldT Tryd.prog 7 2 = some (2, 1, false) := by kernel_rfl
theorem fd7x3 : fldT Tryd.prog 7 3 = some (3, 1, false) := by kernel_rfl
theorem pl7 : placesT Tryd.prog 7 = some [0, 1, 2, 3] := by kernel_rfl
theorem sz8 : szT Tryd.prog 8 = some (4, true) := by kernel_rfl
theorem zt8 : zeroT Tryd.prog 8 = some [.int .i64 0, .int .i64 0, .bool false, .int .u8 0] := by kernel_rfl
theorem fd8x0 : fldT Tryd.prog 8 0 = some (0, 1, false) := by kernel_rfl
theorem fd8x1 : fldT Tryd.prog 8 1 = some (1, 1, false) := by kernel_rfl
theorem fd8x2 : fldT Tryd.prog 8 2 = some (2, 1, false) := by kernel_rfl
theorem fd8x3 : fldT Tryd.prog 8 3 = some (3, 1, false) := by kernel_rfl
theorem pl8 : placesT Tryd.prog 8 = some [0, 1, 2, 3] := by kernel_rfl
theorem st9 : strT Tryd.prog 9 = true := by kernel_rfl
theorem sz9 : szT Tryd.prog 9 = some (1, false) := by kernel_rfl
theorem zt9 : zeroT Tryd.prog 9 = some [.str []] := by kernel_rfl
theorem st10 : strT Tryd.prog 10 = true := by kernel_rfl
theorem sz10 : szT Tryd.prog 10 = some (1, false) := by kernel_rfl
theorem zt10 : zeroT Tryd.prog 10 = some [.str []] := by kernel_rfl
theorem st11 : strT Tryd.prog 11 = true := by kernel_rfl
theorem sz11 : szT Tryd.prog 11 = some (1, false) := by kernel_rfl
theorem zt11 : zeroT Tryd.prog 11 = some [.str []] := by kernel_rfl
theorem it12 : intT Tryd.prog 12 = some .u64 := by kernel_rfl
theorem st12 : strT Tryd.prog 12 = false := by kernel_rfl
theorem sz12 : szT Tryd.prog 12 = some (1, false) := by kernel_rfl
theorem zt12 : zeroT Tryd.prog 12 = some [.int .u64 0] := by kernel_rfl
theorem sz13 : szT Tryd.prog 13 = some (2, true) := by kernel_rfl
theorem zt13 : zeroT Tryd.prog 13 = some [.str [], .int .u64 0] := by kernel_rfl
theorem fd13x0 : fldT Tryd.prog 13 0 = some (0, 1, false) := by kernel_rfl
theorem fd13x1 : fldT Tryd.prog 13 1 = some (1, 1, false) := by kernel_rfl
theorem pl13 : placesT Tryd.prog 13 = some [0, 1] := by kernel_rfl
theorem sz14 : szT Tryd.prog 14 = some (2, true) := by kernel_rfl
theorem zt14 : zeroT Tryd.prog 14 = some [.str [], .int .u64 0] := by kernel_rfl
theorem fd14x0 : fldT Tryd.prog 14 0 = some (0, 1, false) := by kernel_rfl
theorem fd14x1 : fldT Tryd.prog 14 1 = some (1, 1, false) := by kernel_rfl
theorem pl14 : placesT Tryd.prog 14 = some [0, 1] := by kernel_rfl
theorem sz15 : szT Tryd.prog 15 = some (1, false) := by kernel_rfl
theorem sz16 : szT Tryd.prog 16 = some (1, false) := by kernel_rfl
theorem sz17 : szT Tryd.prog 17 = some (1, false) := by kernel_rfl
theorem sz18 : szT Tryd.prog 18 = some (1, true) := by kernel_rfl
theorem fd18x0 : fldT Tryd.prog 18 0 = some (0, 1, false) := by kernel_rfl
theorem pl18 : placesT Tryd.prog 18 = some [0] := by kernel_rfl
theorem sz19 : szT Tryd.prog 19 = some (1, true) := by kernel_rfl
theorem fd19x0 : fldT Tryd.prog 19 0 = some (0, 1, false) := by kernel_rfl
theorem pl19 : placesT Tryd.prog 19 = some [0] := by kernel_rfl
theorem it21 : intT Tryd.prog 21 = some .i32 := by kernel_rfl
theorem st21 : strT Tryd.prog 21 = false := by kernel_rfl
theorem sz21 : szT Tryd.prog 21 = some (1, false) := by kernel_rfl
theorem zt21 : zeroT Tryd.prog 21 = some [.int .i32 0] := by kernel_rfl
theorem sl22 : slT Tryd.prog 22 = some (8, .int .i64 0) := by kernel_rfl
theorem us22 : u8T Tryd.prog 22 = false := by kernel_rfl
theorem st22 : strT Tryd.prog 22 = false := by kernel_rfl
theorem sz22 : szT Tryd.prog 22 = some (1, false) := by kernel_rfl
theorem zt22 : zeroT Tryd.prog 22 = some [.sl (.lent false) []] := by kernel_rfl
theorem sl23 : slT Tryd.prog 23 = some (24, .sl (.lent false) []) := by kernel_rfl
theorem us23 : u8T Tryd.prog 23 = false := by kernel_rfl
theorem st23 : strT Tryd.prog 23 = false := by kernel_rfl
theorem sz23 : szT Tryd.prog 23 = some (1, false) := by kernel_rfl
theorem zt23 : zeroT Tryd.prog 23 = some [.sl (.lent false) []] := by kernel_rfl
theorem sz24 : szT Tryd.prog 24 = some (3, true) := by kernel_rfl
theorem zt24 : zeroT Tryd.prog 24 = some [.sl (.lent false) [], .sl (.lent false) [], .sl (.lent false) []] := by kernel_rfl
theorem fd24x0 : fldT Tryd.prog 24 0 = some (0, 1, false) := by kernel_rfl
theorem fd24x1 : fldT Tryd.prog 24 1 = some (1, 1, false) := by kernel_rfl
theorem fd24x2 : fldT Tryd.prog 24 2 = some (2, 1, false) := by kernel_rfl
theorem pl24 : placesT Tryd.prog 24 = some [0, 1, 2] := by kernel_rfl
theorem sz25 : szT Tryd.prog 25 = some (3, true) := by kernel_rfl
theorem zt25 : zeroT Tryd.prog 25 = some [.sl (.lent false) [], .sl (.lent false) [], .sl (.lent false) []] := by kernel_rfl
theorem fd25x0 : fldT Tryd.prog 25 0 = some (0, 1, false) := by kernel_rfl
theorem fd25x1 : fldT Tryd.prog 25 1 = some (1, 1, false) := by kernel_rfl
theorem fd25x2 : fldT Tryd.prog 25 2 = some (2, 1, false) := by kernel_rfl
theorem pl25 : placesT Tryd.prog 25 = some [0, 1, 2] := by kernel_rfl
theorem sz26 : szT Tryd.prog 26 = some (1, false) := by kernel_rfl
theorem sz27 : szT Tryd.prog 27 = some (1, false) := by kernel_rfl
theorem sz28 : szT Tryd.prog 28 = some (1, false) := by kernel_rfl
theorem sz29 : szT Tryd.prog 29 = some (1, false) := by kernel_rfl
theorem sz30 : szT Tryd.prog 30 = some (1, false) := by kernel_rfl
theorem sz31 : szT Tryd.prog 31 = some (1, false) := by kernel_rfl
theorem sz32 : szT Tryd.prog 32 = some (1, false) := by kernel_rfl
theorem sz33 : szT Tryd.prog 33 = some (1, false) := by kernel_rfl
theorem sl34 : slT Tryd.prog 34 = some (1, .int .u8 0) := by kernel_rfl
theorem us34 : u8T Tryd.prog 34 = true := by kernel_rfl
theorem st34 : strT Tryd.prog 34 = false := by kernel_rfl
theorem sz34 : szT Tryd.prog 34 = some (1, false) := by kernel_rfl
theorem zt34 : zeroT Tryd.prog 34 = some [.sl (.lent false) []] := by kernel_rfl
theorem sz35 : szT Tryd.prog 35 = some (1, false) := by kernel_rfl
theorem sz36 : szT Tryd.prog 36 = some (1, false) := by kernel_rfl
theorem sz37 : szT Tryd.prog 37 = some (1, false) := by kernel_rfl
theorem sz39 : szT Tryd.prog 39 = some (1, false) := by kernel_rfl
theorem sz41 : szT Tryd.prog 41 = some (1, false) := by kernel_rfl
theorem sz43 : szT Tryd.prog 43 = some (1, false) := by kernel_rfl
theorem sz44 : szT Tryd.prog 44 = some (1, false) := by kernel_rfl
theorem sz45 : szT Tryd.prog 45 = some (1, false) := by kernel_rfl
theorem sz46 : szT Tryd.prog 46 = some (1, false) := by kernel_rfl
theorem it47 : intT Tryd.prog 47 = some .u64 := by kernel_rfl
theorem st47 : strT Tryd.prog 47 = false := by kernel_rfl
theorem sz47 : szT Tryd.prog 47 = some (1, false) := by kernel_rfl
theorem zt47 : zeroT Tryd.prog 47 = some [.int .u64 0] := by kernel_rfl
theorem sz49 : szT Tryd.prog 49 = some (1, false) := by kernel_rfl
theorem sz50 : szT Tryd.prog 50 = some (1, false) := by kernel_rfl
theorem sz51 : szT Tryd.prog 51 = some (1, false) := by kernel_rfl
theorem sz53 : szT Tryd.prog 53 = some (1, false) := by kernel_rfl
theorem sz54 : szT Tryd.prog 54 = some (1, false) := by kernel_rfl
theorem sz55 : szT Tryd.prog 55 = some (1, false) := by kernel_rfl
theorem sz56 : szT Tryd.prog 56 = some (1, false) := by kernel_rfl
theorem sz57 : szT Tryd.prog 57 = some (1, false) := by kernel_rfl
theorem sz59 : szT Tryd.prog 59 = some (1, false) := by kernel_rfl
theorem sz60 : szT Tryd.prog 60 = some (1, false) := by kernel_rfl
theorem sl61 : slT Tryd.prog 61 = some (16, .str []) := by kernel_rfl
theorem us61 : u8T Tryd.prog 61 = false := by kernel_rfl
theorem st61 : strT Tryd.prog 61 = false := by kernel_rfl
theorem sz61 : szT Tryd.prog 61 = some (1, false) := by kernel_rfl
theorem zt61 : zeroT Tryd.prog 61 = some [.sl (.lent false) []] := by kernel_rfl
theorem mt62 : mapT Tryd.prog 62 = some (5, (.sl .own [])) := by kernel_rfl
theorem ky62 : Maps.Keyed Tryd.prog 5 := Maps.int_keyed (show Tryd.prog.underlying 5 = some (.int .u8) by kernel_rfl)
theorem sz63 : szT Tryd.prog 63 = some (1, false) := by kernel_rfl
theorem sz64 : szT Tryd.prog 64 = some (1, false) := by kernel_rfl
theorem sz65 : szT Tryd.prog 65 = some (1, false) := by kernel_rfl
theorem sz66 : szT Tryd.prog 66 = some (1, false) := by kernel_rfl
theorem sz67 : szT Tryd.prog 67 = some (1, false) := by kernel_rfl
theorem sz68 : szT Tryd.prog 68 = some (1, false) := by kernel_rfl
theorem sz69 : szT Tryd.prog 69 = some (1, false) := by kernel_rfl
theorem sz70 : szT Tryd.prog 70 = some (1, false) := by kernel_rfl
theorem sz71 : szT Tryd.prog 71 = some (1, false) := by kernel_rfl
theorem sz72 : szT Tryd.prog 72 = some (1, false) := by kernel_rfl
theorem sz73 : szT Tryd.prog 73 = some (1, false) := by kernel_rfl
theorem sz74 : szT Tryd.prog 74 = some (1, false) := by kernel_rfl
theorem sz75 : szT Tryd.prog 75 = some (1, false) := by kernel_rfl
theorem sz76 : szT Tryd.prog 76 = some (1, false) := by kernel_rfl
theorem sz77 : szT Tryd.prog 77 = some (1, false) := by kernel_rfl
theorem sz79 : szT Tryd.prog 79 = some (1, false) := by kernel_rfl
theorem sz80 : szT Tryd.prog 80 = some (1, false) := by kernel_rfl
theorem sz81 : szT Tryd.prog 81 = some (1, false) := by kernel_rfl
theorem sz82 : szT Tryd.prog 82 = some (3, true) := by kernel_rfl
theorem zt82 : zeroT Tryd.prog 82 = some [.sl (.lent false) [], .int .i64 0, .int .i64 0] := by kernel_rfl
theorem fd82x0 : fldT Tryd.prog 82 0 = some (0, 1, false) := by kernel_rfl
theorem fd82x1 : fldT Tryd.prog 82 1 = some (1, 1, false) := by kernel_rfl
theorem fd82x2 : fldT Tryd.prog 82 2 = some (2, 1, false) := by kernel_rfl
theorem pl82 : placesT Tryd.prog 82 = some [0, 1, 2] := by kernel_rfl
theorem sz83 : szT Tryd.prog 83 = some (3, true) := by kernel_rfl
theorem zt83 : zeroT Tryd.prog 83 = some [.sl (.lent false) [], .int .i64 0, .int .i64 0] := by kernel_rfl
theorem fd83x0 : fldT Tryd.prog 83 0 = some (0, 1, false) := by kernel_rfl
theorem fd83x1 : fldT Tryd.prog 83 1 = some (1, 1, false) := by kernel_rfl
theorem fd83x2 : fldT Tryd.prog 83 2 = some (2, 1, false) := by kernel_rfl
theorem pl83 : placesT Tryd.prog 83 = some [0, 1, 2] := by kernel_rfl
theorem sl84 : slT Tryd.prog 84 = some (1, .bool false) := by kernel_rfl
theorem us84 : u8T Tryd.prog 84 = false := by kernel_rfl
theorem st84 : strT Tryd.prog 84 = false := by kernel_rfl
theorem sz84 : szT Tryd.prog 84 = some (1, false) := by kernel_rfl
theorem zt84 : zeroT Tryd.prog 84 = some [.sl (.lent false) []] := by kernel_rfl
theorem sz85 : szT Tryd.prog 85 = some (1, false) := by kernel_rfl
theorem sz86 : szT Tryd.prog 86 = some (1, false) := by kernel_rfl
theorem sz87 : szT Tryd.prog 87 = some (1, false) := by kernel_rfl
theorem sz88 : szT Tryd.prog 88 = some (1, false) := by kernel_rfl
theorem sz89 : szT Tryd.prog 89 = some (1, false) := by kernel_rfl
theorem sz90 : szT Tryd.prog 90 = some (1, false) := by kernel_rfl
theorem sz91 : szT Tryd.prog 91 = some (1, false) := by kernel_rfl
theorem sz92 : szT Tryd.prog 92 = some (1, false) := by kernel_rfl
theorem sz93 : szT Tryd.prog 93 = some (1, false) := by kernel_rfl
theorem sz94 : szT Tryd.prog 94 = some (1, false) := by kernel_rfl
theorem sz95 : szT Tryd.prog 95 = some (1, false) := by kernel_rfl
theorem sz96 : szT Tryd.prog 96 = some (1, false) := by kernel_rfl
theorem sz97 : szT Tryd.prog 97 = some (1, false) := by kernel_rfl
theorem sz98 : szT Tryd.prog 98 = some (1, false) := by kernel_rfl
theorem sz99 : szT Tryd.prog 99 = some (1, false) := by kernel_rfl
theorem sz100 : szT Tryd.prog 100 = some (1, false) := by kernel_rfl
theorem sz101 : szT Tryd.prog 101 = some (2, true) := by kernel_rfl
theorem fd101x0 : fldT Tryd.prog 101 0 = some (0, 1, false) := by kernel_rfl
theorem fd101x1 : fldT Tryd.prog 101 1 = some (1, 1, false) := by kernel_rfl
theorem pl101 : placesT Tryd.prog 101 = some [0, 1] := by kernel_rfl
theorem sz102 : szT Tryd.prog 102 = some (2, true) := by kernel_rfl
theorem fd102x0 : fldT Tryd.prog 102 0 = some (0, 1, false) := by kernel_rfl
theorem fd102x1 : fldT Tryd.prog 102 1 = some (1, 1, false) := by kernel_rfl
theorem pl102 : placesT Tryd.prog 102 = some [0, 1] := by kernel_rfl
theorem sz103 : szT Tryd.prog 103 = some (1, false) := by kernel_rfl
theorem sz107 : szT Tryd.prog 107 = some (1, false) := by kernel_rfl
theorem sz108 : szT Tryd.prog 108 = some (1, false) := by kernel_rfl
theorem sz109 : szT Tryd.prog 109 = some (1, false) := by kernel_rfl
theorem sz110 : szT Tryd.prog 110 = some (1, false) := by kernel_rfl
theorem sz111 : szT Tryd.prog 111 = some (1, false) := by kernel_rfl
theorem sz112 : szT Tryd.prog 112 = some (1, false) := by kernel_rfl
theorem sz113 : szT Tryd.prog 113 = some (1, false) := by kernel_rfl
theorem sz114 : szT Tryd.prog 114 = some (1, false) := by kernel_rfl
theorem sz115 : szT Tryd.prog 115 = some (1, false) := by kernel_rfl
theorem sz116 : szT Tryd.prog 116 = some (1, false) := by kernel_rfl
theorem sz117 : szT Tryd.prog 117 = some (1, false) := by kernel_rfl
theorem sz118 : szT Tryd.prog 118 = some (1, false) := by kernel_rfl
theorem sz119 : szT Tryd.prog 119 = some (1, false) := by kernel_rfl
theorem sz121 : szT Tryd.prog 121 = some (1, false) := by kernel_rfl
theorem sz122 : szT Tryd.prog 122 = some (1, false) := by kernel_rfl
theorem sz123 : szT Tryd.prog 123 = some (1, false) := by kernel_rfl
theorem sz124 : szT Tryd.prog 124 = some (1, false) := by kernel_rfl
theorem sz125 : szT Tryd.prog 125 = some (1, false) := by kernel_rfl
theorem sz127 : szT Tryd.prog 127 = some (1, false) := by kernel_rfl
theorem sz128 : szT Tryd.prog 128 = some (1, false) := by kernel_rfl
theorem sz129 : szT Tryd.prog 129 = some (24, true) := by kernel_rfl
theorem pl129 : placesT Tryd.prog 129 = some [0, 1, 2, 3, 4, 5, 6, 7, 8, 9, 10, 11, 12, 13, 14, 15, 16, 17, 18, 19, 20, 21, 22, 23] := by kernel_rfl
theorem zt129 : zeroT Tryd.prog 129 = some [.int .u8 0, .int .u8 0, .int .u8 0, .int .u8 0, .int .u8 0, .int .u8 0, .int .u8 0, .int .u8 0, .int .u8 0, .int .u8 0, .int .u8 0, .int .u8 0, .int .u8 0, .int .u8 0, .int .u8 0, .int .u8 0, .int .u8 0, .int .u8 0, .int .u8 0, .int .u8 0, .int .u8 0, .int .u8 0, .int .u8 0, .int .u8 0] := by kernel_rfl
theorem it130 : intT Tryd.prog 130 = some .u64 := by kernel_rfl
theorem st130 : strT Tryd.prog 130 = false := by kernel_rfl
theorem sz130 : szT Tryd.prog 130 = some (1, false) := by kernel_rfl
theorem zt130 : zeroT Tryd.prog 130 = some [.int .u64 0] := by kernel_rfl
theorem sz131 : szT Tryd.prog 131 = some (1, false) := by kernel_rfl
theorem sz132 : szT Tryd.prog 132 = some (1, false) := by kernel_rfl
theorem sz134 : szT Tryd.prog 134 = some (1, false) := by kernel_rfl
theorem sz135 : szT Tryd.prog 135 = some (1, false) := by kernel_rfl
theorem sz136 : szT Tryd.prog 136 = some (1, false) := by kernel_rfl
theorem sz137 : szT Tryd.prog 137 = some (20, true) := by kernel_rfl
theorem pl137 : placesT Tryd.prog 137 = some [0, 1, 2, 3, 4, 5, 6, 7, 8, 9, 10, 11, 12, 13, 14, 15, 16, 17, 18, 19] := by kernel_rfl
theorem zt137 : zeroT Tryd.prog 137 = some [.int .u64 0, .int .u64 0, .int .u64 0, .int .u64 0, .int .u64 0, .int .u64 0, .int .u64 0, .int .u64 0, .int .u64 0, .int .u64 0, .int .u64 0, .int .u64 0, .int .u64 0, .int .u64 0, .int .u64 0, .int .u64 0, .int .u64 0, .int .u64 0, .int .u64 0, .int .u64 0] := by kernel_rfl
theorem it138 : intT Tryd.prog 138 = some .u32 := by kernel_rfl
theorem st138 : strT Tryd.prog 138 = false := by kernel_rfl
theorem sz138 : szT Tryd.prog 138 = some (1, false) := by kernel_rfl
theorem zt138 : zeroT Tryd.prog 138 = some [.int .u32 0] := by kernel_rfl
theorem sz140 : szT Tryd.prog 140 = some (1, false) := by kernel_rfl
theorem sz142 : szT Tryd.prog 142 = some (2, true) := by kernel_rfl
theorem zt142 : zeroT Tryd.prog 142 = some [.int .u8 0, .int .u8 0] := by kernel_rfl
theorem fd142x0 : fldT Tryd.prog 142 0 = some (0, 1, false) := by kernel_rfl
theorem fd142x1 : fldT Tryd.prog 142 1 = some (1, 1, false) := by kernel_rfl
theorem pl142 : placesT Tryd.prog 142 = some [0, 1] := by kernel_rfl
theorem sz143 : szT Tryd.prog 143 = some (2, true) := by kernel_rfl
theorem zt143 : zeroT Tryd.prog 143 = some [.int .u8 0, .int .u8 0] := by kernel_rfl
theorem fd143x0 : fldT Tryd.prog 143 0 = some (0, 1, false) := by kernel_rfl
theorem fd143x1 : fldT Tryd.prog 143 1 = some (1, 1, false) := by kernel_rfl
theorem pl143 : placesT Tryd.prog 143 = some [0, 1] := by kernel_rfl
theorem sz144 : szT Tryd.prog 144 = some (32, true) := by kernel_rfl
theorem sz146 : szT Tryd.prog 146 = some (1, false) := by kernel_rfl
theorem sz147 : szT Tryd.prog 147 = some (1, false) := by kernel_rfl
theorem sz148 : szT Tryd.prog 148 = some (32, true) := by kernel_rfl
theorem pl148 : placesT Tryd.prog 148 = some [0, 1, 2, 3, 4, 5, 6, 7, 8, 9, 10, 11, 12, 13, 14, 15, 16, 17, 18, 19, 20, 21, 22, 23, 24, 25, 26, 27, 28, 29, 30, 31] := by kernel_rfl
theorem zt148 : zeroT Tryd.prog 148 = some [.int .u8 0, .int .u8 0, .int .u8 0, .int .u8 0, .int .u8 0, .int .u8 0, .int .u8 0, .int .u8 0, .int .u8 0, .int .u8 0, .int .u8 0, .int .u8 0, .int .u8 0, .int .u8 0, .int .u8 0, .int .u8 0, .int .u8 0, .int .u8 0, .int .u8 0, .int .u8 0, .int .u8 0, .int .u8 0, .int .u8 0, .int .u8 0, .int .u8 0, .int .u8 0, .int .u8 0, .int .u8 0, .int .u8 0, .int .u8 0, .int .u8 0, .int .u8 0] := by kernel_rfl
theorem sz149 : szT Tryd.prog 149 = some (64, true) := by kernel_rfl
theorem pl149 : placesT Tryd.prog 149 = some [0, 1, 2, 3, 4, 5, 6, 7, 8, 9, 10, 11, 12, 13, 14, 15, 16, 17, 18, 19, 20, 21, 22, 23, 24, 25, 26, 27, 28, 29, 30, 31, 32, 33, 34, 35, 36, 37, 38, 39, 40, 41, 42, 43, 44, 45, 46, 47, 48, 49, 50, 51, 52, 53, 54, 55, 56, 57, 58, 59, 60, 61, 62, 63] := by kernel_rfl
theorem zt149 : zeroT Tryd.prog 149 = some [.int .u8 0, .int .u8 0, .int .u8 0, .int .u8 0, .int .u8 0, .int .u8 0, .int .u8 0, .int .u8 0, .int .u8 0, .int .u8 0, .int .u8 0, .int .u8 0, .int .u8 0, .int .u8 0, .int .u8 0, .int .u8 0, .int .u8 0, .int .u8 0, .int .u8 0, .int .u8 0, .int .u8 0, .int .u8 0, .int .u8 0, .int .u8 0, .int .u8 0, .int .u8 0, .int .u8 0, .int .u8 0, .int .u8 0, .int .u8 0, .int .u8 0, .int .u8 0, .int .u8 0, .int .u8 0, .int .u8 0, .int .u8 0, .int .u8 0, .int .u8 0, .int .u8 0, .int .u8 0, .int .u8 0, .int .u8 0, .int .u8 0, .int .u8 0, .int .u8 0, .int .u8 0, .int .u8 0, .int .u8 0, .int .u8 0, .int .u8 0, .int .u8 0, .int .u8 0, .int .u8 0, .int .u8 0, .int .u8 0, .int .u8 0, .int .u8 0, .int .u8 0, .int .u8 0, .int .u8 0, .int .u8 0, .int .u8 0, .int .u8 0, .int .u8 0] := by kernel_rfl
theorem sz150 : szT Tryd.prog 150 = some (4, true) := by kernel_rfl
theorem fd150x0 : fldT Tryd.prog 150 0 = some (0, 1, false) := by kernel_rfl
theorem fd150x1 : fldT Tryd.prog 150 1 = some (1, 1, false) := by kernel_rfl
theorem fd150x2 : fldT Tryd.prog 150 2 = some (2, 1, false) := by kernel_rfl
theorem fd150x3 : fldT Tryd.prog 150 3 = some (3, 1, false) := by kernel_rfl
theorem pl150 : placesT Tryd.prog 150 = some [0, 1, 2, 3] := by kernel_rfl
theorem sz151 : szT Tryd.prog 151 = some (4, true) := by kernel_rfl
theorem fd151x0 : fldT Tryd.prog 151 0 = some (0, 1, false) := by kernel_rfl
theorem fd151x1 : fldT Tryd.prog 151 1 = some (1, 1, false) := by kernel_rfl
theorem fd151x2 : fldT Tryd.prog 151 2 = some (2, 1, false) := by kernel_rfl
theorem fd151x3 : fldT Tryd.prog 151 3 = some (3, 1, false) := by kernel_rfl
theorem pl151 : placesT Tryd.prog 151 = some [0, 1, 2, 3] := by kernel_rfl
theorem sz152 : szT Tryd.prog 152 = some (0, true) := by kernel_rfl
theorem sz153 : szT Tryd.prog 153 = some (0, true) := by kernel_rfl
theorem fd153x0 : fldT Tryd.prog 153 0 = some (0, 0, true) := by kernel_rfl
theorem sz154 : szT Tryd.prog 154 = some (0, true) := by kernel_rfl
theorem fd154x0 : fldT Tryd.prog 154 0 = some (0, 0, true) := by kernel_rfl
theorem sz155 : szT Tryd.prog 155 = some (1, false) := by kernel_rfl
theorem it156 : intT Tryd.prog 156 = some .u8 := by kernel_rfl
theorem st156 : strT Tryd.prog 156 = false := by kernel_rfl
theorem sz156 : szT Tryd.prog 156 = some (1, false) := by kernel_rfl
theorem zt156 : zeroT Tryd.prog 156 = some [.int .u8 0] := by kernel_rfl
theorem it157 : intT Tryd.prog 157 = some .u8 := by kernel_rfl
theorem st157 : strT Tryd.prog 157 = false := by kernel_rfl
theorem sz157 : szT Tryd.prog 157 = some (1, false) := by kernel_rfl
theorem zt157 : zeroT Tryd.prog 157 = some [.int .u8 0] := by kernel_rfl
theorem sz158 : szT Tryd.prog 158 = some (1, false) := by kernel_rfl
theorem it159 : intT Tryd.prog 159 = some .i32 := by kernel_rfl
theorem st159 : strT Tryd.prog 159 = false := by kernel_rfl
theorem sz159 : szT Tryd.prog 159 = some (1, false) := by kernel_rfl
theorem zt159 : zeroT Tryd.prog 159 = some [.int .i32 0] := by kernel_rfl
theorem it160 : intT Tryd.prog 160 = some .i32 := by kernel_rfl
theorem st160 : strT Tryd.prog 160 = false := by kernel_rfl
theorem sz160 : szT Tryd.prog 160 = some (1, false) := by kernel_rfl
theorem zt160 : zeroT Tryd.prog 160 = some [.int .i32 0] := by kernel_rfl
theorem sz161 : szT Tryd.prog 161 = some (11, true) := by kernel_rfl
theorem fd161x0 : fldT Tryd.prog 161 0 = some (0, 1, false) := by kernel_rfl
theorem fd161x1 : fldT Tryd.prog 161 1 = some (1, 1, false) := by kernel_rfl
theorem fd161x2 : fldT Tryd.prog 161 2 = some (2, 1, false) := by kernel_rfl
theorem fd161x3 : fldT Tryd.prog 161 3 = some (3, 1, false) := by kernel_rfl
theorem fd161x4 : fldT Tryd.prog 161 4 = some (4, 1, false) := by kernel_rfl
theorem fd161x5 : fldT Tryd.prog 161 5 = some (5, 1, false) := by kernel_rfl
theorem fd161x6 : fldT Tryd.prog 161 6 = some (6, 1, false) := by kernel_rfl
theorem fd161x7 : fldT Tryd.prog 161 7 = some (7, 1, false) := by kernel_rfl
theorem fd161x8 : fldT Tryd.prog 161 8 = some (8, 1, false) := by kernel_rfl
theorem fd161x9 : fldT Tryd.prog 161 9 = some (9, 1, false) := by kernel_rfl
theorem fd161x10 : fldT Tryd.prog 161 10 = some (10, 1, false) := by kernel_rfl
theorem pl161 : placesT Tryd.prog 161 = some [0, 1, 2, 3, 4, 5, 6, 7, 8, 9, 10] := by kernel_rfl
theorem sz162 : szT Tryd.prog 162 = some (11, true) := by kernel_rfl
theorem fd162x0 : fldT Tryd.prog 162 0 = some (0, 1, false) := by kernel_rfl
theorem fd162x1 : fldT Tryd.prog 162 1 = some (1, 1, false) := by kernel_rfl
theorem fd162x2 : fldT Tryd.prog 162 2 = some (2, 1, false) := by kernel_rfl
theorem fd162x3 : fldT Tryd.prog 162 3 = some (3, 1, false) := by kernel_rfl
theorem fd162x4 : fldT Tryd.prog 162 4 = some (4, 1, false) := by kernel_rfl
theorem fd162x5 : fldT Tryd.prog 162 5 = some (5, 1, false) := by kernel_rfl
theorem fd162x6 : fldT Tryd.prog 162 6 = some (6, 1, false) := by kernel_rfl
theorem fd162x7 : fldT Tryd.prog 162 7 = some (7, 1, false) := by kernel_rfl
theorem fd162x8 : fldT Tryd.prog 162 8 = some (8, 1, false) := by kernel_rfl
theorem fd162x9 : fldT Tryd.prog 162 9 = some (9, 1, false) := by kernel_rfl
theorem fd162x10 : fldT Tryd.prog 162 10 = some (10, 1, false) := by kernel_rfl
theorem pl162 : placesT Tryd.prog 162 = some [0, 1, 2, 3, 4, 5, 6, 7, 8, 9, 10] := by kernel_rfl
attribute [go_sem] sg0_eq wayE_sg0 wayN_sg0 wayS_sg0 wayZ_sg0 sz1 it2 st2 sz2 zt2 it3 st3 sz3 zt3 bo4 sz4 zt4
attribute [go_sem] it5 st5 sz5 zt5 it6 st6 sz6 zt6 sz7 zt7 fd7x0 fd7x1
attribute [go_sem] fd7x2 fd7x3 pl7 sz8 zt8 fd8x0 fd8x1 fd8x2 fd8x3 pl8 st9 sz9
attribute [go_sem] zt9 st10 sz10 zt10 st11 sz11 zt11 it12 st12 sz12 zt12 sz13
attribute [go_sem] zt13 fd13x0 fd13x1 pl13 sz14 zt14 fd14x0 fd14x1 pl14 sz15 sz16 sz17
attribute [go_sem] sz18 fd18x0 pl18 sz19 fd19x0 pl19 it21 st21 sz21 zt21 sl22 us22
attribute [go_sem] st22 sz22 zt22 sl23 us23 st23 sz23 zt23 sz24 zt24 fd24x0 fd24x1
attribute [go_sem] fd24x2 pl24 sz25 zt25 fd25x0 fd25x1 fd25x2 pl25 sz26 sz27 sz28 sz29
attribute [go_sem] sz30 sz31 sz32 sz33 sl34 us34 st34 sz34 zt34 sz35 sz36 sz37
attribute [go_sem] sz39 sz41 sz43 sz44 sz45 sz46 it47 st47 sz47 zt47 sz49 sz50
attribute [go_sem] sz51 sz53 sz54 sz55 sz56 sz57 sz59 sz60 sl61 us61 st61 sz61
attribute [go_sem] zt61 mt62 ky62 sz63 sz64 sz65 sz66 sz67 sz68 sz69 sz70 sz71
attribute [go_sem] sz72 sz73 sz74 sz75 sz76 sz77 sz79 sz80 sz81 sz82 zt82 fd82x0
attribute [go_sem] fd82x1 fd82x2 pl82 sz83 zt83 fd83x0 fd83x1 fd83x2 pl83 sl84 us84 st84
attribute [go_sem] sz84 zt84 sz85 sz86 sz87 sz88 sz89 sz90 sz91 sz92 sz93 sz94
attribute [go_sem] sz95 sz96 sz97 sz98 sz99 sz100 sz101 fd101x0 fd101x1 pl101 sz102 fd102x0
attribute [go_sem] fd102x1 pl102 sz103 sz107 sz108 sz109 sz110 sz111 sz112 sz113 sz114 sz115
attribute [go_sem] sz116 sz117 sz118 sz119 sz121 sz122 sz123 sz124 sz125 sz127 sz128 sz129
attribute [go_sem] pl129 zt129 it130 st130 sz130 zt130 sz131 sz132 sz134 sz135 sz136 sz137
attribute [go_sem] pl137 zt137 it138 st138 sz138 zt138 sz140 sz142 zt142 fd142x0 fd142x1 pl142
attribute [go_sem] sz143 zt143 fd143x0 fd143x1 pl143 sz144 sz146 sz147 sz148 pl148 zt148 sz149
attribute [go_sem] pl149 zt149 sz150 fd150x0 fd150x1 fd150x2 fd150x3 pl150 sz151 fd151x0 fd151x1 fd151x2
attribute [go_sem] fd151x3 pl151 sz152 sz153 fd153x0 sz154 fd154x0 sz155 it156 st156 sz156 zt156
attribute [go_sem] it157 st157 sz157 zt157 sz158 it159 st159 sz159 zt159 it160 st160 sz160
attribute [go_sem] zt160 sz161 fd161x0 fd161x1 fd161x2 fd161x3 fd161x4 fd161x5 fd161x6 fd161x7 fd161x8 fd161x9
attribute [go_sem] fd161x10 pl161 sz162 fd162x0 fd162x1 fd162x2 fd162x3 fd162x4 fd162x5 fd162x6 fd162x7 fd162x8
attribute [go_sem] fd162x9 fd162x10 pl162
end Go.Gl
