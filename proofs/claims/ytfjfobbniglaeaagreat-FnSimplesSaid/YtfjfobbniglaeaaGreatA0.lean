/-
 The common ground of the contracts of this program's functions. Conditions: none.
-/
import Derived.Test.YtfjfobbniglaeaaGreatGlE
import Derived.Test.YtfjfobbniglaeaaGreatChecked
namespace Go.Gl
open Go Go.Proofs
def sg0 : FuncId → List Bool := fun _ => []
theorem sg0_eq {f : FuncId} : sg0 f = [] := rfl
theorem wayE_sg0 : wayE sg0 = false := _root_.id rfl
theorem wayN_sg0 : wayN sg0 = false := _root_.id rfl
theorem wayS_sg0 : wayS sg0 = false := _root_.id rfl
theorem wayZ_sg0 : wayZ sg0 = false := _root_.id rfl
theorem wayM_sg0 : wayM sg0 = false := _root_.id rfl
theorem mo : Tryz.prog.follows .mixedOrders = true := Tryz.checked.mixed
theorem sz1 : szT Tryz.prog 1 = some (1, false) := by kernel_rfl
theorem it2 : intT Tryz.prog 2 = some .i64 := by kernel_rfl
theorem st2 : strT Tryz.prog 2 = false := by kernel_rfl
theorem sz2 : szT Tryz.prog 2 = some (1, false) := by kernel_rfl
theorem zt2 : zeroT Tryz.prog 2 = some [.int .i64 0] := by kernel_rfl
theorem it3 : intT Tryz.prog 3 = some .i64 := by kernel_rfl
theorem st3 : strT Tryz.prog 3 = false := by kernel_rfl
theorem sz3 : szT Tryz.prog 3 = some (1, false) := by kernel_rfl
theorem zt3 : zeroT Tryz.prog 3 = some [.int .i64 0] := by kernel_rfl
theorem bo4 : boolT Tryz.prog 4 = true := by kernel_rfl
theorem sz4 : szT Tryz.prog 4 = some (1, false) := by kernel_rfl
theorem zt4 : zeroT Tryz.prog 4 = some [.bool false] := by kernel_rfl
theorem it5 : intT Tryz.prog 5 = some .u8 := by kernel_rfl
theorem st5 : strT Tryz.prog 5 = false := by kernel_rfl
theorem sz5 : szT Tryz.prog 5 = some (1, false) := by kernel_rfl
theorem zt5 : zeroT Tryz.prog 5 = some [.int .u8 0] := by kernel_rfl
theorem it6 : intT Tryz.prog 6 = some .u8 := by kernel_rfl
theorem st6 : strT Tryz.prog 6 = false := by kernel_rfl
theorem sz6 : szT Tryz.prog 6 = some (1, false) := by kernel_rfl
theorem zt6 : zeroT Tryz.prog 6 = some [.int .u8 0] := by kernel_rfl
theorem sz7 : szT Tryz.prog 7 = some (4, true) := by kernel_rfl
theorem zt7 : zeroT Tryz.prog 7 = some [.int .i64 0, .int .i64 0, .bool false, .int .u8 0] := by kernel_rfl
theorem fd7x0 : fldT Tryz.prog 7 0 = some (0, 1, false) := by kernel_rfl
theorem fd7x1 : fldT Tryz.prog 7 1 = some (1, 1, false) := by kernel_rfl
theorem fd7x2 : fldT Tryz.prog 7 2 = some (2, 1, false) := by kernel_rfl
theorem fd7x3 : fldT Tryz.prog 7 3 = some (3, 1, false) := by kernel_rfl
theorem pl7 : placesT Tryz.prog 7 = some [0, 1, 2, 3] := by kernel_rfl
theorem sz8 : szT Tryz.prog 8 = some (4, true) := by kernel_rfl
theorem zt8 : zeroT Tryz.prog 8 = some [.int .i64 0, .int .i64 0, .bool false, .int .u8 0] := by kernel_rfl
theorem fd8x0 : fldT Tryz.prog 8 0 = some (0, 1, false) := by kernel_rfl
theorem fd8x1 : fldT Tryz.prog 8 1 = some (1, 1, false) := by kernel_rfl
theorem fd8x2 : fldT Tryz.prog 8 2 = some (2, 1, false) := by kernel_rfl
theorem fd8x3 : fldT Tryz.prog 8 3 = some (3, 1, false) := by kernel_rfl
theorem pl8 : placesT Tryz.prog 8 = some [0, 1, 2, 3] := by kernel_rfl
theorem st9 : strT Tryz.prog 9 = true := by kernel_rfl
theorem sz9 : szT Tryz.prog 9 = some (1, false) := by kernel_rfl
theorem zt9 : zeroT Tryz.prog 9 = some [.str []] := by kernel_rfl
theorem st10 : strT Tryz.prog 10 = true := by kernel_rfl
theorem sz10 : szT Tryz.prog 10 = some (1, false) := by kernel_rfl
theorem zt10 : zeroT Tryz.prog 10 = some [.str []] := by kernel_rfl
theorem st11 : strT Tryz.prog 11 = true := by kernel_rfl
theorem sz11 : szT Tryz.prog 11 = some (1, false) := by kernel_rfl
theorem zt11 : zeroT Tryz.prog 11 = some [.str []] := by kernel_rfl
theorem it12 : intT Tryz.prog 12 = some .u64 := by kernel_rfl
theorem st12 : strT Tryz.prog 12 = false := by kernel_rfl
theorem sz12 : szT Tryz.prog 12 = some (1, false) := by kernel_rfl
theorem zt12 : zeroT Tryz.prog 12 = some [.int .u64 0] := by kernel_rfl
theorem sz13 : szT Tryz.prog 13 = some (2, true) := by kernel_rfl
theorem zt13 : zeroT Tryz.prog 13 = some [.str [], .int .u64 0] := by kernel_rfl
theorem fd13x0 : fldT Tryz.prog 13 0 = some (0, 1, false) := by kernel_rfl
theorem fd13x1 : fldT Tryz.prog 13 1 = some (1, 1, false) := by kernel_rfl
theorem pl13 : placesT Tryz.prog 13 = some [0, 1] := by kernel_rfl
theorem sz14 : szT Tryz.prog 14 = some (2, true) := by kernel_rfl
theorem zt14 : zeroT Tryz.prog 14 = some [.str [], .int .u64 0] := by kernel_rfl
theorem fd14x0 : fldT Tryz.prog 14 0 = some (0, 1, false) := by kernel_rfl
theorem fd14x1 : fldT Tryz.prog 14 1 = some (1, 1, false) := by kernel_rfl
theorem pl14 : placesT Tryz.prog 14 = some [0, 1] := by kernel_rfl
theorem sz15 : szT Tryz.prog 15 = some (1, false) := by kernel_rfl
theorem sz16 : szT Tryz.prog 16 = some (1, false) := by kernel_rfl
theorem sz17 : szT Tryz.prog 17 = some (1, false) := by kernel_rfl
theorem sz18 : szT Tryz.prog 18 = some (1, true) := by kernel_rfl
theorem fd18x0 : fldT Tryz.prog 18 0 = some (0, 1, false) := by kernel_rfl
theorem pl18 : placesT Tryz.prog 18 = some [0] := by kernel_rfl
theorem sz19 : szT Tryz.prog 19 = some (1, true) := by kernel_rfl
theorem fd19x0 : fldT Tryz.prog 19 0 = some (0, 1, false) := by kernel_rfl
theorem pl19 : placesT Tryz.prog 19 = some [0] := by kernel_rfl
theorem it21 : intT Tryz.prog 21 = some .i32 := by kernel_rfl
theorem st21 : strT Tryz.prog 21 = false := by kernel_rfl
theorem sz21 : szT Tryz.prog 21 = some (1, false) := by kernel_rfl
theorem zt21 : zeroT Tryz.prog 21 = some [.int .i32 0] := by kernel_rfl
theorem sl22 : slT Tryz.prog 22 = some (1, .int .u8 0) := by kernel_rfl
theorem us22 : u8T Tryz.prog 22 = true := by kernel_rfl
theorem st22 : strT Tryz.prog 22 = false := by kernel_rfl
theorem sz22 : szT Tryz.prog 22 = some (1, false) := by kernel_rfl
theorem zt22 : zeroT Tryz.prog 22 = some [.sl (.lent false) []] := by kernel_rfl
theorem sz23 : szT Tryz.prog 23 = some (1, false) := by kernel_rfl
theorem sl24 : slT Tryz.prog 24 = some (8, .int .i64 0) := by kernel_rfl
theorem us24 : u8T Tryz.prog 24 = false := by kernel_rfl
theorem st24 : strT Tryz.prog 24 = false := by kernel_rfl
theorem sz24 : szT Tryz.prog 24 = some (1, false) := by kernel_rfl
theorem zt24 : zeroT Tryz.prog 24 = some [.sl (.lent false) []] := by kernel_rfl
theorem sz25 : szT Tryz.prog 25 = some (1, false) := by kernel_rfl
theorem sl26 : slT Tryz.prog 26 = some (24, .sl (.lent false) []) := by kernel_rfl
theorem us26 : u8T Tryz.prog 26 = false := by kernel_rfl
theorem st26 : strT Tryz.prog 26 = false := by kernel_rfl
theorem sz26 : szT Tryz.prog 26 = some (1, false) := by kernel_rfl
theorem zt26 : zeroT Tryz.prog 26 = some [.sl (.lent false) []] := by kernel_rfl
theorem sz28 : szT Tryz.prog 28 = some (1, false) := by kernel_rfl
theorem sz29 : szT Tryz.prog 29 = some (1, false) := by kernel_rfl
theorem sz30 : szT Tryz.prog 30 = some (1, false) := by kernel_rfl
theorem sz31 : szT Tryz.prog 31 = some (1, false) := by kernel_rfl
theorem sz32 : szT Tryz.prog 32 = some (1, false) := by kernel_rfl
theorem sz33 : szT Tryz.prog 33 = some (1, false) := by kernel_rfl
theorem sz34 : szT Tryz.prog 34 = some (1, false) := by kernel_rfl
theorem sz35 : szT Tryz.prog 35 = some (1, false) := by kernel_rfl
theorem sz36 : szT Tryz.prog 36 = some (1, false) := by kernel_rfl
theorem sz37 : szT Tryz.prog 37 = some (1, false) := by kernel_rfl
theorem sz38 : szT Tryz.prog 38 = some (1, false) := by kernel_rfl
theorem sz39 : szT Tryz.prog 39 = some (1, false) := by kernel_rfl
theorem sz40 : szT Tryz.prog 40 = some (1, false) := by kernel_rfl
theorem sz41 : szT Tryz.prog 41 = some (1, false) := by kernel_rfl
theorem sz42 : szT Tryz.prog 42 = some (1, false) := by kernel_rfl
theorem sz43 : szT Tryz.prog 43 = some (1, false) := by kernel_rfl
theorem sz44 : szT Tryz.prog 44 = some (1, false) := by kernel_rfl
theorem sz45 : szT Tryz.prog 45 = some (1, false) := by kernel_rfl
theorem sz46 : szT Tryz.prog 46 = some (1, false) := by kernel_rfl
theorem sz47 : szT Tryz.prog 47 = some (1, false) := by kernel_rfl
theorem sz48 : szT Tryz.prog 48 = some (1, false) := by kernel_rfl
theorem sz49 : szT Tryz.prog 49 = some (2, true) := by kernel_rfl
theorem zt49 : zeroT Tryz.prog 49 = some [.sl (.lent false) [], .sl (.lent false) []] := by kernel_rfl
theorem fd49x0 : fldT Tryz.prog 49 0 = some (0, 1, false) := by kernel_rfl
theorem fd49x1 : fldT Tryz.prog 49 1 = some (1, 1, false) := by kernel_rfl
theorem pl49 : placesT Tryz.prog 49 = some [0, 1] := by kernel_rfl
theorem sz50 : szT Tryz.prog 50 = some (2, true) := by kernel_rfl
theorem zt50 : zeroT Tryz.prog 50 = some [.sl (.lent false) [], .sl (.lent false) []] := by kernel_rfl
theorem fd50x0 : fldT Tryz.prog 50 0 = some (0, 1, false) := by kernel_rfl
theorem fd50x1 : fldT Tryz.prog 50 1 = some (1, 1, false) := by kernel_rfl
theorem pl50 : placesT Tryz.prog 50 = some [0, 1] := by kernel_rfl
theorem sz51 : szT Tryz.prog 51 = some (1, false) := by kernel_rfl
theorem sz53 : szT Tryz.prog 53 = some (1, false) := by kernel_rfl
theorem sz54 : szT Tryz.prog 54 = some (1, false) := by kernel_rfl
theorem sz55 : szT Tryz.prog 55 = some (1, false) := by kernel_rfl
theorem sz56 : szT Tryz.prog 56 = some (1, false) := by kernel_rfl
theorem sz57 : szT Tryz.prog 57 = some (1, false) := by kernel_rfl
theorem sz58 : szT Tryz.prog 58 = some (1, false) := by kernel_rfl
theorem sz59 : szT Tryz.prog 59 = some (3, true) := by kernel_rfl
theorem zt59 : zeroT Tryz.prog 59 = some [.sl (.lent false) [], .int .i64 0, .int .i64 0] := by kernel_rfl
theorem fd59x0 : fldT Tryz.prog 59 0 = some (0, 1, false) := by kernel_rfl
theorem fd59x1 : fldT Tryz.prog 59 1 = some (1, 1, false) := by kernel_rfl
theorem fd59x2 : fldT Tryz.prog 59 2 = some (2, 1, false) := by kernel_rfl
theorem pl59 : placesT Tryz.prog 59 = some [0, 1, 2] := by kernel_rfl
theorem sz60 : szT Tryz.prog 60 = some (3, true) := by kernel_rfl
theorem zt60 : zeroT Tryz.prog 60 = some [.sl (.lent false) [], .int .i64 0, .int .i64 0] := by kernel_rfl
theorem fd60x0 : fldT Tryz.prog 60 0 = some (0, 1, false) := by kernel_rfl
theorem fd60x1 : fldT Tryz.prog 60 1 = some (1, 1, false) := by kernel_rfl
theorem fd60x2 : fldT Tryz.prog 60 2 = some (2, 1, false) := by kernel_rfl
theorem pl60 : placesT Tryz.prog 60 = some [0, 1, 2] := by kernel_rfl
theorem sz61 : szT Tryz.prog 61 = some (1, false) := by kernel_rfl
theorem sz62 : szT Tryz.prog 62 = some (1, false) := by kernel_rfl
theorem sz63 : szT Tryz.prog 63 = some (1, false) := by kernel_rfl
theorem sz64 : szT Tryz.prog 64 = some (1, false) := by kernel_rfl
theorem it65 : intT Tryz.prog 65 = some .u64 := by kernel_rfl
theorem st65 : strT Tryz.prog 65 = false := by kernel_rfl
theorem sz65 : szT Tryz.prog 65 = some (1, false) := by kernel_rfl
theorem zt65 : zeroT Tryz.prog 65 = some [.int .u64 0] := by kernel_rfl
theorem sz66 : szT Tryz.prog 66 = some (1, false) := by kernel_rfl
theorem sz67 : szT Tryz.prog 67 = some (1, false) := by kernel_rfl
theorem sz68 : szT Tryz.prog 68 = some (1, false) := by kernel_rfl
theorem sz69 : szT Tryz.prog 69 = some (1, false) := by kernel_rfl
theorem sz70 : szT Tryz.prog 70 = some (1, false) := by kernel_rfl
theorem sz72 : szT Tryz.prog 72 = some (1, false) := by kernel_rfl
theorem sz73 : szT Tryz.prog 73 = some (1, false) := by kernel_rfl
theorem sl74 : slT Tryz.prog 74 = some (16, .str []) := by kernel_rfl
theorem us74 : u8T Tryz.prog 74 = false := by kernel_rfl
theorem st74 : strT Tryz.prog 74 = false := by kernel_rfl
theorem sz74 : szT Tryz.prog 74 = some (1, false) := by kernel_rfl
theorem zt74 : zeroT Tryz.prog 74 = some [.sl (.lent false) []] := by kernel_rfl
theorem sz75 : szT Tryz.prog 75 = some (1, false) := by kernel_rfl
theorem sz76 : szT Tryz.prog 76 = some (1, false) := by kernel_rfl
theorem sz77 : szT Tryz.prog 77 = some (1, false) := by kernel_rfl
theorem sz78 : szT Tryz.prog 78 = some (1, false) := by kernel_rfl
theorem sz79 : szT Tryz.prog 79 = some (1, false) := by kernel_rfl
theorem sz80 : szT Tryz.prog 80 = some (1, false) := by kernel_rfl
theorem sl81 : slT Tryz.prog 81 = some (1, .bool false) := by kernel_rfl
theorem us81 : u8T Tryz.prog 81 = false := by kernel_rfl
theorem st81 : strT Tryz.prog 81 = false := by kernel_rfl
theorem sz81 : szT Tryz.prog 81 = some (1, false) := by kernel_rfl
theorem zt81 : zeroT Tryz.prog 81 = some [.sl (.lent false) []] := by kernel_rfl
theorem sz82 : szT Tryz.prog 82 = some (1, false) := by kernel_rfl
theorem sz83 : szT Tryz.prog 83 = some (1, false) := by kernel_rfl
theorem sz84 : szT Tryz.prog 84 = some (1, false) := by kernel_rfl
theorem sz85 : szT Tryz.prog 85 = some (1, false) := by kernel_rfl
theorem sz86 : szT Tryz.prog 86 = some (1, false) := by kernel_rfl
theorem sz87 : szT Tryz.prog 87 = some (1, false) := by kernel_rfl
theorem sz88 : szT Tryz.prog 88 = some (1, false) := by kernel_rfl
theorem sz89 : szT Tryz.prog 89 = some (1, false) := by kernel_rfl
theorem sz90 : szT Tryz.prog 90 = some (1, false) := by kernel_rfl
theorem sz91 : szT Tryz.prog 91 = some (1, false) := by kernel_rfl
theorem sz92 : szT Tryz.prog 92 = some (1, false) := by kernel_rfl
theorem sz93 : szT Tryz.prog 93 = some (1, false) := by kernel_rfl
theorem sz94 : szT Tryz.prog 94 = some (1, false) := by kernel_rfl
theorem it95 : intT Tryz.prog 95 = some .i64 := by kernel_rfl
theorem st95 : strT Tryz.prog 95 = false := by kernel_rfl
theorem sz95 : szT Tryz.prog 95 = some (1, false) := by kernel_rfl
theorem zt95 : zeroT Tryz.prog 95 = some [.int .i64 0] := by kernel_rfl
theorem sz97 : szT Tryz.prog 97 = some (1, false) := by kernel_rfl
theorem sz98 : szT Tryz.prog 98 = some (1, false) := by kernel_rfl
theorem sz99 : szT Tryz.prog 99 = some (1, false) := by kernel_rfl
theorem sz101 : szT Tryz.prog 101 = some (1, false) := by kernel_rfl
theorem sz102 : szT Tryz.prog 102 = some (1, false) := by kernel_rfl
theorem it103 : intT Tryz.prog 103 = some .u32 := by kernel_rfl
theorem st103 : strT Tryz.prog 103 = false := by kernel_rfl
theorem sz103 : szT Tryz.prog 103 = some (1, false) := by kernel_rfl
theorem zt103 : zeroT Tryz.prog 103 = some [.int .u32 0] := by kernel_rfl
theorem sz104 : szT Tryz.prog 104 = some (1, false) := by kernel_rfl
theorem it105 : intT Tryz.prog 105 = some .u64 := by kernel_rfl
theorem st105 : strT Tryz.prog 105 = false := by kernel_rfl
theorem sz105 : szT Tryz.prog 105 = some (1, false) := by kernel_rfl
theorem zt105 : zeroT Tryz.prog 105 = some [.int .u64 0] := by kernel_rfl
theorem it106 : intT Tryz.prog 106 = some .u64 := by kernel_rfl
theorem st106 : strT Tryz.prog 106 = false := by kernel_rfl
theorem sz106 : szT Tryz.prog 106 = some (1, false) := by kernel_rfl
theorem zt106 : zeroT Tryz.prog 106 = some [.int .u64 0] := by kernel_rfl
theorem sz107 : szT Tryz.prog 107 = some (1, false) := by kernel_rfl
theorem sz108 : szT Tryz.prog 108 = some (1, false) := by kernel_rfl
theorem sz109 : szT Tryz.prog 109 = some (1, false) := by kernel_rfl
theorem sz110 : szT Tryz.prog 110 = some (1, false) := by kernel_rfl
theorem sz111 : szT Tryz.prog 111 = some (1, false) := by kernel_rfl
theorem sz112 : szT Tryz.prog 112 = some (1, false) := by kernel_rfl
theorem sz114 : szT Tryz.prog 114 = some (1, false) := by kernel_rfl
theorem sz115 : szT Tryz.prog 115 = some (1, false) := by kernel_rfl
theorem sz116 : szT Tryz.prog 116 = some (4, true) := by kernel_rfl
theorem fd116x0 : fldT Tryz.prog 116 0 = some (0, 1, false) := by kernel_rfl
theorem fd116x1 : fldT Tryz.prog 116 1 = some (1, 1, false) := by kernel_rfl
theorem fd116x2 : fldT Tryz.prog 116 2 = some (2, 1, false) := by kernel_rfl
theorem fd116x3 : fldT Tryz.prog 116 3 = some (3, 1, false) := by kernel_rfl
theorem pl116 : placesT Tryz.prog 116 = some [0, 1, 2, 3] := by kernel_rfl
theorem sz117 : szT Tryz.prog 117 = some (4, true) := by kernel_rfl
theorem fd117x0 : fldT Tryz.prog 117 0 = some (0, 1, false) := by kernel_rfl
theorem fd117x1 : fldT Tryz.prog 117 1 = some (1, 1, false) := by kernel_rfl
theorem fd117x2 : fldT Tryz.prog 117 2 = some (2, 1, false) := by kernel_rfl
theorem fd117x3 : fldT Tryz.prog 117 3 = some (3, 1, false) := by kernel_rfl
theorem pl117 : placesT Tryz.prog 117 = some [0, 1, 2, 3] := by kernel_rfl
theorem sz118 : szT Tryz.prog 118 = some (0, true) := by kernel_rfl
theorem sz119 : szT Tryz.prog 119 = some (0, true) := by kernel_rfl
theorem fd119x0 : fldT Tryz.prog 119 0 = some (0, 0, true) := by kernel_rfl
theorem sz120 : szT Tryz.prog 120 = some (0, true) := by kernel_rfl
theorem fd120x0 : fldT Tryz.prog 120 0 = some (0, 0, true) := by kernel_rfl
theorem sz121 : szT Tryz.prog 121 = some (1, false) := by kernel_rfl
theorem it122 : intT Tryz.prog 122 = some .u8 := by kernel_rfl
theorem st122 : strT Tryz.prog 122 = false := by kernel_rfl
theorem sz122 : szT Tryz.prog 122 = some (1, false) := by kernel_rfl
theorem zt122 : zeroT Tryz.prog 122 = some [.int .u8 0] := by kernel_rfl
theorem it123 : intT Tryz.prog 123 = some .u8 := by kernel_rfl
theorem st123 : strT Tryz.prog 123 = false := by kernel_rfl
theorem sz123 : szT Tryz.prog 123 = some (1, false) := by kernel_rfl
theorem zt123 : zeroT Tryz.prog 123 = some [.int .u8 0] := by kernel_rfl
theorem sz124 : szT Tryz.prog 124 = some (1, false) := by kernel_rfl
theorem sz125 : szT Tryz.prog 125 = some (1, false) := by kernel_rfl
theorem it126 : intT Tryz.prog 126 = some .i32 := by kernel_rfl
theorem st126 : strT Tryz.prog 126 = false := by kernel_rfl
theorem sz126 : szT Tryz.prog 126 = some (1, false) := by kernel_rfl
theorem zt126 : zeroT Tryz.prog 126 = some [.int .i32 0] := by kernel_rfl
theorem it127 : intT Tryz.prog 127 = some .i32 := by kernel_rfl
theorem st127 : strT Tryz.prog 127 = false := by kernel_rfl
theorem sz127 : szT Tryz.prog 127 = some (1, false) := by kernel_rfl
theorem zt127 : zeroT Tryz.prog 127 = some [.int .i32 0] := by kernel_rfl
theorem sz128 : szT Tryz.prog 128 = some (11, true) := by kernel_rfl
theorem fd128x0 : fldT Tryz.prog 128 0 = some (0, 1, false) := by kernel_rfl
theorem fd128x1 : fldT Tryz.prog 128 1 = some (1, 1, false) := by kernel_rfl
theorem fd128x2 : fldT Tryz.prog 128 2 = some (2, 1, false) := by kernel_rfl
theorem fd128x3 : fldT Tryz.prog 128 3 = some (3, 1, false) := by kernel_rfl
theorem fd128x4 : fldT Tryz.prog 128 4 = some (4, 1, false) := by kernel_rfl
theorem fd128x5 : fldT Tryz.prog 128 5 = some (5, 1, false) := by kernel_rfl
theorem fd128x6 : fldT Tryz.prog 128 6 = some (6, 1, false) := by kernel_rfl
theorem fd128x7 : fldT Tryz.prog 128 7 = some (7, 1, false) := by kernel_rfl
theorem fd128x8 : fldT Tryz.prog 128 8 = some (8, 1, false) := by kernel_rfl
theorem fd128x9 : fldT Tryz.prog 128 9 = some (9, 1, false) := by kernel_rfl
theorem fd128x10 : fldT Tryz.prog 128 10 = some (10, 1, false) := by kernel_rfl
theorem pl128 : placesT Tryz.prog 128 = some [0, 1, 2, 3, 4, 5, 6, 7, 8, 9, 10] := by kernel_rfl
theorem sz129 : szT Tryz.prog 129 = some (11, true) := by kernel_rfl
theorem fd129x0 : fldT Tryz.prog 129 0 = some (0, 1, false) := by kernel_rfl
theorem fd129x1 : fldT Tryz.prog 129 1 = some (1, 1, false) := by kernel_rfl
theorem fd129x2 : fldT Tryz.prog 129 2 = some (2, 1, false) := by kernel_rfl
theorem fd129x3 : fldT Tryz.prog 129 3 = some (3, 1, false) := by kernel_rfl
theorem fd129x4 : fldT Tryz.prog 129 4 = some (4, 1, false) := by kernel_rfl
theorem fd129x5 : fldT Tryz.prog 129 5 = some (5, 1, false) := by kernel_rfl
theorem fd129x6 : fldT Tryz.prog 129 6 = some (6, 1, false) := by kernel_rfl
theorem fd129x7 : fldT Tryz.prog 129 7 = some (7, 1, false) := by kernel_rfl
theorem fd129x8 : fldT Tryz.prog 129 8 = some (8, 1, false) := by kernel_rfl
theorem fd129x9 : fldT Tryz.prog 129 9 = some (9, 1, false) := by kernel_rfl
theorem fd129x10 : fldT Tryz.prog 129 10 = some (10, 1, false) := by kernel_rfl
theorem pl129 : placesT Tryz.prog 129 = some [0, 1, 2, 3, 4, 5, 6, 7, 8, 9, 10] := by kernel_rfl
attribute [go_sem] sg0_eq wayE_sg0 wayN_sg0 wayS_sg0 wayZ_sg0 wayM_sg0 sz1 it2 st2 sz2 zt2 it3 st3 sz3 zt3 bo4 sz4 zt4
attribute [go_sem] it5 st5 sz5 zt5 it6 st6 sz6 zt6 sz7 zt7 fd7x0 fd7x1
attribute [go_sem] fd7x2 fd7x3 pl7 sz8 zt8 fd8x0 fd8x1 fd8x2 fd8x3 pl8 st9 sz9
attribute [go_sem] zt9 st10 sz10 zt10 st11 sz11 zt11 it12 st12 sz12 zt12 sz13
attribute [go_sem] zt13 fd13x0 fd13x1 pl13 sz14 zt14 fd14x0 fd14x1 pl14 sz15 sz16 sz17
attribute [go_sem] sz18 fd18x0 pl18 sz19 fd19x0 pl19 it21 st21 sz21 zt21 sl22 us22
attribute [go_sem] st22 sz22 zt22 sz23 sl24 us24 st24 sz24 zt24 sz25 sl26 us26
attribute [go_sem] st26 sz26 zt26 sz28 sz29 sz30 sz31 sz32 sz33 sz34 sz35 sz36
attribute [go_sem] sz37 sz38 sz39 sz40 sz41 sz42 sz43 sz44 sz45 sz46 sz47 sz48
attribute [go_sem] sz49 zt49 fd49x0 fd49x1 pl49 sz50 zt50 fd50x0 fd50x1 pl50 sz51 sz53
attribute [go_sem] sz54 sz55 sz56 sz57 sz58 sz59 zt59 fd59x0 fd59x1 fd59x2 pl59 sz60
attribute [go_sem] zt60 fd60x0 fd60x1 fd60x2 pl60 sz61 sz62 sz63 sz64 it65 st65 sz65
attribute [go_sem] zt65 sz66 sz67 sz68 sz69 sz70 sz72 sz73 sl74 us74 st74 sz74
attribute [go_sem] zt74 sz75 sz76 sz77 sz78 sz79 sz80 sl81 us81 st81 sz81 zt81
attribute [go_sem] sz82 sz83 sz84 sz85 sz86 sz87 sz88 sz89 sz90 sz91 sz92 sz93
attribute [go_sem] sz94 it95 st95 sz95 zt95 sz97 sz98 sz99 sz101 sz102 it103 st103
attribute [go_sem] sz103 zt103 sz104 it105 st105 sz105 zt105 it106 st106 sz106 zt106 sz107
attribute [go_sem] sz108 sz109 sz110 sz111 sz112 sz114 sz115 sz116 fd116x0 fd116x1 fd116x2 fd116x3
attribute [go_sem] pl116 sz117 fd117x0 fd117x1 fd117x2 fd117x3 pl117 sz118 sz119 fd119x0 sz120 fd120x0
attribute [go_sem] sz121 it122 st122 sz122 zt122 it123 st123 sz123 zt123 sz124 sz125 it126
attribute [go_sem] st126 sz126 zt126 it127 st127 sz127 zt127 sz128 fd128x0 fd128x1 fd128x2 fd128x3
attribute [go_sem] fd128x4 fd128x5 fd128x6 fd128x7 fd128x8 fd128x9 fd128x10 pl128 sz129 fd129x0 fd129x1 fd129x2
attribute [go_sem] fd129x3 fd129x4 fd129x5 fd129x6 fd129x7 fd129x8 fd129x9 fd129x10 pl129
end Go.Gl
