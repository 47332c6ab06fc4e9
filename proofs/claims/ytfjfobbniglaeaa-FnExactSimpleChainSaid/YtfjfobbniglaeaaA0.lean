/-
 The common ground of the contracts of this program's functions. Conditions: none.
-/
import Derived.Test.YtfjfobbniglaeaaGlE
import Derived.Test.YtfjfobbniglaeaaChecked
namespace Go.Gl
open Go Go.Proofs
def sg0 : FuncId → List Bool := fun _ => []
theorem sg0_eq {f : FuncId} : sg0 f = [] := rfl
theorem wayE_sg0 : wayE sg0 = false := _root_.id rfl
theorem wayN_sg0 : wayN sg0 = false := _root_.id rfl
theorem wayS_sg0 : wayS sg0 = false := _root_.id rfl
theorem wayZ_sg0 : wayZ sg0 = false := _root_.id rfl
theorem wayM_sg0 : wayM sg0 = false := _root_.id rfl
theorem mo : Try.prog.follows .mixedOrders = true := Try.checked.mixed
theorem sz1 : szT Try.prog 1 = some (1, false) := by kernel_rfl
theorem it2 : intT Try.prog 2 = some .i64 := by kernel_rfl
theorem st2 : strT Try.prog 2 = false := by kernel_rfl
theorem sz2 : szT Try.prog 2 = some (1, false) := by kernel_rfl
theorem zt2 : zeroT Try.prog 2 = some [.int .i64 0] := by kernel_rfl
theorem it3 : intT Try.prog 3 = some .i64 := by kernel_rfl
theorem st3 : strT Try.prog 3 = false := by kernel_rfl
theorem sz3 : szT Try.prog 3 = some (1, false) := by kernel_rfl
theorem zt3 : zeroT Try.prog 3 = some [.int .i64 0] := by kernel_rfl
theorem bo4 : boolT Try.prog 4 = true := by kernel_rfl
theorem sz4 : szT Try.prog 4 = some (1, false) := by kernel_rfl
theorem zt4 : zeroT Try.prog 4 = some [.bool false] := by kernel_rfl
theorem it5 : intT Try.prog 5 = some .u8 := by kernel_rfl
theorem st5 : strT Try.prog 5 = false := by kernel_rfl
theorem sz5 : szT Try.prog 5 = some (1, false) := by kernel_rfl
theorem zt5 : zeroT Try.prog 5 = some [.int .u8 0] := by kernel_rfl
theorem it6 : intT Try.prog 6 = some .u8 := by kernel_rfl
theorem st6 : strT Try.prog 6 = false := by kernel_rfl
theorem sz6 : szT Try.prog 6 = some (1, false) := by kernel_rfl
theorem zt6 : zeroT Try.prog 6 = some [.int .u8 0] := by kernel_rfl
theorem sz7 : szT Try.prog 7 = some (4, true) := by kernel_rfl
theorem zt7 : zeroT Try.prog 7 = some [.int .i64 0, .int .i64 0, .bool false, .int .u8 0] := by kernel_rfl
theorem fd7x0 : fldT Try.prog 7 0 = some (0, 1, false) := by kernel_rfl
theorem fd7x1 : fldT Try.prog 7 1 = some (1, 1, false) := by kernel_rfl
theorem fd7x2 : fldT Try.prog 7 2 = some (2, 1, false) := by kernel_rfl
theorem fd7x3 : fldT Try.prog 7 3 = some (3, 1, false) := by kernel_rfl
theorem pl7 : placesT Try.prog 7 = some [0, 1, 2, 3] := by kernel_rfl
theorem sz8 : szT Try.prog 8 = some (4, true) := by kernel_rfl
theorem zt8 : zeroT Try.prog 8 = some [.int .i64 0, .int .i64 0, .bool false, .int .u8 0] := by kernel_rfl
theorem fd8x0 : fldT Try.prog 8 0 = some (0, 1, false) := by kernel_rfl
theorem fd8x1 : fldT Try.prog 8 1 = some (1, 1, false) := by kernel_rfl
theorem fd8x2 : fldT Try.prog 8 2 = some (2, 1, false) := by kernel_rfl
theorem fd8x3 : fldT Try.prog 8 3 = some (3, 1, false) := by kernel_rfl
theorem pl8 : placesT Try.prog 8 = some [0, 1, 2, 3] := by kernel_rfl
theorem st9 : strT Try.prog 9 = true := by kernel_rfl
theorem sz9 : szT Try.prog 9 = some (1, false) := by kernel_rfl
theorem zt9 : zeroT Try.prog 9 = some [.str []] := by kernel_rfl
theorem st10 : strT Try.prog 10 = true := by kernel_rfl
theorem sz10 : szT Try.prog 10 = some (1, false) := by kernel_rfl
theorem zt10 : zeroT Try.prog 10 = some [.str []] := by kernel_rfl
theorem st11 : strT Try.prog 11 = true := by kernel_rfl
theorem sz11 : szT Try.prog 11 = some (1, false) := by kernel_rfl
theorem zt11 : zeroT Try.prog 11 = some [.str []] := by kernel_rfl
theorem it12 : intT Try.prog 12 = some .u64 := by kernel_rfl
theorem st12 : strT Try.prog 12 = false := by kernel_rfl
theorem sz12 : szT Try.prog 12 = some (1, false) := by kernel_rfl
theorem zt12 : zeroT Try.prog 12 = some [.int .u64 0] := by kernel_rfl
theorem sz13 : szT Try.prog 13 = some (2, true) := by kernel_rfl
theorem zt13 : zeroT Try.prog 13 = some [.str [], .int .u64 0] := by kernel_rfl
theorem fd13x0 : fldT Try.prog 13 0 = some (0, 1, false) := by kernel_rfl
theorem fd13x1 : fldT Try.prog 13 1 = some (1, 1, false) := by kernel_rfl
theorem pl13 : placesT Try.prog 13 = some [0, 1] := by kernel_rfl
theorem sz14 : szT Try.prog 14 = some (2, true) := by kernel_rfl
theorem zt14 : zeroT Try.prog 14 = some [.str [], .int .u64 0] := by kernel_rfl
theorem fd14x0 : fldT Try.prog 14 0 = some (0, 1, false) := by kernel_rfl
theorem fd14x1 : fldT Try.prog 14 1 = some (1, 1, false) := by kernel_rfl
theorem pl14 : placesT Try.prog 14 = some [0, 1] := by kernel_rfl
theorem sz15 : szT Try.prog 15 = some (1, false) := by kernel_rfl
theorem sz16 : szT Try.prog 16 = some (1, false) := by kernel_rfl
theorem sz17 : szT Try.prog 17 = some (1, false) := by kernel_rfl
theorem sz18 : szT Try.prog 18 = some (1, true) := by kernel_rfl
theorem fd18x0 : fldT Try.prog 18 0 = some (0, 1, false) := by kernel_rfl
theorem pl18 : placesT Try.prog 18 = some [0] := by kernel_rfl
theorem sz19 : szT Try.prog 19 = some (1, true) := by kernel_rfl
theorem fd19x0 : fldT Try.prog 19 0 = some (0, 1, false) := by kernel_rfl
theorem pl19 : placesT Try.prog 19 = some [0] := by kernel_rfl
theorem it21 : intT Try.prog 21 = some .i32 := by kernel_rfl
theorem st21 : strT Try.prog 21 = false := by kernel_rfl
theorem sz21 : szT Try.prog 21 = some (1, false) := by kernel_rfl
theorem zt21 : zeroT Try.prog 21 = some [.int .i32 0] := by kernel_rfl
theorem sl22 : slT Try.prog 22 = some (8, .int .i64 0) := by kernel_rfl
theorem us22 : u8T Try.prog 22 = false := by kernel_rfl
theorem st22 : strT Try.prog 22 = false := by kernel_rfl
theorem sz22 : szT Try.prog 22 = some (1, false) := by kernel_rfl
theorem zt22 : zeroT Try.prog 22 = some [.sl (.lent false) []] := by kernel_rfl
theorem sz24 : szT Try.prog 24 = some (1, false) := by kernel_rfl
theorem sz25 : szT Try.prog 25 = some (1, false) := by kernel_rfl
theorem sz26 : szT Try.prog 26 = some (1, false) := by kernel_rfl
theorem sz27 : szT Try.prog 27 = some (1, false) := by kernel_rfl
theorem sl28 : slT Try.prog 28 = some (24, .sl (.lent false) []) := by kernel_rfl
theorem us28 : u8T Try.prog 28 = false := by kernel_rfl
theorem st28 : strT Try.prog 28 = false := by kernel_rfl
theorem sz28 : szT Try.prog 28 = some (1, false) := by kernel_rfl
theorem zt28 : zeroT Try.prog 28 = some [.sl (.lent false) []] := by kernel_rfl
theorem sz29 : szT Try.prog 29 = some (1, false) := by kernel_rfl
theorem sz30 : szT Try.prog 30 = some (1, false) := by kernel_rfl
theorem sz31 : szT Try.prog 31 = some (1, false) := by kernel_rfl
theorem sz32 : szT Try.prog 32 = some (1, false) := by kernel_rfl
theorem sz33 : szT Try.prog 33 = some (1, false) := by kernel_rfl
theorem sz35 : szT Try.prog 35 = some (1, false) := by kernel_rfl
theorem sl36 : slT Try.prog 36 = some (1, .int .u8 0) := by kernel_rfl
theorem us36 : u8T Try.prog 36 = true := by kernel_rfl
theorem st36 : strT Try.prog 36 = false := by kernel_rfl
theorem sz36 : szT Try.prog 36 = some (1, false) := by kernel_rfl
theorem zt36 : zeroT Try.prog 36 = some [.sl (.lent false) []] := by kernel_rfl
theorem sz37 : szT Try.prog 37 = some (1, false) := by kernel_rfl
theorem sz39 : szT Try.prog 39 = some (1, false) := by kernel_rfl
theorem sz41 : szT Try.prog 41 = some (1, false) := by kernel_rfl
theorem sl42 : slT Try.prog 42 = some (24, .sl (.lent false) []) := by kernel_rfl
theorem us42 : u8T Try.prog 42 = false := by kernel_rfl
theorem st42 : strT Try.prog 42 = false := by kernel_rfl
theorem sz42 : szT Try.prog 42 = some (1, false) := by kernel_rfl
theorem zt42 : zeroT Try.prog 42 = some [.sl (.lent false) []] := by kernel_rfl
theorem sz43 : szT Try.prog 43 = some (1, false) := by kernel_rfl
theorem sz44 : szT Try.prog 44 = some (1, false) := by kernel_rfl
theorem sz46 : szT Try.prog 46 = some (1, false) := by kernel_rfl
theorem sz47 : szT Try.prog 47 = some (1, false) := by kernel_rfl
theorem sz48 : szT Try.prog 48 = some (1, false) := by kernel_rfl
theorem sz49 : szT Try.prog 49 = some (1, false) := by kernel_rfl
theorem sz50 : szT Try.prog 50 = some (1, false) := by kernel_rfl
theorem sz51 : szT Try.prog 51 = some (1, false) := by kernel_rfl
theorem sz52 : szT Try.prog 52 = some (1, false) := by kernel_rfl
theorem sz53 : szT Try.prog 53 = some (1, false) := by kernel_rfl
theorem sz54 : szT Try.prog 54 = some (1, false) := by kernel_rfl
theorem mt55 : mapT Try.prog 55 = some (5, .nl) := by kernel_rfl
theorem ky55 : Maps.Keyed Try.prog 5 := Maps.int_keyed (show Try.prog.underlying 5 = some (.int .u8) by kernel_rfl)
theorem sz56 : szT Try.prog 56 = some (1, false) := by kernel_rfl
theorem sz57 : szT Try.prog 57 = some (1, false) := by kernel_rfl
theorem sz58 : szT Try.prog 58 = some (1, false) := by kernel_rfl
theorem sz59 : szT Try.prog 59 = some (1, false) := by kernel_rfl
theorem sz60 : szT Try.prog 60 = some (1, false) := by kernel_rfl
theorem sz61 : szT Try.prog 61 = some (1, false) := by kernel_rfl
theorem sz62 : szT Try.prog 62 = some (1, false) := by kernel_rfl
theorem sz63 : szT Try.prog 63 = some (1, false) := by kernel_rfl
theorem sz64 : szT Try.prog 64 = some (1, false) := by kernel_rfl
theorem sz65 : szT Try.prog 65 = some (1, false) := by kernel_rfl
theorem sz66 : szT Try.prog 66 = some (1, false) := by kernel_rfl
theorem sz67 : szT Try.prog 67 = some (1, false) := by kernel_rfl
theorem sz68 : szT Try.prog 68 = some (1, false) := by kernel_rfl
theorem sz69 : szT Try.prog 69 = some (1, false) := by kernel_rfl
theorem sz70 : szT Try.prog 70 = some (1, false) := by kernel_rfl
theorem sz71 : szT Try.prog 71 = some (1, false) := by kernel_rfl
theorem sz72 : szT Try.prog 72 = some (1, false) := by kernel_rfl
theorem sl73 : slT Try.prog 73 = some (16, .str []) := by kernel_rfl
theorem us73 : u8T Try.prog 73 = false := by kernel_rfl
theorem st73 : strT Try.prog 73 = false := by kernel_rfl
theorem sz73 : szT Try.prog 73 = some (1, false) := by kernel_rfl
theorem zt73 : zeroT Try.prog 73 = some [.sl (.lent false) []] := by kernel_rfl
theorem sz74 : szT Try.prog 74 = some (1, false) := by kernel_rfl
theorem sz75 : szT Try.prog 75 = some (1, false) := by kernel_rfl
theorem sz76 : szT Try.prog 76 = some (2, true) := by kernel_rfl
theorem zt76 : zeroT Try.prog 76 = some [.str [], .nilf] := by kernel_rfl
theorem fd76x0 : fldT Try.prog 76 0 = some (0, 1, false) := by kernel_rfl
theorem fd76x1 : fldT Try.prog 76 1 = some (1, 1, false) := by kernel_rfl
theorem pl76 : placesT Try.prog 76 = some [0, 1] := by kernel_rfl
theorem st77 : strT Try.prog 77 = false := by kernel_rfl
theorem sz77 : szT Try.prog 77 = some (1, false) := by kernel_rfl
theorem zt77 : zeroT Try.prog 77 = some [.sl (.lent false) []] := by kernel_rfl
theorem sz78 : szT Try.prog 78 = some (1, false) := by kernel_rfl
theorem sz79 : szT Try.prog 79 = some (1, false) := by kernel_rfl
theorem sz80 : szT Try.prog 80 = some (1, false) := by kernel_rfl
theorem sz81 : szT Try.prog 81 = some (1, false) := by kernel_rfl
theorem sz82 : szT Try.prog 82 = some (1, false) := by kernel_rfl
theorem sz83 : szT Try.prog 83 = some (1, false) := by kernel_rfl
theorem sz84 : szT Try.prog 84 = some (1, false) := by kernel_rfl
theorem it85 : intT Try.prog 85 = some .u64 := by kernel_rfl
theorem st85 : strT Try.prog 85 = false := by kernel_rfl
theorem sz85 : szT Try.prog 85 = some (1, false) := by kernel_rfl
theorem zt85 : zeroT Try.prog 85 = some [.int .u64 0] := by kernel_rfl
theorem sz86 : szT Try.prog 86 = some (1, false) := by kernel_rfl
theorem sz87 : szT Try.prog 87 = some (3, true) := by kernel_rfl
theorem zt87 : zeroT Try.prog 87 = some [.sl (.lent false) [], .int .i64 0, .int .i64 0] := by kernel_rfl
theorem fd87x0 : fldT Try.prog 87 0 = some (0, 1, false) := by kernel_rfl
theorem fd87x1 : fldT Try.prog 87 1 = some (1, 1, false) := by kernel_rfl
theorem fd87x2 : fldT Try.prog 87 2 = some (2, 1, false) := by kernel_rfl
theorem pl87 : placesT Try.prog 87 = some [0, 1, 2] := by kernel_rfl
theorem sz88 : szT Try.prog 88 = some (3, true) := by kernel_rfl
theorem zt88 : zeroT Try.prog 88 = some [.sl (.lent false) [], .int .i64 0, .int .i64 0] := by kernel_rfl
theorem fd88x0 : fldT Try.prog 88 0 = some (0, 1, false) := by kernel_rfl
theorem fd88x1 : fldT Try.prog 88 1 = some (1, 1, false) := by kernel_rfl
theorem fd88x2 : fldT Try.prog 88 2 = some (2, 1, false) := by kernel_rfl
theorem pl88 : placesT Try.prog 88 = some [0, 1, 2] := by kernel_rfl
theorem sz89 : szT Try.prog 89 = some (1, false) := by kernel_rfl
theorem sz90 : szT Try.prog 90 = some (1, false) := by kernel_rfl
theorem sz91 : szT Try.prog 91 = some (1, false) := by kernel_rfl
theorem sz92 : szT Try.prog 92 = some (1, false) := by kernel_rfl
theorem sz93 : szT Try.prog 93 = some (1, false) := by kernel_rfl
theorem sz94 : szT Try.prog 94 = some (1, false) := by kernel_rfl
theorem sz95 : szT Try.prog 95 = some (1, false) := by kernel_rfl
theorem sz96 : szT Try.prog 96 = some (1, false) := by kernel_rfl
theorem sl97 : slT Try.prog 97 = some (1, .bool false) := by kernel_rfl
theorem us97 : u8T Try.prog 97 = false := by kernel_rfl
theorem st97 : strT Try.prog 97 = false := by kernel_rfl
theorem sz97 : szT Try.prog 97 = some (1, false) := by kernel_rfl
theorem zt97 : zeroT Try.prog 97 = some [.sl (.lent false) []] := by kernel_rfl
theorem sz98 : szT Try.prog 98 = some (1, false) := by kernel_rfl
theorem sz99 : szT Try.prog 99 = some (1, false) := by kernel_rfl
theorem sz100 : szT Try.prog 100 = some (1, false) := by kernel_rfl
theorem sz101 : szT Try.prog 101 = some (1, false) := by kernel_rfl
theorem sz102 : szT Try.prog 102 = some (1, false) := by kernel_rfl
theorem sz103 : szT Try.prog 103 = some (1, false) := by kernel_rfl
theorem sz104 : szT Try.prog 104 = some (1, false) := by kernel_rfl
theorem sz105 : szT Try.prog 105 = some (1, false) := by kernel_rfl
theorem sz106 : szT Try.prog 106 = some (1, false) := by kernel_rfl
theorem sz107 : szT Try.prog 107 = some (1, false) := by kernel_rfl
theorem sz108 : szT Try.prog 108 = some (1, false) := by kernel_rfl
theorem sz109 : szT Try.prog 109 = some (1, false) := by kernel_rfl
theorem sz110 : szT Try.prog 110 = some (1, false) := by kernel_rfl
theorem sz111 : szT Try.prog 111 = some (1, false) := by kernel_rfl
theorem it112 : intT Try.prog 112 = some .i64 := by kernel_rfl
theorem st112 : strT Try.prog 112 = false := by kernel_rfl
theorem sz112 : szT Try.prog 112 = some (1, false) := by kernel_rfl
theorem zt112 : zeroT Try.prog 112 = some [.int .i64 0] := by kernel_rfl
theorem sz114 : szT Try.prog 114 = some (1, false) := by kernel_rfl
theorem sz115 : szT Try.prog 115 = some (1, false) := by kernel_rfl
theorem sz116 : szT Try.prog 116 = some (1, false) := by kernel_rfl
theorem sz118 : szT Try.prog 118 = some (1, false) := by kernel_rfl
theorem sz119 : szT Try.prog 119 = some (1, false) := by kernel_rfl
theorem it120 : intT Try.prog 120 = some .u32 := by kernel_rfl
theorem st120 : strT Try.prog 120 = false := by kernel_rfl
theorem sz120 : szT Try.prog 120 = some (1, false) := by kernel_rfl
theorem zt120 : zeroT Try.prog 120 = some [.int .u32 0] := by kernel_rfl
theorem sz121 : szT Try.prog 121 = some (1, false) := by kernel_rfl
theorem it122 : intT Try.prog 122 = some .u64 := by kernel_rfl
theorem st122 : strT Try.prog 122 = false := by kernel_rfl
theorem sz122 : szT Try.prog 122 = some (1, false) := by kernel_rfl
theorem zt122 : zeroT Try.prog 122 = some [.int .u64 0] := by kernel_rfl
theorem it123 : intT Try.prog 123 = some .u64 := by kernel_rfl
theorem st123 : strT Try.prog 123 = false := by kernel_rfl
theorem sz123 : szT Try.prog 123 = some (1, false) := by kernel_rfl
theorem zt123 : zeroT Try.prog 123 = some [.int .u64 0] := by kernel_rfl
theorem sz124 : szT Try.prog 124 = some (1, false) := by kernel_rfl
theorem sz125 : szT Try.prog 125 = some (1, false) := by kernel_rfl
theorem sz126 : szT Try.prog 126 = some (1, false) := by kernel_rfl
theorem sz127 : szT Try.prog 127 = some (1, false) := by kernel_rfl
theorem sz128 : szT Try.prog 128 = some (1, false) := by kernel_rfl
theorem sz129 : szT Try.prog 129 = some (1, false) := by kernel_rfl
theorem sz130 : szT Try.prog 130 = some (1, false) := by kernel_rfl
theorem sz131 : szT Try.prog 131 = some (4, true) := by kernel_rfl
theorem fd131x0 : fldT Try.prog 131 0 = some (0, 1, false) := by kernel_rfl
theorem fd131x1 : fldT Try.prog 131 1 = some (1, 1, false) := by kernel_rfl
theorem fd131x2 : fldT Try.prog 131 2 = some (2, 1, false) := by kernel_rfl
theorem fd131x3 : fldT Try.prog 131 3 = some (3, 1, false) := by kernel_rfl
theorem pl131 : placesT Try.prog 131 = some [0, 1, 2, 3] := by kernel_rfl
theorem sz132 : szT Try.prog 132 = some (4, true) := by kernel_rfl
theorem fd132x0 : fldT Try.prog 132 0 = some (0, 1, false) := by kernel_rfl
theorem fd132x1 : fldT Try.prog 132 1 = some (1, 1, false) := by kernel_rfl
theorem fd132x2 : fldT Try.prog 132 2 = some (2, 1, false) := by kernel_rfl
theorem fd132x3 : fldT Try.prog 132 3 = some (3, 1, false) := by kernel_rfl
theorem pl132 : placesT Try.prog 132 = some [0, 1, 2, 3] := by kernel_rfl
theorem sz133 : szT Try.prog 133 = some (0, true) := by kernel_rfl
theorem sz134 : szT Try.prog 134 = some (0, true) := by kernel_rfl
theorem fd134x0 : fldT Try.prog 134 0 = some (0, 0, true) := by kernel_rfl
theorem sz135 : szT Try.prog 135 = some (0, true) := by kernel_rfl
theorem fd135x0 : fldT Try.prog 135 0 = some (0, 0, true) := by kernel_rfl
theorem sz136 : szT Try.prog 136 = some (1, false) := by kernel_rfl
theorem it137 : intT Try.prog 137 = some .u8 := by kernel_rfl
theorem st137 : strT Try.prog 137 = false := by kernel_rfl
theorem sz137 : szT Try.prog 137 = some (1, false) := by kernel_rfl
theorem zt137 : zeroT Try.prog 137 = some [.int .u8 0] := by kernel_rfl
theorem it138 : intT Try.prog 138 = some .u8 := by kernel_rfl
theorem st138 : strT Try.prog 138 = false := by kernel_rfl
theorem sz138 : szT Try.prog 138 = some (1, false) := by kernel_rfl
theorem zt138 : zeroT Try.prog 138 = some [.int .u8 0] := by kernel_rfl
theorem sz139 : szT Try.prog 139 = some (1, false) := by kernel_rfl
theorem sz140 : szT Try.prog 140 = some (1, false) := by kernel_rfl
theorem it141 : intT Try.prog 141 = some .i32 := by kernel_rfl
theorem st141 : strT Try.prog 141 = false := by kernel_rfl
theorem sz141 : szT Try.prog 141 = some (1, false) := by kernel_rfl
theorem zt141 : zeroT Try.prog 141 = some [.int .i32 0] := by kernel_rfl
theorem it142 : intT Try.prog 142 = some .i32 := by kernel_rfl
theorem st142 : strT Try.prog 142 = false := by kernel_rfl
theorem sz142 : szT Try.prog 142 = some (1, false) := by kernel_rfl
theorem zt142 : zeroT Try.prog 142 = some [.int .i32 0] := by kernel_rfl
theorem sz143 : szT Try.prog 143 = some (11, true) := by kernel_rfl
theorem fd143x0 : fldT Try.prog 143 0 = some (0, 1, false) := by kernel_rfl
theorem fd143x1 : fldT Try.prog 143 1 = some (1, 1, false) := by kernel_rfl
theorem fd143x2 : fldT Try.prog 143 2 = some (2, 1, false) := by kernel_rfl
theorem fd143x3 : fldT Try.prog 143 3 = some (3, 1, false) := by kernel_rfl
theorem fd143x4 : fldT Try.prog 143 4 = some (4, 1, false) := by kernel_rfl
theorem fd143x5 : fldT Try.prog 143 5 = some (5, 1, false) := by kernel_rfl
theorem fd143x6 : fldT Try.prog 143 6 = some (6, 1, false) := by kernel_rfl
theorem fd143x7 : fldT Try.prog 143 7 = some (7, 1, false) := by kernel_rfl
theorem fd143x8 : fldT Try.prog 143 8 = some (8, 1, false) := by kernel_rfl
theorem fd143x9 : fldT Try.prog 143 9 = some (9, 1, false) := by kernel_rfl
theorem fd143x10 : fldT Try.prog 143 10 = some (10, 1, false) := by kernel_rfl
theorem pl143 : placesT Try.prog 143 = some [0, 1, 2, 3, 4, 5, 6, 7, 8, 9, 10] := by kernel_rfl
theorem sz144 : szT Try.prog 144 = some (11, true) := by kernel_rfl
theorem fd144x0 : fldT Try.prog 144 0 = some (0, 1, false) := by kernel_rfl
theorem fd144x1 : fldT Try.prog 144 1 = some (1, 1, false) := by kernel_rfl
theorem fd144x2 : fldT Try.prog 144 2 = some (2, 1, false) := by kernel_rfl
theorem fd144x3 : fldT Try.prog 144 3 = some (3, 1, false) := by kernel_rfl
theorem fd144x4 : fldT Try.prog 144 4 = some (4, 1, false) := by kernel_rfl
theorem fd144x5 : fldT Try.prog 144 5 = some (5, 1, false) := by kernel_rfl
theorem fd144x6 : fldT Try.prog 144 6 = some (6, 1, false) := by kernel_rfl
theorem fd144x7 : fldT Try.prog 144 7 = some (7, 1, false) := by kernel_rfl
theorem fd144x8 : fldT Try.prog 144 8 = some (8, 1, false) := by kernel_rfl
theorem fd144x9 : fldT Try.prog 144 9 = some (9, 1, false) := by kernel_rfl
theorem fd144x10 : fldT Try.prog 144 10 = some (10, 1, false) := by kernel_rfl
theorem pl144 : placesT Try.prog 144 = some [0, 1, 2, 3, 4, 5, 6, 7, 8, 9, 10] := by kernel_rfl
attribute [go_sem] sg0_eq wayE_sg0 wayN_sg0 wayS_sg0 wayZ_sg0 wayM_sg0 sz1 it2 st2 sz2 zt2 it3 st3 sz3 zt3 bo4 sz4 zt4
attribute [go_sem] it5 st5 sz5 zt5 it6 st6 sz6 zt6 sz7 zt7 fd7x0 fd7x1
attribute [go_sem] fd7x2 fd7x3 pl7 sz8 zt8 fd8x0 fd8x1 fd8x2 fd8x3 pl8 st9 sz9
attribute [go_sem] zt9 st10 sz10 zt10 st11 sz11 zt11 it12 st12 sz12 zt12 sz13
attribute [go_sem] zt13 fd13x0 fd13x1 pl13 sz14 zt14 fd14x0 fd14x1 pl14 sz15 sz16 sz17
attribute [go_sem] sz18 fd18x0 pl18 sz19 fd19x0 pl19 it21 st21 sz21 zt21 sl22 us22
attribute [go_sem] st22 sz22 zt22 sz24 sz25 sz26 sz27 sl28 us28 st28 sz28 zt28
attribute [go_sem] sz29 sz30 sz31 sz32 sz33 sz35 sl36 us36 st36 sz36 zt36 sz37
attribute [go_sem] sz39 sz41 sl42 us42 st42 sz42 zt42 sz43 sz44 sz46 sz47 sz48
attribute [go_sem] sz49 sz50 sz51 sz52 sz53 sz54 mt55 ky55 sz56 sz57 sz58 sz59
attribute [go_sem] sz60 sz61 sz62 sz63 sz64 sz65 sz66 sz67 sz68 sz69 sz70 sz71
attribute [go_sem] sz72 sl73 us73 st73 sz73 zt73 sz74 sz75 sz76 zt76 fd76x0 fd76x1
attribute [go_sem] pl76 st77 sz77 zt77 sz78 sz79 sz80 sz81 sz82 sz83 sz84 it85
attribute [go_sem] st85 sz85 zt85 sz86 sz87 zt87 fd87x0 fd87x1 fd87x2 pl87 sz88 zt88
attribute [go_sem] fd88x0 fd88x1 fd88x2 pl88 sz89 sz90 sz91 sz92 sz93 sz94 sz95 sz96
attribute [go_sem] sl97 us97 st97 sz97 zt97 sz98 sz99 sz100 sz101 sz102 sz103 sz104
attribute [go_sem] sz105 sz106 sz107 sz108 sz109 sz110 sz111 it112 st112 sz112 zt112 sz114
attribute [go_sem] sz115 sz116 sz118 sz119 it120 st120 sz120 zt120 sz121 it122 st122 sz122
attribute [go_sem] zt122 it123 st123 sz123 zt123 sz124 sz125 sz126 sz127 sz128 sz129 sz130
attribute [go_sem] sz131 fd131x0 fd131x1 fd131x2 fd131x3 pl131 sz132 fd132x0 fd132x1 fd132x2 fd132x3 pl132
attribute [go_sem] sz133 sz134 fd134x0 sz135 fd135x0 sz136 it137 st137 sz137 zt137 it138 st138
attribute [go_sem] sz138 zt138 sz139 sz140 it141 st141 sz141 zt141 it142 st142 sz142 zt142
attribute [go_sem] sz143 fd143x0 fd143x1 fd143x2 fd143x3 fd143x4 fd143x5 fd143x6 fd143x7 fd143x8 fd143x9 fd143x10
attribute [go_sem] pl143 sz144 fd144x0 fd144x1 fd144x2 fd144x3 fd144x4 fd144x5 fd144x6 fd144x7 fd144x8 fd144x9
attribute [go_sem] fd144x10 pl144
end Go.Gl
