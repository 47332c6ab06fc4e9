/-
  The common ground of the contracts of this program's functions. Conditions: none.
-/
import Derived.Test.YtcnejdfpdgiffaaGlC
import Derived.Test.YtcnejdfpdgiffaaChecked
namespace Go.Gl
open Go Go.Proofs
def sg0 : FuncId → List Bool := fun _ => []
theorem sg0_eq {f : FuncId} : sg0 f = [] := rfl
theorem wayE_sg0 : wayE sg0 = false := _root_.id rfl
theorem wayN_sg0 : wayN sg0 = false := _root_.id rfl
theorem wayS_sg0 : wayS sg0 = false := _root_.id rfl
theorem wayZ_sg0 : wayZ sg0 = false := _root_.id rfl
theorem mo : Try.prog.follows .mixedOrders = true := Try.checked.mixed
theorem sz1 : szT Try.prog 1 = some (1, false) := by kernel_rfl
theorem it2 : intT Try.prog 2 = some .i64 := by kernel_rfl
theorem st2 : strT Try.prog 2 = false := by kernel_rfl
theorem sz2 : szT Try.prog 2 = some (1, false) := by kernel_rfl
theorem zt2 : zeroT Try.prog 2 = some [.int .i64 0] := by kernel_rfl
theorem it3 : intT Try.prog 3 = some .i64 := by kernel_rfl
theorem st3 : strT Try.prog 3 = false := by kernel_rfl
theorem sz3 : szT Try.prog 3 = some (1, false) := by kernel_rfl
theorem zt3 : zeroT Try.prog 3 = some [.int .i64 0] := by kernel_rfl
theorem bo4 : boolT Try.prog 4 = true := by kernel_rfl
theorem sz4 : szT Try.prog 4 = some (1, false) := by kernel_rfl
theorem zt4 : zeroT Try.prog 4 = some [.bool false] := by kernel_rfl
theorem it5 : intT Try.prog 5 = some .u8 := by kernel_rfl
theorem st5 : strT Try.prog 5 = false := by kernel_rfl
theorem sz5 : szT Try.prog 5 = some (1, false) := by kernel_rfl
theorem zt5 : zeroT Try.prog 5 = some [.int .u8 0] := by kernel_rfl
theorem it6 : intT Try.prog 6 = some .u8 := by kernel_rfl
theorem st6 : strT Try.prog 6 = false := by kernel_rfl
theorem sz6 : szT Try.prog 6 = some (1, false) := by kernel_rfl
theorem zt6 : zeroT Try.prog 6 = some [.int .u8 0] := by kernel_rfl
theorem sz7 : szT Try.prog 7 = some (4, true) := by kernel_rfl
theorem zt7 : zeroT Try.prog 7 = some [.int .i64 0, .int .i64 0, .bool false, .int .u8 0] := by kernel_rfl
theorem fd7x0 : fldT Try.prog 7 0 = some (0, 1, false) := by kernel_rfl
theorem fd7x1 : fldT Try.prog 7 1 = some (1, 1, false) := by kernel_rfl
theorem fd7x2 : fldT Try.prog 7 2 = some (2, 1, false) := by kernel_rfl
theorem fd7x3 : fldT Try.prog 7 3 = some (3, 1, false) := by kernel_rfl
theorem pl7 : placesT Try.prog 7 = some [0, 1, 2, 3] := by kernel_rfl
theorem sz8 : szT Try.prog 8 = some (4, true) := by kernel_rfl
theorem zt8 : zeroT Try.prog 8 = some [.int .i64 0, .int .i64 0, .bool false, .int .u8 0] := by kernel_rfl
theorem fd8x0 : fldT Try.prog 8 0 = some (0, 1, false) := by kernel_rfl
theorem fd8x1 : fldT Try.prog 8 1 = some (1, 1, false) := by kernel_rfl
theorem fd8x2 : fldT Try.prog 8 2 = some (2, 1, false) := by kernel_rfl
theorem fd8x3 : fldT Try.prog 8 3 = some (3, 1, false) := by kernel_rfl
theorem pl8 : placesT Try.prog 8 = some [0, 1, 2, 3] := by kernel_rfl
theorem st9 : strT Try.prog 9 = true := by kernel_rfl
theorem sz9 : szT Try.prog 9 = some (1, false) := by kernel_rfl
theorem zt9 : zeroT Try.prog 9 = some [.str []] := by kernel_rfl
theorem st10 : strT Try.prog 10 = true := by kernel_rfl
theorem sz10 : szT Try.prog 10 = some (1, false) := by kernel_rfl
theorem zt10 : zeroT Try.prog 10 = some [.str []] := by kernel_rfl
theorem st11 : strT Try.prog 11 = true := by kernel_rfl
theorem sz11 : szT Try.prog 11 = some (1, false) := by kernel_rfl
theorem zt11 : zeroT Try.prog 11 = some [.str []] := by kernel_rfl
theorem it12 : intT Try.prog 12 = some .u64 := by kernel_rfl
theorem st12 : strT Try.prog 12 = false := by kernel_rfl
theorem sz12 : szT Try.prog 12 = some (1, false) := by kernel_rfl
theorem zt12 : zeroT Try.prog 12 = some [.int .u64 0] := by kernel_rfl
theorem sz13 : szT Try.prog 13 = some (2, true) := by kernel_rfl
theorem zt13 : zeroT Try.prog 13 = some [.str [], .int .u64 0] := by kernel_rfl
theorem fd13x0 : fldT Try.prog 13 0 = some (0, 1, false) := by kernel_rfl
theorem fd13x1 : fldT Try.prog 13 1 = some (1, 1, false) := by kernel_rfl
theorem pl13 : placesT Try.prog 13 = some [0, 1] := by kernel_rfl
theorem sz14 : szT Try.prog 14 = some (2, true) := by kernel_rfl
theorem zt14 : zeroT Try.prog 14 = some [.str [], .int .u64 0] := by kernel_rfl
theorem fd14x0 : fldT Try.prog 14 0 = some (0, 1, false) := by kernel_rfl
theorem fd14x1 : fldT Try.prog 14 1 = some (1, 1, false) := by kernel_rfl
theorem pl14 : placesT Try.prog 14 = some [0, 1] := by kernel_rfl
theorem sz15 : szT Try.prog 15 = some (1, false) := by kernel_rfl
theorem sz16 : szT Try.prog 16 = some (1, false) := by kernel_rfl
theorem sz17 : szT Try.prog 17 = some (1, false) := by kernel_rfl
theorem sz18 : szT Try.prog 18 = some (1, true) := by kernel_rfl
theorem fd18x0 : fldT Try.prog 18 0 = some (0, 1, false) := by kernel_rfl
theorem pl18 : placesT Try.prog 18 = some [0] := by kernel_rfl
theorem sz19 : szT Try.prog 19 = some (1, true) := by kernel_rfl
theorem fd19x0 : fldT Try.prog 19 0 = some (0, 1, false) := by kernel_rfl
theorem pl19 : placesT Try.prog 19 = some [0] := by kernel_rfl
theorem it21 : intT Try.prog 21 = some .i32 := by kernel_rfl
theorem st21 : strT Try.prog 21 = false := by kernel_rfl
theorem sz21 : szT Try.prog 21 = some (1, false) := by kernel_rfl
theorem zt21 : zeroT Try.prog 21 = some [.int .i32 0] := by kernel_rfl
theorem sl22 : slT Try.prog 22 = some (8, .int .i64 0) := by kernel_rfl
theorem us22 : u8T Try.prog 22 = false := by kernel_rfl
theorem st22 : strT Try.prog 22 = false := by kernel_rfl
theorem sz22 : szT Try.prog 22 = some (1, false) := by kernel_rfl
theorem zt22 : zeroT Try.prog 22 = some [.sl (.lent false) []] := by kernel_rfl
theorem sl23 : slT Try.prog 23 = some (24, .sl (.lent false) []) := by kernel_rfl
theorem us23 : u8T Try.prog 23 = false := by kernel_rfl
theorem st23 : strT Try.prog 23 = false := by kernel_rfl
theorem sz23 : szT Try.prog 23 = some (1, false) := by kernel_rfl
theorem zt23 : zeroT Try.prog 23 = some [.sl (.lent false) []] := by kernel_rfl
theorem sz24 : szT Try.prog 24 = some (3, true) := by kernel_rfl
theorem zt24 : zeroT Try.prog 24 = some [.sl (.lent false) [], .sl (.lent false) [], .sl (.lent false) []] := by kernel_rfl
theorem fd24x0 : fldT Try.prog 24 0 = some (0, 1, false) := by kernel_rfl
theorem fd24x1 : fldT Try.prog 24 1 = some (1, 1, false) := by kernel_rfl
theorem fd24x2 : fldT Try.prog 24 2 = some (2, 1, false) := by kernel_rfl
theorem pl24 : placesT Try.prog 24 = some [0, 1, 2] := by kernel_rfl
theorem sz25 : szT Try.prog 25 = some (3, true) := by kernel_rfl
theorem zt25 : zeroT Try.prog 25 = some [.sl (.lent false) [], .sl (.lent false) [], .sl (.lent false) []] := by kernel_rfl
theorem fd25x0 : fldT Try.prog 25 0 = some (0, 1, false) := by kernel_rfl
theorem fd25x1 : fldT Try.prog 25 1 = some (1, 1, false) := by kernel_rfl
theorem fd25x2 : fldT Try.prog 25 2 = some (2, 1, false) := by kernel_rfl
theorem pl25 : placesT Try.prog 25 = some [0, 1, 2] := by kernel_rfl
theorem sz26 : szT Try.prog 26 = some (1, false) := by kernel_rfl
theorem sz27 : szT Try.prog 27 = some (1, false) := by kernel_rfl
theorem sz28 : szT Try.prog 28 = some (3, true) := by kernel_rfl
theorem zt28 : zeroT Try.prog 28 = some [.sl (.lent false) [], .sl (.lent false) [], .sl (.lent false) []] := by kernel_rfl
theorem fd28x0 : fldT Try.prog 28 0 = some (0, 1, false) := by kernel_rfl
theorem fd28x1 : fldT Try.prog 28 1 = some (1, 1, false) := by kernel_rfl
theorem fd28x2 : fldT Try.prog 28 2 = some (2, 1, false) := by kernel_rfl
theorem pl28 : placesT Try.prog 28 = some [0, 1, 2] := by kernel_rfl
theorem sz29 : szT Try.prog 29 = some (1, false) := by kernel_rfl
theorem sz30 : szT Try.prog 30 = some (1, false) := by kernel_rfl
theorem sz31 : szT Try.prog 31 = some (1, false) := by kernel_rfl
theorem sz33 : szT Try.prog 33 = some (1, false) := by kernel_rfl
theorem sz34 : szT Try.prog 34 = some (1, false) := by kernel_rfl
theorem sz35 : szT Try.prog 35 = some (1, false) := by kernel_rfl
theorem sz36 : szT Try.prog 36 = some (1, false) := by kernel_rfl
theorem sz37 : szT Try.prog 37 = some (1, false) := by kernel_rfl
theorem sz38 : szT Try.prog 38 = some (1, false) := by kernel_rfl
theorem sz39 : szT Try.prog 39 = some (1, false) := by kernel_rfl
theorem sz40 : szT Try.prog 40 = some (1, false) := by kernel_rfl
theorem sz41 : szT Try.prog 41 = some (1, false) := by kernel_rfl
theorem sz42 : szT Try.prog 42 = some (1, false) := by kernel_rfl
theorem sz44 : szT Try.prog 44 = some (1, false) := by kernel_rfl
theorem sz45 : szT Try.prog 45 = some (1, false) := by kernel_rfl
theorem sz46 : szT Try.prog 46 = some (1, false) := by kernel_rfl
theorem sz47 : szT Try.prog 47 = some (1, false) := by kernel_rfl
theorem sz48 : szT Try.prog 48 = some (1, false) := by kernel_rfl
theorem sz50 : szT Try.prog 50 = some (1, false) := by kernel_rfl
theorem sz51 : szT Try.prog 51 = some (1, false) := by kernel_rfl
theorem sz52 : szT Try.prog 52 = some (1, false) := by kernel_rfl
theorem sl53 : slT Try.prog 53 = some (1, .int .u8 0) := by kernel_rfl
theorem us53 : u8T Try.prog 53 = true := by kernel_rfl
theorem st53 : strT Try.prog 53 = false := by kernel_rfl
theorem sz53 : szT Try.prog 53 = some (1, false) := by kernel_rfl
theorem zt53 : zeroT Try.prog 53 = some [.sl (.lent false) []] := by kernel_rfl
theorem sz54 : szT Try.prog 54 = some (1, false) := by kernel_rfl
theorem sz56 : szT Try.prog 56 = some (1, false) := by kernel_rfl
theorem sz58 : szT Try.prog 58 = some (1, false) := by kernel_rfl
theorem sz60 : szT Try.prog 60 = some (1, false) := by kernel_rfl
theorem sz61 : szT Try.prog 61 = some (1, false) := by kernel_rfl
theorem sz62 : szT Try.prog 62 = some (1, false) := by kernel_rfl
theorem sz63 : szT Try.prog 63 = some (1, false) := by kernel_rfl
theorem sz64 : szT Try.prog 64 = some (1, false) := by kernel_rfl
theorem sz65 : szT Try.prog 65 = some (1, false) := by kernel_rfl
theorem sl66 : slT Try.prog 66 = some (16, .str []) := by kernel_rfl
theorem us66 : u8T Try.prog 66 = false := by kernel_rfl
theorem st66 : strT Try.prog 66 = false := by kernel_rfl
theorem sz66 : szT Try.prog 66 = some (1, false) := by kernel_rfl
theorem zt66 : zeroT Try.prog 66 = some [.sl (.lent false) []] := by kernel_rfl
theorem sz67 : szT Try.prog 67 = some (1, false) := by kernel_rfl
theorem sz68 : szT Try.prog 68 = some (1, false) := by kernel_rfl
theorem sz69 : szT Try.prog 69 = some (1, false) := by kernel_rfl
theorem sz70 : szT Try.prog 70 = some (1, false) := by kernel_rfl
theorem sz71 : szT Try.prog 71 = some (1, false) := by kernel_rfl
theorem sz72 : szT Try.prog 72 = some (1, false) := by kernel_rfl
theorem sz73 : szT Try.prog 73 = some (1, false) := by kernel_rfl
theorem sz74 : szT Try.prog 74 = some (1, false) := by kernel_rfl
theorem mt75 : mapT Try.prog 75 = some (5, (.sl .own [])) := by kernel_rfl
theorem ky75 : Maps.Keyed Try.prog 5 := Maps.int_keyed (show Try.prog.underlying 5 = some (.int .u8) by kernel_rfl)
theorem sz76 : szT Try.prog 76 = some (1, false) := by kernel_rfl
theorem sz77 : szT Try.prog 77 = some (2, true) := by kernel_rfl
theorem zt77 : zeroT Try.prog 77 = some [.sl (.lent false) [], .sl (.lent false) []] := by kernel_rfl
theorem fd77x0 : fldT Try.prog 77 0 = some (0, 1, false) := by kernel_rfl
theorem fd77x1 : fldT Try.prog 77 1 = some (1, 1, false) := by kernel_rfl
theorem pl77 : placesT Try.prog 77 = some [0, 1] := by kernel_rfl
theorem sz78 : szT Try.prog 78 = some (2, true) := by kernel_rfl
theorem zt78 : zeroT Try.prog 78 = some [.sl (.lent false) [], .sl (.lent false) []] := by kernel_rfl
theorem fd78x0 : fldT Try.prog 78 0 = some (0, 1, false) := by kernel_rfl
theorem fd78x1 : fldT Try.prog 78 1 = some (1, 1, false) := by kernel_rfl
theorem pl78 : placesT Try.prog 78 = some [0, 1] := by kernel_rfl
theorem sz80 : szT Try.prog 80 = some (1, false) := by kernel_rfl
theorem sz81 : szT Try.prog 81 = some (1, false) := by kernel_rfl
theorem sz82 : szT Try.prog 82 = some (1, false) := by kernel_rfl
theorem sz83 : szT Try.prog 83 = some (1, false) := by kernel_rfl
theorem sz84 : szT Try.prog 84 = some (1, false) := by kernel_rfl
theorem sz85 : szT Try.prog 85 = some (1, false) := by kernel_rfl
theorem sz86 : szT Try.prog 86 = some (1, false) := by kernel_rfl
theorem sz87 : szT Try.prog 87 = some (1, false) := by kernel_rfl
theorem sz88 : szT Try.prog 88 = some (1, false) := by kernel_rfl
theorem sz89 : szT Try.prog 89 = some (1, false) := by kernel_rfl
theorem sz90 : szT Try.prog 90 = some (1, false) := by kernel_rfl
theorem mt91 : mapT Try.prog 91 = some (93, (.int .i64 0)) := by kernel_rfl
theorem ky91 : Maps.Keyed Try.prog 93 := Maps.Keyed.of_law (deep_law_laid (show laidOutB Try.prog = true by kernel_rfl) (m := 3) (by omega) (of_decide_eq_true (by kernel_rfl)) (by kernel_rfl) (by kernel_rfl))
theorem sz93 : szT Try.prog 93 = some (2, true) := by kernel_rfl
theorem pl93 : placesT Try.prog 93 = some [0, 1] := by kernel_rfl
theorem zt93 : zeroT Try.prog 93 = some [.int .i64 0, .int .i64 0] := by kernel_rfl
theorem sz94 : szT Try.prog 94 = some (1, false) := by kernel_rfl
theorem sz95 : szT Try.prog 95 = some (1, false) := by kernel_rfl
theorem sz96 : szT Try.prog 96 = some (2, true) := by kernel_rfl
theorem fd96x0 : fldT Try.prog 96 0 = some (0, 1, false) := by kernel_rfl
theorem fd96x1 : fldT Try.prog 96 1 = some (1, 1, false) := by kernel_rfl
theorem pl96 : placesT Try.prog 96 = some [0, 1] := by kernel_rfl
theorem sz97 : szT Try.prog 97 = some (2, true) := by kernel_rfl
theorem fd97x0 : fldT Try.prog 97 0 = some (0, 1, false) := by kernel_rfl
theorem fd97x1 : fldT Try.prog 97 1 = some (1, 1, false) := by kernel_rfl
theorem pl97 : placesT Try.prog 97 = some [0, 1] := by kernel_rfl
theorem sz98 : szT Try.prog 98 = some (1, false) := by kernel_rfl
theorem sz102 : szT Try.prog 102 = some (1, false) := by kernel_rfl
theorem sz103 : szT Try.prog 103 = some (1, false) := by kernel_rfl
theorem sz104 : szT Try.prog 104 = some (1, false) := by kernel_rfl
theorem sz105 : szT Try.prog 105 = some (1, false) := by kernel_rfl
theorem sz106 : szT Try.prog 106 = some (1, false) := by kernel_rfl
theorem sz107 : szT Try.prog 107 = some (1, false) := by kernel_rfl
theorem sz108 : szT Try.prog 108 = some (1, false) := by kernel_rfl
theorem sz109 : szT Try.prog 109 = some (1, false) := by kernel_rfl
theorem sz110 : szT Try.prog 110 = some (1, false) := by kernel_rfl
theorem sz111 : szT Try.prog 111 = some (1, false) := by kernel_rfl
theorem sz112 : szT Try.prog 112 = some (1, false) := by kernel_rfl
theorem sz113 : szT Try.prog 113 = some (1, false) := by kernel_rfl
theorem sz114 : szT Try.prog 114 = some (1, false) := by kernel_rfl
theorem sz115 : szT Try.prog 115 = some (1, false) := by kernel_rfl
theorem sz116 : szT Try.prog 116 = some (3, true) := by kernel_rfl
theorem zt116 : zeroT Try.prog 116 = some [.sl (.lent false) [], .int .i64 0, .int .i64 0] := by kernel_rfl
theorem fd116x0 : fldT Try.prog 116 0 = some (0, 1, false) := by kernel_rfl
theorem fd116x1 : fldT Try.prog 116 1 = some (1, 1, false) := by kernel_rfl
theorem fd116x2 : fldT Try.prog 116 2 = some (2, 1, false) := by kernel_rfl
theorem pl116 : placesT Try.prog 116 = some [0, 1, 2] := by kernel_rfl
theorem sz117 : szT Try.prog 117 = some (3, true) := by kernel_rfl
theorem zt117 : zeroT Try.prog 117 = some [.sl (.lent false) [], .int .i64 0, .int .i64 0] := by kernel_rfl
theorem fd117x0 : fldT Try.prog 117 0 = some (0, 1, false) := by kernel_rfl
theorem fd117x1 : fldT Try.prog 117 1 = some (1, 1, false) := by kernel_rfl
theorem fd117x2 : fldT Try.prog 117 2 = some (2, 1, false) := by kernel_rfl
theorem pl117 : placesT Try.prog 117 = some [0, 1, 2] := by kernel_rfl
theorem sz118 : szT Try.prog 118 = some (1, false) := by kernel_rfl
theorem sz119 : szT Try.prog 119 = some (1, false) := by kernel_rfl
theorem sz120 : szT Try.prog 120 = some (1, false) := by kernel_rfl
theorem sl121 : slT Try.prog 121 = some (1, .bool false) := by kernel_rfl
theorem us121 : u8T Try.prog 121 = false := by kernel_rfl
theorem st121 : strT Try.prog 121 = false := by kernel_rfl
theorem sz121 : szT Try.prog 121 = some (1, false) := by kernel_rfl
theorem zt121 : zeroT Try.prog 121 = some [.sl (.lent false) []] := by kernel_rfl
theorem sz122 : szT Try.prog 122 = some (1, false) := by kernel_rfl
theorem sz123 : szT Try.prog 123 = some (1, false) := by kernel_rfl
theorem sz124 : szT Try.prog 124 = some (1, false) := by kernel_rfl
theorem sz125 : szT Try.prog 125 = some (1, false) := by kernel_rfl
theorem sz126 : szT Try.prog 126 = some (1, false) := by kernel_rfl
theorem sz127 : szT Try.prog 127 = some (1, false) := by kernel_rfl
theorem sz128 : szT Try.prog 128 = some (1, false) := by kernel_rfl
theorem sz129 : szT Try.prog 129 = some (1, false) := by kernel_rfl
theorem sz130 : szT Try.prog 130 = some (1, false) := by kernel_rfl
theorem sz131 : szT Try.prog 131 = some (1, false) := by kernel_rfl
theorem it132 : intT Try.prog 132 = some .u64 := by kernel_rfl
theorem st132 : strT Try.prog 132 = false := by kernel_rfl
theorem sz132 : szT Try.prog 132 = some (1, false) := by kernel_rfl
theorem zt132 : zeroT Try.prog 132 = some [.int .u64 0] := by kernel_rfl
theorem sz134 : szT Try.prog 134 = some (1, false) := by kernel_rfl
theorem sz135 : szT Try.prog 135 = some (1, false) := by kernel_rfl
theorem sz136 : szT Try.prog 136 = some (1, false) := by kernel_rfl
theorem sz137 : szT Try.prog 137 = some (1, false) := by kernel_rfl
theorem sz138 : szT Try.prog 138 = some (1, false) := by kernel_rfl
theorem sz139 : szT Try.prog 139 = some (4, true) := by kernel_rfl
theorem fd139x0 : fldT Try.prog 139 0 = some (0, 1, false) := by kernel_rfl
theorem fd139x1 : fldT Try.prog 139 1 = some (1, 1, false) := by kernel_rfl
theorem fd139x2 : fldT Try.prog 139 2 = some (2, 1, false) := by kernel_rfl
theorem fd139x3 : fldT Try.prog 139 3 = some (3, 1, false) := by kernel_rfl
theorem pl139 : placesT Try.prog 139 = some [0, 1, 2, 3] := by kernel_rfl
theorem sz140 : szT Try.prog 140 = some (4, true) := by kernel_rfl
theorem fd140x0 : fldT Try.prog 140 0 = some (0, 1, false) := by kernel_rfl
theorem fd140x1 : fldT Try.prog 140 1 = some (1, 1, false) := by kernel_rfl
theorem fd140x2 : fldT Try.prog 140 2 = some (2, 1, false) := by kernel_rfl
theorem fd140x3 : fldT Try.prog 140 3 = some (3, 1, false) := by kernel_rfl
theorem pl140 : placesT Try.prog 140 = some [0, 1, 2, 3] := by kernel_rfl
theorem sz141 : szT Try.prog 141 = some (0, true) := by kernel_rfl
theorem sz142 : szT Try.prog 142 = some (0, true) := by kernel_rfl
theorem fd142x0 : fldT Try.prog 142 0 = some (0, 0, true) := by kernel_rfl
theorem sz143 : szT Try.prog 143 = some (0, true) := by kernel_rfl
theorem fd143x0 : fldT Try.prog 143 0 = some (0, 0, true) := by kernel_rfl
theorem sz144 : szT Try.prog 144 = some (1, false) := by kernel_rfl
theorem it145 : intT Try.prog 145 = some .u32 := by kernel_rfl
theorem st145 : strT Try.prog 145 = false := by kernel_rfl
theorem sz145 : szT Try.prog 145 = some (1, false) := by kernel_rfl
theorem zt145 : zeroT Try.prog 145 = some [.int .u32 0] := by kernel_rfl
theorem it146 : intT Try.prog 146 = some .u8 := by kernel_rfl
theorem st146 : strT Try.prog 146 = false := by kernel_rfl
theorem sz146 : szT Try.prog 146 = some (1, false) := by kernel_rfl
theorem zt146 : zeroT Try.prog 146 = some [.int .u8 0] := by kernel_rfl
theorem it147 : intT Try.prog 147 = some .u8 := by kernel_rfl
theorem st147 : strT Try.prog 147 = false := by kernel_rfl
theorem sz147 : szT Try.prog 147 = some (1, false) := by kernel_rfl
theorem zt147 : zeroT Try.prog 147 = some [.int .u8 0] := by kernel_rfl
theorem sz148 : szT Try.prog 148 = some (1, false) := by kernel_rfl
theorem it149 : intT Try.prog 149 = some .i32 := by kernel_rfl
theorem st149 : strT Try.prog 149 = false := by kernel_rfl
theorem sz149 : szT Try.prog 149 = some (1, false) := by kernel_rfl
theorem zt149 : zeroT Try.prog 149 = some [.int .i32 0] := by kernel_rfl
theorem it150 : intT Try.prog 150 = some .i32 := by kernel_rfl
theorem st150 : strT Try.prog 150 = false := by kernel_rfl
theorem sz150 : szT Try.prog 150 = some (1, false) := by kernel_rfl
theorem zt150 : zeroT Try.prog 150 = some [.int .i32 0] := by kernel_rfl
theorem sz151 : szT Try.prog 151 = some (11, true) := by kernel_rfl
theorem fd151x0 : fldT Try.prog 151 0 = some (0, 1, false) := by kernel_rfl
theorem fd151x1 : fldT Try.prog 151 1 = some (1, 1, false) := by kernel_rfl
theorem fd151x2 : fldT Try.prog 151 2 = some (2, 1, false) := by kernel_rfl
theorem fd151x3 : fldT Try.prog 151 3 = some (3, 1, false) := by kernel_rfl
theorem fd151x4 : fldT Try.prog 151 4 = some (4, 1, false) := by kernel_rfl
theorem fd151x5 : fldT Try.prog 151 5 = some (5, 1, false) := by kernel_rfl
theorem fd151x6 : fldT Try.prog 151 6 = some (6, 1, false) := by kernel_rfl
theorem fd151x7 : fldT Try.prog 151 7 = some (7, 1, false) := by kernel_rfl
theorem fd151x8 : fldT Try.prog 151 8 = some (8, 1, false) := by kernel_rfl
theorem fd151x9 : fldT Try.prog 151 9 = some (9, 1, false) := by kernel_rfl
theorem fd151x10 : fldT Try.prog 151 10 = some (10, 1, false) := by kernel_rfl
theorem pl151 : placesT Try.prog 151 = some [0, 1, 2, 3, 4, 5, 6, 7, 8, 9, 10] := by kernel_rfl
theorem sz152 : szT Try.prog 152 = some (11, true) := by kernel_rfl
theorem fd152x0 : fldT Try.prog 152 0 = some (0, 1, false) := by kernel_rfl
theorem fd152x1 : fldT Try.prog 152 1 = some (1, 1, false) := by kernel_rfl
theorem fd152x2 : fldT Try.prog 152 2 = some (2, 1, false) := by kernel_rfl
theorem fd152x3 : fldT Try.prog 152 3 = some (3, 1, false) := by kernel_rfl
theorem fd152x4 : fldT Try.prog 152 4 = some (4, 1, false) := by kernel_rfl
theorem fd152x5 : fldT Try.prog 152 5 = some (5, 1, false) := by kernel_rfl
theorem fd152x6 : fldT Try.prog 152 6 = some (6, 1, false) := by kernel_rfl
theorem fd152x7 : fldT Try.prog 152 7 = some (7, 1, false) := by kernel_rfl
theorem fd152x8 : fldT Try.prog 152 8 = some (8, 1, false) := by kernel_rfl
theorem fd152x9 : fldT Try.prog 152 9 = some (9, 1, false) := by kernel_rfl
theorem fd152x10 : fldT Try.prog 152 10 = some (10, 1, false) := by kernel_rfl
theorem pl152 : placesT Try.prog 152 = some [0, 1, 2, 3, 4, 5, 6, 7, 8, 9, 10] := by kernel_rfl
theorem sz153 : szT Try.prog 153 = some (1, false) := by kernel_rfl
attribute [go_sem] sg0_eq wayE_sg0 wayN_sg0 wayS_sg0 wayZ_sg0 sz1 it2 st2 sz2 zt2 it3 st3 sz3 zt3 bo4 sz4 zt4
attribute [go_sem] it5 st5 sz5 zt5 it6 st6 sz6 zt6 sz7 zt7 fd7x0 fd7x1
attribute [go_sem] fd7x2 fd7x3 pl7 sz8 zt8 fd8x0 fd8x1 fd8x2 fd8x3 pl8 st9 sz9
attribute [go_sem] zt9 st10 sz10 zt10 st11 sz11 zt11 it12 st12 sz12 zt12 sz13
attribute [go_sem] zt13 fd13x0 fd13x1 pl13 sz14 zt14 fd14x0 fd14x1 pl14 sz15 sz16 sz17
attribute [go_sem] sz18 fd18x0 pl18 sz19 fd19x0 pl19 it21 st21 sz21 zt21 sl22 us22
attribute [go_sem] st22 sz22 zt22 sl23 us23 st23 sz23 zt23 sz24 zt24 fd24x0 fd24x1
attribute [go_sem] fd24x2 pl24 sz25 zt25 fd25x0 fd25x1 fd25x2 pl25 sz26 sz27 sz28 zt28
attribute [go_sem] fd28x0 fd28x1 fd28x2 pl28 sz29 sz30 sz31 sz33 sz34 sz35 sz36 sz37
attribute [go_sem] sz38 sz39 sz40 sz41 sz42 sz44 sz45 sz46 sz47 sz48 sz50 sz51
attribute [go_sem] sz52 sl53 us53 st53 sz53 zt53 sz54 sz56 sz58 sz60 sz61 sz62
attribute [go_sem] sz63 sz64 sz65 sl66 us66 st66 sz66 zt66 sz67 sz68 sz69 sz70
attribute [go_sem] sz71 sz72 sz73 sz74 mt75 ky75 sz76 sz77 zt77 fd77x0 fd77x1 pl77
attribute [go_sem] sz78 zt78 fd78x0 fd78x1 pl78 sz80 sz81 sz82 sz83 sz84 sz85 sz86
attribute [go_sem] sz87 sz88 sz89 sz90 mt91 ky91 sz93 pl93 zt93 sz94 sz95 sz96
attribute [go_sem] fd96x0 fd96x1 pl96 sz97 fd97x0 fd97x1 pl97 sz98 sz102 sz103 sz104 sz105
attribute [go_sem] sz106 sz107 sz108 sz109 sz110 sz111 sz112 sz113 sz114 sz115 sz116 zt116
attribute [go_sem] fd116x0 fd116x1 fd116x2 pl116 sz117 zt117 fd117x0 fd117x1 fd117x2 pl117 sz118 sz119
attribute [go_sem] sz120 sl121 us121 st121 sz121 zt121 sz122 sz123 sz124 sz125 sz126 sz127
attribute [go_sem] sz128 sz129 sz130 sz131 it132 st132 sz132 zt132 sz134 sz135 sz136 sz137
attribute [go_sem] sz138 sz139 fd139x0 fd139x1 fd139x2 fd139x3 pl139 sz140 fd140x0 fd140x1 fd140x2 fd140x3
attribute [go_sem] pl140 sz141 sz142 fd142x0 sz143 fd143x0 sz144 it145 st145 sz145 zt145 it146
attribute [go_sem] st146 sz146 zt146 it147 st147 sz147 zt147 sz148 it149 st149 sz149 zt149
attribute [go_sem] it150 st150 sz150 zt150 sz151 fd151x0 fd151x1 fd151x2 fd151x3 fd151x4 fd151x5 fd151x6
attribute [go_sem] fd151x7 fd151x8 fd151x9 fd151x10 pl151 sz152 fd152x0 fd152x1 fd152x2 fd152x3 fd152x4 fd152x5
attribute [go_sem] fd152x6 fd152x7 fd152x8 fd152x9 fd152x10 pl152 sz153
end Go.Gl
