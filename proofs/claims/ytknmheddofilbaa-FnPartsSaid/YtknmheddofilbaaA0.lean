/-
  The common ground of the contracts of this program's functions. Conditions: none.
-/
import Derived.Test.YtknmheddofilbaaGlE
import Derived.Test.YtknmheddofilbaaChecked
namespace Go.Gl
open Go Go.Proofs
def sg0 : FuncId → List Bool := fun _ => []
theorem sg0_eq {f : FuncId} : sg0 f = [] := rfl
theorem wayE_sg0 : wayE sg0 = false := _root_.id rfl
theorem wayN_sg0 : wayN sg0 = false := _root_.id rfl
theorem wayS_sg0 : wayS sg0 = false := _root_.id rfl
theorem wayZ_sg0 : wayZ sg0 = false := _root_.id rfl
theorem mo : Try.prog.follows .mixedOrders = true := Try.checked.mixed
theorem sz1 : szT Try.prog 1 = some (1, false) := by kernel_rfl
theorem it2 : intT Try.prog 2 = some .i64 := by kernel_rfl
theorem st2 : strT Try.prog 2 = false := by kernel_rfl
theorem sz2 : szT Try.prog 2 = some (1, false) := by kernel_rfl
theorem zt2 : zeroT Try.prog 2 = some [.int .i64 0] := by kernel_rfl
theorem it3 : intT Try.prog 3 = some .i64 := by kernel_rfl
theorem st3 : strT Try.prog 3 = false := by kernel_rfl
theorem sz3 : szT Try.prog 3 = some (1, false) := by kernel_rfl
theorem zt3 : zeroT Try.prog 3 = some [.int .i64 0] := by kernel_rfl
theorem bo4 : boolT Try.prog 4 = true := by kernel_rfl
theorem sz4 : szT Try.prog 4 = some (1, false) := by kernel_rfl
theorem zt4 : zeroT Try.prog 4 = some [.bool false] := by kernel_rfl
theorem it5 : intT Try.prog 5 = some .u8 := by kernel_rfl
theorem st5 : strT Try.prog 5 = false := by kernel_rfl
theorem sz5 : szT Try.prog 5 = some (1, false) := by kernel_rfl
theorem zt5 : zeroT Try.prog 5 = some [.int .u8 0] := by kernel_rfl
theorem it6 : intT Try.prog 6 = some .u8 := by kernel_rfl
theorem st6 : strT Try.prog 6 = false := by kernel_rfl
theorem sz6 : szT Try.prog 6 = some (1, false) := by kernel_rfl
theorem zt6 : zeroT Try.prog 6 = some [.int .u8 0] := by kernel_rfl
theorem sz7 : szT Try.prog 7 = some (4, true) := by kernel_rfl
theorem zt7 : zeroT Try.prog 7 = some [.int .i64 0, .int .i64 0, .bool false, .int .u8 0] := by kernel_rfl
theorem fd7x0 : fldT Try.prog 7 0 = some (0, 1, false) := by kernel_rfl
theorem fd7x1 : fldT Try.prog 7 1 = some (1, 1, false) := by kernel_rfl
theorem fd7x2 : fldT Try.prog 7 2 = some (2, 1, false) := by kernel_rfl
theorem fd7x3 : fldT Try.prog 7 3 = some (3, 1, false) := by kernel_rfl
theorem pl7 : placesT Try.prog 7 = some [0, 1, 2, 3] := by kernel_rfl
theorem sz8 : szT Try.prog 8 = some (4, true) := by kernel_rfl
theorem zt8 : zeroT Try.prog 8 = some [.int .i64 0, .int .i64 0, .bool false, .int .u8 0] := by kernel_rfl
theorem fd8x0 : fldT Try.prog 8 0 = some (0, 1, false) := by kernel_rfl
theorem fd8x1 : fldT Try.prog 8 1 = some (1, 1, false) := by kernel_rfl
theorem fd8x2 : fldT Try.prog 8 2 = some (2, 1, false) := by kernel_rfl
theorem fd8x3 : fldT Try.prog 8 3 = some (3, 1, false) := by kernel_rfl
theorem pl8 : placesT Try.prog 8 = some [0, 1, 2, 3] := by kernel_rfl
theorem st9 : strT Try.prog 9 = true := by kernel_rfl
theorem sz9 : szT Try.prog 9 = some (1, false) := by kernel_rfl
theorem zt9 : zeroT Try.prog 9 = some [.str []] := by kernel_rfl
theorem st10 : strT Try.prog 10 = true := by kernel_rfl
theorem sz10 : szT Try.prog 10 = some (1, false) := by kernel_rfl
theorem zt10 : zeroT Try.prog 10 = some [.str []] := by kernel_rfl
theorem st11 : strT Try.prog 11 = true := by kernel_rfl
theorem sz11 : szT Try.prog 11 = some (1, false) := by kernel_rfl
theorem zt11 : zeroT Try.prog 11 = some [.str []] := by kernel_rfl
theorem it12 : intT Try.prog 12 = some .u64 := by kernel_rfl
theorem st12 : strT Try.prog 12 = false := by kernel_rfl
theorem sz12 : szT Try.prog 12 = some (1, false) := by kernel_rfl
theorem zt12 : zeroT Try.prog 12 = some [.int .u64 0] := by kernel_rfl
theorem sz13 : szT Try.prog 13 = some (2, true) := by kernel_rfl
theorem zt13 : zeroT Try.prog 13 = some [.str [], .int .u64 0] := by kernel_rfl
theorem fd13x0 : fldT Try.prog 13 0 = some (0, 1, false) := by kernel_rfl
theorem fd13x1 : fldT Try.prog 13 1 = some (1, 1, false) := by kernel_rfl
theorem pl13 : placesT Try.prog 13 = some [0, 1] := by kernel_rfl
theorem sz14 : szT Try.prog 14 = some (2, true) := by kernel_rfl
theorem zt14 : zeroT Try.prog 14 = some [.str [], .int .u64 0] := by kernel_rfl
theorem fd14x0 : fldT Try.prog 14 0 = some (0, 1, false) := by kernel_rfl
theorem fd14x1 : fldT Try.prog 14 1 = some (1, 1, false) := by kernel_rfl
theorem pl14 : placesT Try.prog 14 = some [0, 1] := by kernel_rfl
theorem sz15 : szT Try.prog 15 = some (1, false) := by kernel_rfl
theorem sz16 : szT Try.prog 16 = some (1, false) := by kernel_rfl
theorem sz17 : szT Try.prog 17 = some (1, false) := by kernel_rfl
theorem sz18 : szT Try.prog 18 = some (1, true) := by kernel_rfl
theorem fd18x0 : fldT Try.prog 18 0 = some (0, 1, false) := by kernel_rfl
theorem pl18 : placesT Try.prog 18 = some [0] := by kernel_rfl
theorem sz19 : szT Try.prog 19 = some (1, true) := by kernel_rfl
theorem fd19x0 : fldT Try.prog 19 0 = some (0, 1, false) := by kernel_rfl
theorem pl19 : placesT Try.prog 19 = some [0] := by kernel_rfl
theorem it21 : intT Try.prog 21 = some .i32 := by kernel_rfl
theorem st21 : strT Try.prog 21 = false := by kernel_rfl
theorem sz21 : szT Try.prog 21 = some (1, false) := by kernel_rfl
theorem zt21 : zeroT Try.prog 21 = some [.int .i32 0] := by kernel_rfl
theorem sl22 : slT Try.prog 22 = some (1, .int .u8 0) := by kernel_rfl
theorem us22 : u8T Try.prog 22 = true := by kernel_rfl
theorem st22 : strT Try.prog 22 = false := by kernel_rfl
theorem sz22 : szT Try.prog 22 = some (1, false) := by kernel_rfl
theorem zt22 : zeroT Try.prog 22 = some [.sl (.lent false) []] := by kernel_rfl
theorem sz23 : szT Try.prog 23 = some (1, false) := by kernel_rfl
theorem sl24 : slT Try.prog 24 = some (8, .int .i64 0) := by kernel_rfl
theorem us24 : u8T Try.prog 24 = false := by kernel_rfl
theorem st24 : strT Try.prog 24 = false := by kernel_rfl
theorem sz24 : szT Try.prog 24 = some (1, false) := by kernel_rfl
theorem zt24 : zeroT Try.prog 24 = some [.sl (.lent false) []] := by kernel_rfl
theorem sl25 : slT Try.prog 25 = some (24, .sl (.lent false) []) := by kernel_rfl
theorem us25 : u8T Try.prog 25 = false := by kernel_rfl
theorem st25 : strT Try.prog 25 = false := by kernel_rfl
theorem sz25 : szT Try.prog 25 = some (1, false) := by kernel_rfl
theorem zt25 : zeroT Try.prog 25 = some [.sl (.lent false) []] := by kernel_rfl
theorem sz27 : szT Try.prog 27 = some (1, false) := by kernel_rfl
theorem sz29 : szT Try.prog 29 = some (1, false) := by kernel_rfl
theorem sz31 : szT Try.prog 31 = some (1, false) := by kernel_rfl
theorem sz33 : szT Try.prog 33 = some (1, false) := by kernel_rfl
theorem sz35 : szT Try.prog 35 = some (1, false) := by kernel_rfl
theorem sz36 : szT Try.prog 36 = some (1, false) := by kernel_rfl
theorem sz37 : szT Try.prog 37 = some (1, false) := by kernel_rfl
theorem sz38 : szT Try.prog 38 = some (1, false) := by kernel_rfl
theorem sz39 : szT Try.prog 39 = some (1, false) := by kernel_rfl
theorem sz40 : szT Try.prog 40 = some (1, false) := by kernel_rfl
theorem sz41 : szT Try.prog 41 = some (1, false) := by kernel_rfl
theorem sz42 : szT Try.prog 42 = some (1, false) := by kernel_rfl
theorem sz44 : szT Try.prog 44 = some (1, false) := by kernel_rfl
theorem sz45 : szT Try.prog 45 = some (1, false) := by kernel_rfl
theorem sz46 : szT Try.prog 46 = some (1, false) := by kernel_rfl
theorem sz47 : szT Try.prog 47 = some (1, false) := by kernel_rfl
theorem sz48 : szT Try.prog 48 = some (1, false) := by kernel_rfl
theorem sz49 : szT Try.prog 49 = some (1, false) := by kernel_rfl
theorem sz50 : szT Try.prog 50 = some (1, false) := by kernel_rfl
theorem sz52 : szT Try.prog 52 = some (1, false) := by kernel_rfl
theorem sz53 : szT Try.prog 53 = some (1, false) := by kernel_rfl
theorem sz54 : szT Try.prog 54 = some (1, false) := by kernel_rfl
theorem sz55 : szT Try.prog 55 = some (1, false) := by kernel_rfl
theorem sz56 : szT Try.prog 56 = some (1, false) := by kernel_rfl
theorem sz57 : szT Try.prog 57 = some (1, false) := by kernel_rfl
theorem sz59 : szT Try.prog 59 = some (1, false) := by kernel_rfl
theorem sz61 : szT Try.prog 61 = some (1, false) := by kernel_rfl
theorem sl62 : slT Try.prog 62 = some (24, .sl (.lent false) []) := by kernel_rfl
theorem us62 : u8T Try.prog 62 = false := by kernel_rfl
theorem st62 : strT Try.prog 62 = false := by kernel_rfl
theorem sz62 : szT Try.prog 62 = some (1, false) := by kernel_rfl
theorem zt62 : zeroT Try.prog 62 = some [.sl (.lent false) []] := by kernel_rfl
theorem sz63 : szT Try.prog 63 = some (1, false) := by kernel_rfl
theorem sz64 : szT Try.prog 64 = some (1, false) := by kernel_rfl
theorem sz65 : szT Try.prog 65 = some (1, false) := by kernel_rfl
theorem sz66 : szT Try.prog 66 = some (1, false) := by kernel_rfl
theorem sz67 : szT Try.prog 67 = some (1, false) := by kernel_rfl
theorem sz68 : szT Try.prog 68 = some (1, false) := by kernel_rfl
theorem sz69 : szT Try.prog 69 = some (1, false) := by kernel_rfl
theorem sz70 : szT Try.prog 70 = some (1, false) := by kernel_rfl
theorem sz71 : szT Try.prog 71 = some (1, false) := by kernel_rfl
theorem sz72 : szT Try.prog 72 = some (1, false) := by kernel_rfl
theorem sz73 : szT Try.prog 73 = some (1, false) := by kernel_rfl
theorem sz74 : szT Try.prog 74 = some (1, false) := by kernel_rfl
theorem sz75 : szT Try.prog 75 = some (1, false) := by kernel_rfl
theorem sz76 : szT Try.prog 76 = some (1, false) := by kernel_rfl
theorem sz77 : szT Try.prog 77 = some (1, false) := by kernel_rfl
theorem sz78 : szT Try.prog 78 = some (1, false) := by kernel_rfl
theorem sz79 : szT Try.prog 79 = some (1, false) := by kernel_rfl
theorem sz80 : szT Try.prog 80 = some (1, false) := by kernel_rfl
theorem sz81 : szT Try.prog 81 = some (1, false) := by kernel_rfl
theorem sz82 : szT Try.prog 82 = some (1, false) := by kernel_rfl
theorem mt83 : mapT Try.prog 83 = some (5, (.sl .own [])) := by kernel_rfl
theorem ky83 : Maps.Keyed Try.prog 5 := Maps.int_keyed (show Try.prog.underlying 5 = some (.int .u8) by kernel_rfl)
theorem sz84 : szT Try.prog 84 = some (1, false) := by kernel_rfl
theorem sz85 : szT Try.prog 85 = some (1, false) := by kernel_rfl
theorem sz86 : szT Try.prog 86 = some (1, false) := by kernel_rfl
theorem sz87 : szT Try.prog 87 = some (1, false) := by kernel_rfl
theorem sz88 : szT Try.prog 88 = some (1, false) := by kernel_rfl
theorem sz89 : szT Try.prog 89 = some (1, false) := by kernel_rfl
theorem sz90 : szT Try.prog 90 = some (1, false) := by kernel_rfl
theorem sz91 : szT Try.prog 91 = some (1, false) := by kernel_rfl
theorem sz92 : szT Try.prog 92 = some (1, false) := by kernel_rfl
theorem sl93 : slT Try.prog 93 = some (16, .str []) := by kernel_rfl
theorem us93 : u8T Try.prog 93 = false := by kernel_rfl
theorem st93 : strT Try.prog 93 = false := by kernel_rfl
theorem sz93 : szT Try.prog 93 = some (1, false) := by kernel_rfl
theorem zt93 : zeroT Try.prog 93 = some [.sl (.lent false) []] := by kernel_rfl
theorem sz94 : szT Try.prog 94 = some (1, false) := by kernel_rfl
theorem sz95 : szT Try.prog 95 = some (2, true) := by kernel_rfl
theorem zt95 : zeroT Try.prog 95 = some [.str [], .nilf] := by kernel_rfl
theorem fd95x0 : fldT Try.prog 95 0 = some (0, 1, false) := by kernel_rfl
theorem fd95x1 : fldT Try.prog 95 1 = some (1, 1, false) := by kernel_rfl
theorem pl95 : placesT Try.prog 95 = some [0, 1] := by kernel_rfl
theorem st96 : strT Try.prog 96 = false := by kernel_rfl
theorem sz96 : szT Try.prog 96 = some (1, false) := by kernel_rfl
theorem zt96 : zeroT Try.prog 96 = some [.sl (.lent false) []] := by kernel_rfl
theorem sz97 : szT Try.prog 97 = some (1, false) := by kernel_rfl
theorem sz98 : szT Try.prog 98 = some (1, false) := by kernel_rfl
theorem sz99 : szT Try.prog 99 = some (1, false) := by kernel_rfl
theorem sz100 : szT Try.prog 100 = some (1, false) := by kernel_rfl
theorem sz101 : szT Try.prog 101 = some (3, true) := by kernel_rfl
theorem zt101 : zeroT Try.prog 101 = some [.sl (.lent false) [], .int .i64 0, .int .i64 0] := by kernel_rfl
theorem fd101x0 : fldT Try.prog 101 0 = some (0, 1, false) := by kernel_rfl
theorem fd101x1 : fldT Try.prog 101 1 = some (1, 1, false) := by kernel_rfl
theorem fd101x2 : fldT Try.prog 101 2 = some (2, 1, false) := by kernel_rfl
theorem pl101 : placesT Try.prog 101 = some [0, 1, 2] := by kernel_rfl
theorem sz102 : szT Try.prog 102 = some (3, true) := by kernel_rfl
theorem zt102 : zeroT Try.prog 102 = some [.sl (.lent false) [], .int .i64 0, .int .i64 0] := by kernel_rfl
theorem fd102x0 : fldT Try.prog 102 0 = some (0, 1, false) := by kernel_rfl
theorem fd102x1 : fldT Try.prog 102 1 = some (1, 1, false) := by kernel_rfl
theorem fd102x2 : fldT Try.prog 102 2 = some (2, 1, false) := by kernel_rfl
theorem pl102 : placesT Try.prog 102 = some [0, 1, 2] := by kernel_rfl
theorem sz103 : szT Try.prog 103 = some (1, false) := by kernel_rfl
theorem mt104 : mapT Try.prog 104 = some (106, (.int .i64 0)) := by kernel_rfl
theorem ky104 : Maps.Keyed Try.prog 106 := Maps.Keyed.of_law (deep_law_laid (show laidOutB Try.prog = true by kernel_rfl) (m := 3) (by omega) (of_decide_eq_true (by kernel_rfl)) (by kernel_rfl) (by kernel_rfl))
theorem sz106 : szT Try.prog 106 = some (2, true) := by kernel_rfl
theorem pl106 : placesT Try.prog 106 = some [0, 1] := by kernel_rfl
theorem zt106 : zeroT Try.prog 106 = some [.int .i64 0, .int .i64 0] := by kernel_rfl
theorem sz107 : szT Try.prog 107 = some (1, false) := by kernel_rfl
theorem sz108 : szT Try.prog 108 = some (1, false) := by kernel_rfl
theorem sz109 : szT Try.prog 109 = some (1, false) := by kernel_rfl
theorem sz110 : szT Try.prog 110 = some (1, false) := by kernel_rfl
theorem sz111 : szT Try.prog 111 = some (1, false) := by kernel_rfl
theorem sz112 : szT Try.prog 112 = some (1, false) := by kernel_rfl
theorem it113 : intT Try.prog 113 = some .u64 := by kernel_rfl
theorem st113 : strT Try.prog 113 = false := by kernel_rfl
theorem sz113 : szT Try.prog 113 = some (1, false) := by kernel_rfl
theorem zt113 : zeroT Try.prog 113 = some [.int .u64 0] := by kernel_rfl
theorem sz114 : szT Try.prog 114 = some (1, false) := by kernel_rfl
theorem sz115 : szT Try.prog 115 = some (1, false) := by kernel_rfl
theorem sz116 : szT Try.prog 116 = some (1, false) := by kernel_rfl
theorem sl117 : slT Try.prog 117 = some (1, .bool false) := by kernel_rfl
theorem us117 : u8T Try.prog 117 = false := by kernel_rfl
theorem st117 : strT Try.prog 117 = false := by kernel_rfl
theorem sz117 : szT Try.prog 117 = some (1, false) := by kernel_rfl
theorem zt117 : zeroT Try.prog 117 = some [.sl (.lent false) []] := by kernel_rfl
theorem sz118 : szT Try.prog 118 = some (1, false) := by kernel_rfl
theorem sz119 : szT Try.prog 119 = some (1, false) := by kernel_rfl
theorem sz120 : szT Try.prog 120 = some (1, false) := by kernel_rfl
theorem sz121 : szT Try.prog 121 = some (1, false) := by kernel_rfl
theorem sz122 : szT Try.prog 122 = some (1, false) := by kernel_rfl
theorem sz123 : szT Try.prog 123 = some (1, false) := by kernel_rfl
theorem sz124 : szT Try.prog 124 = some (1, false) := by kernel_rfl
theorem sz125 : szT Try.prog 125 = some (1, false) := by kernel_rfl
theorem sz126 : szT Try.prog 126 = some (1, false) := by kernel_rfl
theorem sz127 : szT Try.prog 127 = some (1, false) := by kernel_rfl
theorem sz128 : szT Try.prog 128 = some (1, false) := by kernel_rfl
theorem sz129 : szT Try.prog 129 = some (1, false) := by kernel_rfl
theorem it130 : intT Try.prog 130 = some .i64 := by kernel_rfl
theorem st130 : strT Try.prog 130 = false := by kernel_rfl
theorem sz130 : szT Try.prog 130 = some (1, false) := by kernel_rfl
theorem zt130 : zeroT Try.prog 130 = some [.int .i64 0] := by kernel_rfl
theorem sz132 : szT Try.prog 132 = some (1, false) := by kernel_rfl
theorem sz133 : szT Try.prog 133 = some (1, false) := by kernel_rfl
theorem sz134 : szT Try.prog 134 = some (1, false) := by kernel_rfl
theorem sz135 : szT Try.prog 135 = some (1, false) := by kernel_rfl
theorem sz136 : szT Try.prog 136 = some (1, false) := by kernel_rfl
theorem it137 : intT Try.prog 137 = some .u32 := by kernel_rfl
theorem st137 : strT Try.prog 137 = false := by kernel_rfl
theorem sz137 : szT Try.prog 137 = some (1, false) := by kernel_rfl
theorem zt137 : zeroT Try.prog 137 = some [.int .u32 0] := by kernel_rfl
theorem sz138 : szT Try.prog 138 = some (1, false) := by kernel_rfl
theorem it139 : intT Try.prog 139 = some .u64 := by kernel_rfl
theorem st139 : strT Try.prog 139 = false := by kernel_rfl
theorem sz139 : szT Try.prog 139 = some (1, false) := by kernel_rfl
theorem zt139 : zeroT Try.prog 139 = some [.int .u64 0] := by kernel_rfl
theorem it140 : intT Try.prog 140 = some .u64 := by kernel_rfl
theorem st140 : strT Try.prog 140 = false := by kernel_rfl
theorem sz140 : szT Try.prog 140 = some (1, false) := by kernel_rfl
theorem zt140 : zeroT Try.prog 140 = some [.int .u64 0] := by kernel_rfl
theorem sz141 : szT Try.prog 141 = some (1, false) := by kernel_rfl
theorem sz142 : szT Try.prog 142 = some (1, false) := by kernel_rfl
theorem sz143 : szT Try.prog 143 = some (1, false) := by kernel_rfl
theorem sz144 : szT Try.prog 144 = some (1, false) := by kernel_rfl
theorem sz145 : szT Try.prog 145 = some (1, false) := by kernel_rfl
theorem sz146 : szT Try.prog 146 = some (1, false) := by kernel_rfl
theorem sz147 : szT Try.prog 147 = some (1, false) := by kernel_rfl
theorem sz148 : szT Try.prog 148 = some (4, true) := by kernel_rfl
theorem fd148x0 : fldT Try.prog 148 0 = some (0, 1, false) := by kernel_rfl
theorem fd148x1 : fldT Try.prog 148 1 = some (1, 1, false) := by kernel_rfl
theorem fd148x2 : fldT Try.prog 148 2 = some (2, 1, false) := by kernel_rfl
theorem fd148x3 : fldT Try.prog 148 3 = some (3, 1, false) := by kernel_rfl
theorem pl148 : placesT Try.prog 148 = some [0, 1, 2, 3] := by kernel_rfl
theorem sz149 : szT Try.prog 149 = some (4, true) := by kernel_rfl
theorem fd149x0 : fldT Try.prog 149 0 = some (0, 1, false) := by kernel_rfl
theorem fd149x1 : fldT Try.prog 149 1 = some (1, 1, false) := by kernel_rfl
theorem fd149x2 : fldT Try.prog 149 2 = some (2, 1, false) := by kernel_rfl
theorem fd149x3 : fldT Try.prog 149 3 = some (3, 1, false) := by kernel_rfl
theorem pl149 : placesT Try.prog 149 = some [0, 1, 2, 3] := by kernel_rfl
theorem sz150 : szT Try.prog 150 = some (0, true) := by kernel_rfl
theorem sz151 : szT Try.prog 151 = some (0, true) := by kernel_rfl
theorem fd151x0 : fldT Try.prog 151 0 = some (0, 0, true) := by kernel_rfl
theorem sz152 : szT Try.prog 152 = some (0, true) := by kernel_rfl
theorem fd152x0 : fldT Try.prog 152 0 = some (0, 0, true) := by kernel_rfl
theorem sz153 : szT Try.prog 153 = some (1, false) := by kernel_rfl
theorem it154 : intT Try.prog 154 = some .u8 := by kernel_rfl
theorem st154 : strT Try.prog 154 = false := by kernel_rfl
theorem sz154 : szT Try.prog 154 = some (1, false) := by kernel_rfl
theorem zt154 : zeroT Try.prog 154 = some [.int .u8 0] := by kernel_rfl
theorem it155 : intT Try.prog 155 = some .u8 := by kernel_rfl
theorem st155 : strT Try.prog 155 = false := by kernel_rfl
theorem sz155 : szT Try.prog 155 = some (1, false) := by kernel_rfl
theorem zt155 : zeroT Try.prog 155 = some [.int .u8 0] := by kernel_rfl
theorem sz156 : szT Try.prog 156 = some (1, false) := by kernel_rfl
theorem sz157 : szT Try.prog 157 = some (1, false) := by kernel_rfl
theorem it158 : intT Try.prog 158 = some .i32 := by kernel_rfl
theorem st158 : strT Try.prog 158 = false := by kernel_rfl
theorem sz158 : szT Try.prog 158 = some (1, false) := by kernel_rfl
theorem zt158 : zeroT Try.prog 158 = some [.int .i32 0] := by kernel_rfl
theorem it159 : intT Try.prog 159 = some .i32 := by kernel_rfl
theorem st159 : strT Try.prog 159 = false := by kernel_rfl
theorem sz159 : szT Try.prog 159 = some (1, false) := by kernel_rfl
theorem zt159 : zeroT Try.prog 159 = some [.int .i32 0] := by kernel_rfl
theorem sz160 : szT Try.prog 160 = some (11, true) := by kernel_rfl
theorem fd160x0 : fldT Try.prog 160 0 = some (0, 1, false) := by kernel_rfl
theorem fd160x1 : fldT Try.prog 160 1 = some (1, 1, false) := by kernel_rfl
theorem fd160x2 : fldT Try.prog 160 2 = some (2, 1, false) := by kernel_rfl
theorem fd160x3 : fldT Try.prog 160 3 = some (3, 1, false) := by kernel_rfl
theorem fd160x4 : fldT Try.prog 160 4 = some (4, 1, false) := by kernel_rfl
theorem fd160x5 : fldT Try.prog 160 5 = some (5, 1, false) := by kernel_rfl
theorem fd160x6 : fldT Try.prog 160 6 = some (6, 1, false) := by kernel_rfl
theorem fd160x7 : fldT Try.prog 160 7 = some (7, 1, false) := by kernel_rfl
theorem fd160x8 : fldT Try.prog 160 8 = some (8, 1, false) := by kernel_rfl
theorem fd160x9 : fldT Try.prog 160 9 = some (9, 1, false) := by kernel_rfl
theorem fd160x10 : fldT Try.prog 160 10 = some (10, 1, false) := by kernel_rfl
theorem pl160 : placesT Try.prog 160 = some [0, 1, 2, 3, 4, 5, 6, 7, 8, 9, 10] := by kernel_rfl
theorem sz161 : szT Try.prog 161 = some (11, true) := by kernel_rfl
theorem fd161x0 : fldT Try.prog 161 0 = some (0, 1, false) := by kernel_rfl
theorem fd161x1 : fldT Try.prog 161 1 = some (1, 1, false) := by kernel_rfl
theorem fd161x2 : fldT Try.prog 161 2 = some (2, 1, false) := by kernel_rfl
theorem fd161x3 : fldT Try.prog 161 3 = some (3, 1, false) := by kernel_rfl
theorem fd161x4 : fldT Try.prog 161 4 = some (4, 1, false) := by kernel_rfl
theorem fd161x5 : fldT Try.prog 161 5 = some (5, 1, false) := by kernel_rfl
theorem fd161x6 : fldT Try.prog 161 6 = some (6, 1, false) := by kernel_rfl
theorem fd161x7 : fldT Try.prog 161 7 = some (7, 1, false) := by kernel_rfl
theorem fd161x8 : fldT Try.prog 161 8 = some (8, 1, false) := by kernel_rfl
theorem fd161x9 : fldT Try.prog 161 9 = some (9, 1, false) := by kernel_rfl
theorem fd161x10 : fldT Try.prog 161 10 = some (10, 1, false) := by kernel_rfl
theorem pl161 : placesT Try.prog 161 = some [0, 1, 2, 3, 4, 5, 6, 7, 8, 9, 10] := by kernel_rfl
attribute [go_sem] sg0_eq wayE_sg0 wayN_sg0 wayS_sg0 wayZ_sg0 sz1 it2 st2 sz2 zt2 it3 st3 sz3 zt3 bo4 sz4 zt4
attribute [go_sem] it5 st5 sz5 zt5 it6 st6 sz6 zt6 sz7 zt7 fd7x0 fd7x1
attribute [go_sem] fd7x2 fd7x3 pl7 sz8 zt8 fd8x0 fd8x1 fd8x2 fd8x3 pl8 st9 sz9
attribute [go_sem] zt9 st10 sz10 zt10 st11 sz11 zt11 it12 st12 sz12 zt12 sz13
attribute [go_sem] zt13 fd13x0 fd13x1 pl13 sz14 zt14 fd14x0 fd14x1 pl14 sz15 sz16 sz17
attribute [go_sem] sz18 fd18x0 pl18 sz19 fd19x0 pl19 it21 st21 sz21 zt21 sl22 us22
attribute [go_sem] st22 sz22 zt22 sz23 sl24 us24 st24 sz24 zt24 sl25 us25 st25
attribute [go_sem] sz25 zt25 sz27 sz29 sz31 sz33 sz35 sz36 sz37 sz38 sz39 sz40
attribute [go_sem] sz41 sz42 sz44 sz45 sz46 sz47 sz48 sz49 sz50 sz52 sz53 sz54
attribute [go_sem] sz55 sz56 sz57 sz59 sz61 sl62 us62 st62 sz62 zt62 sz63 sz64
attribute [go_sem] sz65 sz66 sz67 sz68 sz69 sz70 sz71 sz72 sz73 sz74 sz75 sz76
attribute [go_sem] sz77 sz78 sz79 sz80 sz81 sz82 mt83 ky83 sz84 sz85 sz86 sz87
attribute [go_sem] sz88 sz89 sz90 sz91 sz92 sl93 us93 st93 sz93 zt93 sz94 sz95
attribute [go_sem] zt95 fd95x0 fd95x1 pl95 st96 sz96 zt96 sz97 sz98 sz99 sz100 sz101
attribute [go_sem] zt101 fd101x0 fd101x1 fd101x2 pl101 sz102 zt102 fd102x0 fd102x1 fd102x2 pl102 sz103
attribute [go_sem] mt104 ky104 sz106 pl106 zt106 sz107 sz108 sz109 sz110 sz111 sz112 it113
attribute [go_sem] st113 sz113 zt113 sz114 sz115 sz116 sl117 us117 st117 sz117 zt117 sz118
attribute [go_sem] sz119 sz120 sz121 sz122 sz123 sz124 sz125 sz126 sz127 sz128 sz129 it130
attribute [go_sem] st130 sz130 zt130 sz132 sz133 sz134 sz135 sz136 it137 st137 sz137 zt137
attribute [go_sem] sz138 it139 st139 sz139 zt139 it140 st140 sz140 zt140 sz141 sz142 sz143
attribute [go_sem] sz144 sz145 sz146 sz147 sz148 fd148x0 fd148x1 fd148x2 fd148x3 pl148 sz149 fd149x0
attribute [go_sem] fd149x1 fd149x2 fd149x3 pl149 sz150 sz151 fd151x0 sz152 fd152x0 sz153 it154 st154
attribute [go_sem] sz154 zt154 it155 st155 sz155 zt155 sz156 sz157 it158 st158 sz158 zt158
attribute [go_sem] it159 st159 sz159 zt159 sz160 fd160x0 fd160x1 fd160x2 fd160x3 fd160x4 fd160x5 fd160x6
attribute [go_sem] fd160x7 fd160x8 fd160x9 fd160x10 pl160 sz161 fd161x0 fd161x1 fd161x2 fd161x3 fd161x4 fd161x5
attribute [go_sem] fd161x6 fd161x7 fd161x8 fd161x9 fd161x10 pl161
end Go.Gl
