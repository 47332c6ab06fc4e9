/-
  The common ground of the contracts of this program's functions. Conditions: none.
-/
import Derived.Test.YtnoedblfedppkaaGlC
import Derived.Test.YtnoedblfedppkaaChecked
namespace Go.Gl
open Go Go.Proofs
def sg0 : FuncId → List Bool := fun _ => []
theorem sg0_eq {f : FuncId} : sg0 f = [] := rfl
theorem wayE_sg0 : wayE sg0 = false := _root_.id rfl
theorem wayN_sg0 : wayN sg0 = false := _root_.id rfl
theorem wayS_sg0 : wayS sg0 = false := _root_.id rfl
theorem wayZ_sg0 : wayZ sg0 = false := _root_.id rfl
theorem mo : Try.prog.follows .mixedOrders = true := Try.checked.mixed
theorem sz1 : szT Try.prog 1 = some (1, false) := by kernel_rfl
theorem it2 : intT Try.prog 2 = some .i64 := by kernel_rfl
theorem st2 : strT Try.prog 2 = false := by kernel_rfl
theorem sz2 : szT Try.prog 2 = some (1, false) := by kernel_rfl
theorem zt2 : zeroT Try.prog 2 = some [.int .i64 0] := by kernel_rfl
theorem it3 : intT Try.prog 3 = some .i64 := by kernel_rfl
theorem st3 : strT Try.prog 3 = false := by kernel_rfl
theorem sz3 : szT Try.prog 3 = some (1, false) := by kernel_rfl
theorem zt3 : zeroT Try.prog 3 = some [.int .i64 0] := by kernel_rfl
theorem bo4 : boolT Try.prog 4 = true := by kernel_rfl
theorem sz4 : szT Try.prog 4 = some (1, false) := by kernel_rfl
theorem zt4 : zeroT Try.prog 4 = some [.bool false] := by kernel_rfl
theorem it5 : intT Try.prog 5 = some .u8 := by kernel_rfl
theorem st5 : strT Try.prog 5 = false := by kernel_rfl
theorem sz5 : szT Try.prog 5 = some (1, false) := by kernel_rfl
theorem zt5 : zeroT Try.prog 5 = some [.int .u8 0] := by kernel_rfl
theorem it6 : intT Try.prog 6 = some .u8 := by kernel_rfl
theorem st6 : strT Try.prog 6 = false := by kernel_rfl
theorem sz6 : szT Try.prog 6 = some (1, false) := by kernel_rfl
theorem zt6 : zeroT Try.prog 6 = some [.int .u8 0] := by kernel_rfl
theorem sz7 : szT Try.prog 7 = some (4, true) := by kernel_rfl
theorem zt7 : zeroT Try.prog 7 = some [.int .i64 0, .int .i64 0, .bool false, .int .u8 0] := by kernel_rfl
theorem fd7x0 : fldT Try.prog 7 0 = some (0, 1, false) := by kernel_rfl
theorem fd7x1 : fldT Try.prog 7 1 = some (1, 1, false) := by kernel_rfl
theorem fd7x2 : fldT Try.prog 7 2 = some (2, 1, false) := by kernel_rfl
theorem fd7x3 : fldT Try.prog 7 3 = some (3, 1, false) := by kernel_rfl
theorem pl7 : placesT Try.prog 7 = some [0, 1, 2, 3] := by kernel_rfl
theorem sz8 : szT Try.prog 8 = some (4, true) := by kernel_rfl
theorem zt8 : zeroT Try.prog 8 = some [.int .i64 0, .int .i64 0, .bool false, .int .u8 0] := by kernel_rfl
theorem fd8x0 : fldT Try.prog 8 0 = some (0, 1, false) := by kernel_rfl
theorem fd8x1 : fldT Try.prog 8 1 = some (1, 1, false) := by kernel_rfl
theorem fd8x2 : fldT Try.prog 8 2 = some (2, 1, false) := by kernel_rfl
theorem fd8x3 : fldT Try.prog 8 3 = some (3, 1, false) := by kernel_rfl
theorem pl8 : placesT Try.prog 8 = some [0, 1, 2, 3] := by kernel_rfl
theorem st9 : strT Try.prog 9 = true := by kernel_rfl
theorem sz9 : szT Try.prog 9 = some (1, false) := by kernel_rfl
theorem zt9 : zeroT Try.prog 9 = some [.str []] := by kernel_rfl
theorem st10 : strT Try.prog 10 = true := by kernel_rfl
theorem sz10 : szT Try.prog 10 = some (1, false) := by kernel_rfl
theorem zt10 : zeroT Try.prog 10 = some [.str []] := by kernel_rfl
theorem st11 : strT Try.prog 11 = true := by kernel_rfl
theorem sz11 : szT Try.prog 11 = some (1, false) := by kernel_rfl
theorem zt11 : zeroT Try.prog 11 = some [.str []] := by kernel_rfl
theorem it12 : intT Try.prog 12 = some .u64 := by kernel_rfl
theorem st12 : strT Try.prog 12 = false := by kernel_rfl
theorem sz12 : szT Try.prog 12 = some (1, false) := by kernel_rfl
theorem zt12 : zeroT Try.prog 12 = some [.int .u64 0] := by kernel_rfl
theorem sz13 : szT Try.prog 13 = some (2, true) := by kernel_rfl
theorem zt13 : zeroT Try.prog 13 = some [.str [], .int .u64 0] := by kernel_rfl
theorem fd13x0 : fldT Try.prog 13 0 = some (0, 1, false) := by kernel_rfl
theorem fd13x1 : fldT Try.prog 13 1 = some (1, 1, false) := by kernel_rfl
theorem pl13 : placesT Try.prog 13 = some [0, 1] := by kernel_rfl
theorem sz14 : szT Try.prog 14 = some (2, true) := by kernel_rfl
theorem zt14 : zeroT Try.prog 14 = some [.str [], .int .u64 0] := by kernel_rfl
theorem fd14x0 : fldT Try.prog 14 0 = some (0, 1, false) := by kernel_rfl
theorem fd14x1 : fldT Try.prog 14 1 = some (1, 1, false) := by kernel_rfl
theorem pl14 : placesT Try.prog 14 = some [0, 1] := by kernel_rfl
theorem sz15 : szT Try.prog 15 = some (1, false) := by kernel_rfl
theorem sz16 : szT Try.prog 16 = some (1, false) := by kernel_rfl
theorem sz17 : szT Try.prog 17 = some (1, false) := by kernel_rfl
theorem sz18 : szT Try.prog 18 = some (1, true) := by kernel_rfl
theorem fd18x0 : fldT Try.prog 18 0 = some (0, 1, false) := by kernel_rfl
theorem pl18 : placesT Try.prog 18 = some [0] := by kernel_rfl
theorem sz19 : szT Try.prog 19 = some (1, true) := by kernel_rfl
theorem fd19x0 : fldT Try.prog 19 0 = some (0, 1, false) := by kernel_rfl
theorem pl19 : placesT Try.prog 19 = some [0] := by kernel_rfl
theorem it21 : intT Try.prog 21 = some .i32 := by kernel_rfl
theorem st21 : strT Try.prog 21 = false := by kernel_rfl
theorem sz21 : szT Try.prog 21 = some (1, false) := by kernel_rfl
theorem zt21 : zeroT Try.prog 21 = some [.int .i32 0] := by kernel_rfl
theorem sl22 : slT Try.prog 22 = some (8, .int .i64 0) := by kernel_rfl
theorem us22 : u8T Try.prog 22 = false := by kernel_rfl
theorem st22 : strT Try.prog 22 = false := by kernel_rfl
theorem sz22 : szT Try.prog 22 = some (1, false) := by kernel_rfl
theorem zt22 : zeroT Try.prog 22 = some [.sl (.lent false) []] := by kernel_rfl
theorem sz24 : szT Try.prog 24 = some (1, false) := by kernel_rfl
theorem sz25 : szT Try.prog 25 = some (1, false) := by kernel_rfl
theorem sz26 : szT Try.prog 26 = some (1, false) := by kernel_rfl
theorem sz27 : szT Try.prog 27 = some (1, false) := by kernel_rfl
theorem sl28 : slT Try.prog 28 = some (24, .sl (.lent false) []) := by kernel_rfl
theorem us28 : u8T Try.prog 28 = false := by kernel_rfl
theorem st28 : strT Try.prog 28 = false := by kernel_rfl
theorem sz28 : szT Try.prog 28 = some (1, false) := by kernel_rfl
theorem zt28 : zeroT Try.prog 28 = some [.sl (.lent false) []] := by kernel_rfl
theorem sz29 : szT Try.prog 29 = some (1, false) := by kernel_rfl
theorem sz30 : szT Try.prog 30 = some (1, false) := by kernel_rfl
theorem sz31 : szT Try.prog 31 = some (1, false) := by kernel_rfl
theorem sz32 : szT Try.prog 32 = some (1, false) := by kernel_rfl
theorem sz33 : szT Try.prog 33 = some (1, false) := by kernel_rfl
theorem sz35 : szT Try.prog 35 = some (1, false) := by kernel_rfl
theorem sl36 : slT Try.prog 36 = some (1, .int .u8 0) := by kernel_rfl
theorem us36 : u8T Try.prog 36 = true := by kernel_rfl
theorem st36 : strT Try.prog 36 = false := by kernel_rfl
theorem sz36 : szT Try.prog 36 = some (1, false) := by kernel_rfl
theorem zt36 : zeroT Try.prog 36 = some [.sl (.lent false) []] := by kernel_rfl
theorem sz37 : szT Try.prog 37 = some (1, false) := by kernel_rfl
theorem sz38 : szT Try.prog 38 = some (1, false) := by kernel_rfl
theorem sz39 : szT Try.prog 39 = some (1, false) := by kernel_rfl
theorem sz41 : szT Try.prog 41 = some (1, false) := by kernel_rfl
theorem sz42 : szT Try.prog 42 = some (1, false) := by kernel_rfl
theorem sz43 : szT Try.prog 43 = some (1, false) := by kernel_rfl
theorem sz45 : szT Try.prog 45 = some (1, false) := by kernel_rfl
theorem sz46 : szT Try.prog 46 = some (1, false) := by kernel_rfl
theorem sz48 : szT Try.prog 48 = some (1, false) := by kernel_rfl
theorem sz49 : szT Try.prog 49 = some (1, false) := by kernel_rfl
theorem sz50 : szT Try.prog 50 = some (1, false) := by kernel_rfl
theorem sz51 : szT Try.prog 51 = some (1, false) := by kernel_rfl
theorem sz52 : szT Try.prog 52 = some (1, false) := by kernel_rfl
theorem sz53 : szT Try.prog 53 = some (1, false) := by kernel_rfl
theorem sz54 : szT Try.prog 54 = some (1, false) := by kernel_rfl
theorem sz56 : szT Try.prog 56 = some (1, false) := by kernel_rfl
theorem sz57 : szT Try.prog 57 = some (1, false) := by kernel_rfl
theorem sz59 : szT Try.prog 59 = some (1, false) := by kernel_rfl
theorem sz61 : szT Try.prog 61 = some (1, false) := by kernel_rfl
theorem sz63 : szT Try.prog 63 = some (1, false) := by kernel_rfl
theorem sz64 : szT Try.prog 64 = some (1, false) := by kernel_rfl
theorem sz65 : szT Try.prog 65 = some (1, false) := by kernel_rfl
theorem sz67 : szT Try.prog 67 = some (1, false) := by kernel_rfl
theorem sl68 : slT Try.prog 68 = some (24, .sl (.lent false) []) := by kernel_rfl
theorem us68 : u8T Try.prog 68 = false := by kernel_rfl
theorem st68 : strT Try.prog 68 = false := by kernel_rfl
theorem sz68 : szT Try.prog 68 = some (1, false) := by kernel_rfl
theorem zt68 : zeroT Try.prog 68 = some [.sl (.lent false) []] := by kernel_rfl
theorem sz69 : szT Try.prog 69 = some (1, false) := by kernel_rfl
theorem sz70 : szT Try.prog 70 = some (1, false) := by kernel_rfl
theorem sz71 : szT Try.prog 71 = some (1, false) := by kernel_rfl
theorem sz72 : szT Try.prog 72 = some (1, false) := by kernel_rfl
theorem sz73 : szT Try.prog 73 = some (1, false) := by kernel_rfl
theorem sz74 : szT Try.prog 74 = some (1, false) := by kernel_rfl
theorem sz75 : szT Try.prog 75 = some (1, false) := by kernel_rfl
theorem mt76 : mapT Try.prog 76 = some (5, (.sl .own [])) := by kernel_rfl
theorem ky76 : Maps.Keyed Try.prog 5 := Maps.int_keyed (show Try.prog.underlying 5 = some (.int .u8) by kernel_rfl)
theorem sz77 : szT Try.prog 77 = some (1, false) := by kernel_rfl
theorem sz78 : szT Try.prog 78 = some (1, false) := by kernel_rfl
theorem sz79 : szT Try.prog 79 = some (1, false) := by kernel_rfl
theorem sz80 : szT Try.prog 80 = some (1, false) := by kernel_rfl
theorem sz81 : szT Try.prog 81 = some (1, false) := by kernel_rfl
theorem sz82 : szT Try.prog 82 = some (1, false) := by kernel_rfl
theorem sz84 : szT Try.prog 84 = some (1, false) := by kernel_rfl
theorem sz85 : szT Try.prog 85 = some (1, false) := by kernel_rfl
theorem sz86 : szT Try.prog 86 = some (1, false) := by kernel_rfl
theorem sz87 : szT Try.prog 87 = some (1, false) := by kernel_rfl
theorem sz88 : szT Try.prog 88 = some (1, false) := by kernel_rfl
theorem sz89 : szT Try.prog 89 = some (1, false) := by kernel_rfl
theorem sz90 : szT Try.prog 90 = some (1, false) := by kernel_rfl
theorem sz91 : szT Try.prog 91 = some (1, false) := by kernel_rfl
theorem sz92 : szT Try.prog 92 = some (1, false) := by kernel_rfl
theorem sz93 : szT Try.prog 93 = some (1, false) := by kernel_rfl
theorem sz94 : szT Try.prog 94 = some (1, false) := by kernel_rfl
theorem sz95 : szT Try.prog 95 = some (1, false) := by kernel_rfl
theorem sz96 : szT Try.prog 96 = some (1, false) := by kernel_rfl
theorem sz97 : szT Try.prog 97 = some (1, false) := by kernel_rfl
theorem sz98 : szT Try.prog 98 = some (1, false) := by kernel_rfl
theorem sz99 : szT Try.prog 99 = some (1, false) := by kernel_rfl
theorem sz100 : szT Try.prog 100 = some (1, false) := by kernel_rfl
theorem sz101 : szT Try.prog 101 = some (1, false) := by kernel_rfl
theorem sz102 : szT Try.prog 102 = some (1, false) := by kernel_rfl
theorem sz103 : szT Try.prog 103 = some (1, false) := by kernel_rfl
theorem sz104 : szT Try.prog 104 = some (1, false) := by kernel_rfl
theorem sz105 : szT Try.prog 105 = some (1, false) := by kernel_rfl
theorem sz106 : szT Try.prog 106 = some (1, false) := by kernel_rfl
theorem sz107 : szT Try.prog 107 = some (1, false) := by kernel_rfl
theorem sl108 : slT Try.prog 108 = some (16, .str []) := by kernel_rfl
theorem us108 : u8T Try.prog 108 = false := by kernel_rfl
theorem st108 : strT Try.prog 108 = false := by kernel_rfl
theorem sz108 : szT Try.prog 108 = some (1, false) := by kernel_rfl
theorem zt108 : zeroT Try.prog 108 = some [.sl (.lent false) []] := by kernel_rfl
theorem sz109 : szT Try.prog 109 = some (2, true) := by kernel_rfl
theorem zt109 : zeroT Try.prog 109 = some [.str [], .nilf] := by kernel_rfl
theorem fd109x0 : fldT Try.prog 109 0 = some (0, 1, false) := by kernel_rfl
theorem fd109x1 : fldT Try.prog 109 1 = some (1, 1, false) := by kernel_rfl
theorem pl109 : placesT Try.prog 109 = some [0, 1] := by kernel_rfl
theorem st110 : strT Try.prog 110 = false := by kernel_rfl
theorem sz110 : szT Try.prog 110 = some (1, false) := by kernel_rfl
theorem zt110 : zeroT Try.prog 110 = some [.sl (.lent false) []] := by kernel_rfl
theorem sz111 : szT Try.prog 111 = some (1, false) := by kernel_rfl
theorem sz112 : szT Try.prog 112 = some (1, false) := by kernel_rfl
theorem sz113 : szT Try.prog 113 = some (1, false) := by kernel_rfl
theorem sz114 : szT Try.prog 114 = some (1, false) := by kernel_rfl
theorem it115 : intT Try.prog 115 = some .u64 := by kernel_rfl
theorem st115 : strT Try.prog 115 = false := by kernel_rfl
theorem sz115 : szT Try.prog 115 = some (1, false) := by kernel_rfl
theorem zt115 : zeroT Try.prog 115 = some [.int .u64 0] := by kernel_rfl
theorem sz116 : szT Try.prog 116 = some (1, false) := by kernel_rfl
theorem sz117 : szT Try.prog 117 = some (1, false) := by kernel_rfl
theorem sz118 : szT Try.prog 118 = some (3, true) := by kernel_rfl
theorem zt118 : zeroT Try.prog 118 = some [.sl (.lent false) [], .int .i64 0, .int .i64 0] := by kernel_rfl
theorem fd118x0 : fldT Try.prog 118 0 = some (0, 1, false) := by kernel_rfl
theorem fd118x1 : fldT Try.prog 118 1 = some (1, 1, false) := by kernel_rfl
theorem fd118x2 : fldT Try.prog 118 2 = some (2, 1, false) := by kernel_rfl
theorem pl118 : placesT Try.prog 118 = some [0, 1, 2] := by kernel_rfl
theorem sz119 : szT Try.prog 119 = some (3, true) := by kernel_rfl
theorem zt119 : zeroT Try.prog 119 = some [.sl (.lent false) [], .int .i64 0, .int .i64 0] := by kernel_rfl
theorem fd119x0 : fldT Try.prog 119 0 = some (0, 1, false) := by kernel_rfl
theorem fd119x1 : fldT Try.prog 119 1 = some (1, 1, false) := by kernel_rfl
theorem fd119x2 : fldT Try.prog 119 2 = some (2, 1, false) := by kernel_rfl
theorem pl119 : placesT Try.prog 119 = some [0, 1, 2] := by kernel_rfl
theorem sz120 : szT Try.prog 120 = some (1, false) := by kernel_rfl
theorem sz121 : szT Try.prog 121 = some (1, false) := by kernel_rfl
theorem sz122 : szT Try.prog 122 = some (1, false) := by kernel_rfl
theorem sz123 : szT Try.prog 123 = some (1, false) := by kernel_rfl
theorem sz124 : szT Try.prog 124 = some (1, false) := by kernel_rfl
theorem sz125 : szT Try.prog 125 = some (1, false) := by kernel_rfl
theorem sz126 : szT Try.prog 126 = some (1, false) := by kernel_rfl
theorem sz127 : szT Try.prog 127 = some (1, false) := by kernel_rfl
theorem sz128 : szT Try.prog 128 = some (1, false) := by kernel_rfl
theorem sz129 : szT Try.prog 129 = some (1, false) := by kernel_rfl
theorem mt130 : mapT Try.prog 130 = some (132, (.int .i64 0)) := by kernel_rfl
theorem ky130 : Maps.Keyed Try.prog 132 := Maps.Keyed.of_law (deep_law_laid (show laidOutB Try.prog = true by kernel_rfl) (m := 3) (by omega) (of_decide_eq_true (by kernel_rfl)) (by kernel_rfl) (by kernel_rfl))
theorem sz132 : szT Try.prog 132 = some (2, true) := by kernel_rfl
theorem pl132 : placesT Try.prog 132 = some [0, 1] := by kernel_rfl
theorem zt132 : zeroT Try.prog 132 = some [.int .i64 0, .int .i64 0] := by kernel_rfl
theorem sz133 : szT Try.prog 133 = some (1, false) := by kernel_rfl
theorem sz134 : szT Try.prog 134 = some (1, false) := by kernel_rfl
theorem sl135 : slT Try.prog 135 = some (1, .bool false) := by kernel_rfl
theorem us135 : u8T Try.prog 135 = false := by kernel_rfl
theorem st135 : strT Try.prog 135 = false := by kernel_rfl
theorem sz135 : szT Try.prog 135 = some (1, false) := by kernel_rfl
theorem zt135 : zeroT Try.prog 135 = some [.sl (.lent false) []] := by kernel_rfl
theorem sz136 : szT Try.prog 136 = some (1, false) := by kernel_rfl
theorem sz137 : szT Try.prog 137 = some (1, false) := by kernel_rfl
theorem sz138 : szT Try.prog 138 = some (1, false) := by kernel_rfl
theorem sz139 : szT Try.prog 139 = some (1, false) := by kernel_rfl
theorem sz140 : szT Try.prog 140 = some (1, false) := by kernel_rfl
theorem sz141 : szT Try.prog 141 = some (1, false) := by kernel_rfl
theorem sz142 : szT Try.prog 142 = some (1, false) := by kernel_rfl
theorem sz143 : szT Try.prog 143 = some (1, false) := by kernel_rfl
theorem sz144 : szT Try.prog 144 = some (1, false) := by kernel_rfl
theorem sz145 : szT Try.prog 145 = some (1, false) := by kernel_rfl
theorem it146 : intT Try.prog 146 = some .i64 := by kernel_rfl
theorem st146 : strT Try.prog 146 = false := by kernel_rfl
theorem sz146 : szT Try.prog 146 = some (1, false) := by kernel_rfl
theorem zt146 : zeroT Try.prog 146 = some [.int .i64 0] := by kernel_rfl
theorem sz148 : szT Try.prog 148 = some (1, false) := by kernel_rfl
theorem sz149 : szT Try.prog 149 = some (1, false) := by kernel_rfl
theorem sz150 : szT Try.prog 150 = some (1, false) := by kernel_rfl
theorem sz151 : szT Try.prog 151 = some (1, false) := by kernel_rfl
theorem it152 : intT Try.prog 152 = some .u32 := by kernel_rfl
theorem st152 : strT Try.prog 152 = false := by kernel_rfl
theorem sz152 : szT Try.prog 152 = some (1, false) := by kernel_rfl
theorem zt152 : zeroT Try.prog 152 = some [.int .u32 0] := by kernel_rfl
theorem sz153 : szT Try.prog 153 = some (1, false) := by kernel_rfl
theorem it154 : intT Try.prog 154 = some .u64 := by kernel_rfl
theorem st154 : strT Try.prog 154 = false := by kernel_rfl
theorem sz154 : szT Try.prog 154 = some (1, false) := by kernel_rfl
theorem zt154 : zeroT Try.prog 154 = some [.int .u64 0] := by kernel_rfl
theorem sz155 : szT Try.prog 155 = some (1, false) := by kernel_rfl
theorem sz156 : szT Try.prog 156 = some (1, false) := by kernel_rfl
theorem sz157 : szT Try.prog 157 = some (1, false) := by kernel_rfl
theorem sz158 : szT Try.prog 158 = some (1, false) := by kernel_rfl
theorem sz159 : szT Try.prog 159 = some (1, false) := by kernel_rfl
theorem it160 : intT Try.prog 160 = some .u64 := by kernel_rfl
theorem st160 : strT Try.prog 160 = false := by kernel_rfl
theorem sz160 : szT Try.prog 160 = some (1, false) := by kernel_rfl
theorem zt160 : zeroT Try.prog 160 = some [.int .u64 0] := by kernel_rfl
theorem sz161 : szT Try.prog 161 = some (1, false) := by kernel_rfl
theorem sz162 : szT Try.prog 162 = some (1, false) := by kernel_rfl
theorem sz163 : szT Try.prog 163 = some (1, false) := by kernel_rfl
theorem sz164 : szT Try.prog 164 = some (1, false) := by kernel_rfl
theorem sz165 : szT Try.prog 165 = some (1, false) := by kernel_rfl
theorem sz166 : szT Try.prog 166 = some (1, false) := by kernel_rfl
theorem sz167 : szT Try.prog 167 = some (1, false) := by kernel_rfl
theorem sz168 : szT Try.prog 168 = some (1, false) := by kernel_rfl
theorem sz169 : szT Try.prog 169 = some (1, false) := by kernel_rfl
theorem sz170 : szT Try.prog 170 = some (1, false) := by kernel_rfl
theorem sz171 : szT Try.prog 171 = some (4, true) := by kernel_rfl
theorem fd171x0 : fldT Try.prog 171 0 = some (0, 1, false) := by kernel_rfl
theorem fd171x1 : fldT Try.prog 171 1 = some (1, 1, false) := by kernel_rfl
theorem fd171x2 : fldT Try.prog 171 2 = some (2, 1, false) := by kernel_rfl
theorem fd171x3 : fldT Try.prog 171 3 = some (3, 1, false) := by kernel_rfl
theorem pl171 : placesT Try.prog 171 = some [0, 1, 2, 3] := by kernel_rfl
theorem sz172 : szT Try.prog 172 = some (4, true) := by kernel_rfl
theorem fd172x0 : fldT Try.prog 172 0 = some (0, 1, false) := by kernel_rfl
theorem fd172x1 : fldT Try.prog 172 1 = some (1, 1, false) := by kernel_rfl
theorem fd172x2 : fldT Try.prog 172 2 = some (2, 1, false) := by kernel_rfl
theorem fd172x3 : fldT Try.prog 172 3 = some (3, 1, false) := by kernel_rfl
theorem pl172 : placesT Try.prog 172 = some [0, 1, 2, 3] := by kernel_rfl
theorem sz173 : szT Try.prog 173 = some (0, true) := by kernel_rfl
theorem sz174 : szT Try.prog 174 = some (0, true) := by kernel_rfl
theorem fd174x0 : fldT Try.prog 174 0 = some (0, 0, true) := by kernel_rfl
theorem sz175 : szT Try.prog 175 = some (0, true) := by kernel_rfl
theorem fd175x0 : fldT Try.prog 175 0 = some (0, 0, true) := by kernel_rfl
theorem sz176 : szT Try.prog 176 = some (1, false) := by kernel_rfl
theorem it177 : intT Try.prog 177 = some .u8 := by kernel_rfl
theorem st177 : strT Try.prog 177 = false := by kernel_rfl
theorem sz177 : szT Try.prog 177 = some (1, false) := by kernel_rfl
theorem zt177 : zeroT Try.prog 177 = some [.int .u8 0] := by kernel_rfl
theorem it178 : intT Try.prog 178 = some .u8 := by kernel_rfl
theorem st178 : strT Try.prog 178 = false := by kernel_rfl
theorem sz178 : szT Try.prog 178 = some (1, false) := by kernel_rfl
theorem zt178 : zeroT Try.prog 178 = some [.int .u8 0] := by kernel_rfl
theorem sz179 : szT Try.prog 179 = some (1, false) := by kernel_rfl
theorem sz180 : szT Try.prog 180 = some (1, false) := by kernel_rfl
theorem it181 : intT Try.prog 181 = some .i32 := by kernel_rfl
theorem st181 : strT Try.prog 181 = false := by kernel_rfl
theorem sz181 : szT Try.prog 181 = some (1, false) := by kernel_rfl
theorem zt181 : zeroT Try.prog 181 = some [.int .i32 0] := by kernel_rfl
theorem it182 : intT Try.prog 182 = some .i32 := by kernel_rfl
theorem st182 : strT Try.prog 182 = false := by kernel_rfl
theorem sz182 : szT Try.prog 182 = some (1, false) := by kernel_rfl
theorem zt182 : zeroT Try.prog 182 = some [.int .i32 0] := by kernel_rfl
theorem sz183 : szT Try.prog 183 = some (11, true) := by kernel_rfl
theorem fd183x0 : fldT Try.prog 183 0 = some (0, 1, false) := by kernel_rfl
theorem fd183x1 : fldT Try.prog 183 1 = some (1, 1, false) := by kernel_rfl
theorem fd183x2 : fldT Try.prog 183 2 = some (2, 1, false) := by kernel_rfl
theorem fd183x3 : fldT Try.prog 183 3 = some (3, 1, false) := by kernel_rfl
theorem fd183x4 : fldT Try.prog 183 4 = some (4, 1, false) := by kernel_rfl
theorem fd183x5 : fldT Try.prog 183 5 = some (5, 1, false) := by kernel_rfl
theorem fd183x6 : fldT Try.prog 183 6 = some (6, 1, false) := by kernel_rfl
theorem fd183x7 : fldT Try.prog 183 7 = some (7, 1, false) := by kernel_rfl
theorem fd183x8 : fldT Try.prog 183 8 = some (8, 1, false) := by kernel_rfl
theorem fd183x9 : fldT Try.prog 183 9 = some (9, 1, false) := by kernel_rfl
theorem fd183x10 : fldT Try.prog 183 10 = some (10, 1, false) := by kernel_rfl
theorem pl183 : placesT Try.prog 183 = some [0, 1, 2, 3, 4, 5, 6, 7, 8, 9, 10] := by kernel_rfl
theorem sz184 : szT Try.prog 184 = some (11, true) := by kernel_rfl
theorem fd184x0 : fldT Try.prog 184 0 = some (0, 1, false) := by kernel_rfl
theorem fd184x1 : fldT Try.prog 184 1 = some (1, 1, false) := by kernel_rfl
theorem fd184x2 : fldT Try.prog 184 2 = some (2, 1, false) := by kernel_rfl
theorem fd184x3 : fldT Try.prog 184 3 = some (3, 1, false) := by kernel_rfl
theorem fd184x4 : fldT Try.prog 184 4 = some (4, 1, false) := by kernel_rfl
theorem fd184x5 : fldT Try.prog 184 5 = some (5, 1, false) := by kernel_rfl
theorem fd184x6 : fldT Try.prog 184 6 = some (6, 1, false) := by kernel_rfl
theorem fd184x7 : fldT Try.prog 184 7 = some (7, 1, false) := by kernel_rfl
theorem fd184x8 : fldT Try.prog 184 8 = some (8, 1, false) := by kernel_rfl
theorem fd184x9 : fldT Try.prog 184 9 = some (9, 1, false) := by kernel_rfl
theorem fd184x10 : fldT Try.prog 184 10 = some (10, 1, false) := by kernel_rfl
theorem pl184 : placesT Try.prog 184 = some [0, 1, 2, 3, 4, 5, 6, 7, 8, 9, 10] := by kernel_rfl
attribute [go_sem] sg0_eq wayE_sg0 wayN_sg0 wayS_sg0 wayZ_sg0 sz1 it2 st2 sz2 zt2 it3 st3 sz3 zt3 bo4 sz4 zt4
attribute [go_sem] it5 st5 sz5 zt5 it6 st6 sz6 zt6 sz7 zt7 fd7x0 fd7x1
attribute [go_sem] fd7x2 fd7x3 pl7 sz8 zt8 fd8x0 fd8x1 fd8x2 fd8x3 pl8 st9 sz9
attribute [go_sem] zt9 st10 sz10 zt10 st11 sz11 zt11 it12 st12 sz12 zt12 sz13
attribute [go_sem] zt13 fd13x0 fd13x1 pl13 sz14 zt14 fd14x0 fd14x1 pl14 sz15 sz16 sz17
attribute [go_sem] sz18 fd18x0 pl18 sz19 fd19x0 pl19 it21 st21 sz21 zt21 sl22 us22
attribute [go_sem] st22 sz22 zt22 sz24 sz25 sz26 sz27 sl28 us28 st28 sz28 zt28
attribute [go_sem] sz29 sz30 sz31 sz32 sz33 sz35 sl36 us36 st36 sz36 zt36 sz37
attribute [go_sem] sz38 sz39 sz41 sz42 sz43 sz45 sz46 sz48 sz49 sz50 sz51 sz52
attribute [go_sem] sz53 sz54 sz56 sz57 sz59 sz61 sz63 sz64 sz65 sz67 sl68 us68
attribute [go_sem] st68 sz68 zt68 sz69 sz70 sz71 sz72 sz73 sz74 sz75 mt76 ky76
attribute [go_sem] sz77 sz78 sz79 sz80 sz81 sz82 sz84 sz85 sz86 sz87 sz88 sz89
attribute [go_sem] sz90 sz91 sz92 sz93 sz94 sz95 sz96 sz97 sz98 sz99 sz100 sz101
attribute [go_sem] sz102 sz103 sz104 sz105 sz106 sz107 sl108 us108 st108 sz108 zt108 sz109
attribute [go_sem] zt109 fd109x0 fd109x1 pl109 st110 sz110 zt110 sz111 sz112 sz113 sz114 it115
attribute [go_sem] st115 sz115 zt115 sz116 sz117 sz118 zt118 fd118x0 fd118x1 fd118x2 pl118 sz119
attribute [go_sem] zt119 fd119x0 fd119x1 fd119x2 pl119 sz120 sz121 sz122 sz123 sz124 sz125 sz126
attribute [go_sem] sz127 sz128 sz129 mt130 ky130 sz132 pl132 zt132 sz133 sz134 sl135 us135
attribute [go_sem] st135 sz135 zt135 sz136 sz137 sz138 sz139 sz140 sz141 sz142 sz143 sz144
attribute [go_sem] sz145 it146 st146 sz146 zt146 sz148 sz149 sz150 sz151 it152 st152 sz152
attribute [go_sem] zt152 sz153 it154 st154 sz154 zt154 sz155 sz156 sz157 sz158 sz159 it160
attribute [go_sem] st160 sz160 zt160 sz161 sz162 sz163 sz164 sz165 sz166 sz167 sz168 sz169
attribute [go_sem] sz170 sz171 fd171x0 fd171x1 fd171x2 fd171x3 pl171 sz172 fd172x0 fd172x1 fd172x2 fd172x3
attribute [go_sem] pl172 sz173 sz174 fd174x0 sz175 fd175x0 sz176 it177 st177 sz177 zt177 it178
attribute [go_sem] st178 sz178 zt178 sz179 sz180 it181 st181 sz181 zt181 it182 st182 sz182
attribute [go_sem] zt182 sz183 fd183x0 fd183x1 fd183x2 fd183x3 fd183x4 fd183x5 fd183x6 fd183x7 fd183x8 fd183x9
attribute [go_sem] fd183x10 pl183 sz184 fd184x0 fd184x1 fd184x2 fd184x3 fd184x4 fd184x5 fd184x6 fd184x7 fd184x8
attribute [go_sem] fd184x9 fd184x10 pl184
end Go.Gl
