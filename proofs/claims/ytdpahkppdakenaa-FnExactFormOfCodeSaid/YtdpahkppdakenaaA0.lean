/-
  The common ground of the contracts of this program's functions. Conditions: none.
-/
import Derived.Test.YtdpahkppdakenaaGlC
import Derived.Test.YtdpahkppdakenaaChecked
namespace Go.Gl
open Go Go.Proofs
def sg0 : FuncId → List Bool := fun _ => []
theorem sg0_eq {f : FuncId} : sg0 f = [] := rfl
theorem wayE_sg0 : wayE sg0 = false := _root_.id rfl
theorem wayN_sg0 : wayN sg0 = false := _root_.id rfl
theorem wayS_sg0 : wayS sg0 = false := _root_.id rfl
theorem wayZ_sg0 : wayZ sg0 = false := _root_.id rfl
theorem mo : Try.prog.follows .mixedOrders = true := Try.checked.mixed
theorem sz1 : szT Try.prog 1 = some (1, false) := by kernel_rfl
theorem it2 : intT Try.prog 2 = some .i64 := by kernel_rfl
theorem st2 : strT Try.prog 2 = false := by kernel_rfl
theorem sz2 : szT Try.prog 2 = some (1, false) := by kernel_rfl
theorem zt2 : zeroT Try.prog 2 = some [.int .i64 0] := by kernel_rfl
theorem it3 : intT Try.prog 3 = some .i64 := by kernel_rfl
theorem st3 : strT Try.prog 3 = false := by kernel_rfl
theorem sz3 : szT Try.prog 3 = some (1, false) := by kernel_rfl
theorem zt3 : zeroT Try.prog 3 = some [.int .i64 0] := by kernel_rfl
theorem bo4 : boolT Try.prog 4 = true := by kernel_rfl
theorem sz4 : szT Try.prog 4 = some (1, false) := by kernel_rfl
theorem zt4 : zeroT Try.prog 4 = some [.bool false] := by kernel_rfl
theorem it5 : intT Try.prog 5 = some .u8 := by kernel_rfl
theorem st5 : strT Try.prog 5 = false := by kernel_rfl
theorem sz5 : szT Try.prog 5 = some (1, false) := by kernel_rfl
theorem zt5 : zeroT Try.prog 5 = some [.int .u8 0] := by kernel_rfl
theorem it6 : intT Try.prog 6 = some .u8 := by kernel_rfl
theorem st6 : strT Try.prog 6 = false := by kernel_rfl
theorem sz6 : szT Try.prog 6 = some (1, false) := by kernel_rfl
theorem zt6 : zeroT Try.prog 6 = some [.int .u8 0] := by kernel_rfl
theorem sz7 : szT Try.prog 7 = some (4, true) := by kernel_rfl
theorem zt7 : zeroT Try.prog 7 = some [.int .i64 0, .int .i64 0, .bool false, .int .u8 0] := by kernel_rfl
theorem fd7x0 : fldT Try.prog 7 0 = some (0, 1, false) := by kernel_rfl
theorem fd7x1 : fldT Try.prog 7 1 = some (1, 1, false) := by kernel_rfl
theorem fd7x2 : fldT Try.prog 7 2 = some (2, 1, false) := by kernel_rfl
theorem fd7x3 : fldT Try.prog 7 3 = some (3, 1, false) := by kernel_rfl
theorem pl7 : placesT Try.prog 7 = some [0, 1, 2, 3] := by kernel_rfl
theorem sz8 : szT Try.prog 8 = some (4, true) := by kernel_rfl
theorem zt8 : zeroT Try.prog 8 = some [.int .i64 0, .int .i64 0, .bool false, .int .u8 0] := by kernel_rfl
theorem fd8x0 : fldT Try.prog 8 0 = some (0, 1, false) := by kernel_rfl
theorem fd8x1 : fldT Try.prog 8 1 = some (1, 1, false) := by kernel_rfl
theorem fd8x2 : fldT Try.prog 8 2 = some (2, 1, false) := by kernel_rfl
theorem fd8x3 : fldT Try.prog 8 3 = some (3, 1, false) := by kernel_rfl
theorem pl8 : placesT Try.prog 8 = some [0, 1, 2, 3] := by kernel_rfl
theorem st9 : strT Try.prog 9 = true := by kernel_rfl
theorem sz9 : szT Try.prog 9 = some (1, false) := by kernel_rfl
theorem zt9 : zeroT Try.prog 9 = some [.str []] := by kernel_rfl
theorem st10 : strT Try.prog 10 = true := by kernel_rfl
theorem sz10 : szT Try.prog 10 = some (1, false) := by kernel_rfl
theorem zt10 : zeroT Try.prog 10 = some [.str []] := by kernel_rfl
theorem st11 : strT Try.prog 11 = true := by kernel_rfl
theorem sz11 : szT Try.prog 11 = some (1, false) := by kernel_rfl
theorem zt11 : zeroT Try.prog 11 = some [.str []] := by kernel_rfl
theorem it12 : intT Try.prog 12 = some .u64 := by kernel_rfl
theorem st12 : strT Try.prog 12 = false := by kernel_rfl
theorem sz12 : szT Try.prog 12 = some (1, false) := by kernel_rfl
theorem zt12 : zeroT Try.prog 12 = some [.int .u64 0] := by kernel_rfl
theorem sz13 : szT Try.prog 13 = some (2, true) := by kernel_rfl
theorem zt13 : zeroT Try.prog 13 = some [.str [], .int .u64 0] := by kernel_rfl
theorem fd13x0 : fldT Try.prog 13 0 = some (0, 1, false) := by kernel_rfl
theorem fd13x1 : fldT Try.prog 13 1 = some (1, 1, false) := by kernel_rfl
theorem pl13 : placesT Try.prog 13 = some [0, 1] := by kernel_rfl
theorem sz14 : szT Try.prog 14 = some (2, true) := by kernel_rfl
theorem zt14 : zeroT Try.prog 14 = some [.str [], .int .u64 0] := by kernel_rfl
theorem fd14x0 : fldT Try.prog 14 0 = some (0, 1, false) := by kernel_rfl
theorem fd14x1 : fldT Try.prog 14 1 = some (1, 1, false) := by kernel_rfl
theorem pl14 : placesT Try.prog 14 = some [0, 1] := by kernel_rfl
theorem sz15 : szT Try.prog 15 = some (1, false) := by kernel_rfl
theorem sz16 : szT Try.prog 16 = some (1, false) := by kernel_rfl
theorem sz17 : szT Try.prog 17 = some (1, false) := by kernel_rfl
theorem sz18 : szT Try.prog 18 = some (1, true) := by kernel_rfl
theorem fd18x0 : fldT Try.prog 18 0 = some (0, 1, false) := by kernel_rfl
theorem pl18 : placesT Try.prog 18 = some [0] := by kernel_rfl
theorem sz19 : szT Try.prog 19 = some (1, true) := by kernel_rfl
theorem fd19x0 : fldT Try.prog 19 0 = some (0, 1, false) := by kernel_rfl
theorem pl19 : placesT Try.prog 19 = some [0] := by kernel_rfl
theorem it21 : intT Try.prog 21 = some .i32 := by kernel_rfl
theorem st21 : strT Try.prog 21 = false := by kernel_rfl
theorem sz21 : szT Try.prog 21 = some (1, false) := by kernel_rfl
theorem zt21 : zeroT Try.prog 21 = some [.int .i32 0] := by kernel_rfl
theorem sl22 : slT Try.prog 22 = some (8, .int .i64 0) := by kernel_rfl
theorem us22 : u8T Try.prog 22 = false := by kernel_rfl
theorem st22 : strT Try.prog 22 = false := by kernel_rfl
theorem sz22 : szT Try.prog 22 = some (1, false) := by kernel_rfl
theorem zt22 : zeroT Try.prog 22 = some [.sl (.lent false) []] := by kernel_rfl
theorem sz24 : szT Try.prog 24 = some (1, false) := by kernel_rfl
theorem sz25 : szT Try.prog 25 = some (1, false) := by kernel_rfl
theorem sz26 : szT Try.prog 26 = some (1, false) := by kernel_rfl
theorem sz27 : szT Try.prog 27 = some (1, false) := by kernel_rfl
theorem sz28 : szT Try.prog 28 = some (1, false) := by kernel_rfl
theorem sz29 : szT Try.prog 29 = some (1, false) := by kernel_rfl
theorem sz30 : szT Try.prog 30 = some (1, false) := by kernel_rfl
theorem sl31 : slT Try.prog 31 = some (24, .sl (.lent false) []) := by kernel_rfl
theorem us31 : u8T Try.prog 31 = false := by kernel_rfl
theorem st31 : strT Try.prog 31 = false := by kernel_rfl
theorem sz31 : szT Try.prog 31 = some (1, false) := by kernel_rfl
theorem zt31 : zeroT Try.prog 31 = some [.sl (.lent false) []] := by kernel_rfl
theorem sz32 : szT Try.prog 32 = some (1, false) := by kernel_rfl
theorem sz33 : szT Try.prog 33 = some (1, false) := by kernel_rfl
theorem sz34 : szT Try.prog 34 = some (1, false) := by kernel_rfl
theorem sz36 : szT Try.prog 36 = some (1, false) := by kernel_rfl
theorem sl37 : slT Try.prog 37 = some (1, .int .u8 0) := by kernel_rfl
theorem us37 : u8T Try.prog 37 = true := by kernel_rfl
theorem st37 : strT Try.prog 37 = false := by kernel_rfl
theorem sz37 : szT Try.prog 37 = some (1, false) := by kernel_rfl
theorem zt37 : zeroT Try.prog 37 = some [.sl (.lent false) []] := by kernel_rfl
theorem sz38 : szT Try.prog 38 = some (1, false) := by kernel_rfl
theorem sz39 : szT Try.prog 39 = some (1, false) := by kernel_rfl
theorem sz40 : szT Try.prog 40 = some (1, false) := by kernel_rfl
theorem sz42 : szT Try.prog 42 = some (1, false) := by kernel_rfl
theorem sz43 : szT Try.prog 43 = some (1, false) := by kernel_rfl
theorem sz44 : szT Try.prog 44 = some (1, false) := by kernel_rfl
theorem sz46 : szT Try.prog 46 = some (1, false) := by kernel_rfl
theorem sz47 : szT Try.prog 47 = some (1, false) := by kernel_rfl
theorem sz49 : szT Try.prog 49 = some (1, false) := by kernel_rfl
theorem sz50 : szT Try.prog 50 = some (1, false) := by kernel_rfl
theorem sz51 : szT Try.prog 51 = some (1, false) := by kernel_rfl
theorem sz52 : szT Try.prog 52 = some (1, false) := by kernel_rfl
theorem sz53 : szT Try.prog 53 = some (1, false) := by kernel_rfl
theorem sz54 : szT Try.prog 54 = some (1, false) := by kernel_rfl
theorem sz55 : szT Try.prog 55 = some (1, false) := by kernel_rfl
theorem sz57 : szT Try.prog 57 = some (1, false) := by kernel_rfl
theorem sz58 : szT Try.prog 58 = some (1, false) := by kernel_rfl
theorem sz59 : szT Try.prog 59 = some (1, false) := by kernel_rfl
theorem sz60 : szT Try.prog 60 = some (1, false) := by kernel_rfl
theorem sz61 : szT Try.prog 61 = some (1, false) := by kernel_rfl
theorem mt62 : mapT Try.prog 62 = some (5, (.sl .own [])) := by kernel_rfl
theorem ky62 : Maps.Keyed Try.prog 5 := Maps.int_keyed (show Try.prog.underlying 5 = some (.int .u8) by kernel_rfl)
theorem sz63 : szT Try.prog 63 = some (1, false) := by kernel_rfl
theorem sz64 : szT Try.prog 64 = some (1, false) := by kernel_rfl
theorem sz65 : szT Try.prog 65 = some (1, false) := by kernel_rfl
theorem sz66 : szT Try.prog 66 = some (1, false) := by kernel_rfl
theorem sz67 : szT Try.prog 67 = some (1, false) := by kernel_rfl
theorem sz68 : szT Try.prog 68 = some (1, false) := by kernel_rfl
theorem sz69 : szT Try.prog 69 = some (1, false) := by kernel_rfl
theorem sz70 : szT Try.prog 70 = some (1, false) := by kernel_rfl
theorem sz71 : szT Try.prog 71 = some (1, false) := by kernel_rfl
theorem sz73 : szT Try.prog 73 = some (1, false) := by kernel_rfl
theorem sz74 : szT Try.prog 74 = some (1, false) := by kernel_rfl
theorem sz75 : szT Try.prog 75 = some (1, false) := by kernel_rfl
theorem sz76 : szT Try.prog 76 = some (1, false) := by kernel_rfl
theorem sz77 : szT Try.prog 77 = some (1, false) := by kernel_rfl
theorem sz78 : szT Try.prog 78 = some (1, false) := by kernel_rfl
theorem sz79 : szT Try.prog 79 = some (1, false) := by kernel_rfl
theorem sz80 : szT Try.prog 80 = some (1, false) := by kernel_rfl
theorem sz81 : szT Try.prog 81 = some (1, false) := by kernel_rfl
theorem sz82 : szT Try.prog 82 = some (1, false) := by kernel_rfl
theorem sl83 : slT Try.prog 83 = some (24, .sl (.lent false) []) := by kernel_rfl
theorem us83 : u8T Try.prog 83 = false := by kernel_rfl
theorem st83 : strT Try.prog 83 = false := by kernel_rfl
theorem sz83 : szT Try.prog 83 = some (1, false) := by kernel_rfl
theorem zt83 : zeroT Try.prog 83 = some [.sl (.lent false) []] := by kernel_rfl
theorem sz84 : szT Try.prog 84 = some (1, false) := by kernel_rfl
theorem sz85 : szT Try.prog 85 = some (1, false) := by kernel_rfl
theorem sz86 : szT Try.prog 86 = some (1, false) := by kernel_rfl
theorem sz87 : szT Try.prog 87 = some (1, false) := by kernel_rfl
theorem sz88 : szT Try.prog 88 = some (1, false) := by kernel_rfl
theorem sz89 : szT Try.prog 89 = some (1, false) := by kernel_rfl
theorem sz90 : szT Try.prog 90 = some (1, false) := by kernel_rfl
theorem sz91 : szT Try.prog 91 = some (1, false) := by kernel_rfl
theorem sl92 : slT Try.prog 92 = some (16, .str []) := by kernel_rfl
theorem us92 : u8T Try.prog 92 = false := by kernel_rfl
theorem st92 : strT Try.prog 92 = false := by kernel_rfl
theorem sz92 : szT Try.prog 92 = some (1, false) := by kernel_rfl
theorem zt92 : zeroT Try.prog 92 = some [.sl (.lent false) []] := by kernel_rfl
theorem sz93 : szT Try.prog 93 = some (1, false) := by kernel_rfl
theorem sz94 : szT Try.prog 94 = some (1, false) := by kernel_rfl
theorem sz95 : szT Try.prog 95 = some (1, false) := by kernel_rfl
theorem it96 : intT Try.prog 96 = some .u64 := by kernel_rfl
theorem st96 : strT Try.prog 96 = false := by kernel_rfl
theorem sz96 : szT Try.prog 96 = some (1, false) := by kernel_rfl
theorem zt96 : zeroT Try.prog 96 = some [.int .u64 0] := by kernel_rfl
theorem sz97 : szT Try.prog 97 = some (1, false) := by kernel_rfl
theorem sz98 : szT Try.prog 98 = some (1, false) := by kernel_rfl
theorem sz99 : szT Try.prog 99 = some (3, true) := by kernel_rfl
theorem zt99 : zeroT Try.prog 99 = some [.sl (.lent false) [], .int .i64 0, .int .i64 0] := by kernel_rfl
theorem fd99x0 : fldT Try.prog 99 0 = some (0, 1, false) := by kernel_rfl
theorem fd99x1 : fldT Try.prog 99 1 = some (1, 1, false) := by kernel_rfl
theorem fd99x2 : fldT Try.prog 99 2 = some (2, 1, false) := by kernel_rfl
theorem pl99 : placesT Try.prog 99 = some [0, 1, 2] := by kernel_rfl
theorem sz100 : szT Try.prog 100 = some (3, true) := by kernel_rfl
theorem zt100 : zeroT Try.prog 100 = some [.sl (.lent false) [], .int .i64 0, .int .i64 0] := by kernel_rfl
theorem fd100x0 : fldT Try.prog 100 0 = some (0, 1, false) := by kernel_rfl
theorem fd100x1 : fldT Try.prog 100 1 = some (1, 1, false) := by kernel_rfl
theorem fd100x2 : fldT Try.prog 100 2 = some (2, 1, false) := by kernel_rfl
theorem pl100 : placesT Try.prog 100 = some [0, 1, 2] := by kernel_rfl
theorem sz101 : szT Try.prog 101 = some (1, false) := by kernel_rfl
theorem sz102 : szT Try.prog 102 = some (1, false) := by kernel_rfl
theorem sz103 : szT Try.prog 103 = some (1, false) := by kernel_rfl
theorem sz104 : szT Try.prog 104 = some (1, false) := by kernel_rfl
theorem sz105 : szT Try.prog 105 = some (1, false) := by kernel_rfl
theorem sz106 : szT Try.prog 106 = some (1, false) := by kernel_rfl
theorem sz107 : szT Try.prog 107 = some (1, false) := by kernel_rfl
theorem sz108 : szT Try.prog 108 = some (1, false) := by kernel_rfl
theorem sz109 : szT Try.prog 109 = some (1, false) := by kernel_rfl
theorem sz110 : szT Try.prog 110 = some (1, false) := by kernel_rfl
theorem sl111 : slT Try.prog 111 = some (1, .bool false) := by kernel_rfl
theorem us111 : u8T Try.prog 111 = false := by kernel_rfl
theorem st111 : strT Try.prog 111 = false := by kernel_rfl
theorem sz111 : szT Try.prog 111 = some (1, false) := by kernel_rfl
theorem zt111 : zeroT Try.prog 111 = some [.sl (.lent false) []] := by kernel_rfl
theorem sz112 : szT Try.prog 112 = some (1, false) := by kernel_rfl
theorem sz113 : szT Try.prog 113 = some (1, false) := by kernel_rfl
theorem sz114 : szT Try.prog 114 = some (1, false) := by kernel_rfl
theorem sz115 : szT Try.prog 115 = some (1, false) := by kernel_rfl
theorem sz116 : szT Try.prog 116 = some (2, true) := by kernel_rfl
theorem fd116x0 : fldT Try.prog 116 0 = some (0, 1, false) := by kernel_rfl
theorem fd116x1 : fldT Try.prog 116 1 = some (1, 1, false) := by kernel_rfl
theorem pl116 : placesT Try.prog 116 = some [0, 1] := by kernel_rfl
theorem sz117 : szT Try.prog 117 = some (2, true) := by kernel_rfl
theorem fd117x0 : fldT Try.prog 117 0 = some (0, 1, false) := by kernel_rfl
theorem fd117x1 : fldT Try.prog 117 1 = some (1, 1, false) := by kernel_rfl
theorem pl117 : placesT Try.prog 117 = some [0, 1] := by kernel_rfl
theorem sz118 : szT Try.prog 118 = some (1, false) := by kernel_rfl
theorem sz122 : szT Try.prog 122 = some (1, false) := by kernel_rfl
theorem sz123 : szT Try.prog 123 = some (1, false) := by kernel_rfl
theorem sz124 : szT Try.prog 124 = some (1, false) := by kernel_rfl
theorem sz125 : szT Try.prog 125 = some (1, false) := by kernel_rfl
theorem sz126 : szT Try.prog 126 = some (1, false) := by kernel_rfl
theorem sz127 : szT Try.prog 127 = some (1, false) := by kernel_rfl
theorem sz128 : szT Try.prog 128 = some (1, false) := by kernel_rfl
theorem sz129 : szT Try.prog 129 = some (1, false) := by kernel_rfl
theorem sz130 : szT Try.prog 130 = some (1, false) := by kernel_rfl
theorem sz131 : szT Try.prog 131 = some (1, false) := by kernel_rfl
theorem sz132 : szT Try.prog 132 = some (1, false) := by kernel_rfl
theorem it133 : intT Try.prog 133 = some .i64 := by kernel_rfl
theorem st133 : strT Try.prog 133 = false := by kernel_rfl
theorem sz133 : szT Try.prog 133 = some (1, false) := by kernel_rfl
theorem zt133 : zeroT Try.prog 133 = some [.int .i64 0] := by kernel_rfl
theorem sz135 : szT Try.prog 135 = some (1, false) := by kernel_rfl
theorem sz136 : szT Try.prog 136 = some (1, false) := by kernel_rfl
theorem sz137 : szT Try.prog 137 = some (1, false) := by kernel_rfl
theorem sz139 : szT Try.prog 139 = some (1, false) := by kernel_rfl
theorem sz140 : szT Try.prog 140 = some (1, false) := by kernel_rfl
theorem it141 : intT Try.prog 141 = some .u32 := by kernel_rfl
theorem st141 : strT Try.prog 141 = false := by kernel_rfl
theorem sz141 : szT Try.prog 141 = some (1, false) := by kernel_rfl
theorem zt141 : zeroT Try.prog 141 = some [.int .u32 0] := by kernel_rfl
theorem sz142 : szT Try.prog 142 = some (1, false) := by kernel_rfl
theorem it143 : intT Try.prog 143 = some .u64 := by kernel_rfl
theorem st143 : strT Try.prog 143 = false := by kernel_rfl
theorem sz143 : szT Try.prog 143 = some (1, false) := by kernel_rfl
theorem zt143 : zeroT Try.prog 143 = some [.int .u64 0] := by kernel_rfl
theorem sz144 : szT Try.prog 144 = some (1, false) := by kernel_rfl
theorem sz145 : szT Try.prog 145 = some (1, false) := by kernel_rfl
theorem sz146 : szT Try.prog 146 = some (1, false) := by kernel_rfl
theorem it147 : intT Try.prog 147 = some .u64 := by kernel_rfl
theorem st147 : strT Try.prog 147 = false := by kernel_rfl
theorem sz147 : szT Try.prog 147 = some (1, false) := by kernel_rfl
theorem zt147 : zeroT Try.prog 147 = some [.int .u64 0] := by kernel_rfl
theorem sz148 : szT Try.prog 148 = some (1, false) := by kernel_rfl
theorem sz149 : szT Try.prog 149 = some (1, false) := by kernel_rfl
theorem sz150 : szT Try.prog 150 = some (1, false) := by kernel_rfl
theorem sz151 : szT Try.prog 151 = some (1, false) := by kernel_rfl
theorem sz153 : szT Try.prog 153 = some (1, false) := by kernel_rfl
theorem sz154 : szT Try.prog 154 = some (1, false) := by kernel_rfl
theorem sz155 : szT Try.prog 155 = some (1, false) := by kernel_rfl
theorem sz156 : szT Try.prog 156 = some (1, false) := by kernel_rfl
theorem sz157 : szT Try.prog 157 = some (1, false) := by kernel_rfl
theorem sz158 : szT Try.prog 158 = some (1, false) := by kernel_rfl
theorem sz159 : szT Try.prog 159 = some (1, false) := by kernel_rfl
theorem sz160 : szT Try.prog 160 = some (1, false) := by kernel_rfl
theorem sz161 : szT Try.prog 161 = some (1, false) := by kernel_rfl
theorem sz162 : szT Try.prog 162 = some (1, false) := by kernel_rfl
theorem sz163 : szT Try.prog 163 = some (1, false) := by kernel_rfl
theorem sz164 : szT Try.prog 164 = some (1, false) := by kernel_rfl
theorem sz165 : szT Try.prog 165 = some (4, true) := by kernel_rfl
theorem fd165x0 : fldT Try.prog 165 0 = some (0, 1, false) := by kernel_rfl
theorem fd165x1 : fldT Try.prog 165 1 = some (1, 1, false) := by kernel_rfl
theorem fd165x2 : fldT Try.prog 165 2 = some (2, 1, false) := by kernel_rfl
theorem fd165x3 : fldT Try.prog 165 3 = some (3, 1, false) := by kernel_rfl
theorem pl165 : placesT Try.prog 165 = some [0, 1, 2, 3] := by kernel_rfl
theorem sz166 : szT Try.prog 166 = some (4, true) := by kernel_rfl
theorem fd166x0 : fldT Try.prog 166 0 = some (0, 1, false) := by kernel_rfl
theorem fd166x1 : fldT Try.prog 166 1 = some (1, 1, false) := by kernel_rfl
theorem fd166x2 : fldT Try.prog 166 2 = some (2, 1, false) := by kernel_rfl
theorem fd166x3 : fldT Try.prog 166 3 = some (3, 1, false) := by kernel_rfl
theorem pl166 : placesT Try.prog 166 = some [0, 1, 2, 3] := by kernel_rfl
theorem sz167 : szT Try.prog 167 = some (0, true) := by kernel_rfl
theorem sz168 : szT Try.prog 168 = some (0, true) := by kernel_rfl
theorem fd168x0 : fldT Try.prog 168 0 = some (0, 0, true) := by kernel_rfl
theorem sz169 : szT Try.prog 169 = some (0, true) := by kernel_rfl
theorem fd169x0 : fldT Try.prog 169 0 = some (0, 0, true) := by kernel_rfl
theorem sz170 : szT Try.prog 170 = some (1, false) := by kernel_rfl
theorem it171 : intT Try.prog 171 = some .u8 := by kernel_rfl
theorem st171 : strT Try.prog 171 = false := by kernel_rfl
theorem sz171 : szT Try.prog 171 = some (1, false) := by kernel_rfl
theorem zt171 : zeroT Try.prog 171 = some [.int .u8 0] := by kernel_rfl
theorem it172 : intT Try.prog 172 = some .u8 := by kernel_rfl
theorem st172 : strT Try.prog 172 = false := by kernel_rfl
theorem sz172 : szT Try.prog 172 = some (1, false) := by kernel_rfl
theorem zt172 : zeroT Try.prog 172 = some [.int .u8 0] := by kernel_rfl
theorem sz173 : szT Try.prog 173 = some (1, false) := by kernel_rfl
theorem it174 : intT Try.prog 174 = some .i32 := by kernel_rfl
theorem st174 : strT Try.prog 174 = false := by kernel_rfl
theorem sz174 : szT Try.prog 174 = some (1, false) := by kernel_rfl
theorem zt174 : zeroT Try.prog 174 = some [.int .i32 0] := by kernel_rfl
theorem it175 : intT Try.prog 175 = some .i32 := by kernel_rfl
theorem st175 : strT Try.prog 175 = false := by kernel_rfl
theorem sz175 : szT Try.prog 175 = some (1, false) := by kernel_rfl
theorem zt175 : zeroT Try.prog 175 = some [.int .i32 0] := by kernel_rfl
theorem sz176 : szT Try.prog 176 = some (11, true) := by kernel_rfl
theorem fd176x0 : fldT Try.prog 176 0 = some (0, 1, false) := by kernel_rfl
theorem fd176x1 : fldT Try.prog 176 1 = some (1, 1, false) := by kernel_rfl
theorem fd176x2 : fldT Try.prog 176 2 = some (2, 1, false) := by kernel_rfl
theorem fd176x3 : fldT Try.prog 176 3 = some (3, 1, false) := by kernel_rfl
theorem fd176x4 : fldT Try.prog 176 4 = some (4, 1, false) := by kernel_rfl
theorem fd176x5 : fldT Try.prog 176 5 = some (5, 1, false) := by kernel_rfl
theorem fd176x6 : fldT Try.prog 176 6 = some (6, 1, false) := by kernel_rfl
theorem fd176x7 : fldT Try.prog 176 7 = some (7, 1, false) := by kernel_rfl
theorem fd176x8 : fldT Try.prog 176 8 = some (8, 1, false) := by kernel_rfl
theorem fd176x9 : fldT Try.prog 176 9 = some (9, 1, false) := by kernel_rfl
theorem fd176x10 : fldT Try.prog 176 10 = some (10, 1, false) := by kernel_rfl
theorem pl176 : placesT Try.prog 176 = some [0, 1, 2, 3, 4, 5, 6, 7, 8, 9, 10] := by kernel_rfl
theorem sz177 : szT Try.prog 177 = some (11, true) := by kernel_rfl
theorem fd177x0 : fldT Try.prog 177 0 = some (0, 1, false) := by kernel_rfl
theorem fd177x1 : fldT Try.prog 177 1 = some (1, 1, false) := by kernel_rfl
theorem fd177x2 : fldT Try.prog 177 2 = some (2, 1, false) := by kernel_rfl
theorem fd177x3 : fldT Try.prog 177 3 = some (3, 1, false) := by kernel_rfl
theorem fd177x4 : fldT Try.prog 177 4 = some (4, 1, false) := by kernel_rfl
theorem fd177x5 : fldT Try.prog 177 5 = some (5, 1, false) := by kernel_rfl
theorem fd177x6 : fldT Try.prog 177 6 = some (6, 1, false) := by kernel_rfl
theorem fd177x7 : fldT Try.prog 177 7 = some (7, 1, false) := by kernel_rfl
theorem fd177x8 : fldT Try.prog 177 8 = some (8, 1, false) := by kernel_rfl
theorem fd177x9 : fldT Try.prog 177 9 = some (9, 1, false) := by kernel_rfl
theorem fd177x10 : fldT Try.prog 177 10 = some (10, 1, false) := by kernel_rfl
theorem pl177 : placesT Try.prog 177 = some [0, 1, 2, 3, 4, 5, 6, 7, 8, 9, 10] := by kernel_rfl
attribute [go_sem] sg0_eq wayE_sg0 wayN_sg0 wayS_sg0 wayZ_sg0 sz1 it2 st2 sz2 zt2 it3 st3 sz3 zt3 bo4 sz4 zt4
attribute [go_sem] it5 st5 sz5 zt5 it6 st6 sz6 zt6 sz7 zt7 fd7x0 fd7x1
attribute [go_sem] fd7x2 fd7x3 pl7 sz8 zt8 fd8x0 fd8x1 fd8x2 fd8x3 pl8 st9 sz9
attribute [go_sem] zt9 st10 sz10 zt10 st11 sz11 zt11 it12 st12 sz12 zt12 sz13
attribute [go_sem] zt13 fd13x0 fd13x1 pl13 sz14 zt14 fd14x0 fd14x1 pl14 sz15 sz16 sz17
attribute [go_sem] sz18 fd18x0 pl18 sz19 fd19x0 pl19 it21 st21 sz21 zt21 sl22 us22
attribute [go_sem] st22 sz22 zt22 sz24 sz25 sz26 sz27 sz28 sz29 sz30 sl31 us31
attribute [go_sem] st31 sz31 zt31 sz32 sz33 sz34 sz36 sl37 us37 st37 sz37 zt37
attribute [go_sem] sz38 sz39 sz40 sz42 sz43 sz44 sz46 sz47 sz49 sz50 sz51 sz52
attribute [go_sem] sz53 sz54 sz55 sz57 sz58 sz59 sz60 sz61 mt62 ky62 sz63 sz64
attribute [go_sem] sz65 sz66 sz67 sz68 sz69 sz70 sz71 sz73 sz74 sz75 sz76 sz77
attribute [go_sem] sz78 sz79 sz80 sz81 sz82 sl83 us83 st83 sz83 zt83 sz84 sz85
attribute [go_sem] sz86 sz87 sz88 sz89 sz90 sz91 sl92 us92 st92 sz92 zt92 sz93
attribute [go_sem] sz94 sz95 it96 st96 sz96 zt96 sz97 sz98 sz99 zt99 fd99x0 fd99x1
attribute [go_sem] fd99x2 pl99 sz100 zt100 fd100x0 fd100x1 fd100x2 pl100 sz101 sz102 sz103 sz104
attribute [go_sem] sz105 sz106 sz107 sz108 sz109 sz110 sl111 us111 st111 sz111 zt111 sz112
attribute [go_sem] sz113 sz114 sz115 sz116 fd116x0 fd116x1 pl116 sz117 fd117x0 fd117x1 pl117 sz118
attribute [go_sem] sz122 sz123 sz124 sz125 sz126 sz127 sz128 sz129 sz130 sz131 sz132 it133
attribute [go_sem] st133 sz133 zt133 sz135 sz136 sz137 sz139 sz140 it141 st141 sz141 zt141
attribute [go_sem] sz142 it143 st143 sz143 zt143 sz144 sz145 sz146 it147 st147 sz147 zt147
attribute [go_sem] sz148 sz149 sz150 sz151 sz153 sz154 sz155 sz156 sz157 sz158 sz159 sz160
attribute [go_sem] sz161 sz162 sz163 sz164 sz165 fd165x0 fd165x1 fd165x2 fd165x3 pl165 sz166 fd166x0
attribute [go_sem] fd166x1 fd166x2 fd166x3 pl166 sz167 sz168 fd168x0 sz169 fd169x0 sz170 it171 st171
attribute [go_sem] sz171 zt171 it172 st172 sz172 zt172 sz173 it174 st174 sz174 zt174 it175
attribute [go_sem] st175 sz175 zt175 sz176 fd176x0 fd176x1 fd176x2 fd176x3 fd176x4 fd176x5 fd176x6 fd176x7
attribute [go_sem] fd176x8 fd176x9 fd176x10 pl176 sz177 fd177x0 fd177x1 fd177x2 fd177x3 fd177x4 fd177x5 fd177x6
attribute [go_sem] fd177x7 fd177x8 fd177x9 fd177x10 pl177
end Go.Gl
