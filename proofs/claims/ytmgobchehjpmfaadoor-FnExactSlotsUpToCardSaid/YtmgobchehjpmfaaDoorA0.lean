/-
  The common ground of the contracts of this program's functions. Conditions: none.
-/
import Derived.Test.YtmgobchehjpmfaaDoorGlC
import Derived.Test.YtmgobchehjpmfaaDoorChecked
namespace Go.Gl
open Go Go.Proofs
def sg0 : FuncId → List Bool := fun _ => []
theorem sg0_eq {f : FuncId} : sg0 f = [] := rfl
theorem wayE_sg0 : wayE sg0 = false := _root_.id rfl
theorem wayN_sg0 : wayN sg0 = false := _root_.id rfl
theorem wayS_sg0 : wayS sg0 = false := _root_.id rfl
theorem wayZ_sg0 : wayZ sg0 = false := _root_.id rfl
theorem mo : Tryd.prog.follows .mixedOrders = true := Tryd.checked.mixed
theorem sz1 : szT Tryd.prog 1 = some (1, false) := by kernel_rfl
theorem it2 : intT Tryd.prog 2 = some .i64 := by kernel_rfl
theorem st2 : strT Tryd.prog 2 = false := by kernel_rfl
theorem sz2 : szT Tryd.prog 2 = some (1, false) := by kernel_rfl
theorem zt2 : zeroT Tryd.prog 2 = some [.int .i64 0] := by kernel_rfl
theorem it3 : intT Tryd.prog 3 = some .i64 := by kernel_rfl
theorem st3 : strT Tryd.prog 3 = false := by kernel_rfl
theorem sz3 : szT Tryd.prog 3 = some (1, false) := by kernel_rfl
theorem zt3 : zeroT Tryd.prog 3 = some [.int .i64 0] := by kernel_rfl
theorem bo4 : boolT Tryd.prog 4 = true := by kernel_rfl
theorem sz4 : szT Tryd.prog 4 = some (1, false) := by kernel_rfl
theorem zt4 : zeroT Tryd.prog 4 = some [.bool false] := by kernel_rfl
theorem it5 : intT Tryd.prog 5 = some .u8 := by kernel_rfl
theorem st5 : strT Tryd.prog 5 = false := by kernel_rfl
theorem sz5 : szT Tryd.prog 5 = some (1, false) := by kernel_rfl
theorem zt5 : zeroT Tryd.prog 5 = some [.int .u8 0] := by kernel_rfl
theorem it6 : intT Tryd.prog 6 = some .u8 := by kernel_rfl
theorem st6 : strT Tryd.prog 6 = false := by kernel_rfl
theorem sz6 : szT Tryd.prog 6 = some (1, false) := by kernel_rfl
theorem zt6 : zeroT Tryd.prog 6 = some [.int .u8 0] := by kernel_rfl
theorem sz7 : szT Tryd.prog 7 = some (4, true) := by kernel_rfl
theorem zt7 : zeroT Tryd.prog 7 = some [.int .i64 0, .int .i64 0, .bool false, .int .u8 0] := by kernel_rfl
theorem fd7x0 : fldT Tryd.prog 7 0 = some (0, 1, false) := by kernel_rfl
theorem fd7x1 : fldT Tryd.prog 7 1 = some (1, 1, false) := by kernel_rfl
theorem fd7x2 : fldT Tryd.prog 7 2 = some (2, 1, false) := by kernel_rfl
theorem fd7x3 : fldT Tryd.prog 7 3 = some (3, 1, false) := by kernel_rfl
theorem pl7 : placesT Tryd.prog 7 = some [0, 1, 2, 3] := by kernel_rfl
theorem sz8 : szT Tryd.prog 8 = some (4, true) := by kernel_rfl
theorem zt8 : zeroT Tryd.prog 8 = some [.int .i64 0, .int .i64 0, .bool false, .int .u8 0] := by kernel_rfl
theorem fd8x0 : fldT Tryd.prog 8 0 = some (0, 1, false) := by kernel_rfl
theorem fd8x1 : fldT Tryd.prog 8 1 = some (1, 1, false) := by kernel_rfl
theorem fd8x2 : fldT Tryd.prog 8 2 = some (2, 1, false) := by kernel_rfl
theorem fd8x3 : fldT Tryd.prog 8 3 = some (3, 1, false) := by kernel_rfl
theorem pl8 : placesT Tryd.prog 8 = some [0, 1, 2, 3] := by kernel_rfl
theorem st9 : strT Tryd.prog 9 = true := by kernel_rfl
theorem sz9 : szT Tryd.prog 9 = some (1, false) := by kernel_rfl
theorem zt9 : zeroT Tryd.prog 9 = some [.str []] := by kernel_rfl
theorem st10 : strT Tryd.prog 10 = true := by kernel_rfl
theorem sz10 : szT Tryd.prog 10 = some (1, false) := by kernel_rfl
theorem zt10 : zeroT Tryd.prog 10 = some [.str []] := by kernel_rfl
theorem st11 : strT Tryd.prog 11 = true := by kernel_rfl
theorem sz11 : szT Tryd.prog 11 = some (1, false) := by kernel_rfl
theorem zt11 : zeroT Tryd.prog 11 = some [.str []] := by kernel_rfl
theorem it12 : intT Tryd.prog 12 = some .u64 := by kernel_rfl
theorem st12 : strT Tryd.prog 12 = false := by kernel_rfl
theorem sz12 : szT Tryd.prog 12 = some (1, false) := by kernel_rfl
theorem zt12 : zeroT Tryd.prog 12 = some [.int .u64 0] := by kernel_rfl
theorem sz13 : szT Tryd.prog 13 = some (2, true) := by kernel_rfl
theorem zt13 : zeroT Tryd.prog 13 = some [.str [], .int .u64 0] := by kernel_rfl
theorem fd13x0 : fldT Tryd.prog 13 0 = some (0, 1, false) := by kernel_rfl
theorem fd13x1 : fldT Tryd.prog 13 1 = some (1, 1, false) := by kernel_rfl
theorem pl13 : placesT Tryd.prog 13 = some [0, 1] := by kernel_rfl
theorem sz14 : szT Tryd.prog 14 = some (2, true) := by kernel_rfl
theorem zt14 : zeroT Tryd.prog 14 = some [.str [], .int .u64 0] := by kernel_rfl
theorem fd14x0 : fldT Tryd.prog 14 0 = some (0, 1, false) := by kernel_rfl
theorem fd14x1 : fldT Tryd.prog 14 1 = some (1, 1, false) := by kernel_rfl
theorem pl14 : placesT Tryd.prog 14 = some [0, 1] := by kernel_rfl
theorem sz15 : szT Tryd.prog 15 = some (1, false) := by kernel_rfl
theorem sz16 : szT Tryd.prog 16 = some (1, false) := by kernel_rfl
theorem sz17 : szT Tryd.prog 17 = some (1, false) := by kernel_rfl
theorem sz18 : szT Tryd.prog 18 = some (1, true) := by kernel_rfl
theorem fd18x0 : fldT Tryd.prog 18 0 = some (0, 1, false) := by kernel_rfl
theorem pl18 : placesT Tryd.prog 18 = some [0] := by kernel_rfl
theorem sz19 : szT Tryd.prog 19 = some (1, true) := by kernel_rfl
theorem fd19x0 : fldT Tryd.prog 19 0 = some (0, 1, false) := by kernel_rfl
theorem pl19 : placesT Tryd.prog 19 = some [0] := by kernel_rfl
theorem it21 : intT Tryd.prog 21 = some .i32 := by kernel_rfl
theorem st21 : strT Tryd.prog 21 = false := by kernel_rfl
theorem sz21 : szT Tryd.prog 21 = some (1, false) := by kernel_rfl
theorem zt21 : zeroT Tryd.prog 21 = some [.int .i32 0] := by kernel_rfl
theorem sl22 : slT Tryd.prog 22 = some (8, .int .i64 0) := by kernel_rfl
theorem us22 : u8T Tryd.prog 22 = false := by kernel_rfl
theorem st22 : strT Tryd.prog 22 = false := by kernel_rfl
theorem sz22 : szT Tryd.prog 22 = some (1, false) := by kernel_rfl
theorem zt22 : zeroT Tryd.prog 22 = some [.sl (.lent false) []] := by kernel_rfl
theorem sz23 : szT Tryd.prog 23 = some (1, false) := by kernel_rfl
theorem sz24 : szT Tryd.prog 24 = some (1, false) := by kernel_rfl
theorem sz25 : szT Tryd.prog 25 = some (1, false) := by kernel_rfl
theorem sz26 : szT Tryd.prog 26 = some (1, false) := by kernel_rfl
theorem sz27 : szT Tryd.prog 27 = some (1, false) := by kernel_rfl
theorem sz28 : szT Tryd.prog 28 = some (1, false) := by kernel_rfl
theorem sz29 : szT Tryd.prog 29 = some (1, false) := by kernel_rfl
theorem sl30 : slT Tryd.prog 30 = some (24, .sl (.lent false) []) := by kernel_rfl
theorem us30 : u8T Tryd.prog 30 = false := by kernel_rfl
theorem st30 : strT Tryd.prog 30 = false := by kernel_rfl
theorem sz30 : szT Tryd.prog 30 = some (1, false) := by kernel_rfl
theorem zt30 : zeroT Tryd.prog 30 = some [.sl (.lent false) []] := by kernel_rfl
theorem sz31 : szT Tryd.prog 31 = some (1, false) := by kernel_rfl
theorem sz32 : szT Tryd.prog 32 = some (1, false) := by kernel_rfl
theorem sz33 : szT Tryd.prog 33 = some (1, false) := by kernel_rfl
theorem sz34 : szT Tryd.prog 34 = some (1, false) := by kernel_rfl
theorem sz35 : szT Tryd.prog 35 = some (1, false) := by kernel_rfl
theorem sz36 : szT Tryd.prog 36 = some (1, false) := by kernel_rfl
theorem sl37 : slT Tryd.prog 37 = some (1, .int .u8 0) := by kernel_rfl
theorem us37 : u8T Tryd.prog 37 = true := by kernel_rfl
theorem st37 : strT Tryd.prog 37 = false := by kernel_rfl
theorem sz37 : szT Tryd.prog 37 = some (1, false) := by kernel_rfl
theorem zt37 : zeroT Tryd.prog 37 = some [.sl (.lent false) []] := by kernel_rfl
theorem sz38 : szT Tryd.prog 38 = some (1, false) := by kernel_rfl
theorem sz39 : szT Tryd.prog 39 = some (1, false) := by kernel_rfl
theorem sz40 : szT Tryd.prog 40 = some (1, false) := by kernel_rfl
theorem sz42 : szT Tryd.prog 42 = some (1, false) := by kernel_rfl
theorem sz44 : szT Tryd.prog 44 = some (1, false) := by kernel_rfl
theorem sz46 : szT Tryd.prog 46 = some (1, false) := by kernel_rfl
theorem it47 : intT Tryd.prog 47 = some .u64 := by kernel_rfl
theorem st47 : strT Tryd.prog 47 = false := by kernel_rfl
theorem sz47 : szT Tryd.prog 47 = some (1, false) := by kernel_rfl
theorem zt47 : zeroT Tryd.prog 47 = some [.int .u64 0] := by kernel_rfl
theorem sz49 : szT Tryd.prog 49 = some (1, false) := by kernel_rfl
theorem sz50 : szT Tryd.prog 50 = some (1, false) := by kernel_rfl
theorem sz51 : szT Tryd.prog 51 = some (3, true) := by kernel_rfl
theorem zt51 : zeroT Tryd.prog 51 = some [.sl (.lent false) [], .sl (.lent false) [], .sl (.lent false) []] := by kernel_rfl
theorem fd51x0 : fldT Tryd.prog 51 0 = some (0, 1, false) := by kernel_rfl
theorem fd51x1 : fldT Tryd.prog 51 1 = some (1, 1, false) := by kernel_rfl
theorem fd51x2 : fldT Tryd.prog 51 2 = some (2, 1, false) := by kernel_rfl
theorem pl51 : placesT Tryd.prog 51 = some [0, 1, 2] := by kernel_rfl
theorem sz52 : szT Tryd.prog 52 = some (3, true) := by kernel_rfl
theorem zt52 : zeroT Tryd.prog 52 = some [.sl (.lent false) [], .sl (.lent false) [], .sl (.lent false) []] := by kernel_rfl
theorem fd52x0 : fldT Tryd.prog 52 0 = some (0, 1, false) := by kernel_rfl
theorem fd52x1 : fldT Tryd.prog 52 1 = some (1, 1, false) := by kernel_rfl
theorem fd52x2 : fldT Tryd.prog 52 2 = some (2, 1, false) := by kernel_rfl
theorem pl52 : placesT Tryd.prog 52 = some [0, 1, 2] := by kernel_rfl
theorem sz53 : szT Tryd.prog 53 = some (1, false) := by kernel_rfl
theorem sz54 : szT Tryd.prog 54 = some (1, false) := by kernel_rfl
theorem sz55 : szT Tryd.prog 55 = some (1, false) := by kernel_rfl
theorem sz56 : szT Tryd.prog 56 = some (1, false) := by kernel_rfl
theorem sz57 : szT Tryd.prog 57 = some (1, false) := by kernel_rfl
theorem sz59 : szT Tryd.prog 59 = some (1, false) := by kernel_rfl
theorem sl60 : slT Tryd.prog 60 = some (16, .str []) := by kernel_rfl
theorem us60 : u8T Tryd.prog 60 = false := by kernel_rfl
theorem st60 : strT Tryd.prog 60 = false := by kernel_rfl
theorem sz60 : szT Tryd.prog 60 = some (1, false) := by kernel_rfl
theorem zt60 : zeroT Tryd.prog 60 = some [.sl (.lent false) []] := by kernel_rfl
theorem sz61 : szT Tryd.prog 61 = some (1, false) := by kernel_rfl
theorem sz62 : szT Tryd.prog 62 = some (1, false) := by kernel_rfl
theorem sz63 : szT Tryd.prog 63 = some (1, false) := by kernel_rfl
theorem sz64 : szT Tryd.prog 64 = some (1, false) := by kernel_rfl
theorem sz65 : szT Tryd.prog 65 = some (1, false) := by kernel_rfl
theorem sz66 : szT Tryd.prog 66 = some (1, false) := by kernel_rfl
theorem sz67 : szT Tryd.prog 67 = some (1, false) := by kernel_rfl
theorem sz69 : szT Tryd.prog 69 = some (1, false) := by kernel_rfl
theorem sz70 : szT Tryd.prog 70 = some (1, false) := by kernel_rfl
theorem sz71 : szT Tryd.prog 71 = some (1, false) := by kernel_rfl
theorem sz72 : szT Tryd.prog 72 = some (1, false) := by kernel_rfl
theorem sz73 : szT Tryd.prog 73 = some (1, false) := by kernel_rfl
theorem sz74 : szT Tryd.prog 74 = some (1, false) := by kernel_rfl
theorem mt75 : mapT Tryd.prog 75 = some (5, (.sl .own [])) := by kernel_rfl
theorem ky75 : Maps.Keyed Tryd.prog 5 := Maps.int_keyed (show Tryd.prog.underlying 5 = some (.int .u8) by kernel_rfl)
theorem sz76 : szT Tryd.prog 76 = some (1, false) := by kernel_rfl
theorem sz77 : szT Tryd.prog 77 = some (1, false) := by kernel_rfl
theorem sz78 : szT Tryd.prog 78 = some (1, false) := by kernel_rfl
theorem sz79 : szT Tryd.prog 79 = some (1, false) := by kernel_rfl
theorem sz80 : szT Tryd.prog 80 = some (1, false) := by kernel_rfl
theorem sz81 : szT Tryd.prog 81 = some (1, false) := by kernel_rfl
theorem sl82 : slT Tryd.prog 82 = some (1, .bool false) := by kernel_rfl
theorem us82 : u8T Tryd.prog 82 = false := by kernel_rfl
theorem st82 : strT Tryd.prog 82 = false := by kernel_rfl
theorem sz82 : szT Tryd.prog 82 = some (1, false) := by kernel_rfl
theorem zt82 : zeroT Tryd.prog 82 = some [.sl (.lent false) []] := by kernel_rfl
theorem sz83 : szT Tryd.prog 83 = some (1, false) := by kernel_rfl
theorem sz84 : szT Tryd.prog 84 = some (1, false) := by kernel_rfl
theorem sz85 : szT Tryd.prog 85 = some (2, true) := by kernel_rfl
theorem fd85x0 : fldT Tryd.prog 85 0 = some (0, 1, false) := by kernel_rfl
theorem fd85x1 : fldT Tryd.prog 85 1 = some (1, 1, false) := by kernel_rfl
theorem pl85 : placesT Tryd.prog 85 = some [0, 1] := by kernel_rfl
theorem sz86 : szT Tryd.prog 86 = some (2, true) := by kernel_rfl
theorem fd86x0 : fldT Tryd.prog 86 0 = some (0, 1, false) := by kernel_rfl
theorem fd86x1 : fldT Tryd.prog 86 1 = some (1, 1, false) := by kernel_rfl
theorem pl86 : placesT Tryd.prog 86 = some [0, 1] := by kernel_rfl
theorem sz87 : szT Tryd.prog 87 = some (1, false) := by kernel_rfl
theorem sz91 : szT Tryd.prog 91 = some (1, false) := by kernel_rfl
theorem sz92 : szT Tryd.prog 92 = some (1, false) := by kernel_rfl
theorem sz93 : szT Tryd.prog 93 = some (1, false) := by kernel_rfl
theorem sz95 : szT Tryd.prog 95 = some (1, false) := by kernel_rfl
theorem sz96 : szT Tryd.prog 96 = some (1, false) := by kernel_rfl
theorem sz97 : szT Tryd.prog 97 = some (1, false) := by kernel_rfl
theorem sz98 : szT Tryd.prog 98 = some (1, false) := by kernel_rfl
theorem sz99 : szT Tryd.prog 99 = some (1, false) := by kernel_rfl
theorem sz100 : szT Tryd.prog 100 = some (3, true) := by kernel_rfl
theorem zt100 : zeroT Tryd.prog 100 = some [.sl (.lent false) [], .int .i64 0, .int .i64 0] := by kernel_rfl
theorem fd100x0 : fldT Tryd.prog 100 0 = some (0, 1, false) := by kernel_rfl
theorem fd100x1 : fldT Tryd.prog 100 1 = some (1, 1, false) := by kernel_rfl
theorem fd100x2 : fldT Tryd.prog 100 2 = some (2, 1, false) := by kernel_rfl
theorem pl100 : placesT Tryd.prog 100 = some [0, 1, 2] := by kernel_rfl
theorem sz101 : szT Tryd.prog 101 = some (3, true) := by kernel_rfl
theorem zt101 : zeroT Tryd.prog 101 = some [.sl (.lent false) [], .int .i64 0, .int .i64 0] := by kernel_rfl
theorem fd101x0 : fldT Tryd.prog 101 0 = some (0, 1, false) := by kernel_rfl
theorem fd101x1 : fldT Tryd.prog 101 1 = some (1, 1, false) := by kernel_rfl
theorem fd101x2 : fldT Tryd.prog 101 2 = some (2, 1, false) := by kernel_rfl
theorem pl101 : placesT Tryd.prog 101 = some [0, 1, 2] := by kernel_rfl
theorem sz102 : szT Tryd.prog 102 = some (1, false) := by kernel_rfl
theorem sz103 : szT Tryd.prog 103 = some (1, false) := by kernel_rfl
theorem sz104 : szT Tryd.prog 104 = some (1, false) := by kernel_rfl
theorem sz105 : szT Tryd.prog 105 = some (1, false) := by kernel_rfl
theorem sz106 : szT Tryd.prog 106 = some (1, false) := by kernel_rfl
theorem sz107 : szT Tryd.prog 107 = some (1, false) := by kernel_rfl
theorem sz108 : szT Tryd.prog 108 = some (1, false) := by kernel_rfl
theorem sz109 : szT Tryd.prog 109 = some (1, false) := by kernel_rfl
theorem sz110 : szT Tryd.prog 110 = some (1, false) := by kernel_rfl
theorem sz111 : szT Tryd.prog 111 = some (1, false) := by kernel_rfl
theorem sz112 : szT Tryd.prog 112 = some (1, false) := by kernel_rfl
theorem sz113 : szT Tryd.prog 113 = some (1, false) := by kernel_rfl
theorem sz114 : szT Tryd.prog 114 = some (1, false) := by kernel_rfl
theorem sz115 : szT Tryd.prog 115 = some (1, false) := by kernel_rfl
theorem sz116 : szT Tryd.prog 116 = some (1, false) := by kernel_rfl
theorem sz117 : szT Tryd.prog 117 = some (1, false) := by kernel_rfl
theorem sz118 : szT Tryd.prog 118 = some (1, false) := by kernel_rfl
theorem sz120 : szT Tryd.prog 120 = some (1, false) := by kernel_rfl
theorem sz121 : szT Tryd.prog 121 = some (1, false) := by kernel_rfl
theorem sz122 : szT Tryd.prog 122 = some (1, false) := by kernel_rfl
theorem sz123 : szT Tryd.prog 123 = some (1, false) := by kernel_rfl
theorem sz124 : szT Tryd.prog 124 = some (1, false) := by kernel_rfl
theorem sz125 : szT Tryd.prog 125 = some (1, false) := by kernel_rfl
theorem sz126 : szT Tryd.prog 126 = some (1, false) := by kernel_rfl
theorem sz127 : szT Tryd.prog 127 = some (24, true) := by kernel_rfl
theorem pl127 : placesT Tryd.prog 127 = some [0, 1, 2, 3, 4, 5, 6, 7, 8, 9, 10, 11, 12, 13, 14, 15, 16, 17, 18, 19, 20, 21, 22, 23] := by kernel_rfl
theorem zt127 : zeroT Tryd.prog 127 = some [.int .u8 0, .int .u8 0, .int .u8 0, .int .u8 0, .int .u8 0, .int .u8 0, .int .u8 0, .int .u8 0, .int .u8 0, .int .u8 0, .int .u8 0, .int .u8 0, .int .u8 0, .int .u8 0, .int .u8 0, .int .u8 0, .int .u8 0, .int .u8 0, .int .u8 0, .int .u8 0, .int .u8 0, .int .u8 0, .int .u8 0, .int .u8 0] := by kernel_rfl
theorem it128 : intT Tryd.prog 128 = some .u64 := by kernel_rfl
theorem st128 : strT Tryd.prog 128 = false := by kernel_rfl
theorem sz128 : szT Tryd.prog 128 = some (1, false) := by kernel_rfl
theorem zt128 : zeroT Tryd.prog 128 = some [.int .u64 0] := by kernel_rfl
theorem sz129 : szT Tryd.prog 129 = some (1, false) := by kernel_rfl
theorem sz130 : szT Tryd.prog 130 = some (1, false) := by kernel_rfl
theorem sz132 : szT Tryd.prog 132 = some (1, false) := by kernel_rfl
theorem sz133 : szT Tryd.prog 133 = some (1, false) := by kernel_rfl
theorem sz135 : szT Tryd.prog 135 = some (1, false) := by kernel_rfl
theorem sz136 : szT Tryd.prog 136 = some (1, false) := by kernel_rfl
theorem sz137 : szT Tryd.prog 137 = some (1, false) := by kernel_rfl
theorem sz138 : szT Tryd.prog 138 = some (20, true) := by kernel_rfl
theorem pl138 : placesT Tryd.prog 138 = some [0, 1, 2, 3, 4, 5, 6, 7, 8, 9, 10, 11, 12, 13, 14, 15, 16, 17, 18, 19] := by kernel_rfl
theorem zt138 : zeroT Tryd.prog 138 = some [.int .u64 0, .int .u64 0, .int .u64 0, .int .u64 0, .int .u64 0, .int .u64 0, .int .u64 0, .int .u64 0, .int .u64 0, .int .u64 0, .int .u64 0, .int .u64 0, .int .u64 0, .int .u64 0, .int .u64 0, .int .u64 0, .int .u64 0, .int .u64 0, .int .u64 0, .int .u64 0] := by kernel_rfl
theorem it139 : intT Tryd.prog 139 = some .u32 := by kernel_rfl
theorem st139 : strT Tryd.prog 139 = false := by kernel_rfl
theorem sz139 : szT Tryd.prog 139 = some (1, false) := by kernel_rfl
theorem zt139 : zeroT Tryd.prog 139 = some [.int .u32 0] := by kernel_rfl
theorem sz141 : szT Tryd.prog 141 = some (1, false) := by kernel_rfl
theorem sz142 : szT Tryd.prog 142 = some (1, false) := by kernel_rfl
theorem sz143 : szT Tryd.prog 143 = some (1, false) := by kernel_rfl
theorem sz145 : szT Tryd.prog 145 = some (2, true) := by kernel_rfl
theorem zt145 : zeroT Tryd.prog 145 = some [.int .u8 0, .int .u8 0] := by kernel_rfl
theorem fd145x0 : fldT Tryd.prog 145 0 = some (0, 1, false) := by kernel_rfl
theorem fd145x1 : fldT Tryd.prog 145 1 = some (1, 1, false) := by kernel_rfl
theorem pl145 : placesT Tryd.prog 145 = some [0, 1] := by kernel_rfl
theorem sz146 : szT Tryd.prog 146 = some (2, true) := by kernel_rfl
theorem zt146 : zeroT Tryd.prog 146 = some [.int .u8 0, .int .u8 0] := by kernel_rfl
theorem fd146x0 : fldT Tryd.prog 146 0 = some (0, 1, false) := by kernel_rfl
theorem fd146x1 : fldT Tryd.prog 146 1 = some (1, 1, false) := by kernel_rfl
theorem pl146 : placesT Tryd.prog 146 = some [0, 1] := by kernel_rfl
theorem sz147 : szT Tryd.prog 147 = some (32, true) := by kernel_rfl
theorem sz149 : szT Tryd.prog 149 = some (1, false) := by kernel_rfl
theorem sz150 : szT Tryd.prog 150 = some (32, true) := by kernel_rfl
theorem pl150 : placesT Tryd.prog 150 = some [0, 1, 2, 3, 4, 5, 6, 7, 8, 9, 10, 11, 12, 13, 14, 15, 16, 17, 18, 19, 20, 21, 22, 23, 24, 25, 26, 27, 28, 29, 30, 31] := by kernel_rfl
theorem zt150 : zeroT Tryd.prog 150 = some [.int .u8 0, .int .u8 0, .int .u8 0, .int .u8 0, .int .u8 0, .int .u8 0, .int .u8 0, .int .u8 0, .int .u8 0, .int .u8 0, .int .u8 0, .int .u8 0, .int .u8 0, .int .u8 0, .int .u8 0, .int .u8 0, .int .u8 0, .int .u8 0, .int .u8 0, .int .u8 0, .int .u8 0, .int .u8 0, .int .u8 0, .int .u8 0, .int .u8 0, .int .u8 0, .int .u8 0, .int .u8 0, .int .u8 0, .int .u8 0, .int .u8 0, .int .u8 0] := by kernel_rfl
theorem sz151 : szT Tryd.prog 151 = some (64, true) := by kernel_rfl
theorem pl151 : placesT Tryd.prog 151 = some [0, 1, 2, 3, 4, 5, 6, 7, 8, 9, 10, 11, 12, 13, 14, 15, 16, 17, 18, 19, 20, 21, 22, 23, 24, 25, 26, 27, 28, 29, 30, 31, 32, 33, 34, 35, 36, 37, 38, 39, 40, 41, 42, 43, 44, 45, 46, 47, 48, 49, 50, 51, 52, 53, 54, 55, 56, 57, 58, 59, 60, 61, 62, 63] := by kernel_rfl
theorem zt151 : zeroT Tryd.prog 151 = some [.int .u8 0, .int .u8 0, .int .u8 0, .int .u8 0, .int .u8 0, .int .u8 0, .int .u8 0, .int .u8 0, .int .u8 0, .int .u8 0, .int .u8 0, .int .u8 0, .int .u8 0, .int .u8 0, .int .u8 0, .int .u8 0, .int .u8 0, .int .u8 0, .int .u8 0, .int .u8 0, .int .u8 0, .int .u8 0, .int .u8 0, .int .u8 0, .int .u8 0, .int .u8 0, .int .u8 0, .int .u8 0, .int .u8 0, .int .u8 0, .int .u8 0, .int .u8 0, .int .u8 0, .int .u8 0, .int .u8 0, .int .u8 0, .int .u8 0, .int .u8 0, .int .u8 0, .int .u8 0, .int .u8 0, .int .u8 0, .int .u8 0, .int .u8 0, .int .u8 0, .int .u8 0, .int .u8 0, .int .u8 0, .int .u8 0, .int .u8 0, .int .u8 0, .int .u8 0, .int .u8 0, .int .u8 0, .int .u8 0, .int .u8 0, .int .u8 0, .int .u8 0, .int .u8 0, .int .u8 0, .int .u8 0, .int .u8 0, .int .u8 0, .int .u8 0] := by kernel_rfl
theorem sz152 : szT Tryd.prog 152 = some (4, true) := by kernel_rfl
theorem fd152x0 : fldT Tryd.prog 152 0 = some (0, 1, false) := by kernel_rfl
theorem fd152x1 : fldT Tryd.prog 152 1 = some (1, 1, false) := by kernel_rfl
theorem fd152x2 : fldT Tryd.prog 152 2 = some (2, 1, false) := by kernel_rfl
theorem fd152x3 : fldT Tryd.prog 152 3 = some (3, 1, false) := by kernel_rfl
theorem pl152 : placesT Tryd.prog 152 = some [0, 1, 2, 3] := by kernel_rfl
theorem sz153 : szT Tryd.prog 153 = some (4, true) := by kernel_rfl
theorem fd153x0 : fldT Tryd.prog 153 0 = some (0, 1, false) := by kernel_rfl
theorem fd153x1 : fldT Tryd.prog 153 1 = some (1, 1, false) := by kernel_rfl
theorem fd153x2 : fldT Tryd.prog 153 2 = some (2, 1, false) := by kernel_rfl
theorem fd153x3 : fldT Tryd.prog 153 3 = some (3, 1, false) := by kernel_rfl
theorem pl153 : placesT Tryd.prog 153 = some [0, 1, 2, 3] := by kernel_rfl
theorem sz154 : szT Tryd.prog 154 = some (0, true) := by kernel_rfl
theorem sz155 : szT Tryd.prog 155 = some (0, true) := by kernel_rfl
theorem fd155x0 : fldT Tryd.prog 155 0 = some (0, 0, true) := by kernel_rfl
theorem sz156 : szT Tryd.prog 156 = some (0, true) := by kernel_rfl
theorem fd156x0 : fldT Tryd.prog 156 0 = some (0, 0, true) := by kernel_rfl
theorem sz157 : szT Tryd.prog 157 = some (1, false) := by kernel_rfl
theorem it158 : intT Tryd.prog 158 = some .u8 := by kernel_rfl
theorem st158 : strT Tryd.prog 158 = false := by kernel_rfl
theorem sz158 : szT Tryd.prog 158 = some (1, false) := by kernel_rfl
theorem zt158 : zeroT Tryd.prog 158 = some [.int .u8 0] := by kernel_rfl
theorem it159 : intT Tryd.prog 159 = some .u8 := by kernel_rfl
theorem st159 : strT Tryd.prog 159 = false := by kernel_rfl
theorem sz159 : szT Tryd.prog 159 = some (1, false) := by kernel_rfl
theorem zt159 : zeroT Tryd.prog 159 = some [.int .u8 0] := by kernel_rfl
theorem sz160 : szT Tryd.prog 160 = some (1, false) := by kernel_rfl
theorem it161 : intT Tryd.prog 161 = some .i32 := by kernel_rfl
theorem st161 : strT Tryd.prog 161 = false := by kernel_rfl
theorem sz161 : szT Tryd.prog 161 = some (1, false) := by kernel_rfl
theorem zt161 : zeroT Tryd.prog 161 = some [.int .i32 0] := by kernel_rfl
theorem it162 : intT Tryd.prog 162 = some .i32 := by kernel_rfl
theorem st162 : strT Tryd.prog 162 = false := by kernel_rfl
theorem sz162 : szT Tryd.prog 162 = some (1, false) := by kernel_rfl
theorem zt162 : zeroT Tryd.prog 162 = some [.int .i32 0] := by kernel_rfl
theorem sz163 : szT Tryd.prog 163 = some (11, true) := by kernel_rfl
theorem fd163x0 : fldT Tryd.prog 163 0 = some (0, 1, false) := by kernel_rfl
theorem fd163x1 : fldT Tryd.prog 163 1 = some (1, 1, false) := by kernel_rfl
theorem fd163x2 : fldT Tryd.prog 163 2 = some (2, 1, false) := by kernel_rfl
theorem fd163x3 : fldT Tryd.prog 163 3 = some (3, 1, false) := by kernel_rfl
theorem fd163x4 : fldT Tryd.prog 163 4 = some (4, 1, false) := by kernel_rfl
theorem fd163x5 : fldT Tryd.prog 163 5 = some (5, 1, false) := by kernel_rfl
theorem fd163x6 : fldT Tryd.prog 163 6 = some (6, 1, false) := by kernel_rfl
theorem fd163x7 : fldT Tryd.prog 163 7 = some (7, 1, false) := by kernel_rfl
theorem fd163x8 : fldT Tryd.prog 163 8 = some (8, 1, false) := by kernel_rfl
theorem fd163x9 : fldT Tryd.prog 163 9 = some (9, 1, false) := by kernel_rfl
theorem fd163x10 : fldT Tryd.prog 163 10 = some (10, 1, false) := by kernel_rfl
theorem pl163 : placesT Tryd.prog 163 = some [0, 1, 2, 3, 4, 5, 6, 7, 8, 9, 10] := by kernel_rfl
theorem sz164 : szT Tryd.prog 164 = some (11, true) := by kernel_rfl
theorem fd164x0 : fldT Tryd.prog 164 0 = some (0, 1, false) := by kernel_rfl
theorem fd164x1 : fldT Tryd.prog 164 1 = some (1, 1, false) := by kernel_rfl
theorem fd164x2 : fldT Tryd.prog 164 2 = some (2, 1, false) := by kernel_rfl
theorem fd164x3 : fldT Tryd.prog 164 3 = some (3, 1, false) := by kernel_rfl
theorem fd164x4 : fldT Tryd.prog 164 4 = some (4, 1, false) := by kernel_rfl
theorem fd164x5 : fldT Tryd.prog 164 5 = some (5, 1, false) := by kernel_rfl
theorem fd164x6 : fldT Tryd.prog 164 6 = some (6, 1, false) := by kernel_rfl
theorem fd164x7 : fldT Tryd.prog 164 7 = some (7, 1, false) := by kernel_rfl
theorem fd164x8 : fldT Tryd.prog 164 8 = some (8, 1, false) := by kernel_rfl
theorem fd164x9 : fldT Tryd.prog 164 9 = some (9, 1, false) := by kernel_rfl
theorem fd164x10 : fldT Tryd.prog 164 10 = some (10, 1, false) := by kernel_rfl
theorem pl164 : placesT Tryd.prog 164 = some [0, 1, 2, 3, 4, 5, 6, 7, 8, 9, 10] := by kernel_rfl
attribute [go_sem] sg0_eq wayE_sg0 wayN_sg0 wayS_sg0 wayZ_sg0 sz1 it2 st2 sz2 zt2 it3 st3 sz3 zt3 bo4 sz4 zt4
attribute [go_sem] it5 st5 sz5 zt5 it6 st6 sz6 zt6 sz7 zt7 fd7x0 fd7x1
attribute [go_sem] fd7x2 fd7x3 pl7 sz8 zt8 fd8x0 fd8x1 fd8x2 fd8x3 pl8 st9 sz9
attribute [go_sem] zt9 st10 sz10 zt10 st11 sz11 zt11 it12 st12 sz12 zt12 sz13
attribute [go_sem] zt13 fd13x0 fd13x1 pl13 sz14 zt14 fd14x0 fd14x1 pl14 sz15 sz16 sz17
attribute [go_sem] sz18 fd18x0 pl18 sz19 fd19x0 pl19 it21 st21 sz21 zt21 sl22 us22
attribute [go_sem] st22 sz22 zt22 sz23 sz24 sz25 sz26 sz27 sz28 sz29 sl30 us30
attribute [go_sem] st30 sz30 zt30 sz31 sz32 sz33 sz34 sz35 sz36 sl37 us37 st37
attribute [go_sem] sz37 zt37 sz38 sz39 sz40 sz42 sz44 sz46 it47 st47 sz47 zt47
attribute [go_sem] sz49 sz50 sz51 zt51 fd51x0 fd51x1 fd51x2 pl51 sz52 zt52 fd52x0 fd52x1
attribute [go_sem] fd52x2 pl52 sz53 sz54 sz55 sz56 sz57 sz59 sl60 us60 st60 sz60
attribute [go_sem] zt60 sz61 sz62 sz63 sz64 sz65 sz66 sz67 sz69 sz70 sz71 sz72
attribute [go_sem] sz73 sz74 mt75 ky75 sz76 sz77 sz78 sz79 sz80 sz81 sl82 us82
attribute [go_sem] st82 sz82 zt82 sz83 sz84 sz85 fd85x0 fd85x1 pl85 sz86 fd86x0 fd86x1
attribute [go_sem] pl86 sz87 sz91 sz92 sz93 sz95 sz96 sz97 sz98 sz99 sz100 zt100
attribute [go_sem] fd100x0 fd100x1 fd100x2 pl100 sz101 zt101 fd101x0 fd101x1 fd101x2 pl101 sz102 sz103
attribute [go_sem] sz104 sz105 sz106 sz107 sz108 sz109 sz110 sz111 sz112 sz113 sz114 sz115
attribute [go_sem] sz116 sz117 sz118 sz120 sz121 sz122 sz123 sz124 sz125 sz126 sz127 pl127
attribute [go_sem] zt127 it128 st128 sz128 zt128 sz129 sz130 sz132 sz133 sz135 sz136 sz137
attribute [go_sem] sz138 pl138 zt138 it139 st139 sz139 zt139 sz141 sz142 sz143 sz145 zt145
attribute [go_sem] fd145x0 fd145x1 pl145 sz146 zt146 fd146x0 fd146x1 pl146 sz147 sz149 sz150 pl150
attribute [go_sem] zt150 sz151 pl151 zt151 sz152 fd152x0 fd152x1 fd152x2 fd152x3 pl152 sz153 fd153x0
attribute [go_sem] fd153x1 fd153x2 fd153x3 pl153 sz154 sz155 fd155x0 sz156 fd156x0 sz157 it158 st158
attribute [go_sem] sz158 zt158 it159 st159 sz159 zt159 sz160 it161 st161 sz161 zt161 it162
attribute [go_sem] st162 sz162 zt162 sz163 fd163x0 fd163x1 fd163x2 fd163x3 fd163x4 fd163x5 fd163x6 fd163x7
attribute [go_sem] fd163x8 fd163x9 fd163x10 pl163 sz164 fd164x0 fd164x1 fd164x2 fd164x3 fd164x4 fd164x5 fd164x6
attribute [go_sem] fd164x7 fd164x8 fd164x9 fd164x10 pl164
end Go.Gl
