/-
  The common ground of the contracts of this program's functions. Conditions: none.
-/
import Derived.Test.YtfjfobbniglaeaaDoorGlE
import Derived.Test.YtfjfobbniglaeaaDoorChecked
namespace Go.Gl
open Go Go.Proofs
def sg0 : FuncId → List Bool := fun _ => []
theorem sg0_eq {f : FuncId} : sg0 f = [] := rfl
theorem wayE_sg0 : wayE sg0 = false := _root_.id rfl
theorem wayN_sg0 : wayN sg0 = false := _root_.id rfl
theorem wayS_sg0 : wayS sg0 = false := _root_.id rfl
theorem wayZ_sg0 : wayZ sg0 = false := _root_.id rfl
theorem wayM_sg0 : wayM sg0 = false := _root_.id rfl
theorem mo : Tryd.prog.follows .mixedOrders = true := Tryd.checked.mixed
theorem sz1 : szT Tryd.prog 1 = some (1, false) := by kernel_rfl
theorem it2 : intT Tryd.prog 2 = some .i64 := by kernel_rfl
theorem st2 : strT Tryd.prog 2 = false := by kernel_rfl
theorem sz2 : szT Tryd.prog 2 = some (1, false) := by kernel_rfl
theorem zt2 : zeroT Tryd.prog 2 = some [.int .i64 0] := by kernel_rfl
theorem it3 : intT Tryd.prog 3 = some .i64 := by kernel_rfl
theorem st3 : strT Tryd.prog 3 = false := by kernel_rfl
theorem sz3 : szT Tryd.prog 3 = some (1, false) := by kernel_rfl
theorem zt3 : zeroT Tryd.prog 3 = some [.int .i64 0] := by kernel_rfl
theorem bo4 : boolT Tryd.prog 4 = true := by kernel_rfl
theorem sz4 : szT Tryd.prog 4 = some (1, false) := by kernel_rfl
theorem zt4 : zeroT Tryd.prog 4 = some [.bool false] := by kernel_rfl
theorem it5 : intT Tryd.prog 5 = some .u8 := by kernel_rfl
theorem st5 : strT Tryd.prog 5 = false := by kernel_rfl
theorem sz5 : szT Tryd.prog 5 = some (1, false) := by kernel_rfl
theorem zt5 : zeroT Tryd.prog 5 = some [.int .u8 0] := by kernel_rfl
theorem it6 : intT Tryd.prog 6 = some .u8 := by kernel_rfl
theorem st6 : strT Tryd.prog 6 = false := by kernel_rfl
theorem sz6 : szT Tryd.prog 6 = some (1, false) := by kernel_rfl
theorem zt6 : zeroT Tryd.prog 6 = some [.int .u8 0] := by kernel_rfl
theorem sz7 : szT Tryd.prog 7 = some (4, true) := by kernel_rfl
theorem zt7 : zeroT Tryd.prog 7 = some [.int .i64 0, .int .i64 0, .bool false, .int .u8 0] := by kernel_rfl
theorem fd7x0 : fldT Tryd.prog 7 0 = some (0, 1, false) := by kernel_rfl
theorem fd7x1 : fldT Tryd.prog 7 1 = some (1, 1, false) := by kernel_rfl
theorem fd7x2 : fldT Tryd.prog 7 2 = some (2, 1, false) := by kernel_rfl
theorem fd7x3 : fldT Tryd.prog 7 3 = some (3, 1, false) := by kernel_rfl
theorem pl7 : placesT Tryd.prog 7 = some [0, 1, 2, 3] := by kernel_rfl
theorem sz8 : szT Tryd.prog 8 = some (4, true) := by kernel_rfl
theorem zt8 : zeroT Tryd.prog 8 = some [.int .i64 0, .int .i64 0, .bool false, .int .u8 0] := by kernel_rfl
theorem fd8x0 : fldT Tryd.prog 8 0 = some (0, 1, false) := by kernel_rfl
theorem fd8x1 : fldT Tryd.prog 8 1 = some (1, 1, false) := by kernel_rfl
theorem fd8x2 : fldT Tryd.prog 8 2 = some (2, 1, false) := by kernel_rfl
theorem fd8x3 : fldT Tryd.prog 8 3 = some (3, 1, false) := by kernel_rfl
theorem pl8 : placesT Tryd.prog 8 = some [0, 1, 2, 3] := by kernel_rfl
theorem st9 : strT Tryd.prog 9 = true := by kernel_rfl
theorem sz9 : szT Tryd.prog 9 = some (1, false) := by kernel_rfl
theorem zt9 : zeroT Tryd.prog 9 = some [.str []] := by kernel_rfl
theorem st10 : strT Tryd.prog 10 = true := by kernel_rfl
theorem sz10 : szT Tryd.prog 10 = some (1, false) := by kernel_rfl
theorem zt10 : zeroT Tryd.prog 10 = some [.str []] := by kernel_rfl
theorem st11 : strT Tryd.prog 11 = true := by kernel_rfl
theorem sz11 : szT Tryd.prog 11 = some (1, false) := by kernel_rfl
theorem zt11 : zeroT Tryd.prog 11 = some [.str []] := by kernel_rfl
theorem it12 : intT Tryd.prog 12 = some .u64 := by kernel_rfl
theorem st12 : strT Tryd.prog 12 = false := by kernel_rfl
theorem sz12 : szT Tryd.prog 12 = some (1, false) := by kernel_rfl
theorem zt12 : zeroT Tryd.prog 12 = some [.int .u64 0] := by kernel_rfl
theorem sz13 : szT Tryd.prog 13 = some (2, true) := by kernel_rfl
theorem zt13 : zeroT Tryd.prog 13 = some [.str [], .int .u64 0] := by kernel_rfl
theorem fd13x0 : fldT Tryd.prog 13 0 = some (0, 1, false) := by kernel_rfl
theorem fd13x1 : fldT Tryd.prog 13 1 = some (1, 1, false) := by kernel_rfl
theorem pl13 : placesT Tryd.prog 13 = some [0, 1] := by kernel_rfl
theorem sz14 : szT Tryd.prog 14 = some (2, true) := by kernel_rfl
theorem zt14 : zeroT Tryd.prog 14 = some [.str [], .int .u64 0] := by kernel_rfl
theorem fd14x0 : fldT Tryd.prog 14 0 = some (0, 1, false) := by kernel_rfl
theorem fd14x1 : fldT Tryd.prog 14 1 = some (1, 1, false) := by kernel_rfl
theorem pl14 : placesT Tryd.prog 14 = some [0, 1] := by kernel_rfl
theorem sz15 : szT Tryd.prog 15 = some (1, false) := by kernel_rfl
theorem sz16 : szT Tryd.prog 16 = some (1, false) := by kernel_rfl
theorem sz17 : szT Tryd.prog 17 = some (1, false) := by kernel_rfl
theorem sz18 : szT Tryd.prog 18 = some (1, true) := by kernel_rfl
theorem fd18x0 : fldT Tryd.prog 18 0 = some (0, 1, false) := by kernel_rfl
theorem pl18 : placesT Tryd.prog 18 = some [0] := by kernel_rfl
theorem sz19 : szT Tryd.prog 19 = some (1, true) := by kernel_rfl
theorem fd19x0 : fldT Tryd.prog 19 0 = some (0, 1, false) := by kernel_rfl
theorem pl19 : placesT Tryd.prog 19 = some [0] := by kernel_rfl
theorem it21 : intT Tryd.prog 21 = some .i32 := by kernel_rfl
theorem st21 : strT Tryd.prog 21 = false := by kernel_rfl
theorem sz21 : szT Tryd.prog 21 = some (1, false) := by kernel_rfl
theorem zt21 : zeroT Tryd.prog 21 = some [.int .i32 0] := by kernel_rfl
theorem sl22 : slT Tryd.prog 22 = some (1, .int .u8 0) := by kernel_rfl
theorem us22 : u8T Tryd.prog 22 = true := by kernel_rfl
theorem st22 : strT Tryd.prog 22 = false := by kernel_rfl
theorem sz22 : szT Tryd.prog 22 = some (1, false) := by kernel_rfl
theorem zt22 : zeroT Tryd.prog 22 = some [.sl (.lent false) []] := by kernel_rfl
theorem sz23 : szT Tryd.prog 23 = some (1, false) := by kernel_rfl
theorem sl24 : slT Tryd.prog 24 = some (8, .int .i64 0) := by kernel_rfl
theorem us24 : u8T Tryd.prog 24 = false := by kernel_rfl
theorem st24 : strT Tryd.prog 24 = false := by kernel_rfl
theorem sz24 : szT Tryd.prog 24 = some (1, false) := by kernel_rfl
theorem zt24 : zeroT Tryd.prog 24 = some [.sl (.lent false) []] := by kernel_rfl
theorem sz25 : szT Tryd.prog 25 = some (1, false) := by kernel_rfl
theorem sz26 : szT Tryd.prog 26 = some (1, false) := by kernel_rfl
theorem sz27 : szT Tryd.prog 27 = some (1, false) := by kernel_rfl
theorem sz29 : szT Tryd.prog 29 = some (1, false) := by kernel_rfl
theorem sz31 : szT Tryd.prog 31 = some (1, false) := by kernel_rfl
theorem sl32 : slT Tryd.prog 32 = some (24, .sl (.lent false) []) := by kernel_rfl
theorem us32 : u8T Tryd.prog 32 = false := by kernel_rfl
theorem st32 : strT Tryd.prog 32 = false := by kernel_rfl
theorem sz32 : szT Tryd.prog 32 = some (1, false) := by kernel_rfl
theorem zt32 : zeroT Tryd.prog 32 = some [.sl (.lent false) []] := by kernel_rfl
theorem sz34 : szT Tryd.prog 34 = some (1, false) := by kernel_rfl
theorem sz35 : szT Tryd.prog 35 = some (1, false) := by kernel_rfl
theorem sz36 : szT Tryd.prog 36 = some (1, false) := by kernel_rfl
theorem sz37 : szT Tryd.prog 37 = some (1, false) := by kernel_rfl
theorem sz38 : szT Tryd.prog 38 = some (1, false) := by kernel_rfl
theorem it39 : intT Tryd.prog 39 = some .u64 := by kernel_rfl
theorem st39 : strT Tryd.prog 39 = false := by kernel_rfl
theorem sz39 : szT Tryd.prog 39 = some (1, false) := by kernel_rfl
theorem zt39 : zeroT Tryd.prog 39 = some [.int .u64 0] := by kernel_rfl
theorem sz40 : szT Tryd.prog 40 = some (1, false) := by kernel_rfl
theorem sz41 : szT Tryd.prog 41 = some (3, true) := by kernel_rfl
theorem zt41 : zeroT Tryd.prog 41 = some [.sl (.lent false) [], .sl (.lent false) [], .sl (.lent false) []] := by kernel_rfl
theorem fd41x0 : fldT Tryd.prog 41 0 = some (0, 1, false) := by kernel_rfl
theorem fd41x1 : fldT Tryd.prog 41 1 = some (1, 1, false) := by kernel_rfl
theorem fd41x2 : fldT Tryd.prog 41 2 = some (2, 1, false) := by kernel_rfl
theorem pl41 : placesT Tryd.prog 41 = some [0, 1, 2] := by kernel_rfl
theorem sz42 : szT Tryd.prog 42 = some (3, true) := by kernel_rfl
theorem zt42 : zeroT Tryd.prog 42 = some [.sl (.lent false) [], .sl (.lent false) [], .sl (.lent false) []] := by kernel_rfl
theorem fd42x0 : fldT Tryd.prog 42 0 = some (0, 1, false) := by kernel_rfl
theorem fd42x1 : fldT Tryd.prog 42 1 = some (1, 1, false) := by kernel_rfl
theorem fd42x2 : fldT Tryd.prog 42 2 = some (2, 1, false) := by kernel_rfl
theorem pl42 : placesT Tryd.prog 42 = some [0, 1, 2] := by kernel_rfl
theorem sz43 : szT Tryd.prog 43 = some (1, false) := by kernel_rfl
theorem sz44 : szT Tryd.prog 44 = some (1, false) := by kernel_rfl
theorem sz45 : szT Tryd.prog 45 = some (1, false) := by kernel_rfl
theorem sz46 : szT Tryd.prog 46 = some (1, false) := by kernel_rfl
theorem sz47 : szT Tryd.prog 47 = some (1, false) := by kernel_rfl
theorem sz48 : szT Tryd.prog 48 = some (1, false) := by kernel_rfl
theorem sz49 : szT Tryd.prog 49 = some (1, false) := by kernel_rfl
theorem sz51 : szT Tryd.prog 51 = some (1, false) := by kernel_rfl
theorem sz52 : szT Tryd.prog 52 = some (1, false) := by kernel_rfl
theorem sl53 : slT Tryd.prog 53 = some (16, .str []) := by kernel_rfl
theorem us53 : u8T Tryd.prog 53 = false := by kernel_rfl
theorem st53 : strT Tryd.prog 53 = false := by kernel_rfl
theorem sz53 : szT Tryd.prog 53 = some (1, false) := by kernel_rfl
theorem zt53 : zeroT Tryd.prog 53 = some [.sl (.lent false) []] := by kernel_rfl
theorem mt54 : mapT Tryd.prog 54 = some (5, .nl) := by kernel_rfl
theorem ky54 : Maps.Keyed Tryd.prog 5 := Maps.int_keyed (show Tryd.prog.underlying 5 = some (.int .u8) by kernel_rfl)
theorem sz55 : szT Tryd.prog 55 = some (1, false) := by kernel_rfl
theorem sz56 : szT Tryd.prog 56 = some (1, false) := by kernel_rfl
theorem sz57 : szT Tryd.prog 57 = some (1, false) := by kernel_rfl
theorem sz58 : szT Tryd.prog 58 = some (1, false) := by kernel_rfl
theorem sz59 : szT Tryd.prog 59 = some (1, false) := by kernel_rfl
theorem sz60 : szT Tryd.prog 60 = some (1, false) := by kernel_rfl
theorem sz61 : szT Tryd.prog 61 = some (1, false) := by kernel_rfl
theorem sz62 : szT Tryd.prog 62 = some (1, false) := by kernel_rfl
theorem sz63 : szT Tryd.prog 63 = some (1, false) := by kernel_rfl
theorem sz64 : szT Tryd.prog 64 = some (1, false) := by kernel_rfl
theorem sz65 : szT Tryd.prog 65 = some (1, false) := by kernel_rfl
theorem sz66 : szT Tryd.prog 66 = some (1, false) := by kernel_rfl
theorem sz67 : szT Tryd.prog 67 = some (1, false) := by kernel_rfl
theorem sz69 : szT Tryd.prog 69 = some (1, false) := by kernel_rfl
theorem sz70 : szT Tryd.prog 70 = some (1, false) := by kernel_rfl
theorem sz71 : szT Tryd.prog 71 = some (1, false) := by kernel_rfl
theorem sz72 : szT Tryd.prog 72 = some (3, true) := by kernel_rfl
theorem zt72 : zeroT Tryd.prog 72 = some [.sl (.lent false) [], .int .i64 0, .int .i64 0] := by kernel_rfl
theorem fd72x0 : fldT Tryd.prog 72 0 = some (0, 1, false) := by kernel_rfl
theorem fd72x1 : fldT Tryd.prog 72 1 = some (1, 1, false) := by kernel_rfl
theorem fd72x2 : fldT Tryd.prog 72 2 = some (2, 1, false) := by kernel_rfl
theorem pl72 : placesT Tryd.prog 72 = some [0, 1, 2] := by kernel_rfl
theorem sz73 : szT Tryd.prog 73 = some (3, true) := by kernel_rfl
theorem zt73 : zeroT Tryd.prog 73 = some [.sl (.lent false) [], .int .i64 0, .int .i64 0] := by kernel_rfl
theorem fd73x0 : fldT Tryd.prog 73 0 = some (0, 1, false) := by kernel_rfl
theorem fd73x1 : fldT Tryd.prog 73 1 = some (1, 1, false) := by kernel_rfl
theorem fd73x2 : fldT Tryd.prog 73 2 = some (2, 1, false) := by kernel_rfl
theorem pl73 : placesT Tryd.prog 73 = some [0, 1, 2] := by kernel_rfl
theorem sz74 : szT Tryd.prog 74 = some (1, false) := by kernel_rfl
theorem sl75 : slT Tryd.prog 75 = some (1, .bool false) := by kernel_rfl
theorem us75 : u8T Tryd.prog 75 = false := by kernel_rfl
theorem st75 : strT Tryd.prog 75 = false := by kernel_rfl
theorem sz75 : szT Tryd.prog 75 = some (1, false) := by kernel_rfl
theorem zt75 : zeroT Tryd.prog 75 = some [.sl (.lent false) []] := by kernel_rfl
theorem sz76 : szT Tryd.prog 76 = some (1, false) := by kernel_rfl
theorem sz77 : szT Tryd.prog 77 = some (1, false) := by kernel_rfl
theorem sz78 : szT Tryd.prog 78 = some (1, false) := by kernel_rfl
theorem sz79 : szT Tryd.prog 79 = some (1, false) := by kernel_rfl
theorem sz80 : szT Tryd.prog 80 = some (1, false) := by kernel_rfl
theorem sz81 : szT Tryd.prog 81 = some (1, false) := by kernel_rfl
theorem sz82 : szT Tryd.prog 82 = some (1, false) := by kernel_rfl
theorem sz83 : szT Tryd.prog 83 = some (1, false) := by kernel_rfl
theorem sz84 : szT Tryd.prog 84 = some (1, false) := by kernel_rfl
theorem sz85 : szT Tryd.prog 85 = some (1, false) := by kernel_rfl
theorem sz86 : szT Tryd.prog 86 = some (1, false) := by kernel_rfl
theorem sz87 : szT Tryd.prog 87 = some (1, false) := by kernel_rfl
theorem sz88 : szT Tryd.prog 88 = some (1, false) := by kernel_rfl
theorem sz89 : szT Tryd.prog 89 = some (1, false) := by kernel_rfl
theorem sz90 : szT Tryd.prog 90 = some (1, false) := by kernel_rfl
theorem sz91 : szT Tryd.prog 91 = some (1, false) := by kernel_rfl
theorem sz92 : szT Tryd.prog 92 = some (1, false) := by kernel_rfl
theorem sz93 : szT Tryd.prog 93 = some (1, false) := by kernel_rfl
theorem sz94 : szT Tryd.prog 94 = some (1, false) := by kernel_rfl
theorem sz95 : szT Tryd.prog 95 = some (1, false) := by kernel_rfl
theorem sz96 : szT Tryd.prog 96 = some (1, false) := by kernel_rfl
theorem sz97 : szT Tryd.prog 97 = some (1, false) := by kernel_rfl
theorem sz98 : szT Tryd.prog 98 = some (1, false) := by kernel_rfl
theorem sz99 : szT Tryd.prog 99 = some (1, false) := by kernel_rfl
theorem sz100 : szT Tryd.prog 100 = some (1, false) := by kernel_rfl
theorem sz101 : szT Tryd.prog 101 = some (1, false) := by kernel_rfl
theorem sz102 : szT Tryd.prog 102 = some (1, false) := by kernel_rfl
theorem sz103 : szT Tryd.prog 103 = some (1, false) := by kernel_rfl
theorem sz104 : szT Tryd.prog 104 = some (24, true) := by kernel_rfl
theorem pl104 : placesT Tryd.prog 104 = some [0, 1, 2, 3, 4, 5, 6, 7, 8, 9, 10, 11, 12, 13, 14, 15, 16, 17, 18, 19, 20, 21, 22, 23] := by kernel_rfl
theorem zt104 : zeroT Tryd.prog 104 = some [.int .u8 0, .int .u8 0, .int .u8 0, .int .u8 0, .int .u8 0, .int .u8 0, .int .u8 0, .int .u8 0, .int .u8 0, .int .u8 0, .int .u8 0, .int .u8 0, .int .u8 0, .int .u8 0, .int .u8 0, .int .u8 0, .int .u8 0, .int .u8 0, .int .u8 0, .int .u8 0, .int .u8 0, .int .u8 0, .int .u8 0, .int .u8 0] := by kernel_rfl
theorem it105 : intT Tryd.prog 105 = some .u64 := by kernel_rfl
theorem st105 : strT Tryd.prog 105 = false := by kernel_rfl
theorem sz105 : szT Tryd.prog 105 = some (1, false) := by kernel_rfl
theorem zt105 : zeroT Tryd.prog 105 = some [.int .u64 0] := by kernel_rfl
theorem sz106 : szT Tryd.prog 106 = some (1, false) := by kernel_rfl
theorem sz107 : szT Tryd.prog 107 = some (1, false) := by kernel_rfl
theorem sz109 : szT Tryd.prog 109 = some (1, false) := by kernel_rfl
theorem sz110 : szT Tryd.prog 110 = some (1, false) := by kernel_rfl
theorem sz111 : szT Tryd.prog 111 = some (1, false) := by kernel_rfl
theorem sz113 : szT Tryd.prog 113 = some (1, false) := by kernel_rfl
theorem sz114 : szT Tryd.prog 114 = some (1, false) := by kernel_rfl
theorem sz115 : szT Tryd.prog 115 = some (1, false) := by kernel_rfl
theorem sz116 : szT Tryd.prog 116 = some (20, true) := by kernel_rfl
theorem pl116 : placesT Tryd.prog 116 = some [0, 1, 2, 3, 4, 5, 6, 7, 8, 9, 10, 11, 12, 13, 14, 15, 16, 17, 18, 19] := by kernel_rfl
theorem zt116 : zeroT Tryd.prog 116 = some [.int .u64 0, .int .u64 0, .int .u64 0, .int .u64 0, .int .u64 0, .int .u64 0, .int .u64 0, .int .u64 0, .int .u64 0, .int .u64 0, .int .u64 0, .int .u64 0, .int .u64 0, .int .u64 0, .int .u64 0, .int .u64 0, .int .u64 0, .int .u64 0, .int .u64 0, .int .u64 0] := by kernel_rfl
theorem it117 : intT Tryd.prog 117 = some .u32 := by kernel_rfl
theorem st117 : strT Tryd.prog 117 = false := by kernel_rfl
theorem sz117 : szT Tryd.prog 117 = some (1, false) := by kernel_rfl
theorem zt117 : zeroT Tryd.prog 117 = some [.int .u32 0] := by kernel_rfl
theorem sz119 : szT Tryd.prog 119 = some (1, false) := by kernel_rfl
theorem sz120 : szT Tryd.prog 120 = some (1, false) := by kernel_rfl
theorem sz122 : szT Tryd.prog 122 = some (2, true) := by kernel_rfl
theorem zt122 : zeroT Tryd.prog 122 = some [.int .u8 0, .int .u8 0] := by kernel_rfl
theorem fd122x0 : fldT Tryd.prog 122 0 = some (0, 1, false) := by kernel_rfl
theorem fd122x1 : fldT Tryd.prog 122 1 = some (1, 1, false) := by kernel_rfl
theorem pl122 : placesT Tryd.prog 122 = some [0, 1] := by kernel_rfl
theorem sz123 : szT Tryd.prog 123 = some (2, true) := by kernel_rfl
theorem zt123 : zeroT Tryd.prog 123 = some [.int .u8 0, .int .u8 0] := by kernel_rfl
theorem fd123x0 : fldT Tryd.prog 123 0 = some (0, 1, false) := by kernel_rfl
theorem fd123x1 : fldT Tryd.prog 123 1 = some (1, 1, false) := by kernel_rfl
theorem pl123 : placesT Tryd.prog 123 = some [0, 1] := by kernel_rfl
theorem sz124 : szT Tryd.prog 124 = some (32, true) := by kernel_rfl
theorem sz126 : szT Tryd.prog 126 = some (1, false) := by kernel_rfl
theorem sz127 : szT Tryd.prog 127 = some (32, true) := by kernel_rfl
theorem pl127 : placesT Tryd.prog 127 = some [0, 1, 2, 3, 4, 5, 6, 7, 8, 9, 10, 11, 12, 13, 14, 15, 16, 17, 18, 19, 20, 21, 22, 23, 24, 25, 26, 27, 28, 29, 30, 31] := by kernel_rfl
theorem zt127 : zeroT Tryd.prog 127 = some [.int .u8 0, .int .u8 0, .int .u8 0, .int .u8 0, .int .u8 0, .int .u8 0, .int .u8 0, .int .u8 0, .int .u8 0, .int .u8 0, .int .u8 0, .int .u8 0, .int .u8 0, .int .u8 0, .int .u8 0, .int .u8 0, .int .u8 0, .int .u8 0, .int .u8 0, .int .u8 0, .int .u8 0, .int .u8 0, .int .u8 0, .int .u8 0, .int .u8 0, .int .u8 0, .int .u8 0, .int .u8 0, .int .u8 0, .int .u8 0, .int .u8 0, .int .u8 0] := by kernel_rfl
theorem sz128 : szT Tryd.prog 128 = some (64, true) := by kernel_rfl
theorem pl128 : placesT Tryd.prog 128 = some [0, 1, 2, 3, 4, 5, 6, 7, 8, 9, 10, 11, 12, 13, 14, 15, 16, 17, 18, 19, 20, 21, 22, 23, 24, 25, 26, 27, 28, 29, 30, 31, 32, 33, 34, 35, 36, 37, 38, 39, 40, 41, 42, 43, 44, 45, 46, 47, 48, 49, 50, 51, 52, 53, 54, 55, 56, 57, 58, 59, 60, 61, 62, 63] := by kernel_rfl
theorem zt128 : zeroT Tryd.prog 128 = some [.int .u8 0, .int .u8 0, .int .u8 0, .int .u8 0, .int .u8 0, .int .u8 0, .int .u8 0, .int .u8 0, .int .u8 0, .int .u8 0, .int .u8 0, .int .u8 0, .int .u8 0, .int .u8 0, .int .u8 0, .int .u8 0, .int .u8 0, .int .u8 0, .int .u8 0, .int .u8 0, .int .u8 0, .int .u8 0, .int .u8 0, .int .u8 0, .int .u8 0, .int .u8 0, .int .u8 0, .int .u8 0, .int .u8 0, .int .u8 0, .int .u8 0, .int .u8 0, .int .u8 0, .int .u8 0, .int .u8 0, .int .u8 0, .int .u8 0, .int .u8 0, .int .u8 0, .int .u8 0, .int .u8 0, .int .u8 0, .int .u8 0, .int .u8 0, .int .u8 0, .int .u8 0, .int .u8 0, .int .u8 0, .int .u8 0, .int .u8 0, .int .u8 0, .int .u8 0, .int .u8 0, .int .u8 0, .int .u8 0, .int .u8 0, .int .u8 0, .int .u8 0, .int .u8 0, .int .u8 0, .int .u8 0, .int .u8 0, .int .u8 0, .int .u8 0] := by kernel_rfl
theorem sz129 : szT Tryd.prog 129 = some (1, false) := by kernel_rfl
theorem sz130 : szT Tryd.prog 130 = some (4, true) := by kernel_rfl
theorem fd130x0 : fldT Tryd.prog 130 0 = some (0, 1, false) := by kernel_rfl
theorem fd130x1 : fldT Tryd.prog 130 1 = some (1, 1, false) := by kernel_rfl
theorem fd130x2 : fldT Tryd.prog 130 2 = some (2, 1, false) := by kernel_rfl
theorem fd130x3 : fldT Tryd.prog 130 3 = some (3, 1, false) := by kernel_rfl
theorem pl130 : placesT Tryd.prog 130 = some [0, 1, 2, 3] := by kernel_rfl
theorem sz131 : szT Tryd.prog 131 = some (4, true) := by kernel_rfl
theorem fd131x0 : fldT Tryd.prog 131 0 = some (0, 1, false) := by kernel_rfl
theorem fd131x1 : fldT Tryd.prog 131 1 = some (1, 1, false) := by kernel_rfl
theorem fd131x2 : fldT Tryd.prog 131 2 = some (2, 1, false) := by kernel_rfl
theorem fd131x3 : fldT Tryd.prog 131 3 = some (3, 1, false) := by kernel_rfl
theorem pl131 : placesT Tryd.prog 131 = some [0, 1, 2, 3] := by kernel_rfl
theorem sz132 : szT Tryd.prog 132 = some (0, true) := by kernel_rfl
theorem sz133 : szT Tryd.prog 133 = some (0, true) := by kernel_rfl
theorem fd133x0 : fldT Tryd.prog 133 0 = some (0, 0, true) := by kernel_rfl
theorem sz134 : szT Tryd.prog 134 = some (0, true) := by kernel_rfl
theorem fd134x0 : fldT Tryd.prog 134 0 = some (0, 0, true) := by kernel_rfl
theorem sz135 : szT Tryd.prog 135 = some (1, false) := by kernel_rfl
theorem it136 : intT Tryd.prog 136 = some .u8 := by kernel_rfl
theorem st136 : strT Tryd.prog 136 = false := by kernel_rfl
theorem sz136 : szT Tryd.prog 136 = some (1, false) := by kernel_rfl
theorem zt136 : zeroT Tryd.prog 136 = some [.int .u8 0] := by kernel_rfl
theorem it137 : intT Tryd.prog 137 = some .u8 := by kernel_rfl
theorem st137 : strT Tryd.prog 137 = false := by kernel_rfl
theorem sz137 : szT Tryd.prog 137 = some (1, false) := by kernel_rfl
theorem zt137 : zeroT Tryd.prog 137 = some [.int .u8 0] := by kernel_rfl
theorem sz138 : szT Tryd.prog 138 = some (1, false) := by kernel_rfl
theorem sz139 : szT Tryd.prog 139 = some (1, false) := by kernel_rfl
theorem it140 : intT Tryd.prog 140 = some .i32 := by kernel_rfl
theorem st140 : strT Tryd.prog 140 = false := by kernel_rfl
theorem sz140 : szT Tryd.prog 140 = some (1, false) := by kernel_rfl
theorem zt140 : zeroT Tryd.prog 140 = some [.int .i32 0] := by kernel_rfl
theorem it141 : intT Tryd.prog 141 = some .i32 := by kernel_rfl
theorem st141 : strT Tryd.prog 141 = false := by kernel_rfl
theorem sz141 : szT Tryd.prog 141 = some (1, false) := by kernel_rfl
theorem zt141 : zeroT Tryd.prog 141 = some [.int .i32 0] := by kernel_rfl
theorem sz142 : szT Tryd.prog 142 = some (11, true) := by kernel_rfl
theorem fd142x0 : fldT Tryd.prog 142 0 = some (0, 1, false) := by kernel_rfl
theorem fd142x1 : fldT Tryd.prog 142 1 = some (1, 1, false) := by kernel_rfl
theorem fd142x2 : fldT Tryd.prog 142 2 = some (2, 1, false) := by kernel_rfl
theorem fd142x3 : fldT Tryd.prog 142 3 = some (3, 1, false) := by kernel_rfl
theorem fd142x4 : fldT Tryd.prog 142 4 = some (4, 1, false) := by kernel_rfl
theorem fd142x5 : fldT Tryd.prog 142 5 = some (5, 1, false) := by kernel_rfl
theorem fd142x6 : fldT Tryd.prog 142 6 = some (6, 1, false) := by kernel_rfl
theorem fd142x7 : fldT Tryd.prog 142 7 = some (7, 1, false) := by kernel_rfl
theorem fd142x8 : fldT Tryd.prog 142 8 = some (8, 1, false) := by kernel_rfl
theorem fd142x9 : fldT Tryd.prog 142 9 = some (9, 1, false) := by kernel_rfl
theorem fd142x10 : fldT Tryd.prog 142 10 = some (10, 1, false) := by kernel_rfl
theorem pl142 : placesT Tryd.prog 142 = some [0, 1, 2, 3, 4, 5, 6, 7, 8, 9, 10] := by kernel_rfl
theorem sz143 : szT Tryd.prog 143 = some (11, true) := by kernel_rfl
theorem fd143x0 : fldT Tryd.prog 143 0 = some (0, 1, false) := by kernel_rfl
theorem fd143x1 : fldT Tryd.prog 143 1 = some (1, 1, false) := by kernel_rfl
theorem fd143x2 : fldT Tryd.prog 143 2 = some (2, 1, false) := by kernel_rfl
theorem fd143x3 : fldT Tryd.prog 143 3 = some (3, 1, false) := by kernel_rfl
theorem fd143x4 : fldT Tryd.prog 143 4 = some (4, 1, false) := by kernel_rfl
theorem fd143x5 : fldT Tryd.prog 143 5 = some (5, 1, false) := by kernel_rfl
theorem fd143x6 : fldT Tryd.prog 143 6 = some (6, 1, false) := by kernel_rfl
theorem fd143x7 : fldT Tryd.prog 143 7 = some (7, 1, false) := by kernel_rfl
theorem fd143x8 : fldT Tryd.prog 143 8 = some (8, 1, false) := by kernel_rfl
theorem fd143x9 : fldT Tryd.prog 143 9 = some (9, 1, false) := by kernel_rfl
theorem fd143x10 : fldT Tryd.prog 143 10 = some (10, 1, false) := by kernel_rfl
theorem pl143 : placesT Tryd.prog 143 = some [0, 1, 2, 3, 4, 5, 6, 7, 8, 9, 10] := by kernel_rfl
attribute [go_sem] sg0_eq wayE_sg0 wayN_sg0 wayS_sg0 wayZ_sg0 wayM_sg0 sz1 it2 st2 sz2 zt2 it3 st3 sz3 zt3 bo4 sz4 zt4
attribute [go_sem] it5 st5 sz5 zt5 it6 st6 sz6 zt6 sz7 zt7 fd7x0 fd7x1
attribute [go_sem] fd7x2 fd7x3 pl7 sz8 zt8 fd8x0 fd8x1 fd8x2 fd8x3 pl8 st9 sz9
attribute [go_sem] zt9 st10 sz10 zt10 st11 sz11 zt11 it12 st12 sz12 zt12 sz13
attribute [go_sem] zt13 fd13x0 fd13x1 pl13 sz14 zt14 fd14x0 fd14x1 pl14 sz15 sz16 sz17
attribute [go_sem] sz18 fd18x0 pl18 sz19 fd19x0 pl19 it21 st21 sz21 zt21 sl22 us22
attribute [go_sem] st22 sz22 zt22 sz23 sl24 us24 st24 sz24 zt24 sz25 sz26 sz27
attribute [go_sem] sz29 sz31 sl32 us32 st32 sz32 zt32 sz34 sz35 sz36 sz37 sz38
attribute [go_sem] it39 st39 sz39 zt39 sz40 sz41 zt41 fd41x0 fd41x1 fd41x2 pl41 sz42
attribute [go_sem] zt42 fd42x0 fd42x1 fd42x2 pl42 sz43 sz44 sz45 sz46 sz47 sz48 sz49
attribute [go_sem] sz51 sz52 sl53 us53 st53 sz53 zt53 mt54 ky54 sz55 sz56 sz57
attribute [go_sem] sz58 sz59 sz60 sz61 sz62 sz63 sz64 sz65 sz66 sz67 sz69 sz70
attribute [go_sem] sz71 sz72 zt72 fd72x0 fd72x1 fd72x2 pl72 sz73 zt73 fd73x0 fd73x1 fd73x2
attribute [go_sem] pl73 sz74 sl75 us75 st75 sz75 zt75 sz76 sz77 sz78 sz79 sz80
attribute [go_sem] sz81 sz82 sz83 sz84 sz85 sz86 sz87 sz88 sz89 sz90 sz91 sz92
attribute [go_sem] sz93 sz94 sz95 sz96 sz97 sz98 sz99 sz100 sz101 sz102 sz103 sz104
attribute [go_sem] pl104 zt104 it105 st105 sz105 zt105 sz106 sz107 sz109 sz110 sz111 sz113
attribute [go_sem] sz114 sz115 sz116 pl116 zt116 it117 st117 sz117 zt117 sz119 sz120 sz122
attribute [go_sem] zt122 fd122x0 fd122x1 pl122 sz123 zt123 fd123x0 fd123x1 pl123 sz124 sz126 sz127
attribute [go_sem] pl127 zt127 sz128 pl128 zt128 sz129 sz130 fd130x0 fd130x1 fd130x2 fd130x3 pl130
attribute [go_sem] sz131 fd131x0 fd131x1 fd131x2 fd131x3 pl131 sz132 sz133 fd133x0 sz134 fd134x0 sz135
attribute [go_sem] it136 st136 sz136 zt136 it137 st137 sz137 zt137 sz138 sz139 it140 st140
attribute [go_sem] sz140 zt140 it141 st141 sz141 zt141 sz142 fd142x0 fd142x1 fd142x2 fd142x3 fd142x4
attribute [go_sem] fd142x5 fd142x6 fd142x7 fd142x8 fd142x9 fd142x10 pl142 sz143 fd143x0 fd143x1 fd143x2 fd143x3
attribute [go_sem] fd143x4 fd143x5 fd143x6 fd143x7 fd143x8 fd143x9 fd143x10 pl143
end Go.Gl
