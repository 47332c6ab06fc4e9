/-
 The common ground of the contracts of this program's functions. Conditions: none.
-/
import Derived.Test.YtkaebeblkpnhmaaGreatDoorGlE
import Derived.Test.YtkaebeblkpnhmaaGreatDoorChecked
namespace Go.Gl
open Go Go.Proofs
def sg0 : FuncId → List Bool := fun _ => []
theorem sg0_eq {f : FuncId} : sg0 f = [] := rfl
theorem wayE_sg0 : wayE sg0 = false := _root_.id rfl
theorem wayN_sg0 : wayN sg0 = false := _root_.id rfl
theorem wayS_sg0 : wayS sg0 = false := _root_.id rfl
theorem wayZ_sg0 : wayZ sg0 = false := _root_.id rfl
theorem mo : Tryz.prog.follows .mixedOrders = true := Tryz.checked.mixed
theorem sz1 : szT Tryz.prog 1 = some (1, false) := by kernel_rfl
theorem it2 : intT Tryz.prog 2 = some .i64 := by kernel_rfl
theorem st2 : strT Tryz.prog 2 = false := by kernel_rfl
theorem sz2 : szT Tryz.prog 2 = some (1, false) := by kernel_rfl
theorem zt2 : zeroT Tryz.prog 2 = some [.int .i64 0] := by kernel_rfl
theorem it3 : intT Tryz.prog 3 = some .i64 := by kernel_rfl
theorem st3 : strT Tryz.prog 3 = false := by kernel_rfl
theorem sz3 : szT Tryz.prog 3 = some (1, false) := by kernel_rfl
theorem zt3 : zeroT Tryz.prog 3 = some [.int .i64 0] := by kernel_rfl
theorem bo4 : boolT Tryz.prog 4 = true := by kernel_rfl
theorem sz4 : szT Tryz.prog 4 = some (1, false) := by kernel_rfl
theorem zt4 : zeroT Tryz.prog 4 = some [.bool false] := by kernel_rfl
theorem it5 : intT Tryz.prog 5 = some .u8 := by kernel_rfl
theorem st5 : strT Tryz.prog 5 = false := by kernel_rfl
theorem sz5 : szT Tryz.prog 5 = some (1, false) := by kernel_rfl
theorem zt5 : zeroT Tryz.prog 5 = some [.int .u8 0] := by kernel_rfl
theorem it6 : intT Tryz.prog 6 = some .u8 := by kernel_rfl
theorem st6 : strT Tryz.prog 6 = false := by kernel_rfl
theorem sz6 : szT Tryz.prog 6 = some (1, false) := by kernel_rfl
theorem zt6 : zeroT Tryz.prog 6 = some [.int .u8 0] := by kernel_rfl
theorem sz7 : szT Tryz.prog 7 = some (4, true) := by kernel_rfl
theorem zt7 : zeroT Tryz.prog 7 = some [.int .i64 0, .int .i64 0, .bool false, .int .u8 0] := by kernel_rfl
theorem fd7x0 : fldT Tryz.prog 7 0 = some (0, 1, false) := by kernel_rfl
theorem fd7x1 : fldT Tryz.prog 7 1 = some (1, 1, false) := by kernel_rfl
theorem fd7x2 : fldT Tryz.prog 7 2 = some (2, 1, false) := by kernel_rfl
theorem fd7x3 : fldT Tryz.prog 7 3 = some (3, 1, false) := by kernel_rfl
theorem pl7 : placesT Tryz.prog 7 = some [0, 1, 2, 3] := by kernel_rfl
theorem sz8 : szT Tryz.prog 8 = some (4, true) := by kernel_rfl
theorem zt8 : zeroT Tryz.prog 8 = some [.int .i64 0, .int .i64 0, .bool false, .int .u8 0] := by kernel_rfl
theorem fd8x0 : fldT Tryz.prog 8 0 = some (0, 1, false) := by kernel_rfl
theorem fd8x1 : fldT Tryz.prog 8 1 = some (1, 1, false) := by kernel_rfl
theorem fd8x2 : fldT Tryz.prog 8 2 = some (2, 1, false) := by kernel_rfl
theorem fd8x3 : fldT Tryz.prog 8 3 = some (3, 1, false) := by kernel_rfl
theorem pl8 : placesT Tryz.prog 8 = some [0, 1, 2, 3] := by kernel_rfl
theorem st9 : strT Tryz.prog 9 = true := by kernel_rfl
theorem sz9 : szT Tryz.prog 9 = some (1, false) := by kernel_rfl
theorem zt9 : zeroT Tryz.prog 9 = some [.str []] := by kernel_rfl
theorem st10 : strT Tryz.prog 10 = true := by kernel_rfl
theorem sz10 : szT Tryz.prog 10 = some (1, false) := by kernel_rfl
theorem zt10 : zeroT Tryz.prog 10 = some [.str []] := by kernel_rfl
theorem st11 : strT Tryz.prog 11 = true := by kernel_rfl
theorem sz11 : szT Tryz.prog 11 = some (1, false) := by kernel_rfl
theorem zt11 : zeroT Tryz.prog 11 = some [.str []] := by kernel_rfl
theorem it12 : intT Tryz.prog 12 = some .u64 := by kernel_rfl
theorem st12 : strT Tryz.prog 12 = false := by kernel_rfl
theorem sz12 : szT Tryz.prog 12 = some (1, false) := by kernel_rfl
theorem zt12 : zeroT Tryz.prog 12 = some [.int .u64 0] := by kernel_rfl
theorem sz13 : szT Tryz.prog 13 = some (2, true) := by kernel_rfl
theorem zt13 : zeroT Tryz.prog 13 = some [.str [], .int .u64 0] := by kernel_rfl
theorem fd13x0 : fldT Tryz.prog 13 0 = some (0, 1, false) := by kernel_rfl
theorem fd13x1 : fldT Tryz.prog 13 1 = some (1, 1, false) := by kernel_rfl
theorem pl13 : placesT Tryz.prog 13 = some [0, 1] := by kernel_rfl
theorem sz14 : szT Tryz.prog 14 = some (2, true) := by kernel_rfl
theorem zt14 : zeroT Tryz.prog 14 = some [.str [], .int .u64 0] := by kernel_rfl
theorem fd14x0 : fldT Tryz.prog 14 0 = some (0, 1, false) := by kernel_rfl
theorem fd14x1 : fldT Tryz.prog 14 1 = some (1, 1, false) := by kernel_rfl
theorem pl14 : placesT Tryz.prog 14 = some [0, 1] := by kernel_rfl
theorem sz15 : szT Tryz.prog 15 = some (1, false) := by kernel_rfl
theorem sz16 : szT Tryz.prog 16 = some (1, false) := by kernel_rfl
theorem sz17 : szT Tryz.prog 17 = some (1, false) := by kernel_rfl
theorem sz18 : szT Tryz.prog 18 = some (1, true) := by kernel_rfl
theorem fd18x0 : fldT Tryz.prog 18 0 = some (0, 1, false) := by kernel_rfl
theorem pl18 : placesT Tryz.prog 18 = some [0] := by kernel_rfl
theorem sz19 : szT Tryz.prog 19 = some (1, true) := by kernel_rfl
theorem fd19x0 : fldT Tryz.prog 19 0 = some (0, 1, false) := by kernel_rfl
theorem pl19 : placesT Tryz.prog 19 = some [0] := by kernel_rfl
theorem it21 : intT Tryz.prog 21 = some .i32 := by kernel_rfl
theorem st21 : strT Tryz.prog 21 = false := by kernel_rfl
theorem sz21 : szT Tryz.prog 21 = some (1, false) := by kernel_rfl
theorem zt21 : zeroT Tryz.prog 21 = some [.int .i32 0] := by kernel_rfl
theorem sl22 : slT Tryz.prog 22 = some (24, .sl (.lent false) []) := by kernel_rfl
theorem us22 : u8T Tryz.prog 22 = false := by kernel_rfl
theorem st22 : strT Tryz.prog 22 = false := by kernel_rfl
theorem sz22 : szT Tryz.prog 22 = some (1, false) := by kernel_rfl
theorem zt22 : zeroT Tryz.prog 22 = some [.sl (.lent false) []] := by kernel_rfl
theorem sz23 : szT Tryz.prog 23 = some (1, false) := by kernel_rfl
theorem sz24 : szT Tryz.prog 24 = some (1, false) := by kernel_rfl
theorem sz25 : szT Tryz.prog 25 = some (1, false) := by kernel_rfl
theorem sz26 : szT Tryz.prog 26 = some (1, false) := by kernel_rfl
theorem sz27 : szT Tryz.prog 27 = some (1, false) := by kernel_rfl
theorem sz28 : szT Tryz.prog 28 = some (1, false) := by kernel_rfl
theorem sz29 : szT Tryz.prog 29 = some (1, false) := by kernel_rfl
theorem sl30 : slT Tryz.prog 30 = some (1, .int .u8 0) := by kernel_rfl
theorem us30 : u8T Tryz.prog 30 = true := by kernel_rfl
theorem st30 : strT Tryz.prog 30 = false := by kernel_rfl
theorem sz30 : szT Tryz.prog 30 = some (1, false) := by kernel_rfl
theorem zt30 : zeroT Tryz.prog 30 = some [.sl (.lent false) []] := by kernel_rfl
theorem sz31 : szT Tryz.prog 31 = some (1, false) := by kernel_rfl
theorem sz32 : szT Tryz.prog 32 = some (1, false) := by kernel_rfl
theorem sz33 : szT Tryz.prog 33 = some (1, false) := by kernel_rfl
theorem sz35 : szT Tryz.prog 35 = some (1, false) := by kernel_rfl
theorem sz36 : szT Tryz.prog 36 = some (1, false) := by kernel_rfl
theorem sl37 : slT Tryz.prog 37 = some (8, .int .i64 0) := by kernel_rfl
theorem us37 : u8T Tryz.prog 37 = false := by kernel_rfl
theorem st37 : strT Tryz.prog 37 = false := by kernel_rfl
theorem sz37 : szT Tryz.prog 37 = some (1, false) := by kernel_rfl
theorem zt37 : zeroT Tryz.prog 37 = some [.sl (.lent false) []] := by kernel_rfl
theorem sz38 : szT Tryz.prog 38 = some (1, false) := by kernel_rfl
theorem sz39 : szT Tryz.prog 39 = some (1, false) := by kernel_rfl
theorem sz40 : szT Tryz.prog 40 = some (1, false) := by kernel_rfl
theorem sz41 : szT Tryz.prog 41 = some (1, false) := by kernel_rfl
theorem sl42 : slT Tryz.prog 42 = some (16, .str []) := by kernel_rfl
theorem us42 : u8T Tryz.prog 42 = false := by kernel_rfl
theorem st42 : strT Tryz.prog 42 = false := by kernel_rfl
theorem sz42 : szT Tryz.prog 42 = some (1, false) := by kernel_rfl
theorem zt42 : zeroT Tryz.prog 42 = some [.sl (.lent false) []] := by kernel_rfl
theorem sz43 : szT Tryz.prog 43 = some (1, false) := by kernel_rfl
theorem sz44 : szT Tryz.prog 44 = some (1, false) := by kernel_rfl
theorem sz45 : szT Tryz.prog 45 = some (1, false) := by kernel_rfl
theorem sz46 : szT Tryz.prog 46 = some (1, false) := by kernel_rfl
theorem sz47 : szT Tryz.prog 47 = some (1, false) := by kernel_rfl
theorem sz48 : szT Tryz.prog 48 = some (1, false) := by kernel_rfl
theorem sz49 : szT Tryz.prog 49 = some (1, false) := by kernel_rfl
theorem sz50 : szT Tryz.prog 50 = some (1, false) := by kernel_rfl
theorem sz51 : szT Tryz.prog 51 = some (1, false) := by kernel_rfl
theorem sl52 : slT Tryz.prog 52 = some (24, .sl (.lent false) []) := by kernel_rfl
theorem us52 : u8T Tryz.prog 52 = false := by kernel_rfl
theorem st52 : strT Tryz.prog 52 = false := by kernel_rfl
theorem sz52 : szT Tryz.prog 52 = some (1, false) := by kernel_rfl
theorem zt52 : zeroT Tryz.prog 52 = some [.sl (.lent false) []] := by kernel_rfl
theorem sz53 : szT Tryz.prog 53 = some (1, false) := by kernel_rfl
theorem sz54 : szT Tryz.prog 54 = some (1, false) := by kernel_rfl
theorem sz55 : szT Tryz.prog 55 = some (1, false) := by kernel_rfl
theorem sz56 : szT Tryz.prog 56 = some (1, false) := by kernel_rfl
theorem sz57 : szT Tryz.prog 57 = some (1, false) := by kernel_rfl
theorem sz58 : szT Tryz.prog 58 = some (1, false) := by kernel_rfl
theorem sz59 : szT Tryz.prog 59 = some (1, false) := by kernel_rfl
theorem sz60 : szT Tryz.prog 60 = some (1, false) := by kernel_rfl
theorem sz61 : szT Tryz.prog 61 = some (1, false) := by kernel_rfl
theorem sz62 : szT Tryz.prog 62 = some (1, false) := by kernel_rfl
theorem sz63 : szT Tryz.prog 63 = some (2, true) := by kernel_rfl
theorem zt63 : zeroT Tryz.prog 63 = some [.str [], .nilf] := by kernel_rfl
theorem fd63x0 : fldT Tryz.prog 63 0 = some (0, 1, false) := by kernel_rfl
theorem fd63x1 : fldT Tryz.prog 63 1 = some (1, 1, false) := by kernel_rfl
theorem pl63 : placesT Tryz.prog 63 = some [0, 1] := by kernel_rfl
theorem st64 : strT Tryz.prog 64 = false := by kernel_rfl
theorem sz64 : szT Tryz.prog 64 = some (1, false) := by kernel_rfl
theorem zt64 : zeroT Tryz.prog 64 = some [.sl (.lent false) []] := by kernel_rfl
theorem sz65 : szT Tryz.prog 65 = some (1, false) := by kernel_rfl
theorem sz66 : szT Tryz.prog 66 = some (1, false) := by kernel_rfl
theorem sz67 : szT Tryz.prog 67 = some (2, true) := by kernel_rfl
theorem fd67x0 : fldT Tryz.prog 67 0 = some (0, 1, false) := by kernel_rfl
theorem fd67x1 : fldT Tryz.prog 67 1 = some (1, 1, false) := by kernel_rfl
theorem pl67 : placesT Tryz.prog 67 = some [0, 1] := by kernel_rfl
theorem sz68 : szT Tryz.prog 68 = some (2, true) := by kernel_rfl
theorem fd68x0 : fldT Tryz.prog 68 0 = some (0, 1, false) := by kernel_rfl
theorem fd68x1 : fldT Tryz.prog 68 1 = some (1, 1, false) := by kernel_rfl
theorem pl68 : placesT Tryz.prog 68 = some [0, 1] := by kernel_rfl
theorem sz69 : szT Tryz.prog 69 = some (1, false) := by kernel_rfl
theorem sz73 : szT Tryz.prog 73 = some (1, false) := by kernel_rfl
theorem sz74 : szT Tryz.prog 74 = some (1, false) := by kernel_rfl
theorem sz75 : szT Tryz.prog 75 = some (1, false) := by kernel_rfl
theorem sz76 : szT Tryz.prog 76 = some (3, true) := by kernel_rfl
theorem zt76 : zeroT Tryz.prog 76 = some [.sl (.lent false) [], .int .i64 0, .int .i64 0] := by kernel_rfl
theorem fd76x0 : fldT Tryz.prog 76 0 = some (0, 1, false) := by kernel_rfl
theorem fd76x1 : fldT Tryz.prog 76 1 = some (1, 1, false) := by kernel_rfl
theorem fd76x2 : fldT Tryz.prog 76 2 = some (2, 1, false) := by kernel_rfl
theorem pl76 : placesT Tryz.prog 76 = some [0, 1, 2] := by kernel_rfl
theorem sz77 : szT Tryz.prog 77 = some (3, true) := by kernel_rfl
theorem zt77 : zeroT Tryz.prog 77 = some [.sl (.lent false) [], .int .i64 0, .int .i64 0] := by kernel_rfl
theorem fd77x0 : fldT Tryz.prog 77 0 = some (0, 1, false) := by kernel_rfl
theorem fd77x1 : fldT Tryz.prog 77 1 = some (1, 1, false) := by kernel_rfl
theorem fd77x2 : fldT Tryz.prog 77 2 = some (2, 1, false) := by kernel_rfl
theorem pl77 : placesT Tryz.prog 77 = some [0, 1, 2] := by kernel_rfl
theorem sz78 : szT Tryz.prog 78 = some (1, false) := by kernel_rfl
theorem sz79 : szT Tryz.prog 79 = some (1, false) := by kernel_rfl
theorem sz80 : szT Tryz.prog 80 = some (1, false) := by kernel_rfl
theorem sz82 : szT Tryz.prog 82 = some (1, false) := by kernel_rfl
theorem sz83 : szT Tryz.prog 83 = some (1, false) := by kernel_rfl
theorem sz84 : szT Tryz.prog 84 = some (1, false) := by kernel_rfl
theorem sz85 : szT Tryz.prog 85 = some (1, false) := by kernel_rfl
theorem sz86 : szT Tryz.prog 86 = some (1, false) := by kernel_rfl
theorem it87 : intT Tryz.prog 87 = some .u64 := by kernel_rfl
theorem st87 : strT Tryz.prog 87 = false := by kernel_rfl
theorem sz87 : szT Tryz.prog 87 = some (1, false) := by kernel_rfl
theorem zt87 : zeroT Tryz.prog 87 = some [.int .u64 0] := by kernel_rfl
theorem sz88 : szT Tryz.prog 88 = some (1, false) := by kernel_rfl
theorem sz89 : szT Tryz.prog 89 = some (1, false) := by kernel_rfl
theorem sz90 : szT Tryz.prog 90 = some (1, false) := by kernel_rfl
theorem sz91 : szT Tryz.prog 91 = some (1, false) := by kernel_rfl
theorem sz92 : szT Tryz.prog 92 = some (1, false) := by kernel_rfl
theorem sz94 : szT Tryz.prog 94 = some (1, false) := by kernel_rfl
theorem sz95 : szT Tryz.prog 95 = some (1, false) := by kernel_rfl
theorem sz96 : szT Tryz.prog 96 = some (1, false) := by kernel_rfl
theorem sz97 : szT Tryz.prog 97 = some (1, false) := by kernel_rfl
theorem sz98 : szT Tryz.prog 98 = some (1, false) := by kernel_rfl
theorem sz99 : szT Tryz.prog 99 = some (1, false) := by kernel_rfl
theorem sz100 : szT Tryz.prog 100 = some (1, false) := by kernel_rfl
theorem sz101 : szT Tryz.prog 101 = some (1, false) := by kernel_rfl
theorem sl102 : slT Tryz.prog 102 = some (1, .bool false) := by kernel_rfl
theorem us102 : u8T Tryz.prog 102 = false := by kernel_rfl
theorem st102 : strT Tryz.prog 102 = false := by kernel_rfl
theorem sz102 : szT Tryz.prog 102 = some (1, false) := by kernel_rfl
theorem zt102 : zeroT Tryz.prog 102 = some [.sl (.lent false) []] := by kernel_rfl
theorem sz103 : szT Tryz.prog 103 = some (1, false) := by kernel_rfl
theorem sz104 : szT Tryz.prog 104 = some (1, false) := by kernel_rfl
theorem sz105 : szT Tryz.prog 105 = some (1, false) := by kernel_rfl
theorem sz106 : szT Tryz.prog 106 = some (1, false) := by kernel_rfl
theorem sz108 : szT Tryz.prog 108 = some (1, false) := by kernel_rfl
theorem sz109 : szT Tryz.prog 109 = some (1, false) := by kernel_rfl
theorem sz110 : szT Tryz.prog 110 = some (1, false) := by kernel_rfl
theorem sz111 : szT Tryz.prog 111 = some (1, false) := by kernel_rfl
theorem sz112 : szT Tryz.prog 112 = some (24, true) := by kernel_rfl
theorem pl112 : placesT Tryz.prog 112 = some [0, 1, 2, 3, 4, 5, 6, 7, 8, 9, 10, 11, 12, 13, 14, 15, 16, 17, 18, 19, 20, 21, 22, 23] := by kernel_rfl
theorem zt112 : zeroT Tryz.prog 112 = some [.int .u8 0, .int .u8 0, .int .u8 0, .int .u8 0, .int .u8 0, .int .u8 0, .int .u8 0, .int .u8 0, .int .u8 0, .int .u8 0, .int .u8 0, .int .u8 0, .int .u8 0, .int .u8 0, .int .u8 0, .int .u8 0, .int .u8 0, .int .u8 0, .int .u8 0, .int .u8 0, .int .u8 0, .int .u8 0, .int .u8 0, .int .u8 0] := by kernel_rfl
theorem it113 : intT Tryz.prog 113 = some .u64 := by kernel_rfl
theorem st113 : strT Tryz.prog 113 = false := by kernel_rfl
theorem sz113 : szT Tryz.prog 113 = some (1, false) := by kernel_rfl
theorem zt113 : zeroT Tryz.prog 113 = some [.int .u64 0] := by kernel_rfl
theorem sz114 : szT Tryz.prog 114 = some (1, false) := by kernel_rfl
theorem sz115 : szT Tryz.prog 115 = some (1, false) := by kernel_rfl
theorem sz117 : szT Tryz.prog 117 = some (1, false) := by kernel_rfl
theorem sz118 : szT Tryz.prog 118 = some (1, false) := by kernel_rfl
theorem sz119 : szT Tryz.prog 119 = some (1, false) := by kernel_rfl
theorem sz121 : szT Tryz.prog 121 = some (1, false) := by kernel_rfl
theorem sz122 : szT Tryz.prog 122 = some (1, false) := by kernel_rfl
theorem sz123 : szT Tryz.prog 123 = some (20, true) := by kernel_rfl
theorem pl123 : placesT Tryz.prog 123 = some [0, 1, 2, 3, 4, 5, 6, 7, 8, 9, 10, 11, 12, 13, 14, 15, 16, 17, 18, 19] := by kernel_rfl
theorem zt123 : zeroT Tryz.prog 123 = some [.int .u64 0, .int .u64 0, .int .u64 0, .int .u64 0, .int .u64 0, .int .u64 0, .int .u64 0, .int .u64 0, .int .u64 0, .int .u64 0, .int .u64 0, .int .u64 0, .int .u64 0, .int .u64 0, .int .u64 0, .int .u64 0, .int .u64 0, .int .u64 0, .int .u64 0, .int .u64 0] := by kernel_rfl
theorem it124 : intT Tryz.prog 124 = some .u32 := by kernel_rfl
theorem st124 : strT Tryz.prog 124 = false := by kernel_rfl
theorem sz124 : szT Tryz.prog 124 = some (1, false) := by kernel_rfl
theorem zt124 : zeroT Tryz.prog 124 = some [.int .u32 0] := by kernel_rfl
theorem sz126 : szT Tryz.prog 126 = some (1, false) := by kernel_rfl
theorem sz127 : szT Tryz.prog 127 = some (1, false) := by kernel_rfl
theorem sz129 : szT Tryz.prog 129 = some (2, true) := by kernel_rfl
theorem zt129 : zeroT Tryz.prog 129 = some [.int .u8 0, .int .u8 0] := by kernel_rfl
theorem fd129x0 : fldT Tryz.prog 129 0 = some (0, 1, false) := by kernel_rfl
theorem fd129x1 : fldT Tryz.prog 129 1 = some (1, 1, false) := by kernel_rfl
theorem pl129 : placesT Tryz.prog 129 = some [0, 1] := by kernel_rfl
theorem sz130 : szT Tryz.prog 130 = some (2, true) := by kernel_rfl
theorem zt130 : zeroT Tryz.prog 130 = some [.int .u8 0, .int .u8 0] := by kernel_rfl
theorem fd130x0 : fldT Tryz.prog 130 0 = some (0, 1, false) := by kernel_rfl
theorem fd130x1 : fldT Tryz.prog 130 1 = some (1, 1, false) := by kernel_rfl
theorem pl130 : placesT Tryz.prog 130 = some [0, 1] := by kernel_rfl
theorem sz131 : szT Tryz.prog 131 = some (32, true) := by kernel_rfl
theorem sz133 : szT Tryz.prog 133 = some (1, false) := by kernel_rfl
theorem sz134 : szT Tryz.prog 134 = some (32, true) := by kernel_rfl
theorem pl134 : placesT Tryz.prog 134 = some [0, 1, 2, 3, 4, 5, 6, 7, 8, 9, 10, 11, 12, 13, 14, 15, 16, 17, 18, 19, 20, 21, 22, 23, 24, 25, 26, 27, 28, 29, 30, 31] := by kernel_rfl
theorem zt134 : zeroT Tryz.prog 134 = some [.int .u8 0, .int .u8 0, .int .u8 0, .int .u8 0, .int .u8 0, .int .u8 0, .int .u8 0, .int .u8 0, .int .u8 0, .int .u8 0, .int .u8 0, .int .u8 0, .int .u8 0, .int .u8 0, .int .u8 0, .int .u8 0, .int .u8 0, .int .u8 0, .int .u8 0, .int .u8 0, .int .u8 0, .int .u8 0, .int .u8 0, .int .u8 0, .int .u8 0, .int .u8 0, .int .u8 0, .int .u8 0, .int .u8 0, .int .u8 0, .int .u8 0, .int .u8 0] := by kernel_rfl
theorem sz135 : szT Tryz.prog 135 = some (64, true) := by kernel_rfl
theorem pl135 : placesT Tryz.prog 135 = some [0, 1, 2, 3, 4, 5, 6, 7, 8, 9, 10, 11, 12, 13, 14, 15, 16, 17, 18, 19, 20, 21, 22, 23, 24, 25, 26, 27, 28, 29, 30, 31, 32, 33, 34, 35, 36, 37, 38, 39, 40, 41, 42, 43, 44, 45, 46, 47, 48, 49, 50, 51, 52, 53, 54, 55, 56, 57, 58, 59, 60, 61, 62, 63] := by kernel_rfl
theorem zt135 : zeroT Tryz.prog 135 = some [.int .u8 0, .int .u8 0, .int .u8 0, .int .u8 0, .int .u8 0, .int .u8 0, .int .u8 0, .int .u8 0, .int .u8 0, .int .u8 0, .int .u8 0, .int .u8 0, .int .u8 0, .int .u8 0, .int .u8 0, .int .u8 0, .int .u8 0, .int .u8 0, .int .u8 0, .int .u8 0, .int .u8 0, .int .u8 0, .int .u8 0, .int .u8 0, .int .u8 0, .int .u8 0, .int .u8 0, .int .u8 0, .int .u8 0, .int .u8 0, .int .u8 0, .int .u8 0, .int .u8 0, .int .u8 0, .int .u8 0, .int .u8 0, .int .u8 0, .int .u8 0, .int .u8 0, .int .u8 0, .int .u8 0, .int .u8 0, .int .u8 0, .int .u8 0, .int .u8 0, .int .u8 0, .int .u8 0, .int .u8 0, .int .u8 0, .int .u8 0, .int .u8 0, .int .u8 0, .int .u8 0, .int .u8 0, .int .u8 0, .int .u8 0, .int .u8 0, .int .u8 0, .int .u8 0, .int .u8 0, .int .u8 0, .int .u8 0, .int .u8 0, .int .u8 0] := by kernel_rfl
theorem sz136 : szT Tryz.prog 136 = some (4, true) := by kernel_rfl
theorem fd136x0 : fldT Tryz.prog 136 0 = some (0, 1, false) := by kernel_rfl
theorem fd136x1 : fldT Tryz.prog 136 1 = some (1, 1, false) := by kernel_rfl
theorem fd136x2 : fldT Tryz.prog 136 2 = some (2, 1, false) := by kernel_rfl
theorem fd136x3 : fldT Tryz.prog 136 3 = some (3, 1, false) := by kernel_rfl
theorem pl136 : placesT Tryz.prog 136 = some [0, 1, 2, 3] := by kernel_rfl
theorem sz137 : szT Tryz.prog 137 = some (4, true) := by kernel_rfl
theorem fd137x0 : fldT Tryz.prog 137 0 = some (0, 1, false) := by kernel_rfl
theorem fd137x1 : fldT Tryz.prog 137 1 = some (1, 1, false) := by kernel_rfl
theorem fd137x2 : fldT Tryz.prog 137 2 = some (2, 1, false) := by kernel_rfl
theorem fd137x3 : fldT Tryz.prog 137 3 = some (3, 1, false) := by kernel_rfl
theorem pl137 : placesT Tryz.prog 137 = some [0, 1, 2, 3] := by kernel_rfl
theorem sz138 : szT Tryz.prog 138 = some (0, true) := by kernel_rfl
theorem sz139 : szT Tryz.prog 139 = some (0, true) := by kernel_rfl
theorem fd139x0 : fldT Tryz.prog 139 0 = some (0, 0, true) := by kernel_rfl
theorem sz140 : szT Tryz.prog 140 = some (0, true) := by kernel_rfl
theorem fd140x0 : fldT Tryz.prog 140 0 = some (0, 0, true) := by kernel_rfl
theorem sz141 : szT Tryz.prog 141 = some (1, false) := by kernel_rfl
theorem it142 : intT Tryz.prog 142 = some .u8 := by kernel_rfl
theorem st142 : strT Tryz.prog 142 = false := by kernel_rfl
theorem sz142 : szT Tryz.prog 142 = some (1, false) := by kernel_rfl
theorem zt142 : zeroT Tryz.prog 142 = some [.int .u8 0] := by kernel_rfl
theorem it143 : intT Tryz.prog 143 = some .u8 := by kernel_rfl
theorem st143 : strT Tryz.prog 143 = false := by kernel_rfl
theorem sz143 : szT Tryz.prog 143 = some (1, false) := by kernel_rfl
theorem zt143 : zeroT Tryz.prog 143 = some [.int .u8 0] := by kernel_rfl
theorem sz144 : szT Tryz.prog 144 = some (1, false) := by kernel_rfl
theorem it145 : intT Tryz.prog 145 = some .i32 := by kernel_rfl
theorem st145 : strT Tryz.prog 145 = false := by kernel_rfl
theorem sz145 : szT Tryz.prog 145 = some (1, false) := by kernel_rfl
theorem zt145 : zeroT Tryz.prog 145 = some [.int .i32 0] := by kernel_rfl
theorem it146 : intT Tryz.prog 146 = some .i32 := by kernel_rfl
theorem st146 : strT Tryz.prog 146 = false := by kernel_rfl
theorem sz146 : szT Tryz.prog 146 = some (1, false) := by kernel_rfl
theorem zt146 : zeroT Tryz.prog 146 = some [.int .i32 0] := by kernel_rfl
theorem sz147 : szT Tryz.prog 147 = some (11, true) := by kernel_rfl
theorem fd147x0 : fldT Tryz.prog 147 0 = some (0, 1, false) := by kernel_rfl
theorem fd147x1 : fldT Tryz.prog 147 1 = some (1, 1, false) := by kernel_rfl
theorem fd147x2 : fldT Tryz.prog 147 2 = some (2, 1, false) := by kernel_rfl
theorem fd147x3 : fldT Tryz.prog 147 3 = some (3, 1, false) := by kernel_rfl
theorem fd147x4 : fldT Tryz.prog 147 4 = some (4, 1, false) := by kernel_rfl
theorem fd147x5 : fldT Tryz.prog 147 5 = some (5, 1, false) := by kernel_rfl
theorem fd147x6 : fldT Tryz.prog 147 6 = some (6, 1, false) := by kernel_rfl
theorem fd147x7 : fldT Tryz.prog 147 7 = some (7, 1, false) := by kernel_rfl
theorem fd147x8 : fldT Tryz.prog 147 8 = some (8, 1, false) := by kernel_rfl
theorem fd147x9 : fldT Tryz.prog 147 9 = some (9, 1, false) := by kernel_rfl
theorem fd147x10 : fldT Tryz.prog 147 10 = some (10, 1, false) := by kernel_rfl
theorem pl147 : placesT Tryz.prog 147 = some [0, 1, 2, 3, 4, 5, 6, 7, 8, 9, 10] := by kernel_rfl
theorem sz148 : szT Tryz.prog 148 = some (11, true) := by kernel_rfl
theorem fd148x0 : fldT Tryz.prog 148 0 = some (0, 1, false) := by kernel_rfl
theorem fd148x1 : fldT Tryz.prog 148 1 = some (1, 1, false) := by kernel_rfl
theorem fd148x2 : fldT Tryz.prog 148 2 = some (2, 1, false) := by kernel_rfl
theorem fd148x3 : fldT Tryz.prog 148 3 = some (3, 1, false) := by kernel_rfl
theorem fd148x4 : fldT Tryz.prog 148 4 = some (4, 1, false) := by kernel_rfl
theorem fd148x5 : fldT Tryz.prog 148 5 = some (5, 1, false) := by kernel_rfl
theorem fd148x6 : fldT Tryz.prog 148 6 = some (6, 1, false) := by kernel_rfl
theorem fd148x7 : fldT Tryz.prog 148 7 = some (7, 1, false) := by kernel_rfl
theorem fd148x8 : fldT Tryz.prog 148 8 = some (8, 1, false) := by kernel_rfl
theorem fd148x9 : fldT Tryz.prog 148 9 = some (9, 1, false) := by kernel_rfl
theorem fd148x10 : fldT Tryz.prog 148 10 = some (10, 1, false) := by kernel_rfl
theorem pl148 : placesT Tryz.prog 148 = some [0, 1, 2, 3, 4, 5, 6, 7, 8, 9, 10] := by kernel_rfl
attribute [go_sem] sg0_eq wayE_sg0 wayN_sg0 wayS_sg0 wayZ_sg0 sz1 it2 st2 sz2 zt2 it3 st3 sz3 zt3 bo4 sz4 zt4
attribute [go_sem] it5 st5 sz5 zt5 it6 st6 sz6 zt6 sz7 zt7 fd7x0 fd7x1
attribute [go_sem] fd7x2 fd7x3 pl7 sz8 zt8 fd8x0 fd8x1 fd8x2 fd8x3 pl8 st9 sz9
attribute [go_sem] zt9 st10 sz10 zt10 st11 sz11 zt11 it12 st12 sz12 zt12 sz13
attribute [go_sem] zt13 fd13x0 fd13x1 pl13 sz14 zt14 fd14x0 fd14x1 pl14 sz15 sz16 sz17
attribute [go_sem] sz18 fd18x0 pl18 sz19 fd19x0 pl19 it21 st21 sz21 zt21 sl22 us22
attribute [go_sem] st22 sz22 zt22 sz23 sz24 sz25 sz26 sz27 sz28 sz29 sl30 us30
attribute [go_sem] st30 sz30 zt30 sz31 sz32 sz33 sz35 sz36 sl37 us37 st37 sz37
attribute [go_sem] zt37 sz38 sz39 sz40 sz41 sl42 us42 st42 sz42 zt42 sz43 sz44
attribute [go_sem] sz45 sz46 sz47 sz48 sz49 sz50 sz51 sl52 us52 st52 sz52 zt52
attribute [go_sem] sz53 sz54 sz55 sz56 sz57 sz58 sz59 sz60 sz61 sz62 sz63 zt63
attribute [go_sem] fd63x0 fd63x1 pl63 st64 sz64 zt64 sz65 sz66 sz67 fd67x0 fd67x1 pl67
attribute [go_sem] sz68 fd68x0 fd68x1 pl68 sz69 sz73 sz74 sz75 sz76 zt76 fd76x0 fd76x1
attribute [go_sem] fd76x2 pl76 sz77 zt77 fd77x0 fd77x1 fd77x2 pl77 sz78 sz79 sz80 sz82
attribute [go_sem] sz83 sz84 sz85 sz86 it87 st87 sz87 zt87 sz88 sz89 sz90 sz91
attribute [go_sem] sz92 sz94 sz95 sz96 sz97 sz98 sz99 sz100 sz101 sl102 us102 st102
attribute [go_sem] sz102 zt102 sz103 sz104 sz105 sz106 sz108 sz109 sz110 sz111 sz112 pl112
attribute [go_sem] zt112 it113 st113 sz113 zt113 sz114 sz115 sz117 sz118 sz119 sz121 sz122
attribute [go_sem] sz123 pl123 zt123 it124 st124 sz124 zt124 sz126 sz127 sz129 zt129 fd129x0
attribute [go_sem] fd129x1 pl129 sz130 zt130 fd130x0 fd130x1 pl130 sz131 sz133 sz134 pl134 zt134
attribute [go_sem] sz135 pl135 zt135 sz136 fd136x0 fd136x1 fd136x2 fd136x3 pl136 sz137 fd137x0 fd137x1
attribute [go_sem] fd137x2 fd137x3 pl137 sz138 sz139 fd139x0 sz140 fd140x0 sz141 it142 st142 sz142
attribute [go_sem] zt142 it143 st143 sz143 zt143 sz144 it145 st145 sz145 zt145 it146 st146
attribute [go_sem] sz146 zt146 sz147 fd147x0 fd147x1 fd147x2 fd147x3 fd147x4 fd147x5 fd147x6 fd147x7 fd147x8
attribute [go_sem] fd147x9 fd147x10 pl147 sz148 fd148x0 fd148x1 fd148x2 fd148x3 fd148x4 fd148x5 fd148x6 fd148x7
attribute [go_sem] fd148x8 fd148x9 fd148x10 pl148
end Go.Gl
