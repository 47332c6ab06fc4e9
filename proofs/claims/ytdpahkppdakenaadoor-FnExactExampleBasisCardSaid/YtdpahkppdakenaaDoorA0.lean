/-
  The common ground of the contracts of this program's functions. Conditions: none.
-/
import Derived.Test.YtdpahkppdakenaaDoorGlC
import Derived.Test.YtdpahkppdakenaaDoorChecked
namespace Go.Gl
open Go Go.Proofs
def sg0 : FuncId → List Bool := fun _ => []
theorem sg0_eq {f : FuncId} : sg0 f = [] := rfl
theorem wayE_sg0 : wayE sg0 = false := _root_.id rfl
theorem wayN_sg0 : wayN sg0 = false := _root_.id rfl
theorem wayS_sg0 : wayS sg0 = false := _root_.id rfl
theorem wayZ_sg0 : wayZ sg0 = false := _root_.id rfl
theorem mo : Tryd.prog.follows .mixedOrders = true := Tryd.checked.mixed
theorem sz1 : szT Tryd.prog 1 = some (1, false) := by kernel_rfl
theorem it2 : intT Tryd.prog 2 = some .i64 := by kernel_rfl
theorem st2 : strT Tryd.prog 2 = false := by kernel_rfl
theorem sz2 : szT Tryd.prog 2 = some (1, false) := by kernel_rfl
theorem zt2 : zeroT Tryd.prog 2 = some [.int .i64 0] := by kernel_rfl
theorem it3 : intT Tryd.prog 3 = some .i64 := by kernel_rfl
theorem st3 : strT Tryd.prog 3 = false := by kernel_rfl
theorem sz3 : szT Tryd.prog 3 = some (1, false) := by kernel_rfl
theorem zt3 : zeroT Tryd.prog 3 = some [.int .i64 0] := by kernel_rfl
theorem bo4 : boolT Tryd.prog 4 = true := by kernel_rfl
theorem sz4 : szT Tryd.prog 4 = some (1, false) := by kernel_rfl
theorem zt4 : zeroT Tryd.prog 4 = some [.bool false] := by kernel_rfl
theorem it5 : intT Tryd.prog 5 = some .u8 := by kernel_rfl
theorem st5 : strT Tryd.prog 5 = false := by kernel_rfl
theorem sz5 : szT Tryd.prog 5 = some (1, false) := by kernel_rfl
theorem zt5 : zeroT Tryd.prog 5 = some [.int .u8 0] := by kernel_rfl
theorem it6 : intT Tryd.prog 6 = some .u8 := by kernel_rfl
theorem st6 : strT Tryd.prog 6 = false := by kernel_rfl
theorem sz6 : szT Tryd.prog 6 = some (1, false) := by kernel_rfl
theorem zt6 : zeroT Tryd.prog 6 = some [.int .u8 0] := by kernel_rfl
theorem sz7 : szT Tryd.prog 7 = some (4, true) := by kernel_rfl
theorem zt7 : zeroT Tryd.prog 7 = some [.int .i64 0, .int .i64 0, .bool false, .int .u8 0] := by kernel_rfl
theorem fd7x0 : fldT Tryd.prog 7 0 = some (0, 1, false) := by kernel_rfl
theorem fd7x1 : fldT Tryd.prog 7 1 = some (1, 1, false) := by kernel_rfl
theorem fd7x2 : fldT Tryd.prog 7 2 = some (2, 1, false) := by kernel_rfl
theorem fd7x3 : fldT Tryd.prog 7 3 = some (3, 1, false) := by kernel_rfl
theorem pl7 : placesT Tryd.prog 7 = some [0, 1, 2, 3] := by kernel_rfl
theorem sz8 : szT Tryd.prog 8 = some (4, true) := by kernel_rfl
theorem zt8 : zeroT Tryd.prog 8 = some [.int .i64 0, .int .i64 0, .bool false, .int .u8 0] := by kernel_rfl
theorem fd8x0 : fldT Tryd.prog 8 0 = some (0, 1, false) := by kernel_rfl
theorem fd8x1 : fldT Tryd.prog 8 1 = some (1, 1, false) := by kernel_rfl
theorem fd8x2 : fldT Tryd.prog 8 2 = some (2, 1, false) := by kernel_rfl
theorem fd8x3 : fldT Tryd.prog 8 3 = some (3, 1, false) := by kernel_rfl
theorem pl8 : placesT Tryd.prog 8 = some [0, 1, 2, 3] := by kernel_rfl
theorem st9 : strT Tryd.prog 9 = true := by kernel_rfl
theorem sz9 : szT Tryd.prog 9 = some (1, false) := by kernel_rfl
theorem zt9 : zeroT Tryd.prog 9 = some [.str []] := by kernel_rfl
theorem st10 : strT Tryd.prog 10 = true := by kernel_rfl
theorem sz10 : szT Tryd.prog 10 = some (1, false) := by kernel_rfl
theorem zt10 : zeroT Tryd.prog 10 = some [.str []] := by kernel_rfl
theorem st11 : strT Tryd.prog 11 = true := by kernel_rfl
theorem sz11 : szT Tryd.prog 11 = some (1, false) := by kernel_rfl
theorem zt11 : zeroT Tryd.prog 11 = some [.str []] := by kernel_rfl
theorem it12 : intT Tryd.prog 12 = some .u64 := by kernel_rfl
theorem st12 : strT Tryd.prog 12 = false := by kernel_rfl
theorem sz12 : szT Tryd.prog 12 = some (1, false) := by kernel_rfl
theorem zt12 : zeroT Tryd.prog 12 = some [.int .u64 0] := by kernel_rfl
theorem sz13 : szT Tryd.prog 13 = some (2, true) := by kernel_rfl
theorem zt13 : zeroT Tryd.prog 13 = some [.str [], .int .u64 0] := by kernel_rfl
theorem fd13x0 : fldT Tryd.prog 13 0 = some (0, 1, false) := by kernel_rfl
theorem fd13x1 : fldT Tryd.prog 13 1 = some (1, 1, false) := by kernel_rfl
theorem pl13 : placesT Tryd.prog 13 = some [0, 1] := by kernel_rfl
theorem sz14 : szT Tryd.prog 14 = some (2, true) := by kernel_rfl
theorem zt14 : zeroT Tryd.prog 14 = some [.str [], .int .u64 0] := by kernel_rfl
theorem fd14x0 : fldT Tryd.prog 14 0 = some (0, 1, false) := by kernel_rfl
theorem fd14x1 : fldT Tryd.prog 14 1 = some (1, 1, false) := by kernel_rfl
theorem pl14 : placesT Tryd.prog 14 = some [0, 1] := by kernel_rfl
theorem sz15 : szT Tryd.prog 15 = some (1, false) := by kernel_rfl
theorem sz16 : szT Tryd.prog 16 = some (1, false) := by kernel_rfl
theorem sz17 : szT Tryd.prog 17 = some (1, false) := by kernel_rfl
theorem sz18 : szT Tryd.prog 18 = some (1, true) := by kernel_rfl
theorem fd18x0 : fldT Tryd.prog 18 0 = some (0, 1, false) := by kernel_rfl
theorem pl18 : placesT Tryd.prog 18 = some [0] := by kernel_rfl
theorem sz19 : szT Tryd.prog 19 = some (1, true) := by kernel_rfl
theorem fd19x0 : fldT Tryd.prog 19 0 = some (0, 1, false) := by kernel_rfl
theorem pl19 : placesT Tryd.prog 19 = some [0] := by kernel_rfl
theorem it21 : intT Tryd.prog 21 = some .i32 := by kernel_rfl
theorem st21 : strT Tryd.prog 21 = false := by kernel_rfl
theorem sz21 : szT Tryd.prog 21 = some (1, false) := by kernel_rfl
theorem zt21 : zeroT Tryd.prog 21 = some [.int .i32 0] := by kernel_rfl
theorem sl22 : slT Tryd.prog 22 = some (24, .sl (.lent false) []) := by kernel_rfl
theorem us22 : u8T Tryd.prog 22 = false := by kernel_rfl
theorem st22 : strT Tryd.prog 22 = false := by kernel_rfl
theorem sz22 : szT Tryd.prog 22 = some (1, false) := by kernel_rfl
theorem zt22 : zeroT Tryd.prog 22 = some [.sl (.lent false) []] := by kernel_rfl
theorem sz24 : szT Tryd.prog 24 = some (1, false) := by kernel_rfl
theorem sz25 : szT Tryd.prog 25 = some (1, false) := by kernel_rfl
theorem sz26 : szT Tryd.prog 26 = some (1, false) := by kernel_rfl
theorem sz27 : szT Tryd.prog 27 = some (1, false) := by kernel_rfl
theorem sl28 : slT Tryd.prog 28 = some (8, .int .i64 0) := by kernel_rfl
theorem us28 : u8T Tryd.prog 28 = false := by kernel_rfl
theorem st28 : strT Tryd.prog 28 = false := by kernel_rfl
theorem sz28 : szT Tryd.prog 28 = some (1, false) := by kernel_rfl
theorem zt28 : zeroT Tryd.prog 28 = some [.sl (.lent false) []] := by kernel_rfl
theorem sz29 : szT Tryd.prog 29 = some (3, true) := by kernel_rfl
theorem zt29 : zeroT Tryd.prog 29 = some [.sl (.lent false) [], .sl (.lent false) [], .sl (.lent false) []] := by kernel_rfl
theorem fd29x0 : fldT Tryd.prog 29 0 = some (0, 1, false) := by kernel_rfl
theorem fd29x1 : fldT Tryd.prog 29 1 = some (1, 1, false) := by kernel_rfl
theorem fd29x2 : fldT Tryd.prog 29 2 = some (2, 1, false) := by kernel_rfl
theorem pl29 : placesT Tryd.prog 29 = some [0, 1, 2] := by kernel_rfl
theorem sz30 : szT Tryd.prog 30 = some (3, true) := by kernel_rfl
theorem zt30 : zeroT Tryd.prog 30 = some [.sl (.lent false) [], .sl (.lent false) [], .sl (.lent false) []] := by kernel_rfl
theorem fd30x0 : fldT Tryd.prog 30 0 = some (0, 1, false) := by kernel_rfl
theorem fd30x1 : fldT Tryd.prog 30 1 = some (1, 1, false) := by kernel_rfl
theorem fd30x2 : fldT Tryd.prog 30 2 = some (2, 1, false) := by kernel_rfl
theorem pl30 : placesT Tryd.prog 30 = some [0, 1, 2] := by kernel_rfl
theorem sz31 : szT Tryd.prog 31 = some (1, false) := by kernel_rfl
theorem sz32 : szT Tryd.prog 32 = some (1, false) := by kernel_rfl
theorem sz33 : szT Tryd.prog 33 = some (1, false) := by kernel_rfl
theorem sz34 : szT Tryd.prog 34 = some (1, false) := by kernel_rfl
theorem sz35 : szT Tryd.prog 35 = some (1, false) := by kernel_rfl
theorem sz36 : szT Tryd.prog 36 = some (1, false) := by kernel_rfl
theorem sz37 : szT Tryd.prog 37 = some (1, false) := by kernel_rfl
theorem sz38 : szT Tryd.prog 38 = some (1, false) := by kernel_rfl
theorem sz39 : szT Tryd.prog 39 = some (1, false) := by kernel_rfl
theorem sz40 : szT Tryd.prog 40 = some (1, false) := by kernel_rfl
theorem sz41 : szT Tryd.prog 41 = some (1, false) := by kernel_rfl
theorem sz43 : szT Tryd.prog 43 = some (1, false) := by kernel_rfl
theorem sz44 : szT Tryd.prog 44 = some (1, false) := by kernel_rfl
theorem sl45 : slT Tryd.prog 45 = some (16, .str []) := by kernel_rfl
theorem us45 : u8T Tryd.prog 45 = false := by kernel_rfl
theorem st45 : strT Tryd.prog 45 = false := by kernel_rfl
theorem sz45 : szT Tryd.prog 45 = some (1, false) := by kernel_rfl
theorem zt45 : zeroT Tryd.prog 45 = some [.sl (.lent false) []] := by kernel_rfl
theorem sz46 : szT Tryd.prog 46 = some (1, false) := by kernel_rfl
theorem sz48 : szT Tryd.prog 48 = some (1, false) := by kernel_rfl
theorem sz49 : szT Tryd.prog 49 = some (1, false) := by kernel_rfl
theorem sz50 : szT Tryd.prog 50 = some (1, false) := by kernel_rfl
theorem sz52 : szT Tryd.prog 52 = some (1, false) := by kernel_rfl
theorem sz53 : szT Tryd.prog 53 = some (1, false) := by kernel_rfl
theorem sz54 : szT Tryd.prog 54 = some (1, false) := by kernel_rfl
theorem sz55 : szT Tryd.prog 55 = some (1, false) := by kernel_rfl
theorem sz56 : szT Tryd.prog 56 = some (1, false) := by kernel_rfl
theorem sz57 : szT Tryd.prog 57 = some (1, false) := by kernel_rfl
theorem sz58 : szT Tryd.prog 58 = some (1, false) := by kernel_rfl
theorem sz59 : szT Tryd.prog 59 = some (1, false) := by kernel_rfl
theorem sz61 : szT Tryd.prog 61 = some (1, false) := by kernel_rfl
theorem sl62 : slT Tryd.prog 62 = some (1, .int .u8 0) := by kernel_rfl
theorem us62 : u8T Tryd.prog 62 = true := by kernel_rfl
theorem st62 : strT Tryd.prog 62 = false := by kernel_rfl
theorem sz62 : szT Tryd.prog 62 = some (1, false) := by kernel_rfl
theorem zt62 : zeroT Tryd.prog 62 = some [.sl (.lent false) []] := by kernel_rfl
theorem sz63 : szT Tryd.prog 63 = some (1, false) := by kernel_rfl
theorem sz64 : szT Tryd.prog 64 = some (2, true) := by kernel_rfl
theorem fd64x0 : fldT Tryd.prog 64 0 = some (0, 1, false) := by kernel_rfl
theorem fd64x1 : fldT Tryd.prog 64 1 = some (1, 1, false) := by kernel_rfl
theorem pl64 : placesT Tryd.prog 64 = some [0, 1] := by kernel_rfl
theorem sz65 : szT Tryd.prog 65 = some (2, true) := by kernel_rfl
theorem fd65x0 : fldT Tryd.prog 65 0 = some (0, 1, false) := by kernel_rfl
theorem fd65x1 : fldT Tryd.prog 65 1 = some (1, 1, false) := by kernel_rfl
theorem pl65 : placesT Tryd.prog 65 = some [0, 1] := by kernel_rfl
theorem sz66 : szT Tryd.prog 66 = some (1, false) := by kernel_rfl
theorem sz70 : szT Tryd.prog 70 = some (1, false) := by kernel_rfl
theorem sz71 : szT Tryd.prog 71 = some (1, false) := by kernel_rfl
theorem sz72 : szT Tryd.prog 72 = some (1, false) := by kernel_rfl
theorem sz73 : szT Tryd.prog 73 = some (1, false) := by kernel_rfl
theorem sz74 : szT Tryd.prog 74 = some (1, false) := by kernel_rfl
theorem sz75 : szT Tryd.prog 75 = some (1, false) := by kernel_rfl
theorem sz76 : szT Tryd.prog 76 = some (1, false) := by kernel_rfl
theorem sl77 : slT Tryd.prog 77 = some (1, .bool false) := by kernel_rfl
theorem us77 : u8T Tryd.prog 77 = false := by kernel_rfl
theorem st77 : strT Tryd.prog 77 = false := by kernel_rfl
theorem sz77 : szT Tryd.prog 77 = some (1, false) := by kernel_rfl
theorem zt77 : zeroT Tryd.prog 77 = some [.sl (.lent false) []] := by kernel_rfl
theorem sz78 : szT Tryd.prog 78 = some (1, false) := by kernel_rfl
theorem sz79 : szT Tryd.prog 79 = some (1, false) := by kernel_rfl
theorem sz81 : szT Tryd.prog 81 = some (1, false) := by kernel_rfl
theorem sz82 : szT Tryd.prog 82 = some (1, false) := by kernel_rfl
theorem sz84 : szT Tryd.prog 84 = some (1, false) := by kernel_rfl
theorem sz85 : szT Tryd.prog 85 = some (1, false) := by kernel_rfl
theorem sz86 : szT Tryd.prog 86 = some (1, false) := by kernel_rfl
theorem it87 : intT Tryd.prog 87 = some .u64 := by kernel_rfl
theorem st87 : strT Tryd.prog 87 = false := by kernel_rfl
theorem sz87 : szT Tryd.prog 87 = some (1, false) := by kernel_rfl
theorem zt87 : zeroT Tryd.prog 87 = some [.int .u64 0] := by kernel_rfl
theorem sz88 : szT Tryd.prog 88 = some (1, false) := by kernel_rfl
theorem sz90 : szT Tryd.prog 90 = some (2, true) := by kernel_rfl
theorem zt90 : zeroT Tryd.prog 90 = some [.int .u8 0, .int .u8 0] := by kernel_rfl
theorem fd90x0 : fldT Tryd.prog 90 0 = some (0, 1, false) := by kernel_rfl
theorem fd90x1 : fldT Tryd.prog 90 1 = some (1, 1, false) := by kernel_rfl
theorem pl90 : placesT Tryd.prog 90 = some [0, 1] := by kernel_rfl
theorem sz91 : szT Tryd.prog 91 = some (2, true) := by kernel_rfl
theorem zt91 : zeroT Tryd.prog 91 = some [.int .u8 0, .int .u8 0] := by kernel_rfl
theorem fd91x0 : fldT Tryd.prog 91 0 = some (0, 1, false) := by kernel_rfl
theorem fd91x1 : fldT Tryd.prog 91 1 = some (1, 1, false) := by kernel_rfl
theorem pl91 : placesT Tryd.prog 91 = some [0, 1] := by kernel_rfl
theorem sz92 : szT Tryd.prog 92 = some (32, true) := by kernel_rfl
theorem it93 : intT Tryd.prog 93 = some .u32 := by kernel_rfl
theorem st93 : strT Tryd.prog 93 = false := by kernel_rfl
theorem sz93 : szT Tryd.prog 93 = some (1, false) := by kernel_rfl
theorem zt93 : zeroT Tryd.prog 93 = some [.int .u32 0] := by kernel_rfl
theorem sz95 : szT Tryd.prog 95 = some (1, false) := by kernel_rfl
theorem sz96 : szT Tryd.prog 96 = some (24, true) := by kernel_rfl
theorem pl96 : placesT Tryd.prog 96 = some [0, 1, 2, 3, 4, 5, 6, 7, 8, 9, 10, 11, 12, 13, 14, 15, 16, 17, 18, 19, 20, 21, 22, 23] := by kernel_rfl
theorem zt96 : zeroT Tryd.prog 96 = some [.int .u8 0, .int .u8 0, .int .u8 0, .int .u8 0, .int .u8 0, .int .u8 0, .int .u8 0, .int .u8 0, .int .u8 0, .int .u8 0, .int .u8 0, .int .u8 0, .int .u8 0, .int .u8 0, .int .u8 0, .int .u8 0, .int .u8 0, .int .u8 0, .int .u8 0, .int .u8 0, .int .u8 0, .int .u8 0, .int .u8 0, .int .u8 0] := by kernel_rfl
theorem it97 : intT Tryd.prog 97 = some .u64 := by kernel_rfl
theorem st97 : strT Tryd.prog 97 = false := by kernel_rfl
theorem sz97 : szT Tryd.prog 97 = some (1, false) := by kernel_rfl
theorem zt97 : zeroT Tryd.prog 97 = some [.int .u64 0] := by kernel_rfl
theorem sz98 : szT Tryd.prog 98 = some (1, false) := by kernel_rfl
theorem sz99 : szT Tryd.prog 99 = some (1, false) := by kernel_rfl
theorem sz101 : szT Tryd.prog 101 = some (1, false) := by kernel_rfl
theorem sz102 : szT Tryd.prog 102 = some (1, false) := by kernel_rfl
theorem sz103 : szT Tryd.prog 103 = some (20, true) := by kernel_rfl
theorem pl103 : placesT Tryd.prog 103 = some [0, 1, 2, 3, 4, 5, 6, 7, 8, 9, 10, 11, 12, 13, 14, 15, 16, 17, 18, 19] := by kernel_rfl
theorem zt103 : zeroT Tryd.prog 103 = some [.int .u64 0, .int .u64 0, .int .u64 0, .int .u64 0, .int .u64 0, .int .u64 0, .int .u64 0, .int .u64 0, .int .u64 0, .int .u64 0, .int .u64 0, .int .u64 0, .int .u64 0, .int .u64 0, .int .u64 0, .int .u64 0, .int .u64 0, .int .u64 0, .int .u64 0, .int .u64 0] := by kernel_rfl
theorem sz105 : szT Tryd.prog 105 = some (1, false) := by kernel_rfl
theorem sz106 : szT Tryd.prog 106 = some (1, false) := by kernel_rfl
theorem sz107 : szT Tryd.prog 107 = some (32, true) := by kernel_rfl
theorem pl107 : placesT Tryd.prog 107 = some [0, 1, 2, 3, 4, 5, 6, 7, 8, 9, 10, 11, 12, 13, 14, 15, 16, 17, 18, 19, 20, 21, 22, 23, 24, 25, 26, 27, 28, 29, 30, 31] := by kernel_rfl
theorem zt107 : zeroT Tryd.prog 107 = some [.int .u8 0, .int .u8 0, .int .u8 0, .int .u8 0, .int .u8 0, .int .u8 0, .int .u8 0, .int .u8 0, .int .u8 0, .int .u8 0, .int .u8 0, .int .u8 0, .int .u8 0, .int .u8 0, .int .u8 0, .int .u8 0, .int .u8 0, .int .u8 0, .int .u8 0, .int .u8 0, .int .u8 0, .int .u8 0, .int .u8 0, .int .u8 0, .int .u8 0, .int .u8 0, .int .u8 0, .int .u8 0, .int .u8 0, .int .u8 0, .int .u8 0, .int .u8 0] := by kernel_rfl
theorem sz108 : szT Tryd.prog 108 = some (64, true) := by kernel_rfl
theorem pl108 : placesT Tryd.prog 108 = some [0, 1, 2, 3, 4, 5, 6, 7, 8, 9, 10, 11, 12, 13, 14, 15, 16, 17, 18, 19, 20, 21, 22, 23, 24, 25, 26, 27, 28, 29, 30, 31, 32, 33, 34, 35, 36, 37, 38, 39, 40, 41, 42, 43, 44, 45, 46, 47, 48, 49, 50, 51, 52, 53, 54, 55, 56, 57, 58, 59, 60, 61, 62, 63] := by kernel_rfl
theorem zt108 : zeroT Tryd.prog 108 = some [.int .u8 0, .int .u8 0, .int .u8 0, .int .u8 0, .int .u8 0, .int .u8 0, .int .u8 0, .int .u8 0, .int .u8 0, .int .u8 0, .int .u8 0, .int .u8 0, .int .u8 0, .int .u8 0, .int .u8 0, .int .u8 0, .int .u8 0, .int .u8 0, .int .u8 0, .int .u8 0, .int .u8 0, .int .u8 0, .int .u8 0, .int .u8 0, .int .u8 0, .int .u8 0, .int .u8 0, .int .u8 0, .int .u8 0, .int .u8 0, .int .u8 0, .int .u8 0, .int .u8 0, .int .u8 0, .int .u8 0, .int .u8 0, .int .u8 0, .int .u8 0, .int .u8 0, .int .u8 0, .int .u8 0, .int .u8 0, .int .u8 0, .int .u8 0, .int .u8 0, .int .u8 0, .int .u8 0, .int .u8 0, .int .u8 0, .int .u8 0, .int .u8 0, .int .u8 0, .int .u8 0, .int .u8 0, .int .u8 0, .int .u8 0, .int .u8 0, .int .u8 0, .int .u8 0, .int .u8 0, .int .u8 0, .int .u8 0, .int .u8 0, .int .u8 0] := by kernel_rfl
theorem sz109 : szT Tryd.prog 109 = some (4, true) := by kernel_rfl
theorem fd109x0 : fldT Tryd.prog 109 0 = some (0, 1, false) := by kernel_rfl
theorem fd109x1 : fldT Tryd.prog 109 1 = some (1, 1, false) := by kernel_rfl
theorem fd109x2 : fldT Tryd.prog 109 2 = some (2, 1, false) := by kernel_rfl
theorem fd109x3 : fldT Tryd.prog 109 3 = some (3, 1, false) := by kernel_rfl
theorem pl109 : placesT Tryd.prog 109 = some [0, 1, 2, 3] := by kernel_rfl
theorem sz110 : szT Tryd.prog 110 = some (4, true) := by kernel_rfl
theorem fd110x0 : fldT Tryd.prog 110 0 = some (0, 1, false) := by kernel_rfl
theorem fd110x1 : fldT Tryd.prog 110 1 = some (1, 1, false) := by kernel_rfl
theorem fd110x2 : fldT Tryd.prog 110 2 = some (2, 1, false) := by kernel_rfl
theorem fd110x3 : fldT Tryd.prog 110 3 = some (3, 1, false) := by kernel_rfl
theorem pl110 : placesT Tryd.prog 110 = some [0, 1, 2, 3] := by kernel_rfl
theorem sz111 : szT Tryd.prog 111 = some (0, true) := by kernel_rfl
theorem sz112 : szT Tryd.prog 112 = some (0, true) := by kernel_rfl
theorem fd112x0 : fldT Tryd.prog 112 0 = some (0, 0, true) := by kernel_rfl
theorem sz113 : szT Tryd.prog 113 = some (0, true) := by kernel_rfl
theorem fd113x0 : fldT Tryd.prog 113 0 = some (0, 0, true) := by kernel_rfl
theorem sz114 : szT Tryd.prog 114 = some (1, false) := by kernel_rfl
theorem it115 : intT Tryd.prog 115 = some .u8 := by kernel_rfl
theorem st115 : strT Tryd.prog 115 = false := by kernel_rfl
theorem sz115 : szT Tryd.prog 115 = some (1, false) := by kernel_rfl
theorem zt115 : zeroT Tryd.prog 115 = some [.int .u8 0] := by kernel_rfl
theorem it116 : intT Tryd.prog 116 = some .u8 := by kernel_rfl
theorem st116 : strT Tryd.prog 116 = false := by kernel_rfl
theorem sz116 : szT Tryd.prog 116 = some (1, false) := by kernel_rfl
theorem zt116 : zeroT Tryd.prog 116 = some [.int .u8 0] := by kernel_rfl
theorem sz117 : szT Tryd.prog 117 = some (1, false) := by kernel_rfl
theorem it118 : intT Tryd.prog 118 = some .i32 := by kernel_rfl
theorem st118 : strT Tryd.prog 118 = false := by kernel_rfl
theorem sz118 : szT Tryd.prog 118 = some (1, false) := by kernel_rfl
theorem zt118 : zeroT Tryd.prog 118 = some [.int .i32 0] := by kernel_rfl
theorem it119 : intT Tryd.prog 119 = some .i32 := by kernel_rfl
theorem st119 : strT Tryd.prog 119 = false := by kernel_rfl
theorem sz119 : szT Tryd.prog 119 = some (1, false) := by kernel_rfl
theorem zt119 : zeroT Tryd.prog 119 = some [.int .i32 0] := by kernel_rfl
theorem sz120 : szT Tryd.prog 120 = some (11, true) := by kernel_rfl
theorem fd120x0 : fldT Tryd.prog 120 0 = some (0, 1, false) := by kernel_rfl
theorem fd120x1 : fldT Tryd.prog 120 1 = some (1, 1, false) := by kernel_rfl
theorem fd120x2 : fldT Tryd.prog 120 2 = some (2, 1, false) := by kernel_rfl
theorem fd120x3 : fldT Tryd.prog 120 3 = some (3, 1, false) := by kernel_rfl
theorem fd120x4 : fldT Tryd.prog 120 4 = some (4, 1, false) := by kernel_rfl
theorem fd120x5 : fldT Tryd.prog 120 5 = some (5, 1, false) := by kernel_rfl
theorem fd120x6 : fldT Tryd.prog 120 6 = some (6, 1, false) := by kernel_rfl
theorem fd120x7 : fldT Tryd.prog 120 7 = some (7, 1, false) := by kernel_rfl
theorem fd120x8 : fldT Tryd.prog 120 8 = some (8, 1, false) := by kernel_rfl
theorem fd120x9 : fldT Tryd.prog 120 9 = some (9, 1, false) := by kernel_rfl
theorem fd120x10 : fldT Tryd.prog 120 10 = some (10, 1, false) := by kernel_rfl
theorem pl120 : placesT Tryd.prog 120 = some [0, 1, 2, 3, 4, 5, 6, 7, 8, 9, 10] := by kernel_rfl
theorem sz121 : szT Tryd.prog 121 = some (11, true) := by kernel_rfl
theorem fd121x0 : fldT Tryd.prog 121 0 = some (0, 1, false) := by kernel_rfl
theorem fd121x1 : fldT Tryd.prog 121 1 = some (1, 1, false) := by kernel_rfl
theorem fd121x2 : fldT Tryd.prog 121 2 = some (2, 1, false) := by kernel_rfl
theorem fd121x3 : fldT Tryd.prog 121 3 = some (3, 1, false) := by kernel_rfl
theorem fd121x4 : fldT Tryd.prog 121 4 = some (4, 1, false) := by kernel_rfl
theorem fd121x5 : fldT Tryd.prog 121 5 = some (5, 1, false) := by kernel_rfl
theorem fd121x6 : fldT Tryd.prog 121 6 = some (6, 1, false) := by kernel_rfl
theorem fd121x7 : fldT Tryd.prog 121 7 = some (7, 1, false) := by kernel_rfl
theorem fd121x8 : fldT Tryd.prog 121 8 = some (8, 1, false) := by kernel_rfl
theorem fd121x9 : fldT Tryd.prog 121 9 = some (9, 1, false) := by kernel_rfl
theorem fd121x10 : fldT Tryd.prog 121 10 = some (10, 1, false) := by kernel_rfl
theorem pl121 : placesT Tryd.prog 121 = some [0, 1, 2, 3, 4, 5, 6, 7, 8, 9, 10] := by kernel_rfl
attribute [go_sem] sg0_eq wayE_sg0 wayN_sg0 wayS_sg0 wayZ_sg0 sz1 it2 st2 sz2 zt2 it3 st3 sz3 zt3 bo4 sz4 zt4
attribute [go_sem] it5 st5 sz5 zt5 it6 st6 sz6 zt6 sz7 zt7 fd7x0 fd7x1
attribute [go_sem] fd7x2 fd7x3 pl7 sz8 zt8 fd8x0 fd8x1 fd8x2 fd8x3 pl8 st9 sz9
attribute [go_sem] zt9 st10 sz10 zt10 st11 sz11 zt11 it12 st12 sz12 zt12 sz13
attribute [go_sem] zt13 fd13x0 fd13x1 pl13 sz14 zt14 fd14x0 fd14x1 pl14 sz15 sz16 sz17
attribute [go_sem] sz18 fd18x0 pl18 sz19 fd19x0 pl19 it21 st21 sz21 zt21 sl22 us22
attribute [go_sem] st22 sz22 zt22 sz24 sz25 sz26 sz27 sl28 us28 st28 sz28 zt28
attribute [go_sem] sz29 zt29 fd29x0 fd29x1 fd29x2 pl29 sz30 zt30 fd30x0 fd30x1 fd30x2 pl30
attribute [go_sem] sz31 sz32 sz33 sz34 sz35 sz36 sz37 sz38 sz39 sz40 sz41 sz43
attribute [go_sem] sz44 sl45 us45 st45 sz45 zt45 sz46 sz48 sz49 sz50 sz52 sz53
attribute [go_sem] sz54 sz55 sz56 sz57 sz58 sz59 sz61 sl62 us62 st62 sz62 zt62
attribute [go_sem] sz63 sz64 fd64x0 fd64x1 pl64 sz65 fd65x0 fd65x1 pl65 sz66 sz70 sz71
attribute [go_sem] sz72 sz73 sz74 sz75 sz76 sl77 us77 st77 sz77 zt77 sz78 sz79
attribute [go_sem] sz81 sz82 sz84 sz85 sz86 it87 st87 sz87 zt87 sz88 sz90 zt90
attribute [go_sem] fd90x0 fd90x1 pl90 sz91 zt91 fd91x0 fd91x1 pl91 sz92 it93 st93 sz93
attribute [go_sem] zt93 sz95 sz96 pl96 zt96 it97 st97 sz97 zt97 sz98 sz99 sz101
attribute [go_sem] sz102 sz103 pl103 zt103 sz105 sz106 sz107 pl107 zt107 sz108 pl108 zt108
attribute [go_sem] sz109 fd109x0 fd109x1 fd109x2 fd109x3 pl109 sz110 fd110x0 fd110x1 fd110x2 fd110x3 pl110
attribute [go_sem] sz111 sz112 fd112x0 sz113 fd113x0 sz114 it115 st115 sz115 zt115 it116 st116
attribute [go_sem] sz116 zt116 sz117 it118 st118 sz118 zt118 it119 st119 sz119 zt119 sz120
attribute [go_sem] fd120x0 fd120x1 fd120x2 fd120x3 fd120x4 fd120x5 fd120x6 fd120x7 fd120x8 fd120x9 fd120x10 pl120
attribute [go_sem] sz121 fd121x0 fd121x1 fd121x2 fd121x3 fd121x4 fd121x5 fd121x6 fd121x7 fd121x8 fd121x9 fd121x10
attribute [go_sem] pl121
end Go.Gl
