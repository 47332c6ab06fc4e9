/-
  The common ground of the contracts of this program's functions. Conditions: none.
-/
import Derived.Test.YtdiiocckeldkfaaGl29
import Derived.Test.YtdiiocckeldkfaaChecked
namespace Go.Gl
open Go Go.Proofs

def sg0 : FuncId → List Bool := fun _ => []
theorem sg0_eq {f : FuncId} : sg0 f = [] := rfl
theorem wayE_sg0 : wayE sg0 = false := _root_.id rfl
theorem mo : Try.prog.follows .mixedOrders = true := Try.checked.mixed

theorem sz1 : szT Try.prog 1 = some (1, false) := by kernel_rfl
theorem it2 : intT Try.prog 2 = some .i64 := by kernel_rfl
theorem st2 : strT Try.prog 2 = false := by kernel_rfl
theorem sz2 : szT Try.prog 2 = some (1, false) := by kernel_rfl
theorem zt2 : zeroT Try.prog 2 = some [.int .i64 0] := by kernel_rfl
theorem it3 : intT Try.prog 3 = some .i64 := by kernel_rfl
theorem st3 : strT Try.prog 3 = false := by kernel_rfl
theorem sz3 : szT Try.prog 3 = some (1, false) := by kernel_rfl
theorem zt3 : zeroT Try.prog 3 = some [.int .i64 0] := by kernel_rfl
theorem bo4 : boolT Try.prog 4 = true := by kernel_rfl
theorem sz4 : szT Try.prog 4 = some (1, false) := by kernel_rfl
theorem zt4 : zeroT Try.prog 4 = some [.bool false] := by kernel_rfl
theorem it5 : intT Try.prog 5 = some .u8 := by kernel_rfl
theorem st5 : strT Try.prog 5 = false := by kernel_rfl
theorem sz5 : szT Try.prog 5 = some (1, false) := by kernel_rfl
theorem zt5 : zeroT Try.prog 5 = some [.int .u8 0] := by kernel_rfl
theorem it6 : intT Try.prog 6 = some .u8 := by kernel_rfl
theorem st6 : strT Try.prog 6 = false := by kernel_rfl
theorem sz6 : szT Try.prog 6 = some (1, false) := by kernel_rfl
theorem zt6 : zeroT Try.prog 6 = some [.int .u8 0] := by kernel_rfl
theorem sz7 : szT Try.prog 7 = some (4, true) := by kernel_rfl
theorem zt7 : zeroT Try.prog 7 = some [.int .i64 0, .int .i64 0, .bool false, .int .u8 0] := by kernel_rfl
theorem fd7x0 : fldT Try.prog 7 0 = some (0, 1, false) := by kernel_rfl
theorem fd7x1 : fldT Try.prog 7 1 = some (1, 1, false) := by kernel_rfl
theorem fd7x2 : fldT Try.prog 7 2 = some (2, 1, false) := by kernel_rfl
theorem fd7x3 : fldT Try.prog 7 3 = some (3, 1, false) := by kernel_rfl
theorem pl7 : placesT Try.prog 7 = some [0, 1, 2, 3] := by kernel_rfl
theorem sz8 : szT Try.prog 8 = some (4, true) := by kernel_rfl
theorem zt8 : zeroT Try.prog 8 = some [.int .i64 0, .int .i64 0, .bool false, .int .u8 0] := by kernel_rfl
theorem fd8x0 : fldT Try.prog 8 0 = some (0, 1, false) := by kernel_rfl
theorem fd8x1 : fldT Try.prog 8 1 = some (1, 1, false) := by kernel_rfl
theorem fd8x2 : fldT Try.prog 8 2 = some (2, 1, false) := by kernel_rfl
theorem fd8x3 : fldT Try.prog 8 3 = some (3, 1, false) := by kernel_rfl
theorem pl8 : placesT Try.prog 8 = some [0, 1, 2, 3] := by kernel_rfl
theorem st9 : strT Try.prog 9 = true := by kernel_rfl
theorem sz9 : szT Try.prog 9 = some (1, false) := by kernel_rfl
theorem zt9 : zeroT Try.prog 9 = some [.str []] := by kernel_rfl
theorem st10 : strT Try.prog 10 = true := by kernel_rfl
theorem sz10 : szT Try.prog 10 = some (1, false) := by kernel_rfl
theorem zt10 : zeroT Try.prog 10 = some [.str []] := by kernel_rfl
theorem st11 : strT Try.prog 11 = true := by kernel_rfl
theorem sz11 : szT Try.prog 11 = some (1, false) := by kernel_rfl
theorem zt11 : zeroT Try.prog 11 = some [.str []] := by kernel_rfl
theorem it12 : intT Try.prog 12 = some .u64 := by kernel_rfl
theorem st12 : strT Try.prog 12 = false := by kernel_rfl
theorem sz12 : szT Try.prog 12 = some (1, false) := by kernel_rfl
theorem zt12 : zeroT Try.prog 12 = some [.int .u64 0] := by kernel_rfl
theorem sz13 : szT Try.prog 13 = some (2, true) := by kernel_rfl
theorem zt13 : zeroT Try.prog 13 = some [.str [], .int .u64 0] := by kernel_rfl
theorem fd13x0 : fldT Try.prog 13 0 = some (0, 1, false) := by kernel_rfl
theorem fd13x1 : fldT Try.prog 13 1 = some (1, 1, false) := by kernel_rfl
theorem pl13 : placesT Try.prog 13 = some [0, 1] := by kernel_rfl
theorem sz14 : szT Try.prog 14 = some (2, true) := by kernel_rfl
theorem zt14 : zeroT Try.prog 14 = some [.str [], .int .u64 0] := by kernel_rfl
theorem fd14x0 : fldT Try.prog 14 0 = some (0, 1, false) := by kernel_rfl
theorem fd14x1 : fldT Try.prog 14 1 = some (1, 1, false) := by kernel_rfl
theorem pl14 : placesT Try.prog 14 = some [0, 1] := by kernel_rfl
theorem sz15 : szT Try.prog 15 = some (1, false) := by kernel_rfl
theorem sz16 : szT Try.prog 16 = some (1, false) := by kernel_rfl
theorem sz17 : szT Try.prog 17 = some (1, false) := by kernel_rfl
theorem sz18 : szT Try.prog 18 = some (1, true) := by kernel_rfl
theorem fd18x0 : fldT Try.prog 18 0 = some (0, 1, false) := by kernel_rfl
theorem pl18 : placesT Try.prog 18 = some [0] := by kernel_rfl
theorem sz19 : szT Try.prog 19 = some (1, true) := by kernel_rfl
theorem fd19x0 : fldT Try.prog 19 0 = some (0, 1, false) := by kernel_rfl
theorem pl19 : placesT Try.prog 19 = some [0] := by kernel_rfl
theorem it21 : intT Try.prog 21 = some .i32 := by kernel_rfl
theorem st21 : strT Try.prog 21 = false := by kernel_rfl
theorem sz21 : szT Try.prog 21 = some (1, false) := by kernel_rfl
theorem zt21 : zeroT Try.prog 21 = some [.int .i32 0] := by kernel_rfl
theorem sl22 : slT Try.prog 22 = some (24, .sl (.lent false) []) := by kernel_rfl
theorem us22 : u8T Try.prog 22 = false := by kernel_rfl
theorem st22 : strT Try.prog 22 = false := by kernel_rfl
theorem sz22 : szT Try.prog 22 = some (1, false) := by kernel_rfl
theorem zt22 : zeroT Try.prog 22 = some [.sl (.lent false) []] := by kernel_rfl
theorem sz23 : szT Try.prog 23 = some (1, false) := by kernel_rfl
theorem sz25 : szT Try.prog 25 = some (1, false) := by kernel_rfl
theorem sz26 : szT Try.prog 26 = some (1, false) := by kernel_rfl
theorem sz27 : szT Try.prog 27 = some (1, false) := by kernel_rfl
theorem sz28 : szT Try.prog 28 = some (1, false) := by kernel_rfl
theorem sl29 : slT Try.prog 29 = some (8, .int .i64 0) := by kernel_rfl
theorem us29 : u8T Try.prog 29 = false := by kernel_rfl
theorem st29 : strT Try.prog 29 = false := by kernel_rfl
theorem sz29 : szT Try.prog 29 = some (1, false) := by kernel_rfl
theorem zt29 : zeroT Try.prog 29 = some [.sl (.lent false) []] := by kernel_rfl
theorem sz30 : szT Try.prog 30 = some (1, false) := by kernel_rfl
theorem sz31 : szT Try.prog 31 = some (1, false) := by kernel_rfl
theorem sz32 : szT Try.prog 32 = some (1, false) := by kernel_rfl
theorem sz34 : szT Try.prog 34 = some (1, false) := by kernel_rfl
theorem sz35 : szT Try.prog 35 = some (1, false) := by kernel_rfl
theorem sz36 : szT Try.prog 36 = some (1, false) := by kernel_rfl
theorem sz37 : szT Try.prog 37 = some (1, false) := by kernel_rfl
theorem sz38 : szT Try.prog 38 = some (1, false) := by kernel_rfl
theorem sz39 : szT Try.prog 39 = some (1, false) := by kernel_rfl
theorem sz41 : szT Try.prog 41 = some (1, false) := by kernel_rfl
theorem sz42 : szT Try.prog 42 = some (1, false) := by kernel_rfl
theorem sz43 : szT Try.prog 43 = some (1, false) := by kernel_rfl
theorem sz44 : szT Try.prog 44 = some (1, false) := by kernel_rfl
theorem sz45 : szT Try.prog 45 = some (1, false) := by kernel_rfl
theorem sz46 : szT Try.prog 46 = some (1, false) := by kernel_rfl
theorem sz47 : szT Try.prog 47 = some (1, false) := by kernel_rfl
theorem sz48 : szT Try.prog 48 = some (1, false) := by kernel_rfl
theorem sz49 : szT Try.prog 49 = some (1, false) := by kernel_rfl
theorem sz50 : szT Try.prog 50 = some (1, false) := by kernel_rfl
theorem sl51 : slT Try.prog 51 = some (16, .str []) := by kernel_rfl
theorem us51 : u8T Try.prog 51 = false := by kernel_rfl
theorem st51 : strT Try.prog 51 = false := by kernel_rfl
theorem sz51 : szT Try.prog 51 = some (1, false) := by kernel_rfl
theorem zt51 : zeroT Try.prog 51 = some [.sl (.lent false) []] := by kernel_rfl
theorem sz52 : szT Try.prog 52 = some (1, false) := by kernel_rfl
theorem sz53 : szT Try.prog 53 = some (1, false) := by kernel_rfl
theorem sz54 : szT Try.prog 54 = some (1, false) := by kernel_rfl
theorem sz55 : szT Try.prog 55 = some (1, false) := by kernel_rfl
theorem sz56 : szT Try.prog 56 = some (1, false) := by kernel_rfl
theorem sz57 : szT Try.prog 57 = some (1, false) := by kernel_rfl
theorem sz58 : szT Try.prog 58 = some (1, false) := by kernel_rfl
theorem sz59 : szT Try.prog 59 = some (1, false) := by kernel_rfl
theorem sz61 : szT Try.prog 61 = some (1, false) := by kernel_rfl
theorem sz62 : szT Try.prog 62 = some (2, true) := by kernel_rfl
theorem zt62 : zeroT Try.prog 62 = some [.sl (.lent false) [], .sl (.lent false) []] := by kernel_rfl
theorem fd62x0 : fldT Try.prog 62 0 = some (0, 1, false) := by kernel_rfl
theorem fd62x1 : fldT Try.prog 62 1 = some (1, 1, false) := by kernel_rfl
theorem pl62 : placesT Try.prog 62 = some [0, 1] := by kernel_rfl
theorem sz63 : szT Try.prog 63 = some (2, true) := by kernel_rfl
theorem zt63 : zeroT Try.prog 63 = some [.sl (.lent false) [], .sl (.lent false) []] := by kernel_rfl
theorem fd63x0 : fldT Try.prog 63 0 = some (0, 1, false) := by kernel_rfl
theorem fd63x1 : fldT Try.prog 63 1 = some (1, 1, false) := by kernel_rfl
theorem pl63 : placesT Try.prog 63 = some [0, 1] := by kernel_rfl
theorem sz65 : szT Try.prog 65 = some (1, false) := by kernel_rfl
theorem sz66 : szT Try.prog 66 = some (1, false) := by kernel_rfl
theorem sz67 : szT Try.prog 67 = some (1, false) := by kernel_rfl
theorem sz70 : szT Try.prog 70 = some (2, true) := by kernel_rfl
theorem sz71 : szT Try.prog 71 = some (1, false) := by kernel_rfl
theorem sl72 : slT Try.prog 72 = some (1, .int .u8 0) := by kernel_rfl
theorem us72 : u8T Try.prog 72 = true := by kernel_rfl
theorem st72 : strT Try.prog 72 = false := by kernel_rfl
theorem sz72 : szT Try.prog 72 = some (1, false) := by kernel_rfl
theorem zt72 : zeroT Try.prog 72 = some [.sl (.lent false) []] := by kernel_rfl
theorem sz73 : szT Try.prog 73 = some (1, false) := by kernel_rfl
theorem sz74 : szT Try.prog 74 = some (2, true) := by kernel_rfl
theorem fd74x0 : fldT Try.prog 74 0 = some (0, 1, false) := by kernel_rfl
theorem fd74x1 : fldT Try.prog 74 1 = some (1, 1, false) := by kernel_rfl
theorem pl74 : placesT Try.prog 74 = some [0, 1] := by kernel_rfl
theorem sz75 : szT Try.prog 75 = some (2, true) := by kernel_rfl
theorem fd75x0 : fldT Try.prog 75 0 = some (0, 1, false) := by kernel_rfl
theorem fd75x1 : fldT Try.prog 75 1 = some (1, 1, false) := by kernel_rfl
theorem pl75 : placesT Try.prog 75 = some [0, 1] := by kernel_rfl
theorem sz76 : szT Try.prog 76 = some (1, false) := by kernel_rfl
theorem sz80 : szT Try.prog 80 = some (1, false) := by kernel_rfl
theorem sz81 : szT Try.prog 81 = some (1, false) := by kernel_rfl
theorem sz82 : szT Try.prog 82 = some (1, false) := by kernel_rfl
theorem sz83 : szT Try.prog 83 = some (1, false) := by kernel_rfl
theorem sz84 : szT Try.prog 84 = some (1, false) := by kernel_rfl
theorem sz85 : szT Try.prog 85 = some (1, false) := by kernel_rfl
theorem sz86 : szT Try.prog 86 = some (1, false) := by kernel_rfl
theorem sz87 : szT Try.prog 87 = some (1, false) := by kernel_rfl
theorem sz88 : szT Try.prog 88 = some (1, false) := by kernel_rfl
theorem sz89 : szT Try.prog 89 = some (1, false) := by kernel_rfl
theorem sz90 : szT Try.prog 90 = some (1, false) := by kernel_rfl
theorem sl91 : slT Try.prog 91 = some (1, .bool false) := by kernel_rfl
theorem us91 : u8T Try.prog 91 = false := by kernel_rfl
theorem st91 : strT Try.prog 91 = false := by kernel_rfl
theorem sz91 : szT Try.prog 91 = some (1, false) := by kernel_rfl
theorem zt91 : zeroT Try.prog 91 = some [.sl (.lent false) []] := by kernel_rfl
theorem sz92 : szT Try.prog 92 = some (1, false) := by kernel_rfl
theorem sz93 : szT Try.prog 93 = some (1, false) := by kernel_rfl
theorem sz94 : szT Try.prog 94 = some (1, false) := by kernel_rfl
theorem sz95 : szT Try.prog 95 = some (1, false) := by kernel_rfl
theorem sz96 : szT Try.prog 96 = some (1, false) := by kernel_rfl
theorem sz97 : szT Try.prog 97 = some (1, false) := by kernel_rfl
theorem sz98 : szT Try.prog 98 = some (1, false) := by kernel_rfl
theorem sz99 : szT Try.prog 99 = some (1, false) := by kernel_rfl
theorem sz100 : szT Try.prog 100 = some (1, false) := by kernel_rfl
theorem sz102 : szT Try.prog 102 = some (1, false) := by kernel_rfl
theorem sz103 : szT Try.prog 103 = some (1, false) := by kernel_rfl
theorem sz104 : szT Try.prog 104 = some (1, false) := by kernel_rfl
theorem sz105 : szT Try.prog 105 = some (1, false) := by kernel_rfl
theorem sz106 : szT Try.prog 106 = some (1, false) := by kernel_rfl
theorem sz107 : szT Try.prog 107 = some (1, false) := by kernel_rfl
theorem sz108 : szT Try.prog 108 = some (4, true) := by kernel_rfl
theorem fd108x0 : fldT Try.prog 108 0 = some (0, 1, false) := by kernel_rfl
theorem fd108x1 : fldT Try.prog 108 1 = some (1, 1, false) := by kernel_rfl
theorem fd108x2 : fldT Try.prog 108 2 = some (2, 1, false) := by kernel_rfl
theorem fd108x3 : fldT Try.prog 108 3 = some (3, 1, false) := by kernel_rfl
theorem pl108 : placesT Try.prog 108 = some [0, 1, 2, 3] := by kernel_rfl
theorem sz109 : szT Try.prog 109 = some (4, true) := by kernel_rfl
theorem fd109x0 : fldT Try.prog 109 0 = some (0, 1, false) := by kernel_rfl
theorem fd109x1 : fldT Try.prog 109 1 = some (1, 1, false) := by kernel_rfl
theorem fd109x2 : fldT Try.prog 109 2 = some (2, 1, false) := by kernel_rfl
theorem fd109x3 : fldT Try.prog 109 3 = some (3, 1, false) := by kernel_rfl
theorem pl109 : placesT Try.prog 109 = some [0, 1, 2, 3] := by kernel_rfl
theorem sz110 : szT Try.prog 110 = some (0, true) := by kernel_rfl
theorem sz111 : szT Try.prog 111 = some (0, true) := by kernel_rfl
theorem fd111x0 : fldT Try.prog 111 0 = some (0, 0, true) := by kernel_rfl
theorem sz112 : szT Try.prog 112 = some (0, true) := by kernel_rfl
theorem fd112x0 : fldT Try.prog 112 0 = some (0, 0, true) := by kernel_rfl
theorem sz113 : szT Try.prog 113 = some (1, false) := by kernel_rfl
theorem it114 : intT Try.prog 114 = some .u32 := by kernel_rfl
theorem st114 : strT Try.prog 114 = false := by kernel_rfl
theorem sz114 : szT Try.prog 114 = some (1, false) := by kernel_rfl
theorem zt114 : zeroT Try.prog 114 = some [.int .u32 0] := by kernel_rfl
theorem it115 : intT Try.prog 115 = some .u8 := by kernel_rfl
theorem st115 : strT Try.prog 115 = false := by kernel_rfl
theorem sz115 : szT Try.prog 115 = some (1, false) := by kernel_rfl
theorem zt115 : zeroT Try.prog 115 = some [.int .u8 0] := by kernel_rfl
theorem it116 : intT Try.prog 116 = some .u8 := by kernel_rfl
theorem st116 : strT Try.prog 116 = false := by kernel_rfl
theorem sz116 : szT Try.prog 116 = some (1, false) := by kernel_rfl
theorem zt116 : zeroT Try.prog 116 = some [.int .u8 0] := by kernel_rfl
theorem sz117 : szT Try.prog 117 = some (1, false) := by kernel_rfl
theorem it118 : intT Try.prog 118 = some .i32 := by kernel_rfl
theorem st118 : strT Try.prog 118 = false := by kernel_rfl
theorem sz118 : szT Try.prog 118 = some (1, false) := by kernel_rfl
theorem zt118 : zeroT Try.prog 118 = some [.int .i32 0] := by kernel_rfl
theorem it119 : intT Try.prog 119 = some .i32 := by kernel_rfl
theorem st119 : strT Try.prog 119 = false := by kernel_rfl
theorem sz119 : szT Try.prog 119 = some (1, false) := by kernel_rfl
theorem zt119 : zeroT Try.prog 119 = some [.int .i32 0] := by kernel_rfl
theorem sz120 : szT Try.prog 120 = some (11, true) := by kernel_rfl
theorem fd120x0 : fldT Try.prog 120 0 = some (0, 1, false) := by kernel_rfl
theorem fd120x1 : fldT Try.prog 120 1 = some (1, 1, false) := by kernel_rfl
theorem fd120x2 : fldT Try.prog 120 2 = some (2, 1, false) := by kernel_rfl
theorem fd120x3 : fldT Try.prog 120 3 = some (3, 1, false) := by kernel_rfl
theorem fd120x4 : fldT Try.prog 120 4 = some (4, 1, false) := by kernel_rfl
theorem fd120x5 : fldT Try.prog 120 5 = some (5, 1, false) := by kernel_rfl
theorem fd120x6 : fldT Try.prog 120 6 = some (6, 1, false) := by kernel_rfl
theorem fd120x7 : fldT Try.prog 120 7 = some (7, 1, false) := by kernel_rfl
theorem fd120x8 : fldT Try.prog 120 8 = some (8, 1, false) := by kernel_rfl
theorem fd120x9 : fldT Try.prog 120 9 = some (9, 1, false) := by kernel_rfl
theorem fd120x10 : fldT Try.prog 120 10 = some (10, 1, false) := by kernel_rfl
theorem pl120 : placesT Try.prog 120 = some [0, 1, 2, 3, 4, 5, 6, 7, 8, 9, 10] := by kernel_rfl
theorem sz121 : szT Try.prog 121 = some (11, true) := by kernel_rfl
theorem fd121x0 : fldT Try.prog 121 0 = some (0, 1, false) := by kernel_rfl
theorem fd121x1 : fldT Try.prog 121 1 = some (1, 1, false) := by kernel_rfl
theorem fd121x2 : fldT Try.prog 121 2 = some (2, 1, false) := by kernel_rfl
theorem fd121x3 : fldT Try.prog 121 3 = some (3, 1, false) := by kernel_rfl
theorem fd121x4 : fldT Try.prog 121 4 = some (4, 1, false) := by kernel_rfl
theorem fd121x5 : fldT Try.prog 121 5 = some (5, 1, false) := by kernel_rfl
theorem fd121x6 : fldT Try.prog 121 6 = some (6, 1, false) := by kernel_rfl
theorem fd121x7 : fldT Try.prog 121 7 = some (7, 1, false) := by kernel_rfl
theorem fd121x8 : fldT Try.prog 121 8 = some (8, 1, false) := by kernel_rfl
theorem fd121x9 : fldT Try.prog 121 9 = some (9, 1, false) := by kernel_rfl
theorem fd121x10 : fldT Try.prog 121 10 = some (10, 1, false) := by kernel_rfl
theorem pl121 : placesT Try.prog 121 = some [0, 1, 2, 3, 4, 5, 6, 7, 8, 9, 10] := by kernel_rfl

attribute [go_sem] sg0_eq wayE_sg0 sz1 it2 st2 sz2 zt2 it3 st3 sz3 zt3 bo4 sz4 zt4
attribute [go_sem] it5 st5 sz5 zt5 it6 st6 sz6 zt6 sz7 zt7 fd7x0 fd7x1
attribute [go_sem] fd7x2 fd7x3 pl7 sz8 zt8 fd8x0 fd8x1 fd8x2 fd8x3 pl8 st9 sz9
attribute [go_sem] zt9 st10 sz10 zt10 st11 sz11 zt11 it12 st12 sz12 zt12 sz13
attribute [go_sem] zt13 fd13x0 fd13x1 pl13 sz14 zt14 fd14x0 fd14x1 pl14 sz15 sz16 sz17
attribute [go_sem] sz18 fd18x0 pl18 sz19 fd19x0 pl19 it21 st21 sz21 zt21 sl22 us22
attribute [go_sem] st22 sz22 zt22 sz23 sz25 sz26 sz27 sz28 sl29 us29 st29 sz29
attribute [go_sem] zt29 sz30 sz31 sz32 sz34 sz35 sz36 sz37 sz38 sz39 sz41 sz42
attribute [go_sem] sz43 sz44 sz45 sz46 sz47 sz48 sz49 sz50 sl51 us51 st51 sz51
attribute [go_sem] zt51 sz52 sz53 sz54 sz55 sz56 sz57 sz58 sz59 sz61 sz62 zt62
attribute [go_sem] fd62x0 fd62x1 pl62 sz63 zt63 fd63x0 fd63x1 pl63 sz65 sz66 sz67 sz70
attribute [go_sem] sz71 sl72 us72 st72 sz72 zt72 sz73 sz74 fd74x0 fd74x1 pl74 sz75
attribute [go_sem] fd75x0 fd75x1 pl75 sz76 sz80 sz81 sz82 sz83 sz84 sz85 sz86 sz87
attribute [go_sem] sz88 sz89 sz90 sl91 us91 st91 sz91 zt91 sz92 sz93 sz94 sz95
attribute [go_sem] sz96 sz97 sz98 sz99 sz100 sz102 sz103 sz104 sz105 sz106 sz107 sz108
attribute [go_sem] fd108x0 fd108x1 fd108x2 fd108x3 pl108 sz109 fd109x0 fd109x1 fd109x2 fd109x3 pl109 sz110
attribute [go_sem] sz111 fd111x0 sz112 fd112x0 sz113 it114 st114 sz114 zt114 it115 st115 sz115
attribute [go_sem] zt115 it116 st116 sz116 zt116 sz117 it118 st118 sz118 zt118 it119 st119
attribute [go_sem] sz119 zt119 sz120 fd120x0 fd120x1 fd120x2 fd120x3 fd120x4 fd120x5 fd120x6 fd120x7 fd120x8
attribute [go_sem] fd120x9 fd120x10 pl120 sz121 fd121x0 fd121x1 fd121x2 fd121x3 fd121x4 fd121x5 fd121x6 fd121x7
attribute [go_sem] fd121x8 fd121x9 fd121x10 pl121
end Go.Gl
