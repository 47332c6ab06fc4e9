/-
  The common ground of the contracts of this program's functions. Conditions: none.
-/
import Derived.Test.YtcfolbnhbagpiaaGl29
import Derived.Test.YtcfolbnhbagpiaaChecked
namespace Go.Gl
open Go Go.Proofs

def sg0 : FuncId → List Bool := fun _ => []
theorem sg0_eq {f : FuncId} : sg0 f = [] := rfl
theorem wayE_sg0 : wayE sg0 = false := _root_.id rfl
theorem mo : Try.prog.follows .mixedOrders = true := Try.checked.mixed

theorem sz1 : szT Try.prog 1 = some (1, false) := by kernel_rfl
theorem it2 : intT Try.prog 2 = some .i64 := by kernel_rfl
theorem st2 : strT Try.prog 2 = false := by kernel_rfl
theorem sz2 : szT Try.prog 2 = some (1, false) := by kernel_rfl
theorem zt2 : zeroT Try.prog 2 = some [.int .i64 0] := by kernel_rfl
theorem it3 : intT Try.prog 3 = some .i64 := by kernel_rfl
theorem st3 : strT Try.prog 3 = false := by kernel_rfl
theorem sz3 : szT Try.prog 3 = some (1, false) := by kernel_rfl
theorem zt3 : zeroT Try.prog 3 = some [.int .i64 0] := by kernel_rfl
theorem bo4 : boolT Try.prog 4 = true := by kernel_rfl
theorem sz4 : szT Try.prog 4 = some (1, false) := by kernel_rfl
theorem zt4 : zeroT Try.prog 4 = some [.bool false] := by kernel_rfl
theorem it5 : intT Try.prog 5 = some .u8 := by kernel_rfl
theorem st5 : strT Try.prog 5 = false := by kernel_rfl
theorem sz5 : szT Try.prog 5 = some (1, false) := by kernel_rfl
theorem zt5 : zeroT Try.prog 5 = some [.int .u8 0] := by kernel_rfl
theorem it6 : intT Try.prog 6 = some .u8 := by kernel_rfl
theorem st6 : strT Try.prog 6 = false := by kernel_rfl
theorem sz6 : szT Try.prog 6 = some (1, false) := by kernel_rfl
theorem zt6 : zeroT Try.prog 6 = some [.int .u8 0] := by kernel_rfl
theorem sz7 : szT Try.prog 7 = some (4, true) := by kernel_rfl
theorem zt7 : zeroT Try.prog 7 = some [.int .i64 0, .int .i64 0, .bool false, .int .u8 0] := by kernel_rfl
theorem fd7x0 : fldT Try.prog 7 0 = some (0, 1, false) := by kernel_rfl
theorem fd7x1 : fldT Try.prog 7 1 = some (1, 1, false) := by kernel_rfl
theorem fd7x2 : fldT Try.prog 7 2 = some (2, 1, false) := by kernel_rfl
theorem fd7x3 : fldT Try.prog 7 3 = some (3, 1, false) := by kernel_rfl
theorem pl7 : placesT Try.prog 7 = some [0, 1, 2, 3] := by kernel_rfl
theorem sz8 : szT Try.prog 8 = some (4, true) := by kernel_rfl
theorem zt8 : zeroT Try.prog 8 = some [.int .i64 0, .int .i64 0, .bool false, .int .u8 0] := by kernel_rfl
theorem fd8x0 : fldT Try.prog 8 0 = some (0, 1, false) := by kernel_rfl
theorem fd8x1 : fldT Try.prog 8 1 = some (1, 1, false) := by kernel_rfl
theorem fd8x2 : fldT Try.prog 8 2 = some (2, 1, false) := by kernel_rfl
theorem fd8x3 : fldT Try.prog 8 3 = some (3, 1, false) := by kernel_rfl
theorem pl8 : placesT Try.prog 8 = some [0, 1, 2, 3] := by kernel_rfl
theorem st9 : strT Try.prog 9 = true := by kernel_rfl
theorem sz9 : szT Try.prog 9 = some (1, false) := by kernel_rfl
theorem zt9 : zeroT Try.prog 9 = some [.str []] := by kernel_rfl
theorem st10 : strT Try.prog 10 = true := by kernel_rfl
theorem sz10 : szT Try.prog 10 = some (1, false) := by kernel_rfl
theorem zt10 : zeroT Try.prog 10 = some [.str []] := by kernel_rfl
theorem st11 : strT Try.prog 11 = true := by kernel_rfl
theorem sz11 : szT Try.prog 11 = some (1, false) := by kernel_rfl
theorem zt11 : zeroT Try.prog 11 = some [.str []] := by kernel_rfl
theorem it12 : intT Try.prog 12 = some .u64 := by kernel_rfl
theorem st12 : strT Try.prog 12 = false := by kernel_rfl
theorem sz12 : szT Try.prog 12 = some (1, false) := by kernel_rfl
theorem zt12 : zeroT Try.prog 12 = some [.int .u64 0] := by kernel_rfl
theorem sz13 : szT Try.prog 13 = some (2, true) := by kernel_rfl
theorem zt13 : zeroT Try.prog 13 = some [.str [], .int .u64 0] := by kernel_rfl
theorem fd13x0 : fldT Try.prog 13 0 = some (0, 1, false) := by kernel_rfl
theorem fd13x1 : fldT Try.prog 13 1 = some (1, 1, false) := by kernel_rfl
theorem pl13 : placesT Try.prog 13 = some [0, 1] := by kernel_rfl
theorem sz14 : szT Try.prog 14 = some (2, true) := by kernel_rfl
theorem zt14 : zeroT Try.prog 14 = some [.str [], .int .u64 0] := by kernel_rfl
theorem fd14x0 : fldT Try.prog 14 0 = some (0, 1, false) := by kernel_rfl
theorem fd14x1 : fldT Try.prog 14 1 = some (1, 1, false) := by kernel_rfl
theorem pl14 : placesT Try.prog 14 = some [0, 1] := by kernel_rfl
theorem sz15 : szT Try.prog 15 = some (1, false) := by kernel_rfl
theorem sz16 : szT Try.prog 16 = some (1, false) := by kernel_rfl
theorem sz17 : szT Try.prog 17 = some (1, false) := by kernel_rfl
theorem sz18 : szT Try.prog 18 = some (1, true) := by kernel_rfl
theorem fd18x0 : fldT Try.prog 18 0 = some (0, 1, false) := by kernel_rfl
theorem pl18 : placesT Try.prog 18 = some [0] := by kernel_rfl
theorem sz19 : szT Try.prog 19 = some (1, true) := by kernel_rfl
theorem fd19x0 : fldT Try.prog 19 0 = some (0, 1, false) := by kernel_rfl
theorem pl19 : placesT Try.prog 19 = some [0] := by kernel_rfl
theorem it21 : intT Try.prog 21 = some .i32 := by kernel_rfl
theorem st21 : strT Try.prog 21 = false := by kernel_rfl
theorem sz21 : szT Try.prog 21 = some (1, false) := by kernel_rfl
theorem zt21 : zeroT Try.prog 21 = some [.int .i32 0] := by kernel_rfl
theorem sz22 : szT Try.prog 22 = some (1, false) := by kernel_rfl
theorem sz23 : szT Try.prog 23 = some (1, false) := by kernel_rfl
theorem sz24 : szT Try.prog 24 = some (1, false) := by kernel_rfl
theorem sz25 : szT Try.prog 25 = some (1, false) := by kernel_rfl
theorem sl26 : slT Try.prog 26 = some (8, .int .i64 0) := by kernel_rfl
theorem us26 : u8T Try.prog 26 = false := by kernel_rfl
theorem st26 : strT Try.prog 26 = false := by kernel_rfl
theorem sz26 : szT Try.prog 26 = some (1, false) := by kernel_rfl
theorem zt26 : zeroT Try.prog 26 = some [.sl (.lent false) []] := by kernel_rfl
theorem sz27 : szT Try.prog 27 = some (1, false) := by kernel_rfl
theorem sz28 : szT Try.prog 28 = some (1, false) := by kernel_rfl
theorem sz29 : szT Try.prog 29 = some (1, false) := by kernel_rfl
theorem sz30 : szT Try.prog 30 = some (1, false) := by kernel_rfl
theorem sz31 : szT Try.prog 31 = some (1, false) := by kernel_rfl
theorem sz32 : szT Try.prog 32 = some (1, false) := by kernel_rfl
theorem sz33 : szT Try.prog 33 = some (1, false) := by kernel_rfl
theorem sl34 : slT Try.prog 34 = some (24, .sl (.lent false) []) := by kernel_rfl
theorem us34 : u8T Try.prog 34 = false := by kernel_rfl
theorem st34 : strT Try.prog 34 = false := by kernel_rfl
theorem sz34 : szT Try.prog 34 = some (1, false) := by kernel_rfl
theorem zt34 : zeroT Try.prog 34 = some [.sl (.lent false) []] := by kernel_rfl
theorem sz35 : szT Try.prog 35 = some (1, false) := by kernel_rfl
theorem sz36 : szT Try.prog 36 = some (1, false) := by kernel_rfl
theorem sz37 : szT Try.prog 37 = some (1, false) := by kernel_rfl
theorem sz38 : szT Try.prog 38 = some (1, false) := by kernel_rfl
theorem sz40 : szT Try.prog 40 = some (1, false) := by kernel_rfl
theorem sz41 : szT Try.prog 41 = some (1, false) := by kernel_rfl
theorem sz42 : szT Try.prog 42 = some (1, false) := by kernel_rfl
theorem sz43 : szT Try.prog 43 = some (1, false) := by kernel_rfl
theorem sz44 : szT Try.prog 44 = some (1, false) := by kernel_rfl
theorem sz45 : szT Try.prog 45 = some (3, true) := by kernel_rfl
theorem zt45 : zeroT Try.prog 45 = some [.sl (.lent false) [], .sl (.lent false) [], .sl (.lent false) []] := by kernel_rfl
theorem fd45x0 : fldT Try.prog 45 0 = some (0, 1, false) := by kernel_rfl
theorem fd45x1 : fldT Try.prog 45 1 = some (1, 1, false) := by kernel_rfl
theorem fd45x2 : fldT Try.prog 45 2 = some (2, 1, false) := by kernel_rfl
theorem pl45 : placesT Try.prog 45 = some [0, 1, 2] := by kernel_rfl
theorem sz46 : szT Try.prog 46 = some (3, true) := by kernel_rfl
theorem zt46 : zeroT Try.prog 46 = some [.sl (.lent false) [], .sl (.lent false) [], .sl (.lent false) []] := by kernel_rfl
theorem fd46x0 : fldT Try.prog 46 0 = some (0, 1, false) := by kernel_rfl
theorem fd46x1 : fldT Try.prog 46 1 = some (1, 1, false) := by kernel_rfl
theorem fd46x2 : fldT Try.prog 46 2 = some (2, 1, false) := by kernel_rfl
theorem pl46 : placesT Try.prog 46 = some [0, 1, 2] := by kernel_rfl
theorem sz47 : szT Try.prog 47 = some (1, false) := by kernel_rfl
theorem sz48 : szT Try.prog 48 = some (1, false) := by kernel_rfl
theorem sz49 : szT Try.prog 49 = some (3, true) := by kernel_rfl
theorem zt49 : zeroT Try.prog 49 = some [.sl (.lent false) [], .sl (.lent false) [], .sl (.lent false) []] := by kernel_rfl
theorem fd49x0 : fldT Try.prog 49 0 = some (0, 1, false) := by kernel_rfl
theorem fd49x1 : fldT Try.prog 49 1 = some (1, 1, false) := by kernel_rfl
theorem fd49x2 : fldT Try.prog 49 2 = some (2, 1, false) := by kernel_rfl
theorem pl49 : placesT Try.prog 49 = some [0, 1, 2] := by kernel_rfl
theorem sz50 : szT Try.prog 50 = some (1, false) := by kernel_rfl
theorem sz51 : szT Try.prog 51 = some (1, false) := by kernel_rfl
theorem sz52 : szT Try.prog 52 = some (1, false) := by kernel_rfl
theorem sl53 : slT Try.prog 53 = some (16, .str []) := by kernel_rfl
theorem us53 : u8T Try.prog 53 = false := by kernel_rfl
theorem st53 : strT Try.prog 53 = false := by kernel_rfl
theorem sz53 : szT Try.prog 53 = some (1, false) := by kernel_rfl
theorem zt53 : zeroT Try.prog 53 = some [.sl (.lent false) []] := by kernel_rfl
theorem sz54 : szT Try.prog 54 = some (1, false) := by kernel_rfl
theorem sz56 : szT Try.prog 56 = some (1, false) := by kernel_rfl
theorem sz57 : szT Try.prog 57 = some (1, false) := by kernel_rfl
theorem sz58 : szT Try.prog 58 = some (1, false) := by kernel_rfl
theorem sz59 : szT Try.prog 59 = some (1, false) := by kernel_rfl
theorem sz60 : szT Try.prog 60 = some (1, false) := by kernel_rfl
theorem sz61 : szT Try.prog 61 = some (1, false) := by kernel_rfl
theorem sz62 : szT Try.prog 62 = some (1, false) := by kernel_rfl
theorem sz63 : szT Try.prog 63 = some (1, false) := by kernel_rfl
theorem sz64 : szT Try.prog 64 = some (1, false) := by kernel_rfl
theorem sl65 : slT Try.prog 65 = some (1, .bool false) := by kernel_rfl
theorem us65 : u8T Try.prog 65 = false := by kernel_rfl
theorem st65 : strT Try.prog 65 = false := by kernel_rfl
theorem sz65 : szT Try.prog 65 = some (1, false) := by kernel_rfl
theorem zt65 : zeroT Try.prog 65 = some [.sl (.lent false) []] := by kernel_rfl
theorem sz66 : szT Try.prog 66 = some (1, false) := by kernel_rfl
theorem sz67 : szT Try.prog 67 = some (4, true) := by kernel_rfl
theorem fd67x0 : fldT Try.prog 67 0 = some (0, 1, false) := by kernel_rfl
theorem fd67x1 : fldT Try.prog 67 1 = some (1, 1, false) := by kernel_rfl
theorem fd67x2 : fldT Try.prog 67 2 = some (2, 1, false) := by kernel_rfl
theorem fd67x3 : fldT Try.prog 67 3 = some (3, 1, false) := by kernel_rfl
theorem pl67 : placesT Try.prog 67 = some [0, 1, 2, 3] := by kernel_rfl
theorem sz68 : szT Try.prog 68 = some (4, true) := by kernel_rfl
theorem fd68x0 : fldT Try.prog 68 0 = some (0, 1, false) := by kernel_rfl
theorem fd68x1 : fldT Try.prog 68 1 = some (1, 1, false) := by kernel_rfl
theorem fd68x2 : fldT Try.prog 68 2 = some (2, 1, false) := by kernel_rfl
theorem fd68x3 : fldT Try.prog 68 3 = some (3, 1, false) := by kernel_rfl
theorem pl68 : placesT Try.prog 68 = some [0, 1, 2, 3] := by kernel_rfl
theorem sz69 : szT Try.prog 69 = some (0, true) := by kernel_rfl
theorem sz70 : szT Try.prog 70 = some (0, true) := by kernel_rfl
theorem fd70x0 : fldT Try.prog 70 0 = some (0, 0, true) := by kernel_rfl
theorem sz71 : szT Try.prog 71 = some (0, true) := by kernel_rfl
theorem fd71x0 : fldT Try.prog 71 0 = some (0, 0, true) := by kernel_rfl
theorem sz72 : szT Try.prog 72 = some (1, false) := by kernel_rfl
theorem it73 : intT Try.prog 73 = some .u32 := by kernel_rfl
theorem st73 : strT Try.prog 73 = false := by kernel_rfl
theorem sz73 : szT Try.prog 73 = some (1, false) := by kernel_rfl
theorem zt73 : zeroT Try.prog 73 = some [.int .u32 0] := by kernel_rfl
theorem it74 : intT Try.prog 74 = some .u8 := by kernel_rfl
theorem st74 : strT Try.prog 74 = false := by kernel_rfl
theorem sz74 : szT Try.prog 74 = some (1, false) := by kernel_rfl
theorem zt74 : zeroT Try.prog 74 = some [.int .u8 0] := by kernel_rfl
theorem it75 : intT Try.prog 75 = some .u8 := by kernel_rfl
theorem st75 : strT Try.prog 75 = false := by kernel_rfl
theorem sz75 : szT Try.prog 75 = some (1, false) := by kernel_rfl
theorem zt75 : zeroT Try.prog 75 = some [.int .u8 0] := by kernel_rfl
theorem sz76 : szT Try.prog 76 = some (1, false) := by kernel_rfl
theorem it79 : intT Try.prog 79 = some .i32 := by kernel_rfl
theorem st79 : strT Try.prog 79 = false := by kernel_rfl
theorem sz79 : szT Try.prog 79 = some (1, false) := by kernel_rfl
theorem zt79 : zeroT Try.prog 79 = some [.int .i32 0] := by kernel_rfl

attribute [go_sem] sg0_eq wayE_sg0 sz1 it2 st2 sz2 zt2 it3 st3 sz3 zt3 bo4 sz4 zt4
attribute [go_sem] it5 st5 sz5 zt5 it6 st6 sz6 zt6 sz7 zt7 fd7x0 fd7x1
attribute [go_sem] fd7x2 fd7x3 pl7 sz8 zt8 fd8x0 fd8x1 fd8x2 fd8x3 pl8 st9 sz9
attribute [go_sem] zt9 st10 sz10 zt10 st11 sz11 zt11 it12 st12 sz12 zt12 sz13
attribute [go_sem] zt13 fd13x0 fd13x1 pl13 sz14 zt14 fd14x0 fd14x1 pl14 sz15 sz16 sz17
attribute [go_sem] sz18 fd18x0 pl18 sz19 fd19x0 pl19 it21 st21 sz21 zt21 sz22 sz23
attribute [go_sem] sz24 sz25 sl26 us26 st26 sz26 zt26 sz27 sz28 sz29 sz30 sz31
attribute [go_sem] sz32 sz33 sl34 us34 st34 sz34 zt34 sz35 sz36 sz37 sz38 sz40
attribute [go_sem] sz41 sz42 sz43 sz44 sz45 zt45 fd45x0 fd45x1 fd45x2 pl45 sz46 zt46
attribute [go_sem] fd46x0 fd46x1 fd46x2 pl46 sz47 sz48 sz49 zt49 fd49x0 fd49x1 fd49x2 pl49
attribute [go_sem] sz50 sz51 sz52 sl53 us53 st53 sz53 zt53 sz54 sz56 sz57 sz58
attribute [go_sem] sz59 sz60 sz61 sz62 sz63 sz64 sl65 us65 st65 sz65 zt65 sz66
attribute [go_sem] sz67 fd67x0 fd67x1 fd67x2 fd67x3 pl67 sz68 fd68x0 fd68x1 fd68x2 fd68x3 pl68
attribute [go_sem] sz69 sz70 fd70x0 sz71 fd71x0 sz72 it73 st73 sz73 zt73 it74 st74
attribute [go_sem] sz74 zt74 it75 st75 sz75 zt75 sz76 it79 st79 sz79 zt79
end Go.Gl
