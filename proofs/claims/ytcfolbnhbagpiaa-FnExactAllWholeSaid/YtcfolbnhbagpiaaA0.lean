/-
  The common ground of the contracts of this program's functions. Conditions: none.
-/
import Derived.Test.YtcfolbnhbagpiaaGl25
import Derived.Test.YtcfolbnhbagpiaaChecked
namespace Go.Gl
open Go Go.Proofs

def sg0 : FuncId → List Bool := fun _ => []
theorem sg0_eq {f : FuncId} : sg0 f = [] := rfl
theorem mo : Try.prog.follows .mixedOrders = true := Try.checked.mixed

theorem sl26 : slT Try.prog 26 = some (8, .int .i64 0) := by kernel_rfl
theorem sl53 : slT Try.prog 53 = some (16, .str []) := by kernel_rfl
theorem sz3 : szT Try.prog 3 = some (1, false) := by kernel_rfl
theorem sz9 : szT Try.prog 9 = some (1, false) := by kernel_rfl
theorem st9 : strT Try.prog 9 = true := by kernel_rfl
theorem bo4 : boolT Try.prog 4 = true := by kernel_rfl

end Go.Gl
