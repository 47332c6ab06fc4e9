/-
  The common ground of the contracts of this program's functions. Conditions: none.
-/
import Derived.Test.YtcfolbnhbagpiaaGl24
import Derived.Test.YtcfolbnhbagpiaaChecked
namespace Go.Gl
open Go Go.Proofs

def sg0 : FuncId → List Bool := fun _ => []
theorem sg0_eq {f : FuncId} : sg0 f = [] := rfl
theorem mo : Try.prog.follows .mixedOrders = true := Try.checked.mixed

end Go.Gl
