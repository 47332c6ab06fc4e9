/-
  Lists of rows compared. Conditions: none.
-/
import Derived.Test.YtfjfobbniglaeaaDoorSame
import Derived.Test.YtfjfobbniglaeaaDoorLaw2
set_option linter.unusedSimpArgs false
set_option linter.unusedVariables false
set_option maxRecDepth 20000
set_option linter.unusedSectionVars false
namespace Go.Gl
open Go Go.Proofs
variable [Amb] [NoQ]
theorem strself {a : List UInt8} : decide (a = a) = true := by simp
theorem dsI {a : List Int} : decide (a = a) = true := by simp
theorem isI {a : Int} : decide (a = a) = true := by simp
theorem bsB {a : Bool} : (a == a) = true := by simp
end Go.Gl
