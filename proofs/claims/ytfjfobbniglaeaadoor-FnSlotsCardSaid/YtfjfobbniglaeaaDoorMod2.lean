/-
  Even numbers. Conditions: none.
-/
import Derived.Test.YtfjfobbniglaeaaDoorNum
set_option linter.unusedSimpArgs false
set_option linter.unusedVariables false
set_option maxRecDepth 20000
set_option linter.unusedSectionVars false
namespace Go.Gl
open Go Go.Proofs
variable [Amb]
theorem mod2 {k : Nat} (h : (k : Int).tmod 2 = 0) : k % 2 = 0 := by rw [Int.tmod_eq_emod_of_nonneg (by omega)] at h; omega
theorem mod2' {k : Nat} (h : k % 2 = 0) : (k : Int).tmod 2 = 0 := by rw [Int.tmod_eq_emod_of_nonneg (by omega)]; omega
end Go.Gl
