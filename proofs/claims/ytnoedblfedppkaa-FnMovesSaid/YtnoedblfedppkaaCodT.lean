/-
  Forms turned. Conditions: none.
-/
import Derived.Test.YtnoedblfedppkaaCodF
set_option linter.unusedSimpArgs false
set_option linter.unusedVariables false
set_option maxRecDepth 20000
set_option linter.unusedSectionVars false
namespace Go.Gl
open Go Go.Proofs
variable [Amb]
/-- How many are not below c. -/
def geC (c : Int) : List Int → Int
  | [] => 0
  | x :: l => bitI (decide (c ≤ x)) + geC c l
theorem geC_r {c : Int} : ∀ {l : List Int}, 0 ≤ geC c l ∧ geC c l ≤ l.length
  | [] => by simp [geC]
  | y :: l => by have := geC_r (c := c) (l := l); have := bitI_r (decide (c ≤ y)); rw [geC, List.length_cons]; omega
/-! ### the sum, the number of rows -/
