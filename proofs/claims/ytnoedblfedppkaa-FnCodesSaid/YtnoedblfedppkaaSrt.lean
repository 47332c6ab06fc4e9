/-
  Rows in order: what the library's sorting and compacting and the reference's putting in compute. Conditions: none.
-/
import Derived.Test.YtnoedblfedppkaaBasis
import Derived.Test.YtnoedblfedppkaaLaw1
import Derived.Test.YtnoedblfedppkaaGlC
import Derived.Test.YtnoedblfedppkaaShelfS
set_option linter.unusedSimpArgs false
set_option linter.unusedVariables false
set_option maxRecDepth 20000
set_option linter.unusedSectionVars false
namespace Go.Gl
open Go Go.Proofs
variable [Amb]
theorem cmpI_lt_iff {a b : Int} : cmpI a b < 0 ↔ a < b := by unfold cmpI; split; omega; split <;> omega
theorem bef_iff {a b : List Int} : befB a b = true ↔ a.length < b.length ∨ (a.length = b.length ∧ cmpL a b < 0) := by
  rw [befB, decide_eq_true_eq, cmpP]
  by_cases e : cmpI a.length b.length = 0
  · rw [if_neg (by omega)]; have := cmpI_0.1 e; omega
  · rw [if_pos e, cmpI_lt_iff]
    have : ¬ (a.length : Int) = b.length := fun h => e (cmpI_0.2 h)
    omega
end Go.Gl
