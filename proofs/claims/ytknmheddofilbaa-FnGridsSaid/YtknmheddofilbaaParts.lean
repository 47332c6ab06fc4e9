/-
  Classes, and the parts of sums: what their functions compute. Conditions: none.
-/
import Derived.Test.YtknmheddofilbaaPClass
import Derived.Test.YtknmheddofilbaaPText
import Derived.Test.YtknmheddofilbaaLaw1
import Derived.Test.YtknmheddofilbaaPat
set_option linter.unusedSimpArgs false
set_option linter.unusedVariables false
set_option maxRecDepth 20000
set_option linter.unusedSectionVars false
namespace Go.Gl
open Go Go.Proofs
variable [Amb]
theorem perm_b8 {p : List Int} (h : isPermB p = true) : ∀ x ∈ p, 0 ≤ x ∧ x ≤ 8 := fun x hx => by
  simp only [isPermB, Bool.and_eq_true, decide_eq_true_eq] at h
  have := (permB_iff.1 h.2).1 x hx; omega
end Go.Gl
