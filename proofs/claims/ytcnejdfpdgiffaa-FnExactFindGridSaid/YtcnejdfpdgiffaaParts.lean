/-
  Classes, and the parts of sums: what their functions compute. Conditions: none.
-/
import Derived.Test.YtcnejdfpdgiffaaPerms
import Derived.Test.YtcnejdfpdgiffaaLaw1
import Derived.Test.YtcnejdfpdgiffaaClone
import Derived.Test.YtcnejdfpdgiffaaSimp
set_option linter.unusedSimpArgs false
set_option linter.unusedVariables false
set_option maxRecDepth 20000
set_option linter.unusedSectionVars false
namespace Go.Gl
open Go Go.Proofs
variable [Amb]
/-- The pattern of a list. -/
def rkI (l : List Int) (x : Int) (k : Nat) : Int := ((l.take k).filter fun y => decide (y < x)).length + 1
theorem rkI_succ {l : List Int} {x : Int} {k : Nat} (h : k < l.length) : rkI l x (k + 1) = rkI l x k + bitI (decide (l.getD k 0 < x)) := by
  rw [rkI, rkI, take_getD (d := 0) h, List.filter_append, List.length_append, List.filter_cons]
  cases decide (l.getD k 0 < x) <;> simp [bitI] <;> omega
theorem rkI_b {l : List Int} {x : Int} {k : Nat} : 1 ≤ rkI l x k ∧ rkI l x k ≤ l.length + 1 := by
  have := List.length_filter_le (fun y => decide (y < x)) (l.take k)
  rw [List.length_take] at this
  unfold rkI; omega
theorem perm_b8 {p : List Int} (h : isPermB p = true) : ∀ x ∈ p, 0 ≤ x ∧ x ≤ 8 := fun x hx => by
  simp only [isPermB, Bool.and_eq_true, decide_eq_true_eq] at h
  have := (permB_iff.1 h.2).1 x hx; omega
end Go.Gl
