/-
  Functions of the library over slices of slices that are handed a function: what they compute. Conditions: none.
-/
import Derived.Test.YtnoedblfedppkaaLaw1
set_option linter.unusedSimpArgs false
set_option linter.unusedVariables false
set_option maxRecDepth 20000
set_option linter.unusedSectionVars false
namespace Go.Gl
open Go Go.Proofs
variable [Amb]
def idxG {α : Type} (p : α → Bool) : List α → Nat → Int
  | [], _ => -1
  | x :: l, i => if p x then i else idxG p l (i + 1)
theorem idxG_spec {α : Type} {p : α → Bool} {d : α} : ∀ {l : List α} {i : Nat}, (idxG p l i = -1 ∧ ∀ x ∈ l, p x = false) ∨ ∃ k, k < l.length ∧ idxG p l i = i + k ∧ p (l.getD k d) = true ∧ ∀ j, j < k → p (l.getD j d) = false
  | [], _ => .inl ⟨rfl, fun x hx => by simp at hx⟩
  | x :: l, i => by
    rw [idxG]
    split
    · rename_i h; exact .inr ⟨0, by simp, by simp, by simpa using h, fun j hj => by omega⟩
    · rename_i h
      rcases idxG_spec (p := p) (d := d) (l := l) (i := i + 1) with ⟨h1, h2⟩ | ⟨k, h1, h2, h3, h4⟩
      · exact .inl ⟨h1, fun y hy => by rcases List.mem_cons.1 hy with rfl | hy; exact Bool.eq_false_iff.2 h; exact h2 y hy⟩
      · refine .inr ⟨k + 1, by simpa using h1, by rw [h2]; push_cast; omega, by simpa using h3, fun j hj => ?_⟩
        cases j with
        | zero => simpa using Bool.eq_false_iff.2 h
        | succ j => simpa using h4 j (by omega)
end Go.Gl
