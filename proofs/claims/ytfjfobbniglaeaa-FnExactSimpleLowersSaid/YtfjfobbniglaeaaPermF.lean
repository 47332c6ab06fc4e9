/-
  Facts of permutations. Conditions: none.
-/
import Derived.Test.YtfjfobbniglaeaaPerm
import Derived.Test.YtfjfobbniglaeaaClone
import Derived.Test.YtfjfobbniglaeaaLaw1
import Derived.Test.YtfjfobbniglaeaaLaw2
set_option linter.unusedSimpArgs false
set_option linter.unusedVariables false
set_option maxRecDepth 20000
set_option linter.unusedSectionVars false
namespace Go.Gl
open Go Go.Proofs
variable [Amb] [NoQ]
theorem permGo_iff {n : Int} : ∀ {p seen : List Int}, permGo n seen p = true ↔ (∀ v ∈ p, 1 ≤ v ∧ v ≤ n) ∧ p.Nodup ∧ ∀ v ∈ p, v ∉ seen
  | [], seen => by simp [permGo]
  | v :: p, seen => by
    rw [permGo, Bool.and_eq_true, permGo_iff]
    simp only [Bool.and_eq_true, decide_eq_true_eq, Bool.not_eq_true', List.nodup_cons, List.mem_append, List.mem_singleton]
    constructor
    · rintro ⟨⟨⟨h1, h2⟩, h3⟩, h4, h5, h6⟩
      have h3' : v ∉ seen := fun h => by rw [← List.contains_iff_mem] at h; rw [h] at h3; cases h3
      refine ⟨fun x hx => ?_, ⟨fun hv => h6 v hv (.inr rfl), h5⟩, fun x hx => ?_⟩
      · rcases List.mem_cons.1 hx with rfl | hx
        · exact ⟨h1, h2⟩
        · exact h4 x hx
      · rcases List.mem_cons.1 hx with rfl | hx
        · exact h3'
        · exact fun hs => h6 x hx (.inl hs)
    · rintro ⟨h1, ⟨h2, h3⟩, h4⟩
      have h5 := h1 v (by simp)
      refine ⟨⟨⟨h5.1, h5.2⟩, ?_⟩, fun x hx => h1 x (by simp [hx]), h3, fun x hx => ?_⟩
      · rw [← Bool.not_eq_true, List.contains_iff_mem]; exact h4 v (by simp)
      · rintro (hs | rfl)
        · exact h4 x (by simp [hx]) hs
        · exact h2 hx
theorem permB_iff {p : List Int} : permB p = true ↔ (∀ v ∈ p, 1 ≤ v ∧ v ≤ p.length) ∧ p.Nodup := by
  rw [permB, permGo_iff]; simp
/-! ### lists without repetition -/
theorem len_two {α : Type} (p : α → Bool) : ∀ (l : List α), l.length = (l.filter p).length + (l.filter fun x => !p x).length
  | [] => rfl
  | x :: l => by
    have := len_two p l
    rw [List.filter_cons, List.filter_cons]
    cases p x <;> simp <;> omega
end Go.Gl
