/-
  The order of rows: sorting, putting in, compacting as lists. Conditions: none.
-/
import Derived.Test.YtfjfobbniglaeaaDoorBasis
import Derived.Test.YtfjfobbniglaeaaDoorSess
set_option linter.unusedSimpArgs false
set_option linter.unusedVariables false
set_option maxRecDepth 20000
set_option linter.unusedSectionVars false
namespace Go.Gl
open Go Go.Proofs
variable [Amb] [NoQ]
/-- Where p belongs among the first k of a sorted list. -/
def atP (L : List (List Int)) (p : List Int) : Nat → Nat
  | 0 => 0
  | k + 1 => if befB p (L.getD k []) = true then atP L p k else k + 1
theorem atP_spec {L : List (List Int)} {p : List Int} : ∀ {k : Nat}, atP L p k ≤ k ∧ (∀ i, atP L p k ≤ i → i < k → befB p (L.getD i []) = true) ∧ (atP L p k = 0 ∨ befB p (L.getD (atP L p k - 1) []) = false)
  | 0 => ⟨Nat.le_refl _, fun i _ h => absurd h (by omega), .inl rfl⟩
  | k + 1 => by
    rw [atP]
    by_cases e : befB p (L.getD k []) = true
    · rw [if_pos e]
      obtain ⟨h1, h2, h3⟩ := atP_spec (L := L) (p := p) (k := k)
      refine ⟨by omega, fun i hi hk => ?_, h3⟩
      by_cases q : i = k
      · subst q; exact e
      · exact h2 i hi (by omega)
    · rw [if_neg e]
      refine ⟨Nat.le_refl _, fun i hi hk => by omega, .inr ?_⟩
      simpa using e
/-- p into the list, at place j. -/
def insK (L : List (List Int)) (p : List Int) (j : Nat) : List (List Int) := L.take j ++ p :: L.drop j
def insS (L : List (List Int)) (p : List Int) : List (List Int) := insK L p (atP L p L.length)
def putP (L : List (List Int)) (p : List Int) : List (List Int) := if 0 < atP L p L.length ∧ L.getD (atP L p L.length - 1) [] = p then L else insS L p
theorem insK_len {L : List (List Int)} {p : List Int} {j : Nat} : (insK L p j).length = L.length + 1 := by
  unfold insK; simp; omega
theorem insK_mem {L : List (List Int)} {p x : List Int} {j : Nat} : x ∈ insK L p j ↔ x = p ∨ x ∈ L := by
  unfold insK
  rw [List.mem_append, List.mem_cons]
  have : x ∈ L ↔ x ∈ L.take j ∨ x ∈ L.drop j := by rw [← List.mem_append, List.take_append_drop]
  rw [this]; constructor
  · rintro (h | h | h) <;> simp [h]
  · rintro (h | h | h) <;> simp [h]
theorem putP_mem {L : List (List Int)} {p x : List Int} : x ∈ putP L p ↔ x = p ∨ x ∈ L := by
  unfold putP
  split
  · rename_i h
    constructor
    · exact .inr
    · rintro (rfl | h2)
      · rw [← h.2]; exact getD_mem (by have := (atP_spec (L := L) (p := x) (k := L.length)).1; omega)
      · exact h2
  · exact insK_mem
theorem insS_len {L : List (List Int)} {p : List Int} : (insS L p).length = L.length + 1 := insK_len
theorem atP_uniq {L : List (List Int)} {p : List Int} : ∀ {k j : Nat}, j ≤ k → (∀ q, j ≤ q → q < k → befB p (L.getD q []) = true) → (0 < j → befB p (L.getD (j - 1) []) = false) → atP L p k = j
  | 0, j, h, _, _ => by rw [atP]; omega
  | k + 1, j, h, h1, h2 => by
    rw [atP]
    by_cases e : j = k + 1
    · subst e
      have := h2 (by omega)
      rw [Nat.add_sub_cancel] at this
      rw [this]; rfl
    · rw [if_pos (h1 k (by omega) (by omega))]
      exact atP_uniq (by omega) (fun q a b => h1 q a (by omega)) h2
end Go.Gl
