/-
  Permutations in groups by the counts of their classes: what is told of them. Conditions: none.
-/
import Derived.Test.YtfjfobbniglaeaaClsI
import Derived.Test.YtfjfobbniglaeaaLibL
import Derived.Test.YtfjfobbniglaeaaRev
import Derived.Test.YtfjfobbniglaeaaPat
import Derived.Test.YtfjfobbniglaeaaCat
set_option linter.unusedSimpArgs false
set_option linter.unusedVariables false
set_option maxRecDepth 20000
set_option linter.unusedSectionVars false
namespace Go.Gl
open Go Go.Proofs
variable [Amb]
def fstG (x : List Int) : List (List Int) → Nat
  | [] => 0
  | y :: l => if y = x then 0 else fstG x l + 1
theorem fstG_le {x : List Int} : ∀ {l : List (List Int)}, fstG x l ≤ l.length
  | [] => Nat.le_refl _
  | y :: l => by have := fstG_le (x := x) (l := l); rw [fstG, List.length_cons]; split <;> omega
theorem fstG_spec {x : List Int} : ∀ {l : List (List Int)}, (∀ j, j < fstG x l → ¬ l.getD j [] = x) ∧ (fstG x l < l.length → l.getD (fstG x l) [] = x)
  | [] => by simp [fstG]
  | y :: l => by
    obtain ⟨h1, h2⟩ := fstG_spec (x := x) (l := l)
    rw [fstG]
    by_cases q : y = x
    · rw [if_pos q]
      exact ⟨fun j hj => absurd hj (by omega), fun _ => q⟩
    · rw [if_neg q]
      refine ⟨fun j hj => ?_, fun h => ?_⟩
      · cases j with
        | zero => exact q
        | succ j => exact h1 j (by omega)
      · exact h2 (by simpa using h)
theorem idx_fstG {x : List Int} : ∀ {l : List (List Int)} {i : Nat}, idxG (fun d => decide (x = d)) l i = if fstG x l = l.length then -1 else (i : Int) + fstG x l
  | [], i => by simp [idxG, fstG]
  | y :: l, i => by
    have ih := idx_fstG (x := x) (l := l) (i := i + 1)
    have h3 := fstG_le (x := x) (l := l)
    rw [idxG, fstG]
    by_cases q : y = x
    · rw [if_pos q, if_pos (by simp [q]), if_neg (by simp)]; simp
    · rw [if_neg q, if_neg (by simp; exact fun e => q e.symm), ih, List.length_cons]
      by_cases g : fstG x l = l.length
      · rw [if_pos g, if_pos (by omega)]
      · rw [if_neg g, if_neg (by omega)]; omega
/-- The counts so far, the groups so far. -/
def wgS (n : Int) (L : List (List Int)) : Nat → List (List Int) × List (List (List Int))
  | 0 => ([], [])
  | j + 1 => if fstG (ccR [L.getD j []] n) (wgS n L j).1 = (wgS n L j).1.length then ((wgS n L j).1 ++ [ccR [L.getD j []] n], (wgS n L j).2 ++ [[L.getD j []]])
    else ((wgS n L j).1, (wgS n L j).2.set (fstG (ccR [L.getD j []] n) (wgS n L j).1) ((wgS n L j).2.getD (fstG (ccR [L.getD j []] n) (wgS n L j).1) [] ++ [L.getD j []]))
theorem wgS_len {n : Int} {L : List (List Int)} : ∀ {j : Nat}, (wgS n L j).1.length = (wgS n L j).2.length ∧ (wgS n L j).2.length ≤ j ∧ ∀ g ∈ (wgS n L j).2, g.length ≤ j
  | 0 => by simp [wgS]
  | j + 1 => by
    obtain ⟨h1, h2, h3⟩ := wgS_len (n := n) (L := L) (j := j)
    rw [wgS]
    split
    · simp only [List.length_append, List.length_singleton]
      refine ⟨by omega, by omega, fun g hg => ?_⟩
      rcases List.mem_append.1 hg with q | q
      · have := h3 g q; omega
      · simp at q; subst q; simp
    · rename_i hr
      have h4 := fstG_le (x := ccR [L.getD j []] n) (l := (wgS n L j).1)
      simp only [List.length_set]
      refine ⟨by omega, by omega, fun g hg => ?_⟩
      rcases List.mem_or_eq_of_mem_set hg with q | q
      · have := h3 g q; omega
      · subst q
        have := h3 _ (getD_mem (d := []) (show fstG (ccR [L.getD j []] n) (wgS n L j).1 < (wgS n L j).2.length by omega))
        rw [List.length_append, List.length_singleton]; omega
def wgL (k : Nat) (n : Int) : List (List (List Int)) := (wgS n (permL k) (permL k).length).2
def wgR (k n : Int) : List (List (List Int)) := if 1 ≤ k ∧ k ≤ 4 ∧ 0 ≤ n ∧ n ≤ 6 then wgL k.toNat n else []
theorem one_basis : ∀ k, k < 5 → 1 ≤ k → ∀ p ∈ permL k, basisB [p] = true := by decide +kernel
theorem few_perms : ∀ k, k < 5 → (permL k).length ≤ 24 := by decide +kernel
/-- What the law asks of the groups. -/
def wgK (k : Nat) (n : Int) : Bool :=
  (wgL k n).all (fun g => g.all fun p => g.contains p.reverse && g.contains (cplL p) && isPermB p) && decide (((wgL k n).map List.length).sum = [0, 1, 2, 6, 24].getD k 0) && (decide (k ≠ 3) || decide ((wgL k n).length ≤ 1)) && decide (0 < (wgL k n).length)
theorem wg_1 : ∀ n, n < 6 → wgK 1 (n : Nat) = true := by decide +kernel
theorem wg_2 : ∀ n, n < 6 → wgK 2 (n : Nat) = true := by decide +kernel
theorem wg_3 : ∀ n, n < 6 → wgK 3 (n : Nat) = true := by decide +kernel
theorem wg_40 : ∀ n, n < 5 → wgK 4 (n : Nat) = true := by decide +kernel
theorem wg_45 : wgK 4 5 = true := by decide +kernel
theorem wg_ok {k : Nat} {n : Int} (h1 : 1 ≤ k) (h4 : k ≤ 4) (h0 : 0 ≤ n) (h5 : n ≤ 5) : wgK k n = true := by
  obtain ⟨N, rfl⟩ := Int.eq_ofNat_of_zero_le h0
  obtain rfl | rfl | rfl | rfl : k = 1 ∨ k = 2 ∨ k = 3 ∨ k = 4 := by omega
  · exact wg_1 N (by omega)
  · exact wg_2 N (by omega)
  · exact wg_3 N (by omega)
  · by_cases e : N = 5
    · subst e; exact wg_45
    · exact wg_40 N (by omega)
theorem cat_cls : ∀ x, x < 6 → 1 ≤ x → catR (x : Nat) = ((classL [[2, 3, 1]] x).length : Int) := by decide +kernel
theorem sr_cls : ∀ y, y < 5 → srR (y : Nat) = ((classL [[2, 4, 1, 3], [3, 1, 4, 2]] (y + 1)).length : Int) := by decide +kernel
theorem cat_bas : basisB [[2, 3, 1]] = true ∧ basisB [[2, 4, 1, 3], [3, 1, 4, 2]] = true := by decide +kernel
end Go.Gl
