/-
 Facts of permutations. Conditions: none.
-/
import Derived.Test.YtfjfobbniglaeaaPerms
import Derived.Test.YtfjfobbniglaeaaLaw2
set_option linter.unusedSimpArgs false
set_option linter.unusedVariables false
set_option maxRecDepth 20000
set_option linter.unusedSectionVars false
namespace Go.Gl
open Go Go.Proofs
variable [Amb] [NoQ]
theorem permGo_iff {n : Int} : ∀ {p seen : List Int}, permGo n seen p = true ↔ (∀ v ∈ p, 1 ≤ v ∧ v ≤ n) ∧ p.Nodup ∧ ∀ v ∈ p, v ∉ seen
 | [], seen => by simp [permGo]
 | v :: p, seen => by
  rw [permGo, Bool.and_eq_true, permGo_iff]
  simp only [Bool.and_eq_true, decide_eq_true_eq, Bool.not_eq_true', List.nodup_cons, List.mem_append, List.mem_singleton]
  constructor
  ·rintro ⟨⟨⟨h1, h2⟩, h3⟩, h4, h5, h6⟩
   have h3' : v ∉ seen := fun h => by rw [← List.contains_iff_mem] at h; rw [h] at h3; cases h3
   refine ⟨fun x hx => ?_, ⟨fun hv => h6 v hv (.inr rfl), h5⟩, fun x hx => ?_⟩
   ·rcases List.mem_cons.1 hx with rfl | hx
    ·exact ⟨h1, h2⟩
    ·exact h4 x hx
   ·rcases List.mem_cons.1 hx with rfl | hx
    ·exact h3'
    ·exact fun hs => h6 x hx (.inl hs)
  ·rintro ⟨h1, ⟨h2, h3⟩, h4⟩
   have h5 := h1 v (by simp)
   refine ⟨⟨⟨h5.1, h5.2⟩, ?_⟩, fun x hx => h1 x (by simp [hx]), h3, fun x hx => ?_⟩
   ·rw [← Bool.not_eq_true, List.contains_iff_mem]; exact h4 v (by simp)
   ·rintro (hs | rfl)
    ·exact h4 x (by simp [hx]) hs
    ·exact h2 hx
theorem permB_iff {p : List Int} : permB p = true ↔ (∀ v ∈ p, 1 ≤ v ∧ v ≤ p.length) ∧ p.Nodup := by
 rw [permB, permGo_iff]; simp
theorem lackL_mem {p : List Int} {n : Nat} {v : Int} (h : v ∈ lackL p n) : 1 ≤ v ∧ v ≤ n ∧ v ∉ p := by
 simp only [lackL, List.mem_filter, List.mem_map, List.mem_range, Bool.not_eq_true'] at h
 obtain ⟨⟨i, hi, rfl⟩, h2⟩ := h
 refine ⟨by omega, by omega, fun hm => ?_⟩
 rw [← List.contains_iff_mem, h2] at hm; cases hm
theorem lvl_ok {n : Nat} : ∀ {k : Nat} {L : List (List Int)}, (∀ l ∈ L, (∀ v ∈ l, 1 ≤ v ∧ v ≤ (n : Int)) ∧ l.Nodup) → ∀ l ∈ lvl n k L, (∀ v ∈ l, 1 ≤ v ∧ v ≤ (n : Int)) ∧ l.Nodup
 | 0, L, h, l, hl => h l hl
 | k + 1, L, h, l, hl => by
  rw [lvl] at hl
  refine lvl_ok (fun q hq => ?_) l hl
  simp only [List.mem_flatMap, extL, List.mem_map] at hq
  obtain ⟨p, hp, v, hv, rfl⟩ := hq
  obtain ⟨h1, h2⟩ := h p hp
  obtain ⟨g1, g2, g3⟩ := lackL_mem hv
  refine ⟨fun x hx => ?_, ?_⟩
  ·rcases List.mem_append.1 hx with hx | hx
   ·exact h1 x hx
   ·simp at hx; subst hx; exact ⟨g1, g2⟩
  ·rw [List.nodup_append]
   refine ⟨h2, by simp, fun a ha b hb e => ?_⟩
   simp at hb; subst hb; subst e; exact g3 ha
theorem permL_perm {n : Nat} {l : List Int} (h : l ∈ permL n) : permB l = true := by
 have h1 := permL_row l h
 have h2 := lvl_ok (n := n) (L := [[]]) (k := n) (by simp) l h
 rw [permB_iff, h1]; exact h2
/-! ### lists without repetition -/
theorem len_two {α : Type} (p : α → Bool) : ∀ (l : List α), l.length = (l.filter p).length + (l.filter fun x => !p x).length
 | [] => rfl
 | x :: l => by
  have := len_two p l
  rw [List.filter_cons, List.filter_cons]
  cases p x <;> simp <;> omega
end Go.Gl
