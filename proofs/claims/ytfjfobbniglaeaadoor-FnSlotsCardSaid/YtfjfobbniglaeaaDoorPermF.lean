/-
  Facts of permutations. Conditions: none.
-/
import Derived.Test.YtfjfobbniglaeaaDoorPerms
import Derived.Test.YtfjfobbniglaeaaDoorLaw2
set_option linter.unusedSimpArgs false
set_option linter.unusedVariables false
set_option maxRecDepth 20000
set_option linter.unusedSectionVars false
namespace Go.Gl
open Go Go.Proofs
variable [Amb] [NoQ]
theorem permGo_iff {n : Int} : ∀ {p seen : List Int}, permGo n seen p = true ↔ (∀ v ∈ p, 1 ≤ v ∧ v ≤ n) ∧ p.Nodup ∧ ∀ v ∈ p, v ∉ seen
  | [], seen => by simp [permGo]
  | v :: p, seen => by
    rw [permGo, Bool.and_eq_true, permGo_iff]
    simp only [Bool.and_eq_true, decide_eq_true_eq, Bool.not_eq_true', List.nodup_cons, List.mem_append, List.mem_singleton]
    constructor
    · rintro ⟨⟨⟨h1, h2⟩, h3⟩, h4, h5, h6⟩
      have h3' : v ∉ seen := fun h => by rw [← List.contains_iff_mem] at h; rw [h] at h3; cases h3
      refine ⟨fun x hx => ?_, ⟨fun hv => h6 v hv (.inr rfl), h5⟩, fun x hx => ?_⟩
      · rcases List.mem_cons.1 hx with rfl | hx
        · exact ⟨h1, h2⟩
        · exact h4 x hx
      · rcases List.mem_cons.1 hx with rfl | hx
        · exact h3'
        · exact fun hs => h6 x hx (.inl hs)
    · rintro ⟨h1, ⟨h2, h3⟩, h4⟩
      have h5 := h1 v (by simp)
      refine ⟨⟨⟨h5.1, h5.2⟩, ?_⟩, fun x hx => h1 x (by simp [hx]), h3, fun x hx => ?_⟩
      · rw [← Bool.not_eq_true, List.contains_iff_mem]; exact h4 v (by simp)
      · rintro (hs | rfl)
        · exact h4 x (by simp [hx]) hs
        · exact h2 hx
theorem permB_iff {p : List Int} : permB p = true ↔ (∀ v ∈ p, 1 ≤ v ∧ v ≤ p.length) ∧ p.Nodup := by
  rw [permB, permGo_iff]; simp
theorem lackL_mem {p : List Int} {n : Nat} {v : Int} (h : v ∈ lackL p n) : 1 ≤ v ∧ v ≤ n ∧ v ∉ p := by
  simp only [lackL, List.mem_filter, List.mem_map, List.mem_range, Bool.not_eq_true'] at h
  obtain ⟨⟨i, hi, rfl⟩, h2⟩ := h
  refine ⟨by omega, by omega, fun hm => ?_⟩
  rw [← List.contains_iff_mem, h2] at hm; cases hm
theorem lvl_ok {n : Nat} : ∀ {k : Nat} {L : List (List Int)}, (∀ l ∈ L, (∀ v ∈ l, 1 ≤ v ∧ v ≤ (n : Int)) ∧ l.Nodup) → ∀ l ∈ lvl n k L, (∀ v ∈ l, 1 ≤ v ∧ v ≤ (n : Int)) ∧ l.Nodup
  | 0, L, h, l, hl => h l hl
  | k + 1, L, h, l, hl => by
    rw [lvl] at hl
    refine lvl_ok (fun q hq => ?_) l hl
    simp only [List.mem_flatMap, extL, List.mem_map] at hq
    obtain ⟨p, hp, v, hv, rfl⟩ := hq
    obtain ⟨h1, h2⟩ := h p hp
    obtain ⟨g1, g2, g3⟩ := lackL_mem hv
    refine ⟨fun x hx => ?_, ?_⟩
    · rcases List.mem_append.1 hx with hx | hx
      · exact h1 x hx
      · simp at hx; subst hx; exact ⟨g1, g2⟩
    · rw [List.nodup_append]
      refine ⟨h2, by simp, fun a ha b hb e => ?_⟩
      simp at hb; subst hb; subst e; exact g3 ha
theorem permL_perm {n : Nat} {l : List Int} (h : l ∈ permL n) : permB l = true := by
  have h1 := permL_row l h
  have h2 := lvl_ok (n := n) (L := [[]]) (k := n) (by simp) l h
  rw [permB_iff, h1]; exact h2
theorem permL_isPerm {n : Nat} (hn : n ≤ 8) {l : List Int} (h : l ∈ permL n) : isPermB l = true := by
  rw [isPermB, permL_perm h, permL_row l h, decide_eq_true hn]; rfl
/-! ### lists without repetition -/
theorem len_two {α : Type} (p : α → Bool) : ∀ (l : List α), l.length = (l.filter p).length + (l.filter fun x => !p x).length
  | [] => rfl
  | x :: l => by
    have := len_two p l
    rw [List.filter_cons, List.filter_cons]
    cases p x <;> simp <;> omega
theorem nodup_le : ∀ {n : Nat} {l : List Int} {a : Int}, l.Nodup → (∀ x ∈ l, a < x ∧ x ≤ a + n) → l.length ≤ n
  | 0, l, a, _, hb => by
    cases l with
    | nil => simp
    | cons x l => have := hb x (by simp); omega
  | n + 1, l, a, hn, hb => by
    have h1 : (l.filter fun x => decide (x ≠ a + (n + 1 : Nat))).length ≤ n := nodup_le (a := a) (List.Nodup.sublist List.filter_sublist hn) fun x hx => by
      simp only [List.mem_filter, decide_eq_true_eq] at hx
      have := hb x hx.1
      refine ⟨this.1, ?_⟩
      have h2 := hx.2
      push_cast at h2 this ⊢
      omega
    have h2 : l.length ≤ (l.filter fun x => decide (x ≠ a + (n + 1 : Nat))).length + 1 := by
      have h3 := len_two (fun x => decide (x ≠ a + (n + 1 : Nat))) l
      have h4 : (l.filter fun x => !decide (x ≠ a + (n + 1 : Nat))).length ≤ 1 := by
        have h5 : (l.filter fun x => !decide (x ≠ a + (n + 1 : Nat))).Nodup := List.Nodup.sublist List.filter_sublist hn
        have h6 : ∀ x ∈ l.filter (fun x => !decide (x ≠ a + (n + 1 : Nat))), x = a + (n + 1 : Nat) := fun x hx => by
          simp only [List.mem_filter] at hx; simpa using hx.2
        revert h5 h6
        generalize l.filter (fun x => !decide (x ≠ a + (n + 1 : Nat))) = q
        intro h5 h6
        match q, h5, h6 with
        | [], _, _ => simp
        | [x], _, _ => simp
        | x :: y :: r, h5, h6 =>
          have e1 := h6 x (by simp)
          have e2 := h6 y (by simp)
          simp only [List.nodup_cons, List.mem_cons, not_or] at h5
          exact absurd (e1.trans e2.symm) h5.1.1
      omega
    omega
/-- Every number from 1 on has its place. -/
theorem perm_mem {p : List Int} (h : permB p = true) {v : Int} (h1 : 1 ≤ v) (h2 : v ≤ p.length) : v ∈ p := by
  obtain ⟨q1, q2⟩ := permB_iff.1 h
  by_cases hm : v ∈ p
  · exact hm
  · exfalso
    have := nodup_le (n := p.length) (a := 0) (l := v :: p) (List.nodup_cons.2 ⟨hm, q2⟩) fun x hx => by
      rcases List.mem_cons.1 hx with rfl | hx
      · omega
      · have := q1 x hx; omega
    simp at this; omega
theorem perm_spot {p : List Int} (h : permB p = true) {v : Int} (h1 : 1 ≤ v) (h2 : v ≤ p.length) : ∃ i, i < p.length ∧ p.getD i 0 = v := by
  obtain ⟨i, hi, e⟩ := List.getElem_of_mem (perm_mem h h1 h2)
  exact ⟨i, hi, by rw [List.getD_eq_getElem?_getD, List.getElem?_eq_getElem hi]; exact e⟩
theorem perm_inj {p : List Int} (h : permB p = true) {i j : Nat} (hi : i < p.length) (hj : j < p.length) (e : p.getD i 0 = p.getD j 0) : i = j := by
  obtain ⟨q1, q2⟩ := permB_iff.1 h
  rw [List.getD_eq_getElem?_getD, List.getElem?_eq_getElem hi, List.getD_eq_getElem?_getD, List.getElem?_eq_getElem hj] at e
  exact (List.getElem_inj q2).1 e
end Go.Gl
