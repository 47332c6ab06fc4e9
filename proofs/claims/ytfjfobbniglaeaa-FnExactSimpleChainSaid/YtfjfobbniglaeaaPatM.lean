/-
 Occurrences of patterns told in plain words; classes are closed downwards and counted length by length. Conditions: none.
-/
import Derived.Test.YtfjfobbniglaeaaBasis
import Derived.Test.YtfjfobbniglaeaaPermF
import Derived.Test.YtfjfobbniglaeaaClsN
set_option linter.unusedSimpArgs false
set_option linter.unusedVariables false
set_option maxRecDepth 20000
set_option linter.unusedSectionVars false
namespace Go.Gl
open Go Go.Proofs
variable [Amb] [NoQ]
/-- Places that agree with the pattern so far. -/
def Good (p q : List Int) (c : List Nat) : Prop := c.Pairwise (· < ·) ∧ (∀ x ∈ c, x < p.length) ∧ ∀ i j, i < j → j < c.length → (q.getD i 0 < q.getD j 0 ↔ p.getD (c.getD i 0) 0 < p.getD (c.getD j 0) 0)
theorem gd_l {α : Type} {a b : List α} {d : α} {i : Nat} (h : i < a.length) : (a ++ b).getD i d = a.getD i d := by
 rw [List.getD_eq_getElem?_getD, List.getElem?_append_left h, List.getD_eq_getElem?_getD]
theorem gd_r {α : Type} {a b : List α} {d : α} {i : Nat} (h : a.length ≤ i) : (a ++ b).getD i d = b.getD (i - a.length) d := by
 rw [List.getD_eq_getElem?_getD, List.getElem?_append_right h, List.getD_eq_getElem?_getD]
theorem gd_m {α β : Type} {f : α → β} {l : List α} {d : α} {e : β} {i : Nat} (h : i < l.length) : (l.map f).getD i e = f (l.getD i d) := by
 rw [List.getD_eq_getElem?_getD, List.getElem?_map, List.getD_eq_getElem?_getD, List.getElem?_eq_getElem h]; rfl
theorem gd_e {α : Type} {a : List α} {x d : α} : (a ++ [x]).getD a.length d = x := by rw [gd_r (Nat.le_refl _), Nat.sub_self]; rfl
theorem good_snoc {p q : List Int} {c : List Nat} {m : Nat} : Good p q (c ++ [m]) ↔ Good p q c ∧ (∀ x ∈ c, x < m) ∧ m < p.length ∧ ∀ l, l < c.length → (q.getD l 0 < q.getD c.length 0 ↔ p.getD (c.getD l 0) 0 < p.getD m 0) := by
 unfold Good
 rw [List.pairwise_append]
 constructor
 ·rintro ⟨⟨h1, _, h2⟩, h3, h4⟩
  refine ⟨⟨h1, fun x hx => h3 x (List.mem_append.2 (.inl hx)), fun i j hij hj => ?_⟩, fun x hx => h2 x hx m (by simp), h3 m (by simp), fun l hl => ?_⟩
  ·have := h4 i j hij (by simp; omega)
   rwa [gd_l (by omega), gd_l hj] at this
  ·have := h4 l c.length hl (by simp)
   rwa [gd_l hl, gd_e] at this
 ·rintro ⟨⟨h1, h3, h4⟩, h2, h5, h6⟩
  refine ⟨⟨h1, by simp, fun x hx y hy => by rw [List.mem_singleton] at hy; subst hy; exact h2 x hx⟩, fun x hx => ?_, fun i j hij hj => ?_⟩
  ·rcases List.mem_append.1 hx with g | g
   ·exact h3 x g
   ·rw [List.mem_singleton] at g; subst g; exact h5
  ·rw [List.length_append, List.length_singleton] at hj
   by_cases e : j = c.length
   ·subst e; rw [gd_l hij, gd_e]; exact h6 i hij
   ·rw [gd_l (by omega), gd_l (by omega)]; exact h4 i j hij (by omega)
def frN (c : List Nat) : Nat := if c.length = 0 then 0 else c.getD (c.length - 1) 0 + 1
theorem from_cast {c : List Nat} : fromI 0 (c.map Int.ofNat) = (frN c : Int) := by
 unfold fromI frN
 rw [List.length_map]
 split
 ·rfl
 ·rw [gd_m (d := 0) (by omega)]; simp
theorem frN_le {c : List Nat} (h : c.Pairwise (· < ·)) {m : Nat} : frN c ≤ m ↔ ∀ x ∈ c, x < m := by
 unfold frN
 constructor
 ·intro h1 x hx
  obtain ⟨i, hi, rfl⟩ := List.getElem_of_mem hx
  rw [if_neg (by omega), List.getD_eq_getElem?_getD, List.getElem?_eq_getElem (by omega)] at h1
  by_cases e : i = c.length - 1
  ·subst e; simp at h1; omega
  ·have := List.pairwise_iff_getElem.1 h i (c.length - 1) hi (by omega) (by omega)
   simp at h1; omega
 ·intro h1
  split
  ·omega
  ·have := h1 _ (getD_mem (d := 0) (show c.length - 1 < c.length by omega)); omega
theorem fit_cast {p q : List Int} {c : List Nat} {m : Nat} : fitB 0 p q (c.map Int.ofNat) (m : Int) = true ↔ ∀ l, l < c.length → (q.getD l 0 < q.getD c.length 0 ↔ p.getD (c.getD l 0) 0 < p.getD m 0) := by
 rw [fitB, fitK, List.all_eq_true, List.length_map]
 refine forall_congr' fun l => ?_
 rw [List.mem_range]
 refine imp_congr_right fun hl => ?_
 rw [gd_m (d := 0) hl, beq_iff_eq, show (Int.ofNat (c.getD l 0) - 0).toNat = c.getD l 0 by simp, show ((m : Int) - 0).toNat = m by simp]
 exact decide_eq_decide
theorem occ_ext {p q : List Int} : ∀ {d : Nat} {c : List Nat}, Good p q c → c.length + d = q.length → (occ 0 p q d (c.map Int.ofNat) ≠ [] ↔ ∃ t, t.length = d ∧ Good p q (c ++ t))
 | 0, c, hc, hd => by
  rw [occ]
  exact ⟨fun _ => ⟨[], rfl, by rwa [List.append_nil]⟩, fun _ h => by cases h⟩
 | d + 1, c, hc, hd => by
  rw [occ, ne_eq, List.flatMap_eq_nil_iff]
  constructor
  ·intro h
   obtain ⟨j, hj⟩ := Classical.not_forall.1 h
   rw [Classical.not_imp, List.mem_range, from_cast] at hj
   obtain ⟨h1, h2⟩ := hj
   rw [show ((frN c : Int) + (j : Int)) = ((frN c + j : Nat) : Int) by omega] at h2
   have h4 : fitB 0 p q (c.map Int.ofNat) ((frN c + j : Nat) : Int) = true := by
    cases e : fitB 0 p q (c.map Int.ofNat) ((frN c + j : Nat) : Int) with
    | true => rfl
    | false => rw [e] at h2; exact absurd rfl h2
   rw [if_pos h4] at h2
   have g : Good p q (c ++ [frN c + j]) := good_snoc.2 ⟨hc, (frN_le hc.1).1 (by omega), by omega, fit_cast.1 h4⟩
   have := (occ_ext (d := d) g (by simp; omega)).1 (by rw [List.map_append]; exact h2)
   obtain ⟨t, ht, hg⟩ := this
   exact ⟨(frN c + j) :: t, by simp [ht], by rwa [List.append_assoc] at hg⟩
  ·rintro ⟨t, ht, hg⟩ h
   cases t with
   | nil => simp at ht
   | cons m t =>
    rw [show c ++ m :: t = (c ++ [m]) ++ t by simp] at hg
    have g : Good p q (c ++ [m]) := by
     refine ⟨(List.pairwise_append.1 hg.1).1, fun x hx => hg.2.1 x (List.mem_append.2 (.inl hx)), fun i j hij hj => ?_⟩
     have := hg.2.2 i j hij (by rw [List.length_append]; omega)
     rwa [gd_l (a := c ++ [m]) (by omega), gd_l (a := c ++ [m]) hj] at this
    obtain ⟨_, g2, g3, g4⟩ := good_snoc.1 g
    have g5 := (frN_le hc.1).2 g2
    have := h (m - frN c) (List.mem_range.2 (by rw [from_cast]; omega))
    rw [from_cast, show ((frN c : Int) + ((m - frN c : Nat) : Int)) = (m : Int) by omega, if_pos (fit_cast.2 g4)] at this
    exact (occ_ext (d := d) g (by simp; omega)).2 ⟨t, by simpa using ht, hg⟩ (by rw [List.map_append]; exact this)
theorem hasB_iff {p q : List Int} : hasB p q = true ↔ ∃ c, c.length = q.length ∧ Good p q c := by
 have := occ_ext (p := p) (q := q) (d := q.length) (c := []) ⟨List.Pairwise.nil, by simp, by simp⟩ (by simp)
 rw [hasB]
 simp only [List.map_nil, List.nil_append] at this
 rw [← this]
 cases occ 0 p q q.length [] <;> simp
/-- What lies in a list lies in every list that holds it in the same order. -/
theorem hasB_of {p p' q : List Int} (g : Nat → Nat) (hm : ∀ i j, i < j → j < p.length → g i < g j) (hl : ∀ i, i < p.length → g i < p'.length)
  (ho : ∀ i j, i < p.length → j < p.length → (p.getD i 0 < p.getD j 0 ↔ p'.getD (g i) 0 < p'.getD (g j) 0)) (h : hasB p q = true) : hasB p' q = true := by
 obtain ⟨c, hc, h1, h2, h3⟩ := hasB_iff.1 h
 refine hasB_iff.2 ⟨c.map g, by simpa using hc, ?_, fun x hx => ?_, fun i j hij hj => ?_⟩
 ·rw [List.pairwise_map]
  exact List.Pairwise.imp_of_mem (fun ha hb hab => hm _ _ hab (h2 _ hb)) h1
 ·obtain ⟨y, hy, rfl⟩ := List.mem_map.1 hx
  exact hl y (h2 y hy)
 ·rw [List.length_map] at hj
  rw [gd_m (d := 0) (by omega), gd_m (d := 0) hj, h3 i j hij hj]
  exact ho _ _ (h2 _ (getD_mem (by omega))) (h2 _ (getD_mem hj))
/-! ### all permutations -/
theorem lack_iff {p : List Int} {n : Nat} {v : Int} : v ∈ lackL p n ↔ 1 ≤ v ∧ v ≤ n ∧ v ∉ p := by
 refine ⟨lackL_mem, fun ⟨h1, h2, h3⟩ => ?_⟩
 rw [lackL, List.mem_filter, List.mem_map]
 refine ⟨⟨(v - 1).toNat, List.mem_range.2 (by omega), by omega⟩, ?_⟩
 rw [Bool.not_eq_true', ← Bool.not_eq_true, List.contains_iff_mem]; exact h3
theorem lvl_all {n : Nat} : ∀ {k : Nat} {y : List Int}, y.length = k → (∀ v ∈ y, 1 ≤ v ∧ v ≤ (n : Int)) → y.Nodup → y ∈ lvl n k [[]]
 | 0, y, hk, _, _ => by rw [List.length_eq_zero_iff] at hk; subst hk; simp [lvl]
 | k + 1, y, hk, h1, h2 => by
  have hy : y = y.take k ++ [y.getD k 0] := by rw [← take_getD (by omega), List.take_of_length_le (by omega)]
  rw [hy] at h1 h2
  rw [List.nodup_append] at h2
  have ih := lvl_all (n := n) (k := k) (y := y.take k) (by simp; omega) (fun v hv => h1 v (List.mem_append.2 (.inl hv))) h2.1
  have h4 := h1 (y.getD k 0) (by simp)
  rw [lvl_succ, List.mem_flatMap]
  refine ⟨y.take k, ih, ?_⟩
  rw [extL, List.mem_map]
  exact ⟨y.getD k 0, lack_iff.2 ⟨h4.1, h4.2, fun e => h2.2.2 _ e _ (by simp) rfl⟩, hy.symm⟩
theorem permL_mem {n : Nat} {p : List Int} : p ∈ permL n ↔ permB p = true ∧ p.length = n := by
 refine ⟨fun h => ⟨permL_perm h, permL_row _ h⟩, fun ⟨h1, h2⟩ => ?_⟩
 obtain ⟨h3, h4⟩ := permB_iff.1 h1
 rw [h2] at h3
 exact lvl_all h2 h3 h4
/-! ### a number put at the end -/
/-! ### a class, length by length -/
end Go.Gl
