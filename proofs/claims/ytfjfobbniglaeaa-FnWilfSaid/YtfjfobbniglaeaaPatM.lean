/-
  Occurrences of patterns told in plain words; classes are closed downwards and counted length by length. Conditions: none.
-/
import Derived.Test.YtfjfobbniglaeaaBasis
import Derived.Test.YtfjfobbniglaeaaPermF
import Derived.Test.YtfjfobbniglaeaaClsN
set_option linter.unusedSimpArgs false
set_option linter.unusedVariables false
set_option maxRecDepth 20000
set_option linter.unusedSectionVars false
namespace Go.Gl
open Go Go.Proofs
variable [Amb]
/-- Places that agree with the pattern so far. -/
def Good (p q : List Int) (c : List Nat) : Prop := c.Pairwise (· < ·) ∧ (∀ x ∈ c, x < p.length) ∧ ∀ i j, i < j → j < c.length → (q.getD i 0 < q.getD j 0 ↔ p.getD (c.getD i 0) 0 < p.getD (c.getD j 0) 0)
theorem gd_l {α : Type} {a b : List α} {d : α} {i : Nat} (h : i < a.length) : (a ++ b).getD i d = a.getD i d := by
  rw [List.getD_eq_getElem?_getD, List.getElem?_append_left h, List.getD_eq_getElem?_getD]
theorem gd_r {α : Type} {a b : List α} {d : α} {i : Nat} (h : a.length ≤ i) : (a ++ b).getD i d = b.getD (i - a.length) d := by
  rw [List.getD_eq_getElem?_getD, List.getElem?_append_right h, List.getD_eq_getElem?_getD]
theorem gd_m {α β : Type} {f : α → β} {l : List α} {d : α} {e : β} {i : Nat} (h : i < l.length) : (l.map f).getD i e = f (l.getD i d) := by
  rw [List.getD_eq_getElem?_getD, List.getElem?_map, List.getD_eq_getElem?_getD, List.getElem?_eq_getElem h]; rfl
theorem gd_e {α : Type} {a : List α} {x d : α} : (a ++ [x]).getD a.length d = x := by rw [gd_r (Nat.le_refl _), Nat.sub_self]; rfl
theorem good_snoc {p q : List Int} {c : List Nat} {m : Nat} : Good p q (c ++ [m]) ↔ Good p q c ∧ (∀ x ∈ c, x < m) ∧ m < p.length ∧ ∀ l, l < c.length → (q.getD l 0 < q.getD c.length 0 ↔ p.getD (c.getD l 0) 0 < p.getD m 0) := by
  unfold Good
  rw [List.pairwise_append]
  constructor
  · rintro ⟨⟨h1, _, h2⟩, h3, h4⟩
    refine ⟨⟨h1, fun x hx => h3 x (List.mem_append.2 (.inl hx)), fun i j hij hj => ?_⟩, fun x hx => h2 x hx m (by simp), h3 m (by simp), fun l hl => ?_⟩
    · have := h4 i j hij (by simp; omega)
      rwa [gd_l (by omega), gd_l hj] at this
    · have := h4 l c.length hl (by simp)
      rwa [gd_l hl, gd_e] at this
  · rintro ⟨⟨h1, h3, h4⟩, h2, h5, h6⟩
    refine ⟨⟨h1, by simp, fun x hx y hy => by rw [List.mem_singleton] at hy; subst hy; exact h2 x hx⟩, fun x hx => ?_, fun i j hij hj => ?_⟩
    · rcases List.mem_append.1 hx with g | g
      · exact h3 x g
      · rw [List.mem_singleton] at g; subst g; exact h5
    · rw [List.length_append, List.length_singleton] at hj
      by_cases e : j = c.length
      · subst e; rw [gd_l hij, gd_e]; exact h6 i hij
      · rw [gd_l (by omega), gd_l (by omega)]; exact h4 i j hij (by omega)
def frN (c : List Nat) : Nat := if c.length = 0 then 0 else c.getD (c.length - 1) 0 + 1
theorem from_cast {c : List Nat} : fromI 0 (c.map Int.ofNat) = (frN c : Int) := by
  unfold fromI frN
  rw [List.length_map]
  split
  · rfl
  · rw [gd_m (d := 0) (by omega)]; simp
theorem frN_le {c : List Nat} (h : c.Pairwise (· < ·)) {m : Nat} : frN c ≤ m ↔ ∀ x ∈ c, x < m := by
  unfold frN
  constructor
  · intro h1 x hx
    obtain ⟨i, hi, rfl⟩ := List.getElem_of_mem hx
    rw [if_neg (by omega), List.getD_eq_getElem?_getD, List.getElem?_eq_getElem (by omega)] at h1
    by_cases e : i = c.length - 1
    · subst e; simp at h1; omega
    · have := List.pairwise_iff_getElem.1 h i (c.length - 1) hi (by omega) (by omega)
      simp at h1; omega
  · intro h1
    split
    · omega
    · have := h1 _ (getD_mem (d := 0) (show c.length - 1 < c.length by omega)); omega
theorem fit_cast {p q : List Int} {c : List Nat} {m : Nat} : fitB 0 p q (c.map Int.ofNat) (m : Int) = true ↔ ∀ l, l < c.length → (q.getD l 0 < q.getD c.length 0 ↔ p.getD (c.getD l 0) 0 < p.getD m 0) := by
  rw [fitB, fitK, List.all_eq_true, List.length_map]
  refine forall_congr' fun l => ?_
  rw [List.mem_range]
  refine imp_congr_right fun hl => ?_
  rw [gd_m (d := 0) hl, beq_iff_eq, show (Int.ofNat (c.getD l 0) - 0).toNat = c.getD l 0 by simp, show ((m : Int) - 0).toNat = m by simp]
  exact decide_eq_decide
theorem occ_ext {p q : List Int} : ∀ {d : Nat} {c : List Nat}, Good p q c → c.length + d = q.length → (occ 0 p q d (c.map Int.ofNat) ≠ [] ↔ ∃ t, t.length = d ∧ Good p q (c ++ t))
  | 0, c, hc, hd => by
    rw [occ]
    exact ⟨fun _ => ⟨[], rfl, by rwa [List.append_nil]⟩, fun _ h => by cases h⟩
  | d + 1, c, hc, hd => by
    rw [occ, ne_eq, List.flatMap_eq_nil_iff]
    constructor
    · intro h
      obtain ⟨j, hj⟩ := Classical.not_forall.1 h
      rw [Classical.not_imp, List.mem_range, from_cast] at hj
      obtain ⟨h1, h2⟩ := hj
      rw [show ((frN c : Int) + (j : Int)) = ((frN c + j : Nat) : Int) by omega] at h2
      have h4 : fitB 0 p q (c.map Int.ofNat) ((frN c + j : Nat) : Int) = true := by
        cases e : fitB 0 p q (c.map Int.ofNat) ((frN c + j : Nat) : Int) with
        | true => rfl
        | false => rw [e] at h2; exact absurd rfl h2
      rw [if_pos h4] at h2
      have g : Good p q (c ++ [frN c + j]) := good_snoc.2 ⟨hc, (frN_le hc.1).1 (by omega), by omega, fit_cast.1 h4⟩
      have := (occ_ext (d := d) g (by simp; omega)).1 (by rw [List.map_append]; exact h2)
      obtain ⟨t, ht, hg⟩ := this
      exact ⟨(frN c + j) :: t, by simp [ht], by rwa [List.append_assoc] at hg⟩
    · rintro ⟨t, ht, hg⟩ h
      cases t with
      | nil => simp at ht
      | cons m t =>
        rw [show c ++ m :: t = (c ++ [m]) ++ t by simp] at hg
        have g : Good p q (c ++ [m]) := by
          refine ⟨(List.pairwise_append.1 hg.1).1, fun x hx => hg.2.1 x (List.mem_append.2 (.inl hx)), fun i j hij hj => ?_⟩
          have := hg.2.2 i j hij (by rw [List.length_append]; omega)
          rwa [gd_l (a := c ++ [m]) (by omega), gd_l (a := c ++ [m]) hj] at this
        obtain ⟨_, g2, g3, g4⟩ := good_snoc.1 g
        have g5 := (frN_le hc.1).2 g2
        have := h (m - frN c) (List.mem_range.2 (by rw [from_cast]; omega))
        rw [from_cast, show ((frN c : Int) + ((m - frN c : Nat) : Int)) = (m : Int) by omega, if_pos (fit_cast.2 g4)] at this
        exact (occ_ext (d := d) g (by simp; omega)).2 ⟨t, by simpa using ht, hg⟩ (by rw [List.map_append]; exact this)
theorem hasB_iff {p q : List Int} : hasB p q = true ↔ ∃ c, c.length = q.length ∧ Good p q c := by
  have := occ_ext (p := p) (q := q) (d := q.length) (c := []) ⟨List.Pairwise.nil, by simp, by simp⟩ (by simp)
  rw [hasB]
  simp only [List.map_nil, List.nil_append] at this
  rw [← this]
  cases occ 0 p q q.length [] <;> simp
/-- What lies in a list lies in every list that holds it in the same order. -/
theorem hasB_of {p p' q : List Int} (g : Nat → Nat) (hm : ∀ i j, i < j → j < p.length → g i < g j) (hl : ∀ i, i < p.length → g i < p'.length)
    (ho : ∀ i j, i < p.length → j < p.length → (p.getD i 0 < p.getD j 0 ↔ p'.getD (g i) 0 < p'.getD (g j) 0)) (h : hasB p q = true) : hasB p' q = true := by
  obtain ⟨c, hc, h1, h2, h3⟩ := hasB_iff.1 h
  refine hasB_iff.2 ⟨c.map g, by simpa using hc, ?_, fun x hx => ?_, fun i j hij hj => ?_⟩
  · rw [List.pairwise_map]
    exact List.Pairwise.imp_of_mem (fun ha hb hab => hm _ _ hab (h2 _ hb)) h1
  · obtain ⟨y, hy, rfl⟩ := List.mem_map.1 hx
    exact hl y (h2 y hy)
  · rw [List.length_map] at hj
    rw [gd_m (d := 0) (by omega), gd_m (d := 0) hj, h3 i j hij hj]
    exact ho _ _ (h2 _ (getD_mem (by omega))) (h2 _ (getD_mem hj))
theorem insF_lt {v x y : Int} : insF v x < insF v y ↔ x < y := by
  unfold insF bitI
  by_cases h1 : v ≤ x <;> by_cases h2 : v ≤ y <;> simp [h1, h2] <;> omega
theorem hasB_insE {q b : List Int} {v : Int} (h : hasB q b = true) : hasB (insE q v) b = true := by
  refine hasB_of (fun i => i) (fun i j h _ => h) (fun i h => by simp [insE]; omega) (fun i j hi hj => ?_) h
  rw [insE, gd_l (by simpa using hi), gd_l (by simpa using hj), gd_m (d := 0) hi, gd_m (d := 0) hj, insF_lt]
theorem avB_down {L : List (List Int)} {q : List Int} {v : Int} (h : avB L (insE q v) = true) : avB L q = true := by
  simp only [avB, Bool.not_eq_true', List.any_eq_false] at h ⊢
  exact fun b hb e => h b hb (hasB_insE e)
/-! ### all permutations -/
theorem lack_iff {p : List Int} {n : Nat} {v : Int} : v ∈ lackL p n ↔ 1 ≤ v ∧ v ≤ n ∧ v ∉ p := by
  refine ⟨lackL_mem, fun ⟨h1, h2, h3⟩ => ?_⟩
  rw [lackL, List.mem_filter, List.mem_map]
  refine ⟨⟨(v - 1).toNat, List.mem_range.2 (by omega), by omega⟩, ?_⟩
  rw [Bool.not_eq_true', ← Bool.not_eq_true, List.contains_iff_mem]; exact h3
theorem lvl_all {n : Nat} : ∀ {k : Nat} {y : List Int}, y.length = k → (∀ v ∈ y, 1 ≤ v ∧ v ≤ (n : Int)) → y.Nodup → y ∈ lvl n k [[]]
  | 0, y, hk, _, _ => by rw [List.length_eq_zero_iff] at hk; subst hk; simp [lvl]
  | k + 1, y, hk, h1, h2 => by
    have hy : y = y.take k ++ [y.getD k 0] := by rw [← take_getD (by omega), List.take_of_length_le (by omega)]
    rw [hy] at h1 h2
    rw [List.nodup_append] at h2
    have ih := lvl_all (n := n) (k := k) (y := y.take k) (by simp; omega) (fun v hv => h1 v (List.mem_append.2 (.inl hv))) h2.1
    have h4 := h1 (y.getD k 0) (by simp)
    rw [lvl_succ, List.mem_flatMap]
    refine ⟨y.take k, ih, ?_⟩
    rw [extL, List.mem_map]
    exact ⟨y.getD k 0, lack_iff.2 ⟨h4.1, h4.2, fun e => h2.2.2 _ e _ (by simp) rfl⟩, hy.symm⟩
theorem permL_mem {n : Nat} {p : List Int} : p ∈ permL n ↔ permB p = true ∧ p.length = n := by
  refine ⟨fun h => ⟨permL_perm h, permL_row _ h⟩, fun ⟨h1, h2⟩ => ?_⟩
  obtain ⟨h3, h4⟩ := permB_iff.1 h1
  rw [h2] at h3
  exact lvl_all h2 h3 h4
theorem snoc_inj {α : Type} {a b : List α} {x y : α} (h : a ++ [x] = b ++ [y]) : a = b ∧ x = y := by
  have := List.append_inj' h rfl
  exact ⟨this.1, by simpa using this.2⟩
theorem lack_nd {p : List Int} {n : Nat} : (lackL p n).Nodup := by
  unfold lackL
  refine List.Nodup.sublist List.filter_sublist ?_
  rw [List.nodup_iff_pairwise_ne, List.pairwise_map]
  exact List.Pairwise.imp (fun h => by omega) List.pairwise_lt_range
theorem lvl_nd {n : Nat} : ∀ {k : Nat}, (lvl n k [[]]).Nodup
  | 0 => by simp [lvl]
  | k + 1 => by
    rw [lvl_succ, List.nodup_iff_pairwise_ne, List.pairwise_flatMap]
    refine ⟨fun a _ => ?_, ?_⟩
    · rw [extL, List.pairwise_map]
      exact List.Pairwise.imp (fun h e => h (snoc_inj e).2) (List.nodup_iff_pairwise_ne.1 lack_nd)
    · refine List.Pairwise.imp (fun h x hx y hy e => ?_) (List.nodup_iff_pairwise_ne.1 (lvl_nd (n := n) (k := k)))
      rw [extL, List.mem_map] at hx hy
      obtain ⟨v, _, rfl⟩ := hx
      obtain ⟨w, _, rfl⟩ := hy
      exact h (snoc_inj e).1
theorem permL_nd {n : Nat} : (permL n).Nodup := lvl_nd
/-! ### a number put at the end -/
def delV (v x : Int) : Int := if v < x then x - 1 else x
theorem ins_del {v x : Int} (h : x ≠ v) : insF v (delV v x) = x := by
  unfold insF delV bitI
  split <;> (split <;> simp_all <;> omega)
theorem insF_inj {v x y : Int} (h : insF v x = insF v y) : x = y := by
  have h1 : ¬ x < y := fun g => by have := insF_lt (v := v).2 g; omega
  have h2 : ¬ y < x := fun g => by have := insF_lt (v := v).2 g; omega
  omega
theorem insF_ne {v x : Int} : insF v x ≠ v := by
  unfold insF bitI; by_cases h : v ≤ x <;> simp [h] <;> omega
theorem map_inj {f : Int → Int} (hf : ∀ x y, f x = f y → x = y) : ∀ {a b : List Int}, a.map f = b.map f → a = b
  | [], [], _ => rfl
  | [], _ :: _, h => by simp at h
  | _ :: _, [], h => by simp at h
  | x :: a, y :: b, h => by
    rw [List.map_cons, List.map_cons, List.cons.injEq] at h
    rw [hf _ _ h.1, map_inj hf h.2]
theorem insE_inj {q q' : List Int} {v v' : Int} (h : insE q v = insE q' v') : q = q' ∧ v = v' := by
  obtain ⟨h1, rfl⟩ := snoc_inj h
  exact ⟨map_inj (fun _ _ => insF_inj) h1, rfl⟩
theorem insE_perm {q : List Int} {k : Nat} {v : Int} (h : permB q = true) (hk : q.length = k) (h1 : 1 ≤ v) (h2 : v ≤ k + 1) : permB (insE q v) = true ∧ (insE q v).length = k + 1 := by
  obtain ⟨g1, g2⟩ := permB_iff.1 h
  have e : (insE q v).length = k + 1 := by simp [insE, hk]
  refine ⟨permB_iff.2 ⟨fun x hx => ?_, ?_⟩, e⟩
  · rw [e]
    rw [insE, List.mem_append, List.mem_singleton] at hx
    rcases hx with hx | rfl
    · obtain ⟨y, hy, rfl⟩ := List.mem_map.1 hx
      have := g1 y hy
      have := bitI_r (decide (v ≤ y))
      unfold insF; omega
    · omega
  · rw [insE, List.nodup_append]
    refine ⟨?_, by simp, fun x hx y hy => ?_⟩
    · rw [List.nodup_iff_pairwise_ne, List.pairwise_map]
      exact List.Pairwise.imp (fun h e => h (insF_inj e)) (List.nodup_iff_pairwise_ne.1 g2)
    · obtain ⟨z, _, rfl⟩ := List.mem_map.1 hx
      rw [List.mem_singleton] at hy; subst hy
      exact insF_ne
theorem perm_insE {p : List Int} {k : Nat} (h : permB p = true) (hk : p.length = k + 1) : ∃ q v, permB q = true ∧ q.length = k ∧ 1 ≤ v ∧ v ≤ (k : Int) + 1 ∧ p = insE q v := by
  obtain ⟨g1, g2⟩ := permB_iff.1 h
  have hp : p = p.take k ++ [p.getD k 0] := by rw [← take_getD (by omega), List.take_of_length_le (by omega)]
  have hv := g1 (p.getD k 0) (getD_mem (by omega))
  rw [hk] at g1 hv
  generalize p.getD k 0 = v at hp hv
  have hl : (p.take k).length = k := by simp; omega
  rw [hp] at g2
  rw [List.nodup_append] at g2
  have hne : ∀ x ∈ p.take k, x ≠ v := fun x hx e => g2.2.2 x hx v (by simp) e
  have he : ((p.take k).map (delV v)).map (insF v) = p.take k := by
    rw [List.map_map]
    exact (List.map_congr_left (fun x hx => ins_del (hne x hx))).trans (List.map_id _)
  refine ⟨(p.take k).map (delV v), v, permB_iff.2 ⟨fun x hx => ?_, ?_⟩, by simp; omega, by omega, by omega, by rw [insE, he]; exact hp⟩
  · rw [List.length_map, hl]
    obtain ⟨y, hy, rfl⟩ := List.mem_map.1 hx
    have b1 := g1 y (List.mem_of_mem_take hy)
    have b2 := hne y hy
    unfold delV; split <;> omega
  · rw [List.nodup_iff_pairwise_ne, List.pairwise_map]
    refine List.Pairwise.imp_of_mem (fun {x y} hx hy h e => h ?_) (List.nodup_iff_pairwise_ne.1 g2.1)
    have := congrArg (insF v) e
    rwa [ins_del (hne x hx), ins_del (hne y hy)] at this
/-! ### a class, length by length -/
theorem cls_mem {L : List (List Int)} (h0 : avB L [] = true) : ∀ {k : Nat} {p : List Int}, p ∈ clsL L k ↔ permB p = true ∧ p.length = k ∧ avB L p = true
  | 0, p => by
    rw [clsL, List.mem_singleton]
    refine ⟨fun h => by subst h; exact ⟨rfl, rfl, h0⟩, fun h => List.length_eq_zero_iff.1 h.2.1⟩
  | k + 1, p => by
    rw [clsL, nxL, List.mem_flatMap]
    constructor
    · rintro ⟨q, hq, hy⟩
      obtain ⟨h1, v, hv, rfl⟩ := nxV_mem.1 hy
      obtain ⟨h2, h3, _⟩ := (cls_mem h0).1 hq
      have := insE_perm h2 h3 (v := (v : Int) + 1) (by omega) (by omega)
      exact ⟨this.1, this.2, h1⟩
    · rintro ⟨h1, h2, h3⟩
      obtain ⟨q, v, g1, g2, g3, g4, rfl⟩ := perm_insE h1 h2
      refine ⟨q, (cls_mem h0).2 ⟨g1, g2, avB_down h3⟩, nxV_mem.2 ⟨h3, (v - 1).toNat, by omega, ?_⟩⟩
      rw [show (((v - 1).toNat : Nat) : Int) + 1 = v by omega]
theorem nxV_nd {L : List (List Int)} {q : List Int} : ∀ {n : Nat}, (nxV L q n).Nodup
  | 0 => by simp [nxV]
  | n + 1 => by
    rw [nxV, List.nodup_append]
    refine ⟨nxV_nd, by split <;> simp, fun x hx y hy e => ?_⟩
    obtain ⟨_, v, hv, rfl⟩ := nxV_mem.1 hx
    split at hy
    · rw [List.mem_singleton] at hy; subst hy
      have := (insE_inj e).2; omega
    · simp at hy
theorem cls_nd {L : List (List Int)} : ∀ {k : Nat}, (clsL L k).Nodup
  | 0 => by simp [clsL]
  | k + 1 => by
    rw [clsL, nxL, List.nodup_iff_pairwise_ne, List.pairwise_flatMap]
    refine ⟨fun a _ => List.nodup_iff_pairwise_ne.1 nxV_nd, List.Pairwise.imp (fun h x hx y hy e => ?_) (List.nodup_iff_pairwise_ne.1 (cls_nd (L := L) (k := k)))⟩
    obtain ⟨_, v, _, rfl⟩ := nxV_mem.1 hx
    obtain ⟨_, w, _, rfl⟩ := nxV_mem.1 hy
    exact h (insE_inj e).1
theorem len_of_mem {α : Type} [DecidableEq α] : ∀ {a b : List α}, a.Nodup → (∀ x, x ∈ a → x ∈ b) → a.length ≤ b.length
  | [], _, _, _ => Nat.zero_le _
  | x :: a, b, h1, h2 => by
    rw [List.nodup_cons] at h1
    have hx := h2 x (by simp)
    have := len_of_mem (a := a) (b := b.erase x) h1.2 fun y hy => (List.mem_erase_of_ne (fun (e : y = x) => h1.1 (by rw [← e]; exact hy))).2 (h2 y (by simp [hy]))
    rw [List.length_erase_of_mem hx] at this
    have := List.length_pos_of_mem hx
    simp only [List.length_cons]; omega
theorem len_mem {α : Type} [DecidableEq α] {a b : List α} (ha : a.Nodup) (hb : b.Nodup) (h : ∀ x, x ∈ a ↔ x ∈ b) : a.length = b.length :=
  Nat.le_antisymm (len_of_mem ha fun x => (h x).1) (len_of_mem hb fun x => (h x).2)
theorem class_mem {L : List (List Int)} {k : Nat} {p : List Int} : p ∈ classL L k ↔ permB p = true ∧ p.length = k ∧ avB L p = true := by
  rw [classL, List.mem_filter, permL_mem, and_assoc]
theorem class_nd {L : List (List Int)} {k : Nat} : (classL L k).Nodup := List.Nodup.sublist List.filter_sublist permL_nd
theorem av_nil {L : List (List Int)} (h : basisB L = true) : avB L [] = true := by
  simp only [avB, Bool.not_eq_true', List.any_eq_false]
  intro b hb e
  obtain ⟨c, hc, h1, h2, _⟩ := hasB_iff.1 e
  simp only [basisB, Bool.and_eq_true] at h
  have hb0 : b = [] := by
    cases c with
    | nil => exact List.length_eq_zero_iff.1 hc.symm
    | cons x c => have := h2 x (by simp); simp at this
  obtain ⟨i, hi, rfl⟩ := List.getElem_of_mem hb
  have := List.all_eq_true.1 h.2 i (List.mem_range.2 hi)
  rw [List.getD_eq_getElem?_getD, List.getElem?_eq_getElem hi] at this
  simp [hb0] at this
theorem cls_count {L : List (List Int)} {k : Nat} (h : basisB L = true) : (clsL L k).length = (classL L k).length :=
  len_mem cls_nd class_nd fun x => by rw [cls_mem (av_nil h), class_mem]
end Go.Gl
