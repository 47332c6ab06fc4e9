/-
  Classes that hold all sums are counted by their whole permutations. Conditions: none.
-/
import Derived.Test.YtknmheddofilbaaParts
import Derived.Test.YtknmheddofilbaaPatM
set_option linter.unusedSimpArgs false
set_option linter.unusedVariables false
set_option maxRecDepth 20000
set_option linter.unusedSectionVars false
namespace Go.Gl
open Go Go.Proofs
variable [Amb]
theorem least {P : Nat → Prop} : ∀ m, P m → ∃ n, n ≤ m ∧ P n ∧ ∀ k, k < n → ¬ P k := fun m => by
  induction m using Nat.strongRecOn with
  | _ m ih =>
    intro h
    by_cases g : ∃ k, k < m ∧ P k
    · obtain ⟨k, hk, hp⟩ := g
      obtain ⟨n, h1, h2, h3⟩ := ih k hk hp
      exact ⟨n, by omega, h2, h3⟩
    · exact ⟨m, Nat.le_refl _, h, fun k hk hp => g ⟨k, hk, hp⟩⟩
def sumP (a b : List Int) : List Int := a ++ b.map fun x => x + (a.length : Int)
/-- The first m numbers are the least ones. -/
def cutD (p : List Int) (m : Nat) : Bool := (p.take m).all fun x => decide (x ≤ (m : Int))
theorem cutD_iff {p : List Int} {m : Nat} : cutD p m = true ↔ ∀ x ∈ p.take m, x ≤ (m : Int) := by
  rw [cutD, List.all_eq_true]; exact forall_congr' fun x => imp_congr_right fun _ => decide_eq_true_iff
theorem mx_le {g : List Int → Nat → List Int} {p : List Int} {c : Int} (h0 : 0 ≤ c) : ∀ {k : Nat}, k ≤ p.length → ((spG g p k).2.2 ≤ c ↔ ∀ x ∈ p.take k, x ≤ c)
  | 0, _ => by simp [spG, h0]
  | k + 1, h => by
    have ih := mx_le (g := g) (p := p) h0 (k := k) (by omega)
    have e : (spG g p (k + 1)).2.2 = max (spG g p k).2.2 (p.getD k 0) := by rw [spG]; split <;> rfl
    rw [e, take_getD (d := 0) (by omega), Int.max_le, ih]
    constructor
    · rintro ⟨h1, h2⟩ x hx
      rcases List.mem_append.1 hx with q | q
      · exact h1 x q
      · rw [List.mem_singleton] at q; subst q; exact h2
    · exact fun h1 => ⟨fun x hx => h1 x (List.mem_append.2 (.inl hx)), h1 _ (by simp)⟩
theorem mx_0 {g : List Int → Nat → List Int} {p : List Int} : ∀ {k : Nat}, 0 ≤ (spG g p k).2.2
  | 0 => by simp [spG]
  | k + 1 => by
    have := mx_0 (g := g) (p := p) (k := k)
    rw [spG]; split <;> simp only <;> omega
theorem mx_ge {g : List Int → Nat → List Int} {p : List Int} (hp : permB p = true) {k : Nat} (h : k ≤ p.length) : (k : Int) ≤ (spG g p k).2.2 := by
  obtain ⟨h1, h2⟩ := permB_iff.1 hp
  have h3 := (mx_le (g := g) (p := p) (mx_0 (g := g) (p := p) (k := k)) h).1 (Int.le_refl _)
  have h4 := mx_0 (g := g) (p := p) (k := k)
  have := nodup_le (n := (spG g p k).2.2.toNat) (a := 0) (List.Nodup.sublist (List.take_sublist k p) h2) fun x hx => ⟨by have := (h1 x (List.mem_of_mem_take hx)).1; omega, by have := h3 x hx; omega⟩
  rw [List.length_take, Nat.min_eq_left h] at this
  omega
theorem mx_cut {g : List Int → Nat → List Int} {p : List Int} (hp : permB p = true) {k : Nat} (h : k ≤ p.length) : (spG g p k).2.2 = k ↔ cutD p k = true := by
  rw [cutD_iff, ← mx_le (g := g) (by omega) h]
  have := mx_ge (g := g) hp h
  omega
theorem spG_cnt {g : List Int → Nat → List Int} {p : List Int} (hp : permB p = true) : ∀ {k : Nat}, k ≤ p.length → (spG g p k).1.length = ((List.range k).filter fun m => cutD p (m + 1)).length
  | 0, _ => by simp [spG]
  | k + 1, h => by
    have ih := spG_cnt (g := g) hp (k := k) (by omega)
    have e : (spG g p (k + 1)).2.2 = max (spG g p k).2.2 (p.getD k 0) := by rw [spG]; split <;> rfl
    have hm := mx_cut (g := g) hp h
    rw [e] at hm
    rw [List.range_succ, List.filter_append, List.length_append, ← ih, List.filter_cons, spG]
    by_cases hc : cutD p (k + 1) = true
    · have := hm.2 hc
      rw [if_pos (by omega), if_pos hc]; simp
    · have : ¬ max (spG g p k).2.2 (p.getD k 0) = (k : Int) + 1 := fun q => hc (hm.1 (by omega))
      rw [if_neg this, if_neg hc]; simp
theorem cut_end {p : List Int} (hp : permB p = true) : cutD p p.length = true := by
  rw [cutD_iff, List.take_length]; exact fun x hx => ((permB_iff.1 hp).1 x hx).2
theorem part_cnt {p : List Int} {n : Nat} (hp : permB p = true) (hn : p.length = n + 1) : partN p = ((List.range n).filter fun m => cutD p (m + 1)).length + 1 := by
  have := cut_end hp
  rw [hn] at this
  rw [partN, spG_cnt hp (Nat.le_refl _), hn, List.range_succ, List.filter_append, List.length_append, List.filter_cons, if_pos this]; simp
theorem whole_iff {p : List Int} (hp : permB p = true) (hn : 0 < p.length) : partN p = 1 ↔ ∀ m, 0 < m → m < p.length → cutD p m = false := by
  obtain ⟨n, hn⟩ : ∃ n, p.length = n + 1 := ⟨p.length - 1, by omega⟩
  rw [part_cnt hp hn, hn]
  constructor
  · intro h m h0 h1
    have h2 : ((List.range n).filter fun m => cutD p (m + 1)) = [] := List.length_eq_zero_iff.1 (by omega)
    rw [List.filter_eq_nil_iff] at h2
    have := h2 (m - 1) (List.mem_range.2 (by omega))
    rw [Nat.sub_add_cancel h0] at this
    simpa using this
  · intro h
    have h2 : ((List.range n).filter fun m => cutD p (m + 1)) = [] := by
      rw [List.filter_eq_nil_iff]
      intro m hm
      rw [List.mem_range] at hm
      rw [h (m + 1) (by omega) (by omega)]; decide
    rw [h2]; rfl
theorem whole_le {p : List Int} (hp : permB p = true) (h : partN p ≤ 1) {m : Nat} (h0 : 0 < m) (h1 : m < p.length) : cutD p m = false := by
  refine (whole_iff hp (by omega)).1 ?_ m h0 h1
  obtain ⟨n, hn⟩ : ∃ n, p.length = n + 1 := ⟨p.length - 1, by omega⟩
  have := part_cnt hp hn
  omega
theorem sum_len {a b : List Int} : (sumP a b).length = a.length + b.length := by simp [sumP]
theorem sum_l {a b : List Int} {i : Nat} (h : i < a.length) : (sumP a b).getD i 0 = a.getD i 0 := gd_l h
theorem sum_r {a b : List Int} {i : Nat} (h : i < b.length) : (sumP a b).getD (a.length + i) 0 = b.getD i 0 + a.length := by
  rw [sumP, gd_r (by omega), Nat.add_sub_cancel_left, gd_m (d := 0) h]
theorem sum_perm {a b : List Int} (ha : permB a = true) (hb : permB b = true) : permB (sumP a b) = true := by
  obtain ⟨a1, a2⟩ := permB_iff.1 ha
  obtain ⟨b1, b2⟩ := permB_iff.1 hb
  refine permB_iff.2 ⟨fun x hx => ?_, ?_⟩
  · rw [sum_len]
    rcases List.mem_append.1 hx with h | h
    · have := a1 x h; omega
    · obtain ⟨y, hy, rfl⟩ := List.mem_map.1 h
      have := b1 y hy; omega
  · rw [sumP, List.nodup_append]
    refine ⟨a2, ?_, fun x hx y hy e => ?_⟩
    · rw [List.nodup_iff_pairwise_ne, List.pairwise_map]
      exact List.Pairwise.imp (fun h e => h (by omega)) (List.nodup_iff_pairwise_ne.1 b2)
    · obtain ⟨z, hz, rfl⟩ := List.mem_map.1 hy
      have h1 := a1 x hx
      have h2 := b1 z hz
      omega
theorem has_left {a b q : List Int} (h : hasB a q = true) : hasB (sumP a b) q = true :=
  hasB_of (fun i => i) (fun _ _ h _ => h) (fun i h => by rw [sum_len]; omega) (fun i j hi hj => by rw [sum_l hi, sum_l hj]) h
theorem has_right {a b q : List Int} (h : hasB b q = true) : hasB (sumP a b) q = true :=
  hasB_of (fun i => a.length + i) (fun _ _ h _ => by omega) (fun i h => by rw [sum_len]; omega) (fun i j hi hj => by rw [sum_r hi, sum_r hj]; omega) h
theorem has_sum {a b q : List Int} (ha : permB a = true) (hb : permB b = true) (hq : permB q = true) (hw : partN q ≤ 1) (h : hasB (sumP a b) q = true) : hasB a q = true ∨ hasB b q = true := by
  obtain ⟨c, hc, h1, h2, h3⟩ := hasB_iff.1 h
  obtain ⟨a1, _⟩ := permB_iff.1 ha
  obtain ⟨b1, _⟩ := permB_iff.1 hb
  by_cases hA : ∀ i, i < c.length → c.getD i 0 < a.length
  · left
    refine hasB_iff.2 ⟨c, hc, h1, fun x hx => ?_, fun i j hij hj => ?_⟩
    · obtain ⟨i, hi, rfl⟩ := List.getElem_of_mem hx
      have := hA i hi
      rwa [List.getD_eq_getElem?_getD, List.getElem?_eq_getElem hi] at this
    · rw [h3 i j hij hj, sum_l (hA i (by omega)), sum_l (hA j hj)]
  · obtain ⟨m, hm⟩ := Classical.not_forall.1 hA
    rw [Classical.not_imp] at hm
    obtain ⟨n, _, ⟨hn1, hn2⟩, hn3⟩ := least (P := fun i => i < c.length ∧ ¬ c.getD i 0 < a.length) m hm
    have lo : ∀ i, i < n → c.getD i 0 < a.length := fun i hi => Classical.byContradiction fun e => hn3 i hi ⟨by omega, e⟩
    have hi : ∀ i, n ≤ i → i < c.length → a.length ≤ c.getD i 0 := fun i h4 h5 => by
      by_cases e : i = n
      · subst e; omega
      · have := List.pairwise_iff_getElem.1 h1 n i (by omega) h5 (by omega)
        rw [List.getD_eq_getElem?_getD, List.getElem?_eq_getElem (by omega)] at hn2 ⊢
        simp at hn2 ⊢; omega
    have hb2 : ∀ i, n ≤ i → i < c.length → ∃ k, k < b.length ∧ c.getD i 0 = a.length + k := fun i h4 h5 => by
      have g1 := hi i h4 h5
      have g2 := h2 _ (getD_mem (d := 0) h5)
      rw [sum_len] at g2
      exact ⟨c.getD i 0 - a.length, by omega, by omega⟩
    by_cases h0 : n = 0
    · right
      subst h0
      refine hasB_iff.2 ⟨c.map fun x => x - a.length, by simpa using hc, ?_, fun x hx => ?_, fun i j hij hj => ?_⟩
      · rw [List.pairwise_map]
        refine List.Pairwise.imp_of_mem (fun {x y} hx hy hxy => ?_) h1
        obtain ⟨i, hi', rfl⟩ := List.getElem_of_mem hx
        have := hi i (Nat.zero_le _) hi'
        rw [List.getD_eq_getElem?_getD, List.getElem?_eq_getElem hi'] at this
        simp at this; omega
      · obtain ⟨y, hy, rfl⟩ := List.mem_map.1 hx
        obtain ⟨i, hi', rfl⟩ := List.getElem_of_mem hy
        obtain ⟨k, hk, e⟩ := hb2 i (Nat.zero_le _) hi'
        rw [List.getD_eq_getElem?_getD, List.getElem?_eq_getElem hi'] at e
        simp at e; omega
      · rw [List.length_map] at hj
        obtain ⟨k, hk, e1⟩ := hb2 i (Nat.zero_le _) (by omega)
        obtain ⟨l, hl, e2⟩ := hb2 j (Nat.zero_le _) hj
        rw [h3 i j hij hj, gd_m (d := 0) (by omega), gd_m (d := 0) hj, e1, e2, sum_r hk, sum_r hl, Nat.add_sub_cancel_left, Nat.add_sub_cancel_left]
        omega
    · exfalso
      have hcut : cutD q n = true := by
        rw [cutD_iff]
        intro x hx
        obtain ⟨i, hi', rfl⟩ := List.getElem_of_mem hx
        rw [List.length_take] at hi'
        obtain ⟨q1, q2⟩ := permB_iff.1 hq
        have e0 : (q.take n)[i] = q.getD i 0 := by rw [List.getElem_take, List.getD_eq_getElem?_getD, List.getElem?_eq_getElem (by omega)]; rfl
        rw [e0]
        have r := q1 _ (getD_mem (d := 0) (show i < q.length by omega))
        have lt : ∀ y ∈ q.drop n, q.getD i 0 < y := fun y hy => by
          obtain ⟨j, hj, rfl⟩ := List.getElem_of_mem hy
          rw [List.length_drop] at hj
          have e1 : (q.drop n)[j] = q.getD (n + j) 0 := by rw [List.getElem_drop, List.getD_eq_getElem?_getD, List.getElem?_eq_getElem (by omega)]; rfl
          rw [e1, h3 i (n + j) (by omega) (by omega)]
          obtain ⟨k, hk, e2⟩ := hb2 (n + j) (by omega) (by omega)
          rw [e2, sum_r hk, sum_l (lo i (by omega))]
          have g1 := a1 _ (getD_mem (d := 0) (lo i (by omega)))
          have g2 := b1 _ (getD_mem (d := 0) hk)
          omega
        have := nodup_le (n := (q.length - q.getD i 0).toNat) (a := q.getD i 0) (List.Nodup.sublist (List.drop_sublist n q) q2) fun y hy => ⟨lt y hy, by have := q1 y (List.mem_of_mem_drop hy); omega⟩
        rw [List.length_drop] at this
        omega
      rw [whole_le hq hw (by omega) (by omega)] at hcut
      cases hcut
/-! ### the first part -/
theorem first_part {p : List Int} (hp : permB p = true) (h0 : 0 < p.length) : ∃ a b, permB a = true ∧ permB b = true ∧ 0 < a.length ∧ partN a = 1 ∧ p = sumP a b := by
  obtain ⟨p1, p2⟩ := permB_iff.1 hp
  obtain ⟨k, hk, ⟨k1, k2⟩, k3⟩ := least (P := fun m => 0 < m ∧ cutD p m = true) p.length ⟨h0, cut_end hp⟩
  rw [cutD_iff] at k2
  have la : (p.take k).length = k := by simp; omega
  have pa : permB (p.take k) = true := permB_iff.2 ⟨fun x hx => ⟨(p1 x (List.mem_of_mem_take hx)).1, by rw [la]; exact k2 x hx⟩, List.Nodup.sublist (List.take_sublist k p) p2⟩
  have hd : ∀ x ∈ p.drop k, (k : Int) < x := fun x hx => by
    refine Classical.byContradiction fun e => ?_
    have hx1 := (p1 x (List.mem_of_mem_drop hx)).1
    have hm := perm_mem pa (v := x) hx1 (by rw [la]; omega)
    rw [← List.take_append_drop k p, List.nodup_append] at p2
    exact p2.2.2 x hm x hx rfl
  refine ⟨p.take k, (p.drop k).map fun x => x - k, pa, permB_iff.2 ⟨fun x hx => ?_, ?_⟩, by omega, (whole_iff pa (by omega)).2 fun m m0 m1 => ?_, ?_⟩
  · obtain ⟨y, hy, rfl⟩ := List.mem_map.1 hx
    have g1 := hd y hy
    have g2 := (p1 y (List.mem_of_mem_drop hy)).2
    simp only [List.length_map, List.length_drop]
    omega
  · rw [List.nodup_iff_pairwise_ne, List.pairwise_map]
    exact List.Pairwise.imp (fun h e => h (by omega)) (List.nodup_iff_pairwise_ne.1 (List.Nodup.sublist (List.drop_sublist k p) p2))
  · rw [la] at m1
    have : ¬ cutD p m = true := fun e => k3 m m1 ⟨m0, e⟩
    have e : (p.take k).take m = p.take m := by rw [List.take_take, Nat.min_eq_left (by omega)]
    rw [cutD, e]
    exact Bool.eq_false_iff.2 this
  · rw [sumP, la, List.map_map]
    have : ((fun x : Int => x + (k : Int)) ∘ fun x => x - (k : Int)) = id := by funext x; simp
    rw [this, List.map_id, List.take_append_drop]
theorem sum_inj {a b a' b' : List Int} (ha : permB a = true) (ha' : permB a' = true) (h1 : partN a = 1) (h1' : partN a' = 1) (h0 : 0 < a.length) (h0' : 0 < a'.length) (h : sumP a b = sumP a' b') : a = a' ∧ b = b' := by
  have key : ∀ {a b a' b' : List Int}, permB a = true → permB a' = true → partN a' = 1 → 0 < a.length → 0 < a'.length → sumP a b = sumP a' b' → ¬ a.length < a'.length := by
    intro a b a' b' ha ha' h1' h0 h0' h hl
    have hc := (whole_iff ha' h0').1 h1' a.length h0 hl
    have e : a'.take a.length = a := by
      have := congrArg (List.take a.length) h
      rw [sumP, sumP, List.take_append_of_le_length (by omega), List.take_append_of_le_length (by omega), List.take_length] at this
      exact this.symm
    have : cutD a' a.length = true := by
      rw [cutD_iff, e]; exact fun x hx => ((permB_iff.1 ha).1 x hx).2
    rw [hc] at this; cases this
  have e : a.length = a'.length := by
    have g1 := key ha ha' h1' h0 h0' h
    have g2 := key ha' ha h1 h0' h0 h.symm
    omega
  obtain ⟨e1, e2⟩ := List.append_inj h e
  refine ⟨e1, map_inj (f := fun x => x + (a'.length : Int)) (fun x y q => by simp at q; omega) ?_⟩
  rw [← e1] at e2 ⊢; exact e2
/-! ### counted -/
def wholeL (L : List (List Int)) (n : Nat) : List (List Int) := (classL L n).filter fun p => decide (partN p = 1)
def dcL (L : List (List Int)) (n : Nat) : List (List Int) := (List.range n).flatMap fun j => (wholeL L (j + 1)).flatMap fun a => (classL L (n - (j + 1))).map fun b => sumP a b
theorem whole_mem {L : List (List Int)} {n : Nat} {p : List Int} : p ∈ wholeL L n ↔ permB p = true ∧ p.length = n ∧ avB L p = true ∧ partN p = 1 := by
  rw [wholeL, List.mem_filter, class_mem, decide_eq_true_iff, and_assoc, and_assoc]
theorem av_sum {L : List (List Int)} {a b : List Int} (hL : ∀ q ∈ L, permB q = true ∧ partN q ≤ 1) (ha : permB a = true) (hb : permB b = true) : avB L (sumP a b) = true ↔ avB L a = true ∧ avB L b = true := by
  simp only [avB, Bool.not_eq_true', List.any_eq_false]
  constructor
  · exact fun h => ⟨fun q hq e => h q hq (has_left e), fun q hq e => h q hq (has_right e)⟩
  · rintro ⟨h1, h2⟩ q hq e
    rcases has_sum ha hb (hL q hq).1 (hL q hq).2 e with g | g
    · exact h1 q hq g
    · exact h2 q hq g
theorem dc_mem {L : List (List Int)} (hL : ∀ q ∈ L, permB q = true ∧ partN q ≤ 1) {n : Nat} (hn : 0 < n) {p : List Int} : p ∈ dcL L n ↔ p ∈ classL L n := by
  rw [class_mem, dcL, List.mem_flatMap]
  constructor
  · rintro ⟨j, hj, hp⟩
    rw [List.mem_range] at hj
    rw [List.mem_flatMap] at hp
    obtain ⟨a, ha, hp⟩ := hp
    obtain ⟨b, hb, rfl⟩ := List.mem_map.1 hp
    obtain ⟨a1, a2, a3, _⟩ := whole_mem.1 ha
    obtain ⟨b1, b2, b3⟩ := class_mem.1 hb
    exact ⟨sum_perm a1 b1, by rw [sum_len]; omega, (av_sum hL a1 b1).2 ⟨a3, b3⟩⟩
  · rintro ⟨h1, h2, h3⟩
    obtain ⟨a, b, ha, hb, h4, h5, rfl⟩ := first_part h1 (by omega)
    rw [sum_len] at h2
    obtain ⟨g1, g2⟩ := (av_sum hL ha hb).1 h3
    refine ⟨a.length - 1, List.mem_range.2 (by omega), List.mem_flatMap.2 ⟨a, whole_mem.2 ⟨ha, by omega, g1, h5⟩, List.mem_map.2 ⟨b, class_mem.2 ⟨hb, by omega, g2⟩, rfl⟩⟩⟩
theorem dc_nd {L : List (List Int)} {n : Nat} : (dcL L n).Nodup := by
  have inj : ∀ {a b a' b' : List Int} {i j : Nat}, a ∈ wholeL L (i + 1) → a' ∈ wholeL L (j + 1) → sumP a b = sumP a' b' → a = a' ∧ b = b' := by
    intro a b a' b' i j ha ha' e
    obtain ⟨a1, a2, _, a4⟩ := whole_mem.1 ha
    obtain ⟨b1, b2, _, b4⟩ := whole_mem.1 ha'
    exact sum_inj a1 b1 a4 b4 (by omega) (by omega) e
  rw [dcL, List.nodup_iff_pairwise_ne, List.pairwise_flatMap]
  refine ⟨fun j _ => ?_, ?_⟩
  · rw [List.pairwise_flatMap]
    refine ⟨fun a ha => ?_, ?_⟩
    · rw [List.pairwise_map]
      exact List.Pairwise.imp (fun h e => h (inj ha ha e).2) (List.nodup_iff_pairwise_ne.1 class_nd)
    · refine List.Pairwise.imp_of_mem (fun {a a'} ha ha' h x hx y hy e => ?_) (List.nodup_iff_pairwise_ne.1 (List.Nodup.sublist List.filter_sublist (class_nd (L := L) (k := j + 1))))
      obtain ⟨b, _, rfl⟩ := List.mem_map.1 hx
      obtain ⟨b', _, rfl⟩ := List.mem_map.1 hy
      exact h (inj ha ha' e).1
  · refine List.Pairwise.imp (fun {i j} h x hx y hy e => ?_) (List.pairwise_lt_range (n := n))
    obtain ⟨a, ha, hx⟩ := List.mem_flatMap.1 hx
    obtain ⟨a', ha', hy⟩ := List.mem_flatMap.1 hy
    obtain ⟨b, _, rfl⟩ := List.mem_map.1 hx
    obtain ⟨b', _, rfl⟩ := List.mem_map.1 hy
    have e1 := (inj ha ha' e).1
    have l1 := (whole_mem.1 ha).2.1
    have l2 := (whole_mem.1 ha').2.1
    rw [e1] at l1; omega
theorem flat_const {α β : Type} {f : α → List β} {c : Nat} : ∀ {l : List α}, (∀ x ∈ l, (f x).length = c) → (l.flatMap f).length = l.length * c
  | [], _ => by simp
  | x :: l, h => by rw [List.flatMap_cons, List.length_append, h x (by simp), flat_const fun y hy => h y (by simp [hy]), List.length_cons, Nat.succ_mul, Nat.add_comm]
/-- The number of the class's permutations whose first part has at most k numbers. -/
def dcN (L : List (List Int)) (n : Nat) : Nat → Nat
  | 0 => 0
  | k + 1 => dcN L n k + (wholeL L (k + 1)).length * (classL L (n - (k + 1))).length
theorem dc_len {L : List (List Int)} {n : Nat} : ∀ {k : Nat}, ((List.range k).flatMap fun j => (wholeL L (j + 1)).flatMap fun a => (classL L (n - (j + 1))).map fun b => sumP a b).length = dcN L n k
  | 0 => rfl
  | k + 1 => by
    rw [List.range_succ, List.flatMap_append, List.length_append, dc_len (k := k), dcN, List.flatMap_cons, List.flatMap_nil, List.append_nil, flat_const (c := (classL L (n - (k + 1))).length) fun a _ => by simp]
theorem class_sum {L : List (List Int)} (hL : ∀ q ∈ L, permB q = true ∧ partN q ≤ 1) {n : Nat} (hn : 0 < n) : (classL L n).length = dcN L n n := by
  rw [← dc_len, ← dcL]
  exact (len_mem dc_nd class_nd fun x => dc_mem hL hn).symm
end Go.Gl
