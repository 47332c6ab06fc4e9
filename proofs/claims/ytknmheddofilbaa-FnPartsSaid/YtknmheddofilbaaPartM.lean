/-
  What the numbers of parts come to. Conditions: none.
-/
import Derived.Test.YtknmheddofilbaaDrawP
set_option linter.unusedSimpArgs false
set_option linter.unusedVariables false
set_option maxRecDepth 20000
set_option linter.unusedSectionVars false
namespace Go.Gl
open Go Go.Proofs
variable [Amb]
theorem sumI_cons {l : List Int} {x : Int} : sumI (x :: l) = x + sumI l := by
  have key : ∀ (l : List Int) (a : Int), l.foldl (fun a b => a + b) a = a + sumI l := by
    intro l
    induction l with
    | nil => intro a; simp [sumI]
    | cons y l ih =>
      intro a
      have e : sumI (y :: l) = 0 + y + sumI l := by rw [sumI, List.foldl_cons, ih]
      rw [List.foldl_cons, ih, e]; omega
  rw [sumI, List.foldl_cons, key]; omega
theorem sumI_set : ∀ {l : List Int} {i : Nat}, i < l.length → sumI (l.set i (l.getD i 0 + 1)) = sumI l + 1
  | x :: l, 0, _ => by rw [List.set_cons_zero, sumI_cons, sumI_cons]; simp; omega
  | x :: l, i + 1, h => by
    have := sumI_set (l := l) (i := i) (by simpa using h)
    rw [List.set_cons_succ, sumI_cons, sumI_cons]
    simp only [List.getD_cons_succ]
    omega
theorem sumI_rep : ∀ {n : Nat}, sumI (List.replicate n 0) = 0
  | 0 => rfl
  | n + 1 => by rw [List.replicate_succ, sumI_cons, sumI_rep]; rfl
theorem pc_sum {m : Nat} {cs : List (List Int)} (h : ∀ p ∈ cs, partN p < m) : ∀ {j : Nat}, j ≤ cs.length → sumI (pcL m (cs.take j)) = j
  | 0, _ => by rw [List.take_zero, pcL, List.foldl_nil, sumI_rep]; rfl
  | j + 1, hj => by
    have h1 := pc_len (m := m) (cs := cs) (j := j) (by omega)
    have h2 := h _ (getD_mem (d := []) (show j < cs.length by omega))
    rw [pc_succ (by omega), sumI_set (by omega), pc_sum h (by omega)]; omega
theorem pc_at {m i : Nat} {cs : List (List Int)} (hi : i < m) : ∀ {j : Nat}, j ≤ cs.length → (pcL m (cs.take j)).getD i 0 = (((cs.take j).filter fun p => decide (partN p = i)).length : Int)
  | 0, _ => by rw [List.take_zero, pcL, List.foldl_nil, List.getD_eq_getElem?_getD, List.getElem?_replicate, if_pos hi]; rfl
  | j + 1, hj => by
    have ih := pc_at (cs := cs) hi (j := j) (by omega)
    have h1 := pc_len (m := m) (cs := cs) (j := j) (by omega)
    rw [pc_succ (by omega), cnt_succ (d := []) (by omega), ← ih]
    by_cases e : partN (cs.getD j []) = i
    · rw [e, decide_eq_true rfl, List.getD_eq_getElem?_getD, List.getElem?_set_self (by omega)]; rfl
    · rw [decide_eq_false e, List.getD_eq_getElem?_getD, List.getElem?_set_ne e, ← List.getD_eq_getElem?_getD]; simp [bitI]
theorem p720 : ∀ k, k < 7 → (permL k).length ≤ 720 := by decide +kernel
theorem c720 {L : List (List Int)} {k : Nat} (h : k ≤ 6) : (classL L k).length ≤ 720 := Nat.le_trans (List.length_filter_le _ _) (p720 k (by omega))
theorem w720 {L : List (List Int)} {k : Nat} (h : k ≤ 6) : 0 ≤ wholeN L k ∧ wholeN L k ≤ 720 := by
  have := c720 (L := L) h
  have h2 := List.length_filter_le (fun p => decide (partN p = 1)) (classL L k)
  unfold wholeN; omega
theorem aw_wh : ∀ x, x < 6 → (awL x).getD x 0 = wholeN [] x := by decide +kernel
theorem map_at {f : Nat → Int} {n i : Nat} (h : i < n) : ((List.range n).map f).getD i 0 = f i := by
  rw [List.getD_eq_getElem?_getD, List.getElem?_map, List.getElem?_range h]; rfl
/-! ### the facts of the law -/
theorem partsB_len {c : List (List Int)} {m : Int} : (partsB c m).length = 0 ∨ (partsB c m).length = m.toNat + 1 ∧ (wholesB c m).length = m.toNat + 1 ∧ 0 ≤ m ∧ m ≤ 6 := by
  by_cases h : basisB c = true ∧ 0 ≤ m ∧ m ≤ 6
  · right
    rw [partsB, if_pos h, wholesB, if_pos h]
    have := pc_len (m := m.toNat + 1) (cs := classL c m.toNat) (Nat.le_refl _)
    rw [List.take_length] at this
    exact ⟨this, by simp, h.2⟩
  · left; rw [partsB, if_neg h]; rfl
theorem partsB_b {c : List (List Int)} {m : Int} : ∀ x ∈ partsB c m, -1048576 ≤ x ∧ x ≤ 1048576 := fun x hx => by
  by_cases h : basisB c = true ∧ 0 ≤ m ∧ m ≤ 6
  · rw [partsB, if_pos h] at hx
    obtain ⟨i, hi, rfl⟩ := List.getElem_of_mem hx
    have h1 := pc_b (m := m.toNat + 1) (cs := classL c m.toNat) (Nat.le_refl _) i
    have h2 := c720 (L := c) (k := m.toNat) (by omega)
    rw [List.take_length, List.getD_eq_getElem?_getD, List.getElem?_eq_getElem hi] at h1
    simp only [Option.getD_some] at h1
    omega
  · rw [partsB, if_neg h] at hx; simp at hx
theorem parts_sum {c : List (List Int)} {m : Int} (h0 : 0 < (partsB c m).length) : sumI (partsB c m) = ((classB c m).length : Int) := by
  by_cases h : basisB c = true ∧ 0 ≤ m ∧ m ≤ 6
  · have h1 := pc_sum (m := m.toNat + 1) (cs := classL c m.toNat) (fun p hp => by have := (class_mem.1 hp).2.1; have := partN_le (p := p); omega) (Nat.le_refl _)
    rw [List.take_length] at h1
    rw [partsB, if_pos h, classB, if_pos h, h1]
  · rw [partsB, if_neg h] at h0; simp at h0
theorem parts_one {c : List (List Int)} {m : Int} (h0 : 0 < (partsB c m).length) (hm : 0 < m) : (partsB c m).getD 1 0 = (wholesB c m).getD m.toNat 0 := by
  by_cases h : basisB c = true ∧ 0 ≤ m ∧ m ≤ 6
  · have h1 := pc_at (m := m.toNat + 1) (i := 1) (cs := classL c m.toNat) (by omega) (Nat.le_refl _)
    rw [List.take_length] at h1
    rw [partsB, if_pos h, wholesB, if_pos h, h1, map_at (by omega)]; rfl
  · rw [partsB, if_neg h] at h0; simp at h0
theorem all_whole {x : Int} (h0 : 0 ≤ x) (h1 : x ≤ 5) : awR x = (wholesB [] x).getD x.toNat 0 := by
  rw [awR, if_pos (by omega), wholesB, if_pos ⟨rfl, by omega⟩, map_at (by omega)]
  exact aw_wh x.toNat (by omega)
theorem whole0_len {x : Int} (h0 : 0 ≤ x) (h1 : x ≤ 5) : (wholesB [] x).length = x.toNat + 1 := by
  rw [wholesB, if_pos ⟨rfl, by omega⟩]; simp
theorem dcN_mono {L : List (List Int)} {n : Nat} {k m : Nat} (h : k ≤ m) : dcN L n k ≤ dcN L n m := by
  induction h with
  | refl => exact Nat.le_refl _
  | step _ ih => rw [dcN]; omega
theorem sc_sum {L : List (List Int)} (hL : ∀ q ∈ L, permB q = true ∧ partN q ≤ 1) {w a : List Int} {M : Nat} (hM : M ≤ 6) (hw : ∀ k, k ≤ M → w.getD k 0 = wholeN L k) (ha : ∀ k, k < M → a.getD k 0 = ((classL L k).length : Int)) :
    ∀ k, k ≤ M → scSum w a M k = (dcN L M k : Int)
  | 0, _ => rfl
  | k + 1, hk => by
    have h1 : dcN L M (k + 1) ≤ 720 := by
      have := class_sum hL (n := M) (by omega)
      have := c720 (L := L) hM
      have := dcN_mono (L := L) (n := M) hk
      omega
    have e : ((wholeL L (k + 1)).length : Int) * ((classL L (M - (k + 1))).length : Int) = (((wholeL L (k + 1)).length * (classL L (M - (k + 1))).length : Nat) : Int) := by rw [Int.natCast_mul]
    rw [dcN] at h1
    rw [scSum, sc_sum hL hM hw ha k (by omega), hw (k + 1) hk, ha _ (by omega), dcN, show wholeN L (k + 1) = ((wholeL L (k + 1)).length : Int) from rfl, e]
    have e1 : IntKind.i64.wrap (((wholeL L (k + 1)).length * (classL L (M - (k + 1))).length : Nat) : Int) = (((wholeL L (k + 1)).length * (classL L (M - (k + 1))).length : Nat) : Int) := wrap_i (by simp only [n_i64]; omega)
    rw [e1, wrap_i (by simp only [n_i64]; omega)]
    omega
theorem sc_cls {L : List (List Int)} (hb : basisB L = true) (hL : ∀ q ∈ L, permB q = true ∧ partN q ≤ 1) {w : List Int} {n : Nat} (hn : n ≤ 6) (hl : w.length = n + 1) (hw : ∀ k, k ≤ n → w.getD k 0 = wholeN L k) :
    ∀ m, m ≤ n → scL w m = (List.range (m + 1)).map fun k => ((clsL L k).length : Int)
  | 0, _ => rfl
  | m + 1, hm => by
    have ih := sc_cls hb hL hn hl hw m (by omega)
    rw [scL, show min (m + 1) (w.length - 1) = m + 1 by omega, sc_sum hL (by omega) (fun k hk => hw k (by omega)) (fun k hk => by rw [ih, map_at (by omega), cls_count hb]) (m + 1) (Nat.le_refl _), ih, cc_succ (k := m + 1), ← class_sum hL (by omega), cls_count hb]
theorem sum_counts {L : List (List Int)} {n : Int} (h0 : ¬ (wholesB L n).length = 0) (hs : scB L = true) : scR (wholesB L n) n = ccR L n := by
  by_cases h : basisB L = true ∧ 0 ≤ n ∧ n ≤ 6
  · have hb := h.1
    have hL : ∀ q ∈ L, permB q = true ∧ partN q ≤ 1 := fun q hq => by
      obtain ⟨i, hi, rfl⟩ := List.getElem_of_mem hq
      simp only [basisB, Bool.and_eq_true] at hb
      have h1 := basK_perm hb.2 hi
      rw [List.getD_eq_getElem?_getD, List.getElem?_eq_getElem hi] at h1
      simp only [Option.getD_some] at h1
      rw [scB, Bool.and_eq_true, List.all_eq_true] at hs
      have h2 := hs.2 _ hq
      rw [h1] at h2
      rw [isPermB, Bool.and_eq_true] at h1
      exact ⟨h1.2, by simpa using h2⟩
    have ew : wholesB L n = (List.range (n.toNat + 1)).map (wholeN L) := if_pos h
    have el : (wholesB L n).length = n.toNat + 1 := by rw [ew]; simp
    have ok : scOk (wholesB L n) n = true := by
      rw [scOk, decide_eq_true h.2.1, decide_eq_true (show n ≤ 10 by omega), decide_eq_true (show (wholesB L n).length ≤ 20 by omega), Bool.true_and, Bool.true_and, Bool.true_and, List.all_eq_true]
      intro x hx
      rw [ew] at hx
      obtain ⟨k, hk, rfl⟩ := List.mem_map.1 hx
      rw [List.mem_range] at hk
      have := w720 (L := L) (k := k) (by omega)
      simp only [Bool.and_eq_true, decide_eq_true_eq]; omega
    rw [scR, if_pos ok, ccR, if_pos h]
    exact sc_cls hb hL (by omega) el (fun k hk => by rw [ew, map_at (by omega)]) n.toNat (Nat.le_refl _)
  · rw [wholesB, if_neg h] at h0; exact absurd rfl h0
end Go.Gl
