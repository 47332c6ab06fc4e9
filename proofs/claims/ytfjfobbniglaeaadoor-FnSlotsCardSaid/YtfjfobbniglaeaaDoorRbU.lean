/-
  A permutation's text builds the permutation, and what a text builds has that text. Conditions: none.
-/
import Derived.Test.YtfjfobbniglaeaaDoorRbT
import Derived.Test.YtfjfobbniglaeaaDoorSlots2
set_option linter.unusedSimpArgs false
set_option linter.unusedVariables false
set_option maxRecDepth 20000
set_option linter.unusedSectionVars false
namespace Go.Gl
open Go Go.Proofs
variable [Amb] [NoQ]
variable [TabA]
theorem slL_cl {p : List Int} (hp : ∀ x ∈ p, 1 ≤ x) {k : Int} : ∀ {j : Nat}, j ≤ p.length → slL (fL p (k + 1)) j = zcA (clR k false (p.take j)) ∧ enO k false (p.take j) = !(fL p (k + 1)).getD j false
  | 0, _ => ⟨rfl, by rw [fL_0]; rfl⟩
  | j + 1, hj => by
    have hj2 : j < p.length := by omega
    obtain ⟨h1, h2⟩ := slL_cl hp (k := k) (j := j) (by omega)
    have hx := hp _ (getD_mem (d := 0) hj2)
    rw [take_getD (d := 0) hj2, clR_app, enO_app, zcA_app, slL, h1, fL_at hj2, h2]
    by_cases e : p.getD j 0 ≤ k
    · have c1 : 1 ≤ p.getD j 0 ∧ p.getD j 0 ≤ k := ⟨hx, e⟩
      have n0 : ¬ p.getD j 0 = 0 := by omega
      rw [decide_eq_true (by omega), clR, if_pos c1, enO, decide_eq_true c1, show clR k false [] = [] from rfl, zcA_one, decide_eq_false n0]
      simp [bitI, enO]
    · have c1 : ¬ (1 ≤ p.getD j 0 ∧ p.getD j 0 ≤ k) := by omega
      rw [decide_eq_false (by omega), clR, if_neg c1, enO, decide_eq_false c1]
      cases (fL p (k + 1)).getD j false <;> simp [clR, zcA, zcN, bitI, enO]
theorem hdO_cl {p : List Int} (hp : ∀ x ∈ p, 1 ≤ x) {k : Int} {i : Nat} (hi : i < p.length) : hdO k (p.drop (i + 1)) = !(fL p (k + 1)).getD (i + 2) false := by
  rw [fL_2 hi]
  split
  · rename_i h
    have hx := hp _ (getD_mem (d := 0) h)
    rw [List.drop_eq_getElem_cons h, hdO]
    have e : p[i + 1] = p.getD (i + 1) 0 := by rw [List.getD_eq_getElem?_getD, List.getElem?_eq_getElem h]; rfl
    rw [e]
    congr 1; rw [decide_eq_decide]; omega
  · rw [List.drop_eq_nil_of_le (by omega)]; rfl
/-- A step of the building. -/
theorem perm_step {p : List Int} (hp : permB p = true) {k : Nat} (hk : k < p.length) : stepR (clR k false p) ((k : Int) + 1) (ltL (!(fL p ((k : Int) + 1)).getD (psI p (k + 1)) false) (!(fL p ((k : Int) + 1)).getD (psI p (k + 1) + 2) false)) (slL (fL p ((k : Int) + 1)) (psI p (k + 1) + 1)) = some (clR ((k : Int) + 1) false p) := by
  obtain ⟨h1, h2, _⟩ := psI_eq hp (v := k + 1) (by omega) (by omega)
  generalize psI p (k + 1) = i at h1 h2 ⊢
  have pos : ∀ x ∈ p, 1 ≤ x := fun x hx => ((permB_iff.1 hp).1 x hx).1
  have hs : p = p.take i ++ ((k : Int) + 1) :: p.drop (i + 1) := by
    conv => lhs; rw [← List.take_append_drop i p]
    rw [List.drop_eq_getElem_cons h1]
    rw [List.getD_eq_getElem?_getD, List.getElem?_eq_getElem h1] at h2
    simp only [Option.getD_some] at h2
    rw [h2]; simp
  have nd := (permB_iff.1 hp).2
  rw [hs, List.nodup_append] at nd
  obtain ⟨_, n2, n3⟩ := nd
  have hA : ∀ x ∈ p.take i, x ≠ (k : Int) + 1 := fun x hx => n3 x hx _ (by simp)
  have hB : ∀ x ∈ p.drop (i + 1), x ≠ (k : Int) + 1 := fun x hx e => (List.nodup_cons.1 n2).1 (e ▸ hx)
  obtain ⟨Z, T, e1, e2, e3⟩ := cl_step (k := (k : Int)) (by omega) hA hB
  rw [← hs] at e1 e2
  have tk : p.take i ++ [(k : Int) + 1] = p.take (i + 1) := by rw [take_getD (d := 0) h1, h2]; rfl
  have s1 := (slL_cl pos (k := (k : Int)) (j := i + 1) (by omega)).1
  rw [← tk, e3, zcA_app] at s1
  have s2 := (slL_cl pos (k := (k : Int)) (j := i) (by omega)).2
  rw [s1, ← s2, ← hdO_cl pos h1, e1, e2]
  exact stepR_mid (c := leR _ _) (by rw [pp_le]; simp)
/-- The two bytes of a step. -/
theorem lt_two {p : List Int} (h8 : p.length ≤ 8) (hp : permB p = true) {k : Nat} (hk : k < p.length) : ∃ d, ltT p (k + 1) = [ltL (!(fL p ((k : Int) + 1)).getD (psI p (k + 1)) false) (!(fL p ((k : Int) + 1)).getD (psI p (k + 1) + 2) false), d] ∧ dgI d = slL (fL p ((k : Int) + 1)) (psI p (k + 1) + 1) := by
  have h1 := (psI_eq hp (v := k + 1) (by omega) (by omega)).1
  have h2 := slL_r (fL p ((k : Int) + 1)) (psI p (k + 1) + 1)
  have h3 := stepR_b (by omega) (perm_step hp hk)
  refine ⟨chI (slL (fL p ((k : Int) + 1)) (psI p (k + 1) + 1)), ?_, ?_⟩
  · rw [ltT, show ((k + 1 : Nat) : Int) = (k : Int) + 1 by omega, fmtI_small (by omega) (by omega)]
  · rw [dgI, chI, UInt8.toNat_ofNat']; omega
theorem txB_two {p : List Int} (h8 : p.length ≤ 8) (hp : permB p = true) : ∀ {v : Nat}, v ≤ p.length → (txB p v).length = 2 * v
  | 0, _ => rfl
  | v + 1, h => by
    obtain ⟨d, e, _⟩ := lt_two h8 hp (k := v) (by omega)
    rw [txB, List.length_append, txB_two h8 hp (by omega), e]; rfl
theorem txB_pre {p : List Int} {v : Nat} : ∀ {w : Nat}, v ≤ w → ∃ t, txB p w = txB p v ++ t
  | 0, h => ⟨[], by obtain rfl : v = 0 := by omega
                    rfl⟩
  | w + 1, h => by
    by_cases e : v = w + 1
    · exact ⟨[], by rw [e, List.append_nil]⟩
    · obtain ⟨t, ht⟩ := txB_pre (p := p) (v := v) (w := w) (by omega)
      exact ⟨t ++ ltT p (w + 1), by rw [txB, ht, List.append_assoc]⟩
theorem txB_at {p : List Int} (h8 : p.length ≤ 8) (hp : permB p = true) {k w : Nat} (hk : k < w) (hw : w ≤ p.length) :
    (txB p w).getD (2 * k) 0 = ltL (!(fL p ((k : Int) + 1)).getD (psI p (k + 1)) false) (!(fL p ((k : Int) + 1)).getD (psI p (k + 1) + 2) false) ∧ dgI ((txB p w).getD (2 * k + 1) 0) = slL (fL p ((k : Int) + 1)) (psI p (k + 1) + 1) := by
  obtain ⟨t, ht⟩ := txB_pre (p := p) (v := k + 1) (w := w) (by omega)
  obtain ⟨d, e1, e2⟩ := lt_two h8 hp (k := k) (by omega)
  have hl := txB_two h8 hp (v := k) (by omega)
  rw [ht, txB, e1]
  have hX : ∀ (u : List UInt8) (j : Nat), (txB p k ++ u)[2 * k + j]? = u[j]? := fun u j => by
    rw [List.getElem?_append_right (by omega)]; congr 1; omega
  rw [List.append_assoc]
  refine ⟨?_, ?_⟩
  · rw [List.getD_eq_getElem?_getD, show 2 * k = 2 * k + 0 from rfl, hX _ 0]; rfl
  · rw [List.getD_eq_getElem?_getD, hX _ 1]; exact e2
theorem rbF_perm {p : List Int} (h8 : p.length ≤ 8) (hp : permB p = true) (h0 : p ≠ []) : ∀ {k : Nat}, k ≤ p.length → rbF (txB p p.length) k = some (clR k false p)
  | 0, _ => by
    have : ∀ (q : List Int), q ≠ [] → clR ((0 : Nat) : Int) false q = [0] := by
      intro q hq
      have e1 : ∀ q : List Int, clR ((0 : Nat) : Int) true q = [] := by
        intro q
        induction q with
        | nil => rfl
        | cons x q ih => rw [clR, if_neg (by omega), if_pos rfl, ih]
      cases q with
      | nil => exact absurd rfl hq
      | cons x q => rw [clR, if_neg (by omega), if_neg (by simp), e1]
    rw [this p h0]; rfl
  | k + 1, h => by
    obtain ⟨e1, e2⟩ := txB_at h8 hp (k := k) (w := p.length) (by omega) (Nat.le_refl _)
    rw [rbF_succ (rbF_perm h8 hp h0 (k := k) (by omega)), e1, e2, perm_step hp (by omega)]; rfl
theorem clR_all {v : Int} : ∀ {o : Bool} {L : List Int}, (∀ x ∈ L, 1 ≤ x ∧ x ≤ v) → clR v o L = L
  | _, [], _ => rfl
  | o, x :: L, h => by rw [clR, if_pos (h x (by simp)), clR_all fun y hy => h y (by simp [hy])]
/-- A permutation's text builds it. -/
theorem rb_perm {p : List Int} (h8 : p.length ≤ 8) (hp : permB p = true) (h0 : p ≠ []) : rbL (txB p p.length) = p ∧ rbB (txB p p.length) = true := by
  have hb := (permB_iff.1 hp).1
  have h := rbF_perm h8 hp h0 (Nat.le_refl _)
  rw [clR_all hb] at h
  have hl := txB_two h8 hp (Nat.le_refl _)
  have := List.length_pos_iff.2 h0
  exact rb_ok h hl (by omega) (by omega) (by
    rw [List.contains_eq_mem, decide_eq_false_iff_not]
    intro h; have := hb 0 h; omega)
/-- The numbers up to k. -/
def upN (k : Nat) : List Int := (List.range k).map fun (i : Nat) => (i : Int) + 1
theorem rbF_sep {s : List UInt8} : ∀ {k : Nat} {R : List Int}, rbF s k = some R → sepR k R ∧ (R.filter (fun x => !decide (x = 0))).Perm (upN k)
  | 0, R, h => by
    cases h
    exact ⟨⟨by simp, rfl⟩, by simp [upN]⟩
  | k + 1, R, h => by
    rw [rbF] at h
    split at h
    · rename_i L e
      obtain ⟨h1, h2⟩ := rbF_sep e
      obtain ⟨q1, _, q3⟩ := sep_step (by omega) h1 h
      refine ⟨by simpa using q1, q3.trans ?_⟩
      rw [upN, List.range_succ, List.map_append]
      exact (h2.cons _).trans (List.perm_append_comm (l₁ := [(k : Int) + 1]))
    · cases h
theorem rbF_back {s : List UInt8} {n : Nat} {L : List Int} (h : rbF s n = some L) (h0 : ∀ x ∈ L, x ≠ 0) : ∀ {j k : Nat}, j + k = n → rbF s k = some (clR k false L)
  | 0, k, e => by
    have hs := (rbF_sep h).1
    obtain rfl : k = n := by omega
    rw [h, clR_all fun x hx => ⟨by have := hs.1 x hx; have := h0 x hx; omega, (hs.1 x hx).2⟩]
  | j + 1, k, e => by
    have ih := rbF_back h h0 (j := j) (k := k + 1) (by omega)
    have ih2 := ih
    rw [rbF] at ih2
    split at ih2
    · rename_i R hR
      rw [hR]
      have := (sep_step (by omega) (rbF_sep hR).1 ih2).2.1
      rw [show ((k + 1 : Nat) : Int) = (k : Int) + 1 by omega, clR_cl (by omega)] at this
      rw [this]
    · cases ih2
theorem u8_inj {c d : UInt8} (h : dgI c = dgI d) : c = d := by
  apply UInt8.toNat_inj.1; unfold dgI at h; omega
/-- What a text builds is a permutation, and has that text. -/
theorem rb_back {s : List UInt8} (h : rbB s = true) : isPermB (rbL s) = true ∧ rbL s ≠ [] ∧ txB (rbL s) (rbL s).length = s := by
  unfold rbB at h
  obtain ⟨L, hL⟩ := Option.isSome_iff_exists.1 h
  have hl : rbL s = L := by rw [rbL, hL]; rfl
  rw [hl]
  unfold rbR at hL
  split at hL
  · rename_i hs
    split at hL
    · rename_i M hM
      split at hL
      · cases hL
      · rename_i hz
        obtain rfl : M = L := by simpa using hL
        have h0 : ∀ x ∈ M, x ≠ 0 := fun x hx e => hz (by rw [List.contains_eq_mem]; exact decide_eq_true (e ▸ hx))
        obtain ⟨n, hn⟩ : ∃ n, n = s.length / 2 := ⟨_, rfl⟩
        rw [← hn] at hM
        obtain ⟨q1, q2⟩ := rbF_sep hM
        rw [List.filter_eq_self.2 (fun x hx => by simpa using h0 x hx)] at q2
        have hlen : M.length = n := by rw [q2.length_eq]; simp [upN]
        have hp : permB M = true := permB_iff.2 ⟨fun x hx => by have := q1.1 x hx; have := h0 x hx; omega, q2.nodup_iff.2 (by
          rw [upN, List.Nodup, List.pairwise_map]
          exact List.Pairwise.imp (fun {a b} h e => h (by omega)) (List.nodup_range (n := n)))⟩
        have h8 : M.length ≤ 8 := by omega
        refine ⟨by simp [isPermB, h8, hp], by intro e; rw [e] at hlen; simp at hlen; omega, ?_⟩
        have key : ∀ k, k < n → s.getD (2 * k) 0 = (txB M M.length).getD (2 * k) 0 ∧ s.getD (2 * k + 1) 0 = (txB M M.length).getD (2 * k + 1) 0 := fun k hk => by
          have r1 := rbF_back hM h0 (j := n - k) (k := k) (by omega)
          have r2 := rbF_back hM h0 (j := n - (k + 1)) (k := k + 1) (by omega)
          rw [rbF_succ r1, show ((k + 1 : Nat) : Int) = (k : Int) + 1 by omega] at r2
          obtain ⟨e1, e2⟩ := step_inj (by omega) (rbF_sep r1).1 r2 (perm_step hp (by omega))
          obtain ⟨f1, f2⟩ := txB_at h8 hp (k := k) (w := M.length) (by omega) (Nat.le_refl _)
          exact ⟨e1.trans f1.symm, u8_inj (e2.trans f2.symm)⟩
        have hl2 := txB_two h8 hp (Nat.le_refl _)
        apply List.ext_getElem?
        intro j
        by_cases hj : j < s.length
        · have e : (txB M M.length).getD j 0 = s.getD j 0 := by
            by_cases ev : j % 2 = 0
            · have := (key (j / 2) (by omega)).1
              rw [show 2 * (j / 2) = j by omega] at this
              exact this.symm
            · have := (key (j / 2) (by omega)).2
              rw [show 2 * (j / 2) + 1 = j by omega] at this
              exact this.symm
          rw [List.getD_eq_getElem?_getD, List.getD_eq_getElem?_getD, List.getElem?_eq_getElem hj, List.getElem?_eq_getElem (by omega)] at e
          rw [List.getElem?_eq_getElem hj, List.getElem?_eq_getElem (by omega)]
          simpa using e
        · rw [List.getElem?_eq_none (by omega), List.getElem?_eq_none (by omega)]
    · cases hL
  · cases hL
/-! ### letters counted -/
def cnB (c : UInt8) (t : List UInt8) : Nat → Int
  | 0 => 0
  | k + 1 => cnB c t k + bitI (decide (t.getD (2 * k) 0 = c))
theorem cnB_r (c : UInt8) (t : List UInt8) : ∀ k : Nat, 0 ≤ cnB c t k ∧ cnB c t k ≤ k
  | 0 => by simp [cnB]
  | k + 1 => by
    have := cnB_r c t k
    have := bitI_r (decide (t.getD (2 * k) 0 = c))
    rw [cnB]; omega
theorem cnB_mono {c : UInt8} {t : List UInt8} {i : Nat} : ∀ {j : Nat}, i ≤ j → cnB c t i ≤ cnB c t j
  | 0, h => by obtain rfl : i = 0 := by omega
               exact Int.le_refl _
  | j + 1, h => by
    by_cases e : i = j + 1
    · rw [e]; exact Int.le_refl _
    · have := cnB_mono (c := c) (t := t) (i := i) (j := j) (by omega)
      have := bitI_r (decide (t.getD (2 * j) 0 = c))
      rw [cnB]; omega
theorem cnt_row {s : List UInt8} : ∀ {k : Nat} {R : List Int}, rbF s k = some R → zcA R = 1 - cnB 102 s k + cnB 109 s k
  | 0, R, h => by cases h; rfl
  | k + 1, R, h => by
    rw [rbF] at h
    split at h
    · rename_i L e
      have ih := cnt_row e
      obtain ⟨Z, T, rfl, rfl, _, hp⟩ := stepR_in h
      obtain ⟨o, z, _, hz, hd⟩ := pp_inf (by omega) hp
      rw [zcA_app, show (0 :: T : List Int) = [0] ++ T from rfl, zcA_app, zcA_one] at ih
      rw [zcA_app, zcA_app, hz, cnB, cnB]
      have b0 : bitI (decide ((0 : Int) = 0)) = 1 := rfl
      rw [b0] at ih
      rcases hd with ⟨a, _, b⟩ | ⟨a, _, b⟩ | ⟨a, _, b⟩ | ⟨a, _, b⟩ <;> rw [a, b] <;> simp [bitI] <;> omega
    · cases h
theorem zcA_pos : ∀ {L : List Int}, (∀ x ∈ L, x ≠ 0) → zcA L = 0
  | [], _ => rfl
  | x :: L, h => by
    rw [show x :: L = [x] ++ L from rfl, zcA_app, zcA_one, zcA_pos fun y hy => h y (by simp [hy]), decide_eq_false (h x (by simp))]; rfl
theorem fills {p : List Int} (h8 : p.length ≤ 8) (hp : permB p = true) (h0 : p ≠ []) : cnB 102 (txB p p.length) p.length = cnB 109 (txB p p.length) p.length + 1 ∧ mxB p p.length ≤ cnB 109 (txB p p.length) p.length + 1 := by
  have hb := (permB_iff.1 hp).1
  have row := fun k hk => cnt_row (rbF_perm h8 hp h0 (k := k) hk)
  refine ⟨?_, ?_⟩
  · have := row p.length (Nat.le_refl _)
    rw [clR_all hb, zcA_pos fun x hx e => by have := hb x hx; omega] at this
    omega
  · have : ∀ {v : Nat}, v < p.length + 1 → mxB p v ≤ cnB 109 (txB p p.length) p.length + 1 := by
      intro v
      induction v with
      | zero =>
        intro _
        have := cnB_r 109 (txB p p.length) p.length
        rw [mxB]; split <;> omega
      | succ v ih =>
        intro hv
        have h1 := ih (by omega)
        have h2 := row (v + 1) (by omega)
        have h3 := (slL_cl (p := p) (fun x hx => (hb x hx).1) (k := ((v + 1 : Nat) : Int)) (j := p.length) (Nat.le_refl _)).1
        rw [List.take_length, h2] at h3
        have h4 := cnB_r 102 (txB p p.length) (v + 1)
        have h5 := cnB_mono (c := 109) (t := txB p p.length) (i := v + 1) (j := p.length) (by omega)
        rw [mxB, show ((v : Int) + 2) = ((v + 1 : Nat) : Int) + 1 by omega]; omega
    exact this (by omega)
end Go.Gl
