/-
  Bases and classes: what their functions compute. Conditions: none.
-/
import Derived.Test.YtfjfobbniglaeaaDoorHas
import Derived.Test.YtfjfobbniglaeaaDoorPerms
import Derived.Test.YtfjfobbniglaeaaDoorLaw2
import Derived.Test.YtfjfobbniglaeaaDoorPText
import Derived.Test.YtfjfobbniglaeaaDoorCmp0
set_option linter.unusedSimpArgs false
set_option linter.unusedVariables false
set_option maxRecDepth 20000
set_option linter.unusedSectionVars false
namespace Go.Gl
open Go Go.Proofs
variable [Amb] [NoQ]
def befB (p q : List Int) : Bool := decide (cmpP p q < 0)
theorem bef_ne {a b : List Int} (h : a.length ≠ b.length) : decide (a.length < b.length) = befB a b := by
  rw [befB, cmpP, if_pos (fun e => by rw [cmpI_0] at e; omega)]
  unfold cmpI
  by_cases h1 : a.length < b.length
  · rw [if_pos (by omega)]; simp [h1]
  · rw [if_neg (by omega), if_pos (by omega)]; simp [h1]
theorem bef_eq {a b : List Int} (h : a.length = b.length) : befB a b = decide (cmpL a b < 0) := by
  rw [befB, cmpP, if_neg (fun e => e (cmpI_0.2 (by omega)))]
theorem cmpI_neg {a b : Int} : decide (cmpI a b < 0) = decide (a < b) := by
  unfold cmpI; split
  · rename_i h; simp [h]
  · split <;> simp <;> omega
theorem spec_l2Before_c {m0 m1 : Bool} (a b : List Int) (ha : a.length ≤ 1048576) (hb : b.length ≤ 1048576) : Fun Tryd.prog 80 [(.sl (.lent m0) (List.map (PV.int .i64) (a))), (.sl (.lent m1) (List.map (PV.int .i64) (b)))] [(.bool (befB a b))] := by
  refine fO sg0 [4] Tryd.func80 ?_
  refine dEa trivial ?_
  all_goals try (refine zlf ?_; repeat' first | exact zso | refine And.intro ?_ ?_ | (refine zim ?_; intro zb hc) | (refine zin ?_; intro zb) | intro j')
  all_goals try refine zbx ?_
  · exact bef_ne (by omega)
  have hl : a.length = b.length := by omega
  rw [bef_eq hl]
  refine v_loopB (fun ms1 S1 => ∃ (k : Nat), S1.e 0 = .p (.sl (.lent m0) (List.map (PV.int .i64) (a))) ∧ S1.e 1 = .p (.sl (.lent m1) (List.map (PV.int .i64) (b))) ∧ S1.e 5 = .p (.int .i64 (k)) ∧ (k ≤ a.length) ∧ (cmpL a b = cmpL (a.drop k) (b.drop k)) ∧ ms1 = a.length - k) ((fun (k : Nat) => a.length - k) (0)) ?_ ⟨0, dIa trivial ?_⟩
  all_goals try (refine zlf ?_; repeat' first | exact zso | refine And.intro ?_ ?_ | (refine zim ?_; intro zb hc) | (refine zin ?_; intro zb) | intro j')
  all_goals try refine zbx ?_
  rintro ms1 S1 ⟨k, h1_0, h1_1, h1_5, c1_0, c1_1, hm1⟩
  have fL1 := (And.intro h1_0 (And.intro h1_1 h1_5))
  refine dEa fL1 ?_
  all_goals try (refine zlf ?_; repeat' first | exact zso | refine And.intro ?_ ?_ | (refine zim ?_; intro zb hc) | (refine zin ?_; intro zb) | intro j')
  all_goals try refine zbx ?_
  · rw [c1_1, dropI_at (by omega), dropI_at (s := b) (by omega), cmpL, if_pos (fun e => hc (cmpI_0.1 e)), cmpI_neg]
  · focus
      refine q_lp_n ((fun (k : Nat) => a.length - k) (k+1)) (dC fL1 ?_) ⟨k+1, dC fL1 ?_⟩
      all_goals try (refine zlf ?_; repeat' first | exact zso | refine And.intro ?_ ?_ | (refine zim ?_; intro zb hc) | (refine zin ?_; intro zb) | intro j')
      all_goals try refine zbx ?_
    rw [c1_1, dropI_at (by omega), dropI_at (s := b) (by omega), cmpL, if_neg (fun h => h (cmpI_0.2 hc))]
  · rw [c1_1, List.drop_of_length_le (l := a) (by omega), List.drop_of_length_le (l := b) (by omega), cmpL]; rfl
theorem has_end {p q : List Int} : (!(occ 0 p q q.length []).isEmpty) = hasB p q := rfl
theorem impl_has0_c {m0 m1 : Bool} (p q : List Int) (hp : p.length ≤ 8) (hq : q.length ≤ 8) : Fun Tryd.prog 78 [.sl (.lent m0) (List.map (PV.int .i64) p), .sl (.lent m1) (List.map (PV.int .i64) q), .sl (.lent false) []] [.bool (hasB p q)] := by
  have c1 := impl_has_c (m0 := m0) (m1 := m1) p q hp hq q.length (m2 := false) [] (by simp) (by simp)
  rw [has_end] at c1
  simpa only [List.map_nil] using c1
/-- The first k of a list are as a basis asks. -/
def basK (L : List (List Int)) (k : Nat) : Bool := (List.range k).all fun i => isPermB (L.getD i []) && !decide ((L.getD i []).length = 0) && (decide (i = 0) || befB (L.getD (i - 1) []) (L.getD i [])) && !((List.range i).any fun j => hasB (L.getD i []) (L.getD j []))
def basisB (L : List (List Int)) : Bool := decide (L.length ≤ 8) && basK L L.length
theorem basK_succ {L : List (List Int)} {k : Nat} : basK L (k + 1) = (basK L k && (isPermB (L.getD k []) && !decide ((L.getD k []).length = 0) && (decide (k = 0) || befB (L.getD (k - 1) []) (L.getD k [])) && !((List.range k).any fun j => hasB (L.getD k []) (L.getD j [])))) := by
  simp [basK, List.range_succ]
theorem basK_perm {L : List (List Int)} {k j : Nat} (h : basK L k = true) (hj : j < k) : isPermB (L.getD j []) = true := by
  rw [basK, List.all_eq_true] at h
  have := h j (List.mem_range.2 hj)
  simp only [Bool.and_eq_true] at this
  exact this.1.1.1
theorem basK_mono {L : List (List Int)} {k n : Nat} (hk : k ≤ n) (h : basK L k = false) : basK L n = false := by
  induction hk with
  | refl => exact h
  | step _ ih => rw [basK_succ, ih]; rfl
theorem basis_f {L : List (List Int)} {k : Nat} (hk : k < L.length) (h : (isPermB (L.getD k []) && !decide ((L.getD k []).length = 0) && (decide (k = 0) || befB (L.getD (k - 1) []) (L.getD k [])) && !((List.range k).any fun j => hasB (L.getD k []) (L.getD j []))) = false) : false = basisB L := by
  rw [basisB, basK_mono (k := k + 1) (by omega) (by rw [basK_succ, h, Bool.and_false]), Bool.and_false]
set_option maxHeartbeats 1000000 in
theorem spec_IsBasis_c {e0 m0 : Bool} (L : List (List Int)) (hL : L.length ≤ 1048576) (hl : ∀ l ∈ L, l.length ≤ 1048576) : Fun Tryd.prog 49 [(.sl (.lent m0) (List.map (elI e0) (L)))] [(.bool (basisB L))] := by
  refine fO sg0 [2] Tryd.func49 ?_
  have cE1 := @spec_IsPerm_c; have cE2 := @spec_l2Before_c; have cE3 := @spec_l7Has_c; have cD1 := zdh [false, false, false, false, true, false, false, false, false, false, false, false, false, false, false, false, false, false, false, false, false, false, false, false, false, false, false, true, false, false, false] []; have cD2 := zdh [false, false, false, false, false, false, false, false, true] []
  refine dEa trivial ?_
  all_goals try (refine zlf ?_; repeat' first | exact zso | refine And.intro ?_ ?_ | (refine zim ?_; intro zb hc; repeat (have zc := zb.1; replace zb := zb.2)) | (refine zin ?_; intro zb) | intro j')
  all_goals try refine zbx ?_
  refine v_loopB (fun ms1 S1 => ∃ (k : Nat), S1.e 0 = .p (.sl (.lent m0) (List.map (elI e0) (L))) ∧ S1.e 3 = .p (.int .i64 (k)) ∧ (k ≤ L.length) ∧ (basK L k = true) ∧ ms1 = L.length - k) ((fun (k : Nat) => L.length - k) (0)) ?_ ⟨0, dC trivial ?_⟩
  all_goals try (refine zlf ?_; repeat' first | exact zso | refine And.intro ?_ ?_ | (refine zim ?_; intro zb hc; repeat (have zc := zb.1; replace zb := zb.2)) | (refine zin ?_; intro zb) | intro j')
  all_goals try refine zbx ?_
  rintro ms1 S1 ⟨k, h1_0, h1_3, c1_0, c1_1, hm1⟩
  have fL1 := (And.intro h1_0 h1_3)
  have u1 : ((k : Int) - 1).toNat = k - 1 := by omega
  by_cases hk : k < L.length
  · have g1 := hl _ (getD_mem (d := []) hk)
    have g2 : 0 < k → (L.getD (k - 1) []).length ≤ 1048576 := fun h => hl _ (getD_mem (by omega))
    refine dEa (And.intro fL1 @u1) ?_
    all_goals try (refine zlf ?_; repeat' first | exact zso | refine And.intro ?_ ?_ | (refine zim ?_; intro zb hc; repeat (have zc := zb.1; replace zb := zb.2)) | (refine zin ?_; intro zb) | intro j')
    all_goals try refine zbx ?_
    · refine basis_f hk ?_
      have x1 : befB (L.getD (k - 1) []) (L.getD k []) = false := hc
      have x3 : decide (k = 0) = false := decide_eq_false (by omega)
      rw [x1, x3]; simp
    · have w1 : isPermB (L.getD k []) = true := by assumption
      have w2 : ¬ ((L.getD k []).length : Int) = 0 := by assumption
      have w3 : (decide (k = 0) || befB (L.getD (k - 1) []) (L.getD k [])) = true := by rw [hc, Bool.or_true]
      have w4 := (isPerm_facts w1).1
      refine v_loopB (fun ms2 S2 => ∃ (j : Nat), S2.e 0 = .p (.sl (.lent m0) (List.map (elI e0) (L))) ∧ S2.e 3 = .p (.int .i64 (k)) ∧ S2.e 4 = .p (.int .i64 (j)) ∧ (j ≤ k) ∧ (∀ i, i < j → hasB (L.getD k []) (L.getD i []) = false) ∧ S1.n ≤ S2.n ∧ ms2 = k - j) ((fun (j : Nat) => k - j) (0)) ?_ ⟨0, dC fL1 ?_⟩
      all_goals try (refine zlf ?_; repeat' first | exact zso | refine And.intro ?_ ?_ | (refine zim ?_; intro zb hc; repeat (have zc := zb.1; replace zb := zb.2)) | (refine zin ?_; intro zb) | intro j')
      all_goals try refine zbx ?_
      rintro ms2 S2 ⟨j, h2_0, h2_3, h2_4, c2_0, c2_1, u2_0, hm2⟩
      have fL2 := (And.intro h2_0 (And.intro h2_3 h2_4))
      have w5 : j < k → (L.getD j []).length ≤ 8 := fun h => (isPerm_facts (basK_perm c1_1 h)).1
      have w6 : j < k → (L.take k).getD j [] = L.getD j [] := fun h => by simp only [List.getD_eq_getElem?_getD, List.getElem?_take]; rw [if_pos h]
      by_cases hj : j < k
      · have w7 := w5 hj
        have w8 := w6 hj
        refine dEa fL2 ?_
        all_goals try (refine zlf ?_; repeat' first | exact zso | refine And.intro ?_ ?_ | (refine zim ?_; intro zb hc; repeat (have zc := zb.1; replace zb := zb.2)) | (refine zin ?_; intro zb) | intro j')
        all_goals try refine zbx ?_
        · have x1 : ((List.range k).any fun j => hasB (L.getD k []) (L.getD j [])) = true := List.any_eq_true.2 ⟨j, List.mem_range.2 hj, hc⟩
          exact basis_f hk (by rw [x1]; simp)
        · focus
            refine q_lp_n ((fun (j : Nat) => k - j) (j+1)) (dC fL2 ?_) ⟨j+1, dC fL2 ?_⟩
            all_goals try (refine zlf ?_; repeat' first | exact zso | refine And.intro ?_ ?_ | (refine zim ?_; intro zb hc; repeat (have zc := zb.1; replace zb := zb.2)) | (refine zin ?_; intro zb) | intro j')
            all_goals try refine zbx ?_
          intro i hi
          by_cases e : i = j
          · subst e; exact hc
          · exact c2_1 i (by omega)
      · refine dEa fL2 ?_
        all_goals try (refine zlf ?_; repeat' first | exact zso | refine And.intro ?_ ?_ | (refine zim ?_; intro zb hc; repeat (have zc := zb.1; replace zb := zb.2)) | (refine zin ?_; intro zb) | intro j')
        all_goals try refine zbx ?_
        · focus
            refine q_lp_n ((fun (k : Nat) => L.length - k) (k+1)) (dC fL2 ?_) ⟨k+1, dC fL2 ?_⟩
            all_goals try (refine zlf ?_; repeat' first | exact zso | refine And.intro ?_ ?_ | (refine zim ?_; intro zb hc; repeat (have zc := zb.1; replace zb := zb.2)) | (refine zin ?_; intro zb) | intro j')
            all_goals try refine zbx ?_
          have x1 : ((List.range k).any fun j => hasB (L.getD k []) (L.getD j [])) = false := by
            rw [Bool.eq_false_iff]; intro h
            obtain ⟨i, hi, h2⟩ := List.any_eq_true.1 h
            rw [c2_1 i (by have := List.mem_range.1 hi; omega)] at h2; cases h2
          rw [basK_succ, c1_1, w1, w3, x1, decide_eq_false (by omega)]; rfl
    · have w1 : isPermB (L.getD k []) = true := by assumption
      have w2 : ¬ ((L.getD k []).length : Int) = 0 := by assumption
      have w3 : (decide (k = 0) || befB (L.getD (k - 1) []) (L.getD k [])) = true := by rw [decide_eq_true (by omega), Bool.true_or]
      have w4 := (isPerm_facts w1).1
      refine v_loopB (fun ms3 S3 => ∃ (j : Nat), S3.e 0 = .p (.sl (.lent m0) (List.map (elI e0) (L))) ∧ S3.e 3 = .p (.int .i64 (k)) ∧ S3.e 4 = .p (.int .i64 (j)) ∧ (j ≤ k) ∧ (∀ i, i < j → hasB (L.getD k []) (L.getD i []) = false) ∧ S1.n ≤ S3.n ∧ ms3 = k - j) ((fun (j : Nat) => k - j) (0)) ?_ ⟨0, dC fL1 ?_⟩
      all_goals try (refine zlf ?_; repeat' first | exact zso | refine And.intro ?_ ?_ | (refine zim ?_; intro zb hc; repeat (have zc := zb.1; replace zb := zb.2)) | (refine zin ?_; intro zb) | intro j')
      all_goals try refine zbx ?_
      rintro ms3 S3 ⟨j, h3_0, h3_3, h3_4, c3_0, c3_1, u3_0, hm3⟩
      have fL3 := (And.intro h3_0 (And.intro h3_3 h3_4))
      have w5 : j < k → (L.getD j []).length ≤ 8 := fun h => (isPerm_facts (basK_perm c1_1 h)).1
      have w6 : j < k → (L.take k).getD j [] = L.getD j [] := fun h => by simp only [List.getD_eq_getElem?_getD, List.getElem?_take]; rw [if_pos h]
      by_cases hj : j < k
      · omega
      · refine dEa fL3 ?_
        all_goals try (refine zlf ?_; repeat' first | exact zso | refine And.intro ?_ ?_ | (refine zim ?_; intro zb hc; repeat (have zc := zb.1; replace zb := zb.2)) | (refine zin ?_; intro zb) | intro j')
        all_goals try refine zbx ?_
        · focus
            refine q_lp_n ((fun (k : Nat) => L.length - k) (k+1)) (dC fL3 ?_) ⟨k+1, dC fL3 ?_⟩
            all_goals try (refine zlf ?_; repeat' first | exact zso | refine And.intro ?_ ?_ | (refine zim ?_; intro zb hc; repeat (have zc := zb.1; replace zb := zb.2)) | (refine zin ?_; intro zb) | intro j')
            all_goals try refine zbx ?_
          have x1 : ((List.range k).any fun j => hasB (L.getD k []) (L.getD j [])) = false := by
            rw [Bool.eq_false_iff]; intro h
            obtain ⟨i, hi, h2⟩ := List.any_eq_true.1 h
            rw [c3_1 i (by have := List.mem_range.1 hi; omega)] at h2; cases h2
          rw [basK_succ, c1_1, w1, w3, x1, decide_eq_false (by omega)]; rfl
    · have x2 : (L.getD k []).length = 0 := by omega
      exact basis_f hk (by rw [decide_eq_true x2]; simp)
    · exact basis_f hk (by rw [hc]; rfl)
  · skip
    refine dEa fL1 ?_
    all_goals try (refine zlf ?_; repeat' first | exact zso | refine And.intro ?_ ?_ | (refine zim ?_; intro zb hc; repeat (have zc := zb.1; replace zb := zb.2)) | (refine zin ?_; intro zb) | intro j')
    all_goals try refine zbx ?_
    obtain rfl : k = L.length := by omega
    rw [basisB, c1_1, Bool.and_true]; congr 1; rw [eq_iff_iff]; omega
set_option maxHeartbeats 1000000 in
theorem impl_IsBasis_c {e0 m0 : Bool} (L : List (List Int)) (hL : L.length ≤ 1048576) (hl : ∀ l ∈ L, l.length ≤ 1048576) : Fun Tryd.prog 47 [(.sl (.lent m0) (List.map (elI e0) (L)))] [(.bool (basisB L))] := by
  refine fO sg0 [2] Tryd.func47 ?_
  have cE1 := @impl_IsPerm_c; have cE2 := @impl_comparePerms_c
  refine dEa trivial ?_
  all_goals try (refine zlf ?_; repeat' first | exact zso | refine And.intro ?_ ?_ | (refine zim ?_; intro zb hc; repeat (have zc := zb.1; replace zb := zb.2)) | (refine zin ?_; intro zb) | intro j')
  all_goals try refine zbx ?_
  · rw [basisB, decide_eq_false (by omega), Bool.false_and]
  have h8 : L.length ≤ 8 := by omega
  refine v_loopB (fun ms1 S1 => ∃ (k : Nat), S1.e 0 = .p (.sl (.lent m0) (List.map (elI e0) (L))) ∧ S1.e 10 = .p (.sl (.lent m0) (List.map (elI e0) (L))) ∧ S1.e 11 = .p (.int .i64 (L.length)) ∧ S1.e 12 = .p (.int .i64 (k)) ∧ (k ≤ L.length) ∧ (basK L k = true) ∧ ms1 = L.length - k) ((fun (k : Nat) => L.length - k) (0)) ?_ ⟨0, dC trivial ?_⟩
  all_goals try (refine zlf ?_; repeat' first | exact zso | refine And.intro ?_ ?_ | (refine zim ?_; intro zb hc; repeat (have zc := zb.1; replace zb := zb.2)) | (refine zin ?_; intro zb) | intro j')
  all_goals try refine zbx ?_
  rintro ms1 S1 ⟨k, h1_0, h1_10, h1_11, h1_12, c1_0, c1_1, hm1⟩
  have fL1 := (And.intro h1_0 (And.intro h1_10 (And.intro h1_11 h1_12)))
  have u1 : ((k : Int) - 1).toNat = k - 1 := by omega
  by_cases hk : k < L.length
  · have g1 := hl _ (getD_mem (d := []) hk)
    have g2 : 0 < k → (L.getD (k - 1) []).length ≤ 1048576 := fun h => hl _ (getD_mem (by omega))
    refine dEa (And.intro fL1 @u1) ?_
    all_goals try (refine zlf ?_; repeat' first | exact zso | refine And.intro ?_ ?_ | (refine zim ?_; intro zb hc; repeat (have zc := zb.1; replace zb := zb.2)) | (refine zin ?_; intro zb) | intro j')
    all_goals try refine zbx ?_
    · refine basis_f hk ?_
      have x1 : befB (L.getD (k - 1) []) (L.getD k []) = false := (by simp only [befB, decide_eq_false_iff_not]; omega)
      have x3 : decide (k = 0) = false := decide_eq_false (by omega)
      rw [x1, x3]; simp
    · have w1 : isPermB (L.getD k []) = true := by assumption
      have w2 : ¬ ((L.getD k []).length : Int) = 0 := by assumption
      have w3 : (decide (k = 0) || befB (L.getD (k - 1) []) (L.getD k [])) = true := by rw [show befB (L.getD (k - 1) []) (L.getD k []) = true by simp only [befB, decide_eq_true_eq]; omega, Bool.or_true]
      have w4 := (isPerm_facts w1).1
      refine v_loopB (fun ms2 S2 => ∃ (j : Nat), S2.e 0 = .p (.sl (.lent m0) (List.map (elI e0) (L))) ∧ S2.e 10 = .p (.sl (.lent m0) (List.map (elI e0) (L))) ∧ S2.e 11 = .p (.int .i64 (L.length)) ∧ S2.e 12 = .p (.int .i64 (k)) ∧ S2.e 3 = .p (.int .i64 (k)) ∧ S2.e 4 = .p (.sl (.lent e0) (List.map (PV.int .i64) (L.getD k []))) ∧ S2.e 41 = .p (.sl (.lent m0) (List.map (elI e0) ((L.take k)))) ∧ S2.e 42 = .p (.int .i64 (k)) ∧ S2.e 43 = .p (.int .i64 (j)) ∧ (j ≤ k) ∧ (∀ i, i < j → hasB (L.getD k []) (L.getD i []) = false) ∧ S1.n ≤ S2.n ∧ ms2 = k - j) ((fun (j : Nat) => k - j) (0)) ?_ ⟨0, dC fL1 ?_⟩
      all_goals try (refine zlf ?_; repeat' first | exact zso | refine And.intro ?_ ?_ | (refine zim ?_; intro zb hc; repeat (have zc := zb.1; replace zb := zb.2)) | (refine zin ?_; intro zb) | intro j')
      all_goals try refine zbx ?_
      rintro ms2 S2 ⟨j, h2_0, h2_10, h2_11, h2_12, h2_3, h2_4, h2_41, h2_42, h2_43, c2_0, c2_1, u2_0, hm2⟩
      have fL2 := (And.intro h2_0 (And.intro h2_10 (And.intro h2_11 (And.intro h2_12 (And.intro h2_3 (And.intro h2_4 (And.intro h2_41 (And.intro h2_42 h2_43))))))))
      have w5 : j < k → (L.getD j []).length ≤ 8 := fun h => (isPerm_facts (basK_perm c1_1 h)).1
      have w6 : j < k → (L.take k).getD j [] = L.getD j [] := fun h => by simp only [List.getD_eq_getElem?_getD, List.getElem?_take]; rw [if_pos h]
      by_cases hj : j < k
      · have w7 := w5 hj
        have w8 := w6 hj
        have cE1 := @impl_has0_c; have cE2 := @impl_IsPerm_c; have cE3 := @impl_comparePerms_c
        refine dEa (And.intro fL2 @w8) ?_
        all_goals try (refine zlf ?_; repeat' first | exact zso | refine And.intro ?_ ?_ | (refine zim ?_; intro zb hc; repeat (have zc := zb.1; replace zb := zb.2)) | (refine zin ?_; intro zb) | intro j')
        all_goals try refine zbx ?_
        · have x1 : ((List.range k).any fun j => hasB (L.getD k []) (L.getD j [])) = true := List.any_eq_true.2 ⟨j, List.mem_range.2 hj, hc⟩
          exact basis_f hk (by rw [x1]; simp)
        · focus
            refine q_lp_n ((fun (j : Nat) => k - j) (j+1)) (dC fL2 ?_) ⟨j+1, dC fL2 ?_⟩
            all_goals try (refine zlf ?_; repeat' first | exact zso | refine And.intro ?_ ?_ | (refine zim ?_; intro zb hc; repeat (have zc := zb.1; replace zb := zb.2)) | (refine zin ?_; intro zb) | intro j')
            all_goals try refine zbx ?_
          intro i hi
          by_cases e : i = j
          · subst e; exact hc
          · exact c2_1 i (by omega)
      · have cE1 := @impl_has0_c; have cE2 := @impl_IsPerm_c; have cE3 := @impl_comparePerms_c
        refine dEa fL2 ?_
        all_goals try (refine zlf ?_; repeat' first | exact zso | refine And.intro ?_ ?_ | (refine zim ?_; intro zb hc; repeat (have zc := zb.1; replace zb := zb.2)) | (refine zin ?_; intro zb) | intro j')
        all_goals try refine zbx ?_
        · focus
            refine q_lp_n ((fun (k : Nat) => L.length - k) (k+1)) (dC fL2 ?_) ⟨k+1, dC fL2 ?_⟩
            all_goals try (refine zlf ?_; repeat' first | exact zso | refine And.intro ?_ ?_ | (refine zim ?_; intro zb hc; repeat (have zc := zb.1; replace zb := zb.2)) | (refine zin ?_; intro zb) | intro j')
            all_goals try refine zbx ?_
          have x1 : ((List.range k).any fun j => hasB (L.getD k []) (L.getD j [])) = false := by
            rw [Bool.eq_false_iff]; intro h
            obtain ⟨i, hi, h2⟩ := List.any_eq_true.1 h
            rw [c2_1 i (by have := List.mem_range.1 hi; omega)] at h2; cases h2
          rw [basK_succ, c1_1, w1, w3, x1, decide_eq_false (by omega)]; rfl
    · have w1 : isPermB (L.getD k []) = true := by assumption
      have w2 : ¬ ((L.getD k []).length : Int) = 0 := by assumption
      have w3 : (decide (k = 0) || befB (L.getD (k - 1) []) (L.getD k [])) = true := by rw [decide_eq_true (by omega), Bool.true_or]
      have w4 := (isPerm_facts w1).1
      refine v_loopB (fun ms3 S3 => ∃ (j : Nat), S3.e 0 = .p (.sl (.lent m0) (List.map (elI e0) (L))) ∧ S3.e 10 = .p (.sl (.lent m0) (List.map (elI e0) (L))) ∧ S3.e 11 = .p (.int .i64 (L.length)) ∧ S3.e 12 = .p (.int .i64 (k)) ∧ S3.e 3 = .p (.int .i64 (k)) ∧ S3.e 4 = .p (.sl (.lent e0) (List.map (PV.int .i64) (L.getD k []))) ∧ S3.e 41 = .p (.sl (.lent m0) (List.map (elI e0) ((L.take k)))) ∧ S3.e 42 = .p (.int .i64 (k)) ∧ S3.e 43 = .p (.int .i64 (j)) ∧ (j ≤ k) ∧ (∀ i, i < j → hasB (L.getD k []) (L.getD i []) = false) ∧ S1.n ≤ S3.n ∧ ms3 = k - j) ((fun (j : Nat) => k - j) (0)) ?_ ⟨0, dC fL1 ?_⟩
      all_goals try (refine zlf ?_; repeat' first | exact zso | refine And.intro ?_ ?_ | (refine zim ?_; intro zb hc; repeat (have zc := zb.1; replace zb := zb.2)) | (refine zin ?_; intro zb) | intro j')
      all_goals try refine zbx ?_
      rintro ms3 S3 ⟨j, h3_0, h3_10, h3_11, h3_12, h3_3, h3_4, h3_41, h3_42, h3_43, c3_0, c3_1, u3_0, hm3⟩
      have fL3 := (And.intro h3_0 (And.intro h3_10 (And.intro h3_11 (And.intro h3_12 (And.intro h3_3 (And.intro h3_4 (And.intro h3_41 (And.intro h3_42 h3_43))))))))
      have w5 : j < k → (L.getD j []).length ≤ 8 := fun h => (isPerm_facts (basK_perm c1_1 h)).1
      have w6 : j < k → (L.take k).getD j [] = L.getD j [] := fun h => by simp only [List.getD_eq_getElem?_getD, List.getElem?_take]; rw [if_pos h]
      by_cases hj : j < k
      · omega
      · have cE1 := @impl_has0_c; have cE2 := @impl_IsPerm_c; have cE3 := @impl_comparePerms_c
        refine dEa fL3 ?_
        all_goals try (refine zlf ?_; repeat' first | exact zso | refine And.intro ?_ ?_ | (refine zim ?_; intro zb hc; repeat (have zc := zb.1; replace zb := zb.2)) | (refine zin ?_; intro zb) | intro j')
        all_goals try refine zbx ?_
        · focus
            refine q_lp_n ((fun (k : Nat) => L.length - k) (k+1)) (dC fL3 ?_) ⟨k+1, dC fL3 ?_⟩
            all_goals try (refine zlf ?_; repeat' first | exact zso | refine And.intro ?_ ?_ | (refine zim ?_; intro zb hc; repeat (have zc := zb.1; replace zb := zb.2)) | (refine zin ?_; intro zb) | intro j')
            all_goals try refine zbx ?_
          have x1 : ((List.range k).any fun j => hasB (L.getD k []) (L.getD j [])) = false := by
            rw [Bool.eq_false_iff]; intro h
            obtain ⟨i, hi, h2⟩ := List.any_eq_true.1 h
            rw [c3_1 i (by have := List.mem_range.1 hi; omega)] at h2; cases h2
          rw [basK_succ, c1_1, w1, w3, x1, decide_eq_false (by omega)]; rfl
    · have x2 : (L.getD k []).length = 0 := by omega
      exact basis_f hk (by rw [decide_eq_true x2]; simp)
    · exact basis_f hk (by rw [hc]; rfl)
  · skip
    have cE1 := @impl_IsPerm_c; have cE2 := @impl_comparePerms_c; have cE3 := trivial
    refine dEa fL1 ?_
    all_goals try (refine zlf ?_; repeat' first | exact zso | refine And.intro ?_ ?_ | (refine zim ?_; intro zb hc; repeat (have zc := zb.1; replace zb := zb.2)) | (refine zin ?_; intro zb) | intro j')
    all_goals try refine zbx ?_
    obtain rfl : k = L.length := by omega
    rw [basisB, c1_1, Bool.and_true, decide_eq_true h8]
end Go.Gl
