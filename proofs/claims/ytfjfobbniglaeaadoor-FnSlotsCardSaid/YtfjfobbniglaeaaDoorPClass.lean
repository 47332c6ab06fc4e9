/-
  Classes: what their functions compute. Conditions: none.
-/
import Derived.Test.YtfjfobbniglaeaaDoorBasis
set_option linter.unusedSimpArgs false
set_option linter.unusedVariables false
set_option maxRecDepth 20000
set_option linter.unusedSectionVars false
namespace Go.Gl
open Go Go.Proofs
variable [Amb] [NoQ]
theorem impl_perms_f_c (n : Nat) (h1 : n ≤ 8) : Fun Tryd.prog 75 [(.int .i64 (n))] [(.sl .own (List.map (elI false) (permL n)))] := by
  refine fO sg0 [2] Tryd.func75 ?_
  have cE1 := @slices_Contains_int_int_c; have cE2 := @slices_Clone_c
  refine dE trivial ?_
  all_goals try (refine zlf ?_; repeat' first | exact zso | refine And.intro ?_ ?_ | (refine zim ?_; intro zb hc) | (refine zin ?_; intro zb) | intro j')
  all_goals try refine zbx ?_
  refine v_loopB (fun ms1 S1 => ∃ (i : Nat), S1.e 0 = .p (.int .i64 (n)) ∧ OwnL (S1.e 3) S1.h S1.n (elI false) ((lvl n i [[]]).length) (lvl n i [[]]) ∧ S1.e 10 = .p (.int .i64 (n)) ∧ S1.e 11 = .p (.int .i64 (i)) ∧ (i ≤ n) ∧ ms1 = n - i) ((fun (i : Nat) => n - i) (0)) ?_ ⟨0, dI trivial ?_⟩
  all_goals try (refine zlf ?_; repeat' first | exact zso | refine And.intro ?_ ?_ | (refine zim ?_; intro zb hc) | (refine zin ?_; intro zb) | intro j')
  all_goals try refine zbx ?_
  rintro ms1 S1 ⟨i, h1_0, o1_3, h1_10, h1_11, c1_0, hm1⟩
  obtain ⟨i1_3, h1_3, b1_3, l1_3⟩ := o1_3.out
  have ni1_3 := znds (x := i1_3) (n := S1.n)
  have fL1 := (And.intro h1_0 (And.intro h1_10 (And.intro h1_11 (And.intro h1_3 (And.intro b1_3 ni1_3)))))
  have b1 : (lvl n i [[]]).length ≤ 8 ^ 8 := lvl_b8 h1 (by omega)
  refine dE fL1 ?_
  all_goals try (refine zlf ?_; repeat' first | exact zso | refine And.intro ?_ ?_ | (refine zim ?_; intro zb hc) | (refine zin ?_; intro zb) | intro j')
  all_goals try refine zbx ?_
  refine v_loopB (fun ms2 S2 => ∃ (j : Nat), S2.e 0 = .p (.int .i64 (n)) ∧ OwnL (S2.e 14) S2.h S2.n (elI false) ((lvl n i [[]]).length) (lvl n i [[]]) ∧ OwnL (S2.e 4) S2.h S2.n (elI false) ((((lvl n i [[]]).take j).flatMap (fun p => extL p n)).length) (((lvl n i [[]]).take j).flatMap (fun p => extL p n)) ∧ S2.e 10 = .p (.int .i64 (n)) ∧ S2.e 11 = .p (.int .i64 (i)) ∧ S2.e 15 = .p (.int .i64 ((lvl n i [[]]).length)) ∧ S2.e 16 = .p (.int .i64 (j)) ∧ (j ≤ (lvl n i [[]]).length) ∧ NId (S2.e 4) (S2.e 14) ∧ S1.n ≤ S2.n ∧ ms2 = (lvl n i [[]]).length - j) ((fun (j : Nat) => (lvl n i [[]]).length - j) (0)) ?_ ⟨0, dIa fL1 ?_⟩
  all_goals try (refine zlf ?_; repeat' first | exact zso | refine And.intro ?_ ?_ | (refine zim ?_; intro zb hc) | (refine zin ?_; intro zb) | intro j')
  all_goals try refine zbx ?_
  rintro ms2 S2 ⟨j, h2_0, o2_14, o2_4, h2_10, h2_11, h2_15, h2_16, c2_0, u2_0, u2_1, hm2⟩
  obtain ⟨i2_14, h2_14, b2_14, l2_14⟩ := o2_14.out
  obtain ⟨i2_4, h2_4, b2_4, l2_4⟩ := o2_4.out
  have k2_0 := (u2_0).out h2_4 h2_14
  have ni2_14 := znds (x := i2_14) (n := S2.n)
  have ni2_4 := znds (x := i2_4) (n := S2.n)
  have di2_14i2_4 := zdne (x := i2_14) (y := i2_4)
  have fL2 := (And.intro h2_0 (And.intro h2_10 (And.intro h2_11 (And.intro h2_15 (And.intro h2_16 (And.intro h2_14 (And.intro b2_14 (And.intro h2_4 (And.intro b2_4 (And.intro ni2_14 (And.intro ni2_4 di2_14i2_4)))))))))))
  have b2 : ((lvl n i [[]]).take j).length ≤ 8 ^ 8 := by simp; omega
  have b3 := Nat.le_trans (flat_len (n := n) (L := (lvl n i [[]]).take j)) (Nat.mul_le_mul b2 h1)
  refine dEa fL2 ?_
  all_goals try (refine zlf ?_; repeat' first | exact zso | refine And.intro ?_ ?_ | (refine zim ?_; intro zb hc) | (refine zin ?_; intro zb) | intro j')
  all_goals try refine zbx ?_
  · refine v_loopB (fun ms4 S4 => ∃ (v : Nat), S4.e 0 = .p (.int .i64 (n)) ∧ OwnL (S4.e 14) S4.h S4.n (elI false) ((lvl n i [[]]).length) (lvl n i [[]]) ∧ OwnL (S4.e 4) S4.h S4.n (elI false) ((((lvl n i [[]]).take j).flatMap (fun p => extL p n) ++ extL ((lvl n i [[]]).getD j []) v).length) (((lvl n i [[]]).take j).flatMap (fun p => extL p n) ++ extL ((lvl n i [[]]).getD j []) v) ∧ S4.e 6 = .p (.sl (.lent false) (List.map (PV.int .i64) ((lvl n i [[]]).getD j []))) ∧ S4.e 7 = .p (.int .i64 ((v + 1))) ∧ S4.e 10 = .p (.int .i64 (n)) ∧ S4.e 11 = .p (.int .i64 (i)) ∧ S4.e 15 = .p (.int .i64 ((lvl n i [[]]).length)) ∧ S4.e 16 = .p (.int .i64 (j)) ∧ (v ≤ n) ∧ (j < (lvl n i [[]]).length) ∧ NId (S4.e 4) (S4.e 14) ∧ S2.n ≤ S4.n ∧ ms4 = n - v) ((fun (v : Nat) => n - v) (0)) ?_ ⟨0, dIa fL2 ?_⟩
    all_goals try (refine zlf ?_; repeat' first | exact zso | refine And.intro ?_ ?_ | (refine zim ?_; intro zb hc) | (refine zin ?_; intro zb) | intro j')
    all_goals try refine zbx ?_
    rintro ms4 S4 ⟨v, h4_0, o4_14, o4_4, h4_6, h4_7, h4_10, h4_11, h4_15, h4_16, c4_0, c4_1, u4_0, u4_1, hm4⟩
    obtain ⟨i4_14, h4_14, b4_14, l4_14⟩ := o4_14.out
    obtain ⟨i4_4, h4_4, b4_4, l4_4⟩ := o4_4.out
    have k4_0 := (u4_0).out h4_4 h4_14
    have ni4_14 := znds (x := i4_14) (n := S4.n)
    have ni4_4 := znds (x := i4_4) (n := S4.n)
    have di4_14i4_4 := zdne (x := i4_14) (y := i4_4)
    have fL4 := (And.intro h4_0 (And.intro h4_6 (And.intro h4_7 (And.intro h4_10 (And.intro h4_11 (And.intro h4_15 (And.intro h4_16 (And.intro h4_14 (And.intro b4_14 (And.intro h4_4 (And.intro b4_4 (And.intro ni4_14 (And.intro ni4_4 di4_14i4_4)))))))))))))
    have b4 := extL_len (p := (lvl n i [[]]).getD j []) (j := v)
    have b5 : ((lvl n i [[]]).getD j []).length = 0 + i := lvl_row (by simp) _ (getD_mem c4_1)
    refine dEa (And.intro fL4 @tk1) ?_
    all_goals try (refine zlf ?_; repeat' first | exact zso | refine And.intro ?_ ?_ | (refine zim ?_; intro zb hc) | (refine zin ?_; intro zb) | intro j')
    all_goals try refine zbx ?_
    · focus
        refine q_lp_n ((fun (v : Nat) => n - v) (v+1)) (dC fL4 ?_) ⟨v+1, dC fL4 ?_⟩
        all_goals try (refine zlf ?_; repeat' first | exact zso | refine And.intro ?_ ?_ | (refine zim ?_; intro zb hc) | (refine zin ?_; intro zb) | intro j')
        all_goals try refine zbx ?_
      all_goals (rw [extL_succ, hc, if_neg (by decide)] <;> simp only [List.append_assoc, List.length_append, List.length_cons, List.length_nil, Nat.add_assoc])
    · focus
        refine q_lp_n ((fun (v : Nat) => n - v) (v+1)) (dC fL4 ?_) ⟨v+1, dC fL4 ?_⟩
        all_goals try (refine zlf ?_; repeat' first | exact zso | refine And.intro ?_ ?_ | (refine zim ?_; intro zb hc) | (refine zin ?_; intro zb) | intro j')
        all_goals try refine zbx ?_
      all_goals (rw [extL_succ, hc, if_pos rfl, List.append_nil])
    · focus
        refine q_lp_n ((fun (j : Nat) => (lvl n i [[]]).length - j) (j+1)) (dC fL4 ?_) ⟨j+1, dC fL4 ?_⟩
        all_goals try (refine zlf ?_; repeat' first | exact zso | refine And.intro ?_ ?_ | (refine zim ?_; intro zb hc) | (refine zin ?_; intro zb) | intro j')
        all_goals try refine zbx ?_
      all_goals (obtain rfl : v = n := by omega)
      all_goals (rw [take_getD (d := []) (by omega), List.flatMap_append]; simp)
    · simp [extL, lackL]
    · simp [extL, lackL]
  · focus
      refine q_lp_n ((fun (i : Nat) => n - i) (i+1)) (dC fL2 ?_) ⟨i+1, dC fL2 ?_⟩
      all_goals try (refine zlf ?_; repeat' first | exact zso | refine And.intro ?_ ?_ | (refine zim ?_; intro zb hc) | (refine zin ?_; intro zb) | intro j')
      all_goals try refine zbx ?_
    all_goals (rw [lvl_succ, List.take_of_length_le (by omega)])
  · obtain rfl : i = n := by omega
    rfl
theorem impl_isSix_c (n : Int) : Fun Tryd.prog 43 [(.int .i64 (n))] [(.bool ((decide (0 ≤ n) && decide (n ≤ 6))))] := by
  refine fO sg0 [2] Tryd.func43 ?_
  refine dEa trivial ?_
  all_goals try (refine zlf ?_; repeat' first | exact zso | refine And.intro ?_ ?_ | (refine zim ?_; intro zb hc) | (refine zin ?_; intro zb) | intro j')
  all_goals try refine zbx ?_
def classL (L : List (List Int)) (n : Nat) : List (List Int) := (permL n).filter (avB L)
theorem impl_class_c {e0 m0 : Bool} (L : List (List Int)) (n : Nat) (hL : L.length ≤ 1099511627776) (hl : ∀ q ∈ L, q.length ≤ 8) (hn : n ≤ 8) : Fun Tryd.prog 48 [(.sl (.lent m0) (List.map (elI e0) (L))), (.int .i64 (n))] [(.sl .own (List.map (elI false) (classL L n)))] := by
  refine fO sg0 [4] Tryd.func48 ?_
  have cE1 := @impl_perms_f_c; have cE2 := @impl_perms_c; have cE3 := @impl_avoids_c
  have b1 := permL_len hn
  have cE2 := @impl_avoids_c; have cE3 := trivial
  refine dEa trivial ?_
  all_goals try (refine zlf ?_; repeat' first | exact zso | refine And.intro ?_ ?_ | (refine zim ?_; intro zb hc) | (refine zin ?_; intro zb) | intro j')
  all_goals try refine zbx ?_
  refine v_loopB (fun ms1 S1 => ∃ (k : Nat), S1.e 0 = .p (.sl (.lent m0) (List.map (elI e0) (L))) ∧ OwnL (S1.e 10) S1.h S1.n (elI false) ((permL n).length) (permL n) ∧ S1.e 11 = .p (.int .i64 ((permL n).length)) ∧ OwnL (S1.e 5) S1.h S1.n (elI false) ((((permL n).take k).filter (avB L)).length) (((permL n).take k).filter (avB L)) ∧ S1.e 12 = .p (.int .i64 (k)) ∧ (k ≤ (permL n).length) ∧ NId (S1.e 5) (S1.e 10) ∧ ms1 = (permL n).length - k) ((fun (k : Nat) => (permL n).length - k) (0)) ?_ ⟨0, dC trivial ?_⟩
  all_goals try (refine zlf ?_; repeat' first | exact zso | refine And.intro ?_ ?_ | (refine zim ?_; intro zb hc) | (refine zin ?_; intro zb) | intro j')
  all_goals try refine zbx ?_
  rintro ms1 S1 ⟨k, h1_0, o1_10, h1_11, o1_5, h1_12, c1_0, u1_0, hm1⟩
  obtain ⟨i1_10, h1_10, b1_10, l1_10⟩ := o1_10.out
  obtain ⟨i1_5, h1_5, b1_5, l1_5⟩ := o1_5.out
  have k1_0 := (u1_0).out h1_5 h1_10
  have ni1_10 := znds (x := i1_10) (n := S1.n)
  have ni1_5 := znds (x := i1_5) (n := S1.n)
  have di1_10i1_5 := zdne (x := i1_10) (y := i1_5)
  have fL1 := (And.intro h1_0 (And.intro h1_11 (And.intro h1_12 (And.intro h1_10 (And.intro b1_10 (And.intro h1_5 (And.intro b1_5 (And.intro ni1_10 (And.intro ni1_5 di1_10i1_5)))))))))
  have b2 : (((permL n).take k).filter (avB L)).length ≤ 8 ^ 8 := Nat.le_trans (List.length_filter_le _ _) (by rw [List.length_take]; omega)
  by_cases hk : k < (permL n).length
  · have b3 := permL_row _ (getD_mem (d := []) hk)
    have cE2 := @impl_perms_c; have cE3 := @impl_avoids_c
    refine dEa fL1 ?_
    all_goals try (refine zlf ?_; repeat' first | exact zso | refine And.intro ?_ ?_ | (refine zim ?_; intro zb hc) | (refine zin ?_; intro zb) | intro j')
    all_goals try refine zbx ?_
    · focus
        refine q_lp_n ((fun (k : Nat) => (permL n).length - k) (k+1)) (dC fL1 ?_) ⟨k+1, dC fL1 ?_⟩
        all_goals try (refine zlf ?_; repeat' first | exact zso | refine And.intro ?_ ?_ | (refine zim ?_; intro zb hc) | (refine zin ?_; intro zb) | intro j')
        all_goals try refine zbx ?_
      all_goals (rw [take_getD (d := []) hk, List.filter_append, List.filter_cons, if_pos hc]; simp)
    · focus
        refine q_lp_n ((fun (k : Nat) => (permL n).length - k) (k+1)) (dC fL1 ?_) ⟨k+1, dC fL1 ?_⟩
        all_goals try (refine zlf ?_; repeat' first | exact zso | refine And.intro ?_ ?_ | (refine zim ?_; intro zb hc) | (refine zin ?_; intro zb) | intro j')
        all_goals try refine zbx ?_
      all_goals (rw [take_getD (d := []) hk, List.filter_append, List.filter_cons, if_neg (by rw [hc]; decide)]; simp)
  · have cE2 := @impl_perms_c; have cE3 := @impl_avoids_c
    refine dEa fL1 ?_
    all_goals try (refine zlf ?_; repeat' first | exact zso | refine And.intro ?_ ?_ | (refine zim ?_; intro zb hc) | (refine zin ?_; intro zb) | intro j')
    all_goals try refine zbx ?_
    rw [List.take_of_length_le (by omega)]; rfl
def classB (L : List (List Int)) (n : Int) : List (List Int) := if basisB L = true ∧ 0 ≤ n ∧ n ≤ 6 then classL L n.toNat else []
theorem basis_row {L : List (List Int)} (h : basisB L = true) : ∀ q ∈ L, q.length ≤ 8 := fun q hq => by
  simp only [basisB, Bool.and_eq_true] at h
  obtain ⟨i, hi, rfl⟩ := List.getElem_of_mem hq
  have := (isPerm_facts (basK_perm h.2 hi)).1
  rwa [List.getD_eq_getElem?_getD, List.getElem?_eq_getElem hi] at this
theorem class_len {L : List (List Int)} {n : Nat} (hn : n ≤ 8) : (classL L n).length ≤ 8 ^ 8 := Nat.le_trans (List.length_filter_le _ _) (permL_len hn)
theorem class_perm {L : List (List Int)} {n : Nat} (hn : n ≤ 8) {p : List Int} (h : p ∈ classL L n) : isPermB p = true ∧ p.length = n := ⟨permL_isPerm hn (List.mem_filter.1 h).1, permL_row _ (List.mem_filter.1 h).1⟩
theorem spec_ClassOf_c {e0 m0 : Bool} (L : List (List Int)) (n : Int) (hL : L.length ≤ 1048576) (hl : ∀ l ∈ L, l.length ≤ 1048576) : Fun Tryd.prog 50 [(.sl (.lent m0) (List.map (elI e0) (L))), (.int .i64 (n))] [(.sl .own (List.map (elI false) (classB L n)))] := by
  by_cases hc0 : basisB L = true ∧ 0 ≤ n ∧ n ≤ 6
  · have e1 : classB L n = classL L n.toNat := if_pos hc0
    have e2 : permsB n = permL n.toNat := if_pos hc0.2
    have hb := basis_row hc0.1
    have b1 := permL_len (n := n.toNat) (by omega)
    have e3 := hc0.1
    rw [e1]
    refine fO sg0 [4] Tryd.func50 ?_
    have cE1 := @spec_l1In_c; have cE2 := @spec_PermsOf_c; have cE3 := @spec_IsBasis_c; have cE4 := @spec_l12Avoids_c
    refine dEa (And.intro @e2 @e3) ?_
    all_goals try (refine zlf ?_; repeat' first | exact zso | refine And.intro ?_ ?_ | (refine zim ?_; intro zb hc; repeat (have zc := zb.1; replace zb := zb.2)) | (refine zin ?_; intro zb) | intro j')
    all_goals try refine zbx ?_
    refine v_loopB (fun ms1 S1 => ∃ (k : Nat), S1.e 0 = .p (.sl (.lent m0) (List.map (elI e0) (L))) ∧ OwnL (S1.e 6) S1.h S1.n (elI false) ((permL n.toNat).length) (permL n.toNat) ∧ OwnL (S1.e 5) S1.h S1.n (elI false) ((((permL n.toNat).take k).filter (avB L)).length) (((permL n.toNat).take k).filter (avB L)) ∧ S1.e 7 = .p (.int .i64 (k)) ∧ (k ≤ (permL n.toNat).length) ∧ NId (S1.e 5) (S1.e 6) ∧ ms1 = (permL n.toNat).length - k) ((fun (k : Nat) => (permL n.toNat).length - k) (0)) ?_ ⟨0, dC trivial ?_⟩
    all_goals try (refine zlf ?_; repeat' first | exact zso | refine And.intro ?_ ?_ | (refine zim ?_; intro zb hc; repeat (have zc := zb.1; replace zb := zb.2)) | (refine zin ?_; intro zb) | intro j')
    all_goals try refine zbx ?_
    rintro ms1 S1 ⟨k, h1_0, o1_6, o1_5, h1_7, c1_0, u1_0, hm1⟩
    obtain ⟨i1_6, h1_6, b1_6, l1_6⟩ := o1_6.out
    obtain ⟨i1_5, h1_5, b1_5, l1_5⟩ := o1_5.out
    have k1_0 := (u1_0).out h1_5 h1_6
    have ni1_6 := znds (x := i1_6) (n := S1.n)
    have ni1_5 := znds (x := i1_5) (n := S1.n)
    have di1_6i1_5 := zdne (x := i1_6) (y := i1_5)
    have fL1 := (And.intro h1_0 (And.intro h1_7 (And.intro h1_6 (And.intro b1_6 (And.intro h1_5 (And.intro b1_5 (And.intro ni1_6 (And.intro ni1_5 di1_6i1_5))))))))
    have b2 : (((permL n.toNat).take k).filter (avB L)).length ≤ 8 ^ 8 := Nat.le_trans (List.length_filter_le _ _) (by rw [List.length_take]; omega)
    by_cases hk : k < (permL n.toNat).length
    · have b3 := permL_row _ (getD_mem (d := []) hk)
      refine dEa fL1 ?_
      all_goals try (refine zlf ?_; repeat' first | exact zso | refine And.intro ?_ ?_ | (refine zim ?_; intro zb hc; repeat (have zc := zb.1; replace zb := zb.2)) | (refine zin ?_; intro zb) | intro j')
      all_goals try refine zbx ?_
      · focus
          refine q_lp_n ((fun (k : Nat) => (permL n.toNat).length - k) (k+1)) (dC fL1 ?_) ⟨k+1, dC fL1 ?_⟩
          all_goals try (refine zlf ?_; repeat' first | exact zso | refine And.intro ?_ ?_ | (refine zim ?_; intro zb hc; repeat (have zc := zb.1; replace zb := zb.2)) | (refine zin ?_; intro zb) | intro j')
          all_goals try refine zbx ?_
        all_goals (rw [take_getD (d := []) hk, List.filter_append, List.filter_cons, if_pos hc]; simp)
      · focus
          refine q_lp_n ((fun (k : Nat) => (permL n.toNat).length - k) (k+1)) (dC fL1 ?_) ⟨k+1, dC fL1 ?_⟩
          all_goals try (refine zlf ?_; repeat' first | exact zso | refine And.intro ?_ ?_ | (refine zim ?_; intro zb hc; repeat (have zc := zb.1; replace zb := zb.2)) | (refine zin ?_; intro zb) | intro j')
          all_goals try refine zbx ?_
        all_goals (rw [take_getD (d := []) hk, List.filter_append, List.filter_cons, if_neg (by rw [hc]; decide)]; simp)
    · refine dEa fL1 ?_
      all_goals try (refine zlf ?_; repeat' first | exact zso | refine And.intro ?_ ?_ | (refine zim ?_; intro zb hc; repeat (have zc := zb.1; replace zb := zb.2)) | (refine zin ?_; intro zb) | intro j')
      all_goals try refine zbx ?_
      rw [List.take_of_length_le (by omega)]; rfl
  · have e1 : classB L n = [] := if_neg hc0
    rw [e1]
    refine fO sg0 [4] Tryd.func50 ?_
    have cE1 := @spec_l1In_c; have cE2 := @spec_PermsOf_c; have cE3 := @spec_IsBasis_c; have cE4 := @spec_l12Avoids_c
    refine dEa trivial ?_
    all_goals try (refine zlf ?_; repeat' first | exact zso | refine And.intro ?_ ?_ | (refine zim ?_; intro zb hc; repeat (have zc := zb.1; replace zb := zb.2)) | (refine zin ?_; intro zb) | intro j')
    all_goals try refine zbx ?_
    exact absurd ⟨by assumption, by assumption⟩ hc0
end Go.Gl
