/-
  Grids: what their functions compute. Conditions: none.
-/
import Derived.Test.YtcnejdfpdgiffaaLaw1
import Derived.Test.YtcnejdfpdgiffaaLib
set_option linter.unusedSimpArgs false
set_option linter.unusedVariables false
set_option maxRecDepth 20000
set_option linter.unusedSectionVars false
namespace Go.Gl
open Go Go.Proofs
variable [Amb]
def rowB (n : Nat) (r : List Int) : Bool := decide (r.length = n) && decide (1 ≤ r.length) && decide (r.length ≤ 3) && r.all fun x => decide (-1 ≤ x) && decide (x ≤ 1)
def gridB (m : List (List Int)) : Bool := decide (1 ≤ m.length) && decide (m.length ≤ 3) && m.all (rowB (m.getD 0 []).length)
theorem all_at {α : Type} {l : List α} {p : α → Bool} {k : Nat} {d : α} (h : k < l.length) (hf : p (l.getD k d) = false) : l.all p = false := by
  rw [List.all_eq_false]; exact ⟨l.getD k d, getD_mem h, by rw [hf]; decide⟩
theorem all_succ {α : Type} {l : List α} {p : α → Bool} {k : Nat} {d : α} (h : k < l.length) (hf : p (l.getD k d) = true) (ht : (l.take k).all p = true) : (l.take (k + 1)).all p = true := by
  rw [take_getD (d := d) h, List.all_append, ht, List.all_cons, hf]; rfl
theorem grid_bad {m : List (List Int)} {k : Nat} (h : k < m.length) (hf : rowB (m.getD 0 []).length (m.getD k []) = false) : gridB m = false := by
  rw [gridB, all_at h hf, Bool.and_false]
theorem spec_IsGrid_c {e0 m0 : Bool} (m : List (List Int)) (hm : m.length ≤ 1099511627776) (hl : ∀ l ∈ m, l.length ≤ 1099511627776) : Fun Try.prog 56 [(.sl (.lent m0) (List.map (elI e0) (m)))] [(.bool (gridB m))] := by
  refine Fun.of (sg := sg0) (ts := [2]) mo Try.func56 rfl rfl rfl rfl (by kernel_rfl) (by simp only [go_sem]) rfl ?_
  have fc : True := trivial
  repeat' first
    | with_reducible first | refine stp ?_ | refine q_blk_o rfl ?_ | (refine hK _ ?_; clear hK) | (refine hA ?_; clear hA hB) | (refine hB ?_; clear hA hB) | exact v_end0 | exact v_end0' | refine v_gb1 ?_ ?_ | refine v_gb0 ?_ ?_ | refine And.intro ?_ ?_
    | (with_reducible refine hK _ _ ?_ ?_; focus (first | exact clearAll_quiet rfl | (refine clearAll_of [false, false, false, false, false, false, false, false, false, false, false, false, false, false, false, false, true, false, false] [] rfl (by decide +kernel) ?_; try simp only [go_sem, ↓reduceIte, reduceCtorEq, Nat.reduceEqDiff, Nat.reduceAdd, Nat.reduceMul, Nat.reduceSub, Nat.reduceLeDiff, Int.reduceLT, Int.reduceLE, Int.reduceEq, Int.reduceSub, Int.reduceAdd, Int.reduceMul, Int.reduceNeg, Int.reduceToNat])); all_goals (try clear hK))
    | (with_reducible refine p_ok ?_; decide)
    | ((first | with_reducible first | refine v_region rfl rfl (fun K hK => ?_) | refine v_draws rfl rfl (fun K hK => ?_) | refine v_if (fun A B hA hB => ?_) | refine v_end rfl ?_ | refine v_fin1 ?_ | refine v_finC1 ?_ | refine v_finR1 ?_ | refine v_callE (spec_l1In_c _ _ _) ?_ | refine v_finO1 rfl ?_ | refine v_finN1 rfl ?_ ?_ | refine v_apj ?_ (fun j' => ?_) | refine v_stz ?_ ?_ ?_ ?_ ?_ | refine v_stq ?_ | refine v_cv1 ?_ ?_ ?_ | (intro hc; replace fc := And.intro hc fc; try simp only [hcs] at hc)) <;> (try simp (config := { maxSteps := 1000000 }) only [go_sem, ↓reduceIte, reduceCtorEq, Nat.reduceEqDiff, Nat.reduceAdd, Nat.reduceMul, Nat.reduceSub, Nat.reduceLeDiff, Int.reduceLT, Int.reduceLE, Int.reduceEq, Int.reduceSub, Int.reduceAdd, Int.reduceMul, Int.reduceNeg, Int.reduceToNat, fc]) <;> (try with_reducible rfl))
  refine v_loop (fun ms1 S1 => ∃ (k : Nat), S1.e 0 = .p (.sl (.lent m0) (List.map (elI e0) (m))) ∧ S1.e 3 = .p (.int .i64 (k)) ∧ (k ≤ m.length) ∧ ((m.take k).all (rowB (m.getD 0 []).length) = true) ∧ ms1 = m.length - k) ((fun (k : Nat) => m.length - k) (0)) ?init1_0 ?body1_0
  case' init1_0 =>
    refine ⟨0, ?_, ?_, ?_, ?_, rfl⟩
    all_goals (try simp only [go_sem, ↓reduceIte, reduceCtorEq, Nat.reduceEqDiff, Nat.reduceAdd, Nat.reduceMul, Nat.reduceSub, Nat.reduceLeDiff, Int.reduceLT, Int.reduceLE, Int.reduceEq, Int.reduceSub, Int.reduceAdd, Int.reduceMul, Int.reduceNeg, Int.reduceToNat])
    repeat' refine And.intro ?_ ?_
    all_goals try first | rfl | omega | (simp only [lnA] <;> omega) | ((first | refine stp ?_ | refine dkz_eq ?_ ?_) <;> first | rfl | omega | (simp only [lnA] <;> omega) | (simp only [lnA, List.append_assoc, List.cons_append, List.nil_append]; done) | skip)
  case' body1_0 =>
    rintro ms1 S1 ⟨k, h1_0, h1_3, c1_0, c1_1, hm1⟩
  have fc : True := trivial
  repeat' first
    | with_reducible first | refine stp ?_ | refine q_blk_o rfl ?_ | (refine hK _ ?_; clear hK) | (refine hA ?_; clear hA hB) | (refine hB ?_; clear hA hB) | exact v_end0 | exact v_end0' | refine v_gb1 ?_ ?_ | refine v_gb0 ?_ ?_ | refine And.intro ?_ ?_
    | (with_reducible refine hK _ _ ?_ ?_; focus (first | exact clearAll_quiet rfl | (refine clearAll_of [false, false, false, false, false, false, false, false, false, false, false, false, false, false, false, false, true, false, false] [] rfl (by decide +kernel) ?_; try simp only [go_sem, ↓reduceIte, reduceCtorEq, Nat.reduceEqDiff, Nat.reduceAdd, Nat.reduceMul, Nat.reduceSub, Nat.reduceLeDiff, Int.reduceLT, Int.reduceLE, Int.reduceEq, Int.reduceSub, Int.reduceAdd, Int.reduceMul, Int.reduceNeg, Int.reduceToNat, h1_0, h1_3])); all_goals (try clear hK))
    | (with_reducible refine p_ok ?_; decide)
    | ((first | with_reducible first | refine v_region rfl rfl (fun K hK => ?_) | refine v_draws rfl rfl (fun K hK => ?_) | refine v_if (fun A B hA hB => ?_) | refine v_end rfl ?_ | refine v_fin1 ?_ | refine v_finC1 ?_ | refine v_finR1 ?_ | refine v_callE (spec_l1In_c _ _ _) ?_ | refine v_finO1 rfl ?_ | refine v_finN1 rfl ?_ ?_ | refine v_apj ?_ (fun j' => ?_) | refine v_stz ?_ ?_ ?_ ?_ ?_ | refine v_stq ?_ | refine v_cv1 ?_ ?_ ?_ | (intro hc; replace fc := And.intro hc fc; try simp only [hcs] at hc)) <;> (try simp (config := { maxSteps := 1000000 }) only [go_sem, ↓reduceIte, reduceCtorEq, Nat.reduceEqDiff, Nat.reduceAdd, Nat.reduceMul, Nat.reduceSub, Nat.reduceLeDiff, Int.reduceLT, Int.reduceLE, Int.reduceEq, Int.reduceSub, Int.reduceAdd, Int.reduceMul, Int.reduceNeg, Int.reduceToNat, h1_0, h1_3, fc]) <;> (try with_reducible rfl))
  all_goals try have hk := hl (m.getD k []) (getD_mem (by omega))
  all_goals try (first | omega | (simp only [n_i64, n_u8]; omega) | (simp only [n_i64, n_u8, lnA]; omega) | (simp only [lnA]; done))
  · rw [grid_bad (by omega : k < m.length)]
    rw [rowB]
    rcases hc with hc | hc
    · rw [decide_eq_false (by omega : ¬ 1 ≤ (m.getD k []).length)]; simp
    · rw [decide_eq_false (by omega : ¬ (m.getD k []).length ≤ 3)]; simp
  · refine v_loop (fun ms2 S2 => ∃ (c : Nat), S2.e 0 = .p (.sl (.lent m0) (List.map (elI e0) (m))) ∧ S2.e 3 = .p (.int .i64 (k)) ∧ S2.e 4 = .p (.int .i64 (c)) ∧ (c ≤ (m.getD k []).length) ∧ (((m.getD k []).take c).all (fun x => decide (-1 ≤ x) && decide (x ≤ 1)) = true) ∧ S1.n ≤ S2.n ∧ ms2 = (m.getD k []).length - c) ((fun (c : Nat) => (m.getD k []).length - c) (0)) ?init2_1 ?body2_1
    case' init2_1 =>
      refine ⟨0, ?_, ?_, ?_, ?_, ?_, ?_, rfl⟩
      all_goals (try simp only [go_sem, ↓reduceIte, reduceCtorEq, Nat.reduceEqDiff, Nat.reduceAdd, Nat.reduceMul, Nat.reduceSub, Nat.reduceLeDiff, Int.reduceLT, Int.reduceLE, Int.reduceEq, Int.reduceSub, Int.reduceAdd, Int.reduceMul, Int.reduceNeg, Int.reduceToNat, h1_0, h1_3])
      repeat' refine And.intro ?_ ?_
      all_goals try first | rfl | omega | (simp only [lnA] <;> omega) | ((first | refine stp ?_ | refine dkz_eq ?_ ?_) <;> first | rfl | omega | (simp only [lnA] <;> omega) | (simp only [lnA, List.append_assoc, List.cons_append, List.nil_append]; done) | skip)
    case' body2_1 =>
      rintro ms2 S2 ⟨c, h2_0, h2_3, h2_4, c2_0, c2_1, u2_0, hm2⟩
    have fc : True := trivial
    repeat' first
      | with_reducible first | refine stp ?_ | refine q_blk_o rfl ?_ | (refine hK _ ?_; clear hK) | (refine hA ?_; clear hA hB) | (refine hB ?_; clear hA hB) | exact v_end0 | exact v_end0' | refine v_gb1 ?_ ?_ | refine v_gb0 ?_ ?_ | refine And.intro ?_ ?_
      | (with_reducible refine hK _ _ ?_ ?_; focus (first | exact clearAll_quiet rfl | (refine clearAll_of [false, false, false, false, false, false, false, false, false, false, false, false, false, false, false, false, true, false, false] [] rfl (by decide +kernel) ?_; try simp only [go_sem, ↓reduceIte, reduceCtorEq, Nat.reduceEqDiff, Nat.reduceAdd, Nat.reduceMul, Nat.reduceSub, Nat.reduceLeDiff, Int.reduceLT, Int.reduceLE, Int.reduceEq, Int.reduceSub, Int.reduceAdd, Int.reduceMul, Int.reduceNeg, Int.reduceToNat, h2_0, h2_3, h2_4])); all_goals (try clear hK))
      | (with_reducible refine p_ok ?_; decide)
      | ((first | with_reducible first | refine v_region rfl rfl (fun K hK => ?_) | refine v_draws rfl rfl (fun K hK => ?_) | refine v_if (fun A B hA hB => ?_) | refine v_end rfl ?_ | refine v_fin1 ?_ | refine v_finC1 ?_ | refine v_finR1 ?_ | refine v_callE (spec_l1In_c _ _ _) ?_ | refine v_finO1 rfl ?_ | refine v_finN1 rfl ?_ ?_ | refine v_apj ?_ (fun j' => ?_) | refine v_stz ?_ ?_ ?_ ?_ ?_ | refine v_stq ?_ | refine v_cv1 ?_ ?_ ?_ | (intro hc; replace fc := And.intro hc fc; try simp only [hcs] at hc)) <;> (try simp (config := { maxSteps := 1000000 }) only [go_sem, ↓reduceIte, reduceCtorEq, Nat.reduceEqDiff, Nat.reduceAdd, Nat.reduceMul, Nat.reduceSub, Nat.reduceLeDiff, Int.reduceLT, Int.reduceLE, Int.reduceEq, Int.reduceSub, Int.reduceAdd, Int.reduceMul, Int.reduceNeg, Int.reduceToNat, h2_0, h2_3, h2_4, fc]) <;> (try with_reducible rfl))
    all_goals try (first | omega | (simp only [n_i64, n_u8]; omega) | (simp only [n_i64, n_u8, lnA]; omega) | (simp only [lnA]; done))
    · rw [grid_bad (by omega : k < m.length)]
      rw [rowB, all_at (d := 0) (by omega : c < (m.getD k []).length)]
      · simp
      · rcases hc with hc | hc
        · rw [decide_eq_false (by omega)]; rfl
        · rw [decide_eq_false (by omega : ¬ _ ≤ (1 : Int))]; simp
    · focus
        refine q_lp_n ((fun (c : Nat) => (m.getD k []).length - c) (c+1)) ?_ ⟨c+1, ?_, ?_, ?_, ?_, ?_, ?_, rfl⟩
        all_goals (try simp only [go_sem, ↓reduceIte, reduceCtorEq, Nat.reduceEqDiff, Nat.reduceAdd, Nat.reduceMul, Nat.reduceSub, Nat.reduceLeDiff, Int.reduceLT, Int.reduceLE, Int.reduceEq, Int.reduceSub, Int.reduceAdd, Int.reduceMul, Int.reduceNeg, Int.reduceToNat, h2_0, h2_3, h2_4])
        repeat' refine And.intro ?_ ?_
        all_goals try first | rfl | omega | (simp only [lnA] <;> omega) | ((first | refine stp ?_ | refine dkz_eq ?_ ?_) <;> first | rfl | omega | (simp only [lnA] <;> omega) | (simp only [lnA, List.append_assoc, List.cons_append, List.nil_append]; done) | skip)
      exact all_succ (d := 0) (by omega) (by rw [decide_eq_true (by omega), decide_eq_true (by omega)]; rfl) c2_1
    · focus
        refine q_lp_n ((fun (k : Nat) => m.length - k) (k+1)) ?_ ⟨k+1, ?_, ?_, ?_, ?_, rfl⟩
        all_goals (try simp only [go_sem, ↓reduceIte, reduceCtorEq, Nat.reduceEqDiff, Nat.reduceAdd, Nat.reduceMul, Nat.reduceSub, Nat.reduceLeDiff, Int.reduceLT, Int.reduceLE, Int.reduceEq, Int.reduceSub, Int.reduceAdd, Int.reduceMul, Int.reduceNeg, Int.reduceToNat, h2_0, h2_3, h2_4])
        repeat' refine And.intro ?_ ?_
        all_goals try first | rfl | omega | (simp only [lnA] <;> omega) | ((first | refine stp ?_ | refine dkz_eq ?_ ?_) <;> first | rfl | omega | (simp only [lnA] <;> omega) | (simp only [lnA, List.append_assoc, List.cons_append, List.nil_append]; done) | skip)
      refine all_succ (d := []) (by omega) ?_ c1_1
      rw [List.take_of_length_le (by omega)] at c2_1
      rw [rowB, c2_1, decide_eq_true (by omega), decide_eq_true (by omega), decide_eq_true (by omega)]; rfl
  · rw [grid_bad (by omega : k < m.length)]
    rw [rowB, decide_eq_false (by omega)]; simp
  · rw [List.take_of_length_le (by omega)] at c1_1
    rw [gridB, c1_1, Bool.and_true]; congr 1 <;> (rw [decide_eq_decide]; omega)
theorem impl_IsGrid_1_c (x : Int) : Fun Try.prog 105 [(.int .i64 (x))] [(.bool ((decide (x < -1) || decide (1 < x))))] := by
  refine Fun.of (sg := sg0) (ts := [2]) mo Try.func105 rfl rfl rfl rfl (by kernel_rfl) (by simp only [go_sem]) rfl ?_
  have fc : True := trivial
  repeat' first
    | with_reducible first | refine stp ?_ | refine q_blk_o rfl ?_ | (refine hK _ ?_; clear hK) | (refine hA ?_; clear hA hB) | (refine hB ?_; clear hA hB) | exact v_end0 | exact v_end0' | refine v_gb1 ?_ ?_ | refine v_gb0 ?_ ?_ | refine And.intro ?_ ?_
    | (with_reducible refine p_ok ?_; decide)
    | ((first | with_reducible first | refine v_region rfl rfl (fun K hK => ?_) | refine v_draws rfl rfl (fun K hK => ?_) | refine v_if (fun A B hA hB => ?_) | refine v_end rfl ?_ | refine v_fin1 ?_ | refine v_finC1 ?_ | refine v_finR1 ?_ | refine v_finO1 rfl ?_ | refine v_finN1 rfl ?_ ?_ | refine v_apj ?_ (fun j' => ?_) | refine v_stz ?_ ?_ ?_ ?_ ?_ | refine v_stq ?_ | refine v_cv1 ?_ ?_ ?_ | (intro hc; replace fc := And.intro hc fc; try simp only [hcs] at hc)) <;> (try simp (config := { maxSteps := 1000000 }) only [go_sem, ↓reduceIte, reduceCtorEq, Nat.reduceEqDiff, Nat.reduceAdd, Nat.reduceMul, Nat.reduceSub, Nat.reduceLeDiff, Int.reduceLT, Int.reduceLE, Int.reduceEq, Int.reduceSub, Int.reduceAdd, Int.reduceMul, Int.reduceNeg, Int.reduceToNat, fc]) <;> (try with_reducible rfl))
  · simp
  · simp
theorem any_bad (r : List Int) : (r.any fun x => decide (x < -1) || decide (1 < x)) = !(r.all fun x => decide (-1 ≤ x) && decide (x ≤ 1)) := by
  rw [List.not_all_eq_any_not]
  congr 1; funext x
  rw [Bool.not_and, ← decide_not, ← decide_not]
  congr 1 <;> (rw [decide_eq_decide]; omega)
theorem impl_IsGrid_c {e0 m0 : Bool} (m : List (List Int)) (hm : m.length ≤ 1099511627776) (hl : ∀ l ∈ m, l.length ≤ 1099511627776) : Fun Try.prog 55 [(.sl (.lent m0) (List.map (elI e0) (m)))] [(.bool (gridB m))] := by
  have hf : ∀ l ∈ m, Fun Try.prog 104 [.sl (.lent e0) (List.map (PV.int .i64) l), .fn 105 [] []] [.bool (l.any fun x => decide (x < -1) || decide (1 < x))] := fun l h =>
    slices_ContainsFunc_int_int_c l _ [] _ (hl l h) fun x _ => impl_IsGrid_1_c x
  refine Fun.of (sg := sg0) (ts := [2]) mo Try.func55 rfl rfl rfl rfl (by kernel_rfl) (by simp only [go_sem]) rfl ?_
  have fc : True := trivial
  repeat' first
    | with_reducible first | refine stp ?_ | refine q_blk_o rfl ?_ | (refine hK _ ?_; clear hK) | (refine hA ?_; clear hA hB) | (refine hB ?_; clear hA hB) | exact v_end0 | exact v_end0' | refine v_gb1 ?_ ?_ | refine v_gb0 ?_ ?_ | refine And.intro ?_ ?_
    | (with_reducible refine p_ok ?_; decide)
    | ((first | with_reducible first | refine v_region rfl rfl (fun K hK => ?_) | refine v_draws rfl rfl (fun K hK => ?_) | refine v_if (fun A B hA hB => ?_) | refine v_end rfl ?_ | refine v_fin1 ?_ | refine v_finC1 ?_ | refine v_finR1 ?_ | refine v_callE (impl_IsGrid_1_c _) ?_ | refine v_callE (hf _ ?_) ?_ | refine v_callE (slices_ContainsFunc_int_int_c _ _ _ _ ?_ ?_) ?_ | refine v_finO1 rfl ?_ | refine v_finN1 rfl ?_ ?_ | refine v_apj ?_ (fun j' => ?_) | refine v_stz ?_ ?_ ?_ ?_ ?_ | refine v_stq ?_ | refine v_cv1 ?_ ?_ ?_ | (intro hc; replace fc := And.intro hc fc; try simp only [hcs] at hc)) <;> (try simp (config := { maxSteps := 1000000 }) only [go_sem, ↓reduceIte, reduceCtorEq, Nat.reduceEqDiff, Nat.reduceAdd, Nat.reduceMul, Nat.reduceSub, Nat.reduceLeDiff, Int.reduceLT, Int.reduceLE, Int.reduceEq, Int.reduceSub, Int.reduceAdd, Int.reduceMul, Int.reduceNeg, Int.reduceToNat, fc]) <;> (try with_reducible rfl))
  all_goals try (first | omega | (simp only [n_i64, n_u8]; omega) | (simp only [n_i64, n_u8, lnA]; omega) | (simp only [lnA]; done))
  · rw [gridB, List.all_eq_false.2 ⟨m.getD 0 [], getD_mem (by omega), by rw [rowB, decide_eq_false (by omega : ¬ (m.getD 0 []).length ≤ 3)]; simp⟩, Bool.and_false]
  · refine v_loop (fun ms1 S1 => ∃ (k : Nat), S1.e 0 = .p (.sl (.lent m0) (List.map (elI e0) (m))) ∧ S1.e 27 = .p (.sl (.lent m0) (List.map (elI e0) (m))) ∧ S1.e 28 = .p (.int .i64 (m.length)) ∧ S1.e 29 = .p (.int .i64 (k)) ∧ (k ≤ m.length) ∧ ((m.take k).all (rowB (m.getD 0 []).length) = true) ∧ ms1 = m.length - k) ((fun (k : Nat) => m.length - k) (0)) ?init1_2 ?body1_2
    case' init1_2 =>
      refine ⟨0, ?_, ?_, ?_, ?_, ?_, ?_, rfl⟩
      all_goals (try simp only [go_sem, ↓reduceIte, reduceCtorEq, Nat.reduceEqDiff, Nat.reduceAdd, Nat.reduceMul, Nat.reduceSub, Nat.reduceLeDiff, Int.reduceLT, Int.reduceLE, Int.reduceEq, Int.reduceSub, Int.reduceAdd, Int.reduceMul, Int.reduceNeg, Int.reduceToNat])
      repeat' refine And.intro ?_ ?_
      all_goals try first | rfl | omega | (simp only [lnA] <;> omega) | ((first | refine stp ?_ | refine dkz_eq ?_ ?_) <;> first | rfl | omega | (simp only [lnA] <;> omega) | (simp only [lnA, List.append_assoc, List.cons_append, List.nil_append]; done) | skip)
    case' body1_2 =>
      rintro ms1 S1 ⟨k, h1_0, h1_27, h1_28, h1_29, c1_0, c1_1, hm1⟩
    have fc : True := trivial
    repeat' first
      | with_reducible first | refine stp ?_ | refine q_blk_o rfl ?_ | (refine hK _ ?_; clear hK) | (refine hA ?_; clear hA hB) | (refine hB ?_; clear hA hB) | exact v_end0 | exact v_end0' | refine v_gb1 ?_ ?_ | refine v_gb0 ?_ ?_ | refine And.intro ?_ ?_
      | (with_reducible refine p_ok ?_; decide)
      | ((first | with_reducible first | refine v_region rfl rfl (fun K hK => ?_) | refine v_draws rfl rfl (fun K hK => ?_) | refine v_if (fun A B hA hB => ?_) | refine v_end rfl ?_ | refine v_fin1 ?_ | refine v_finC1 ?_ | refine v_finR1 ?_ | refine v_callE (impl_IsGrid_1_c _) ?_ | refine v_callE (hf _ ?_) ?_ | refine v_callE (slices_ContainsFunc_int_int_c _ _ _ _ ?_ ?_) ?_ | refine v_finO1 rfl ?_ | refine v_finN1 rfl ?_ ?_ | refine v_apj ?_ (fun j' => ?_) | refine v_stz ?_ ?_ ?_ ?_ ?_ | refine v_stq ?_ | refine v_cv1 ?_ ?_ ?_ | (intro hc; replace fc := And.intro hc fc; try simp only [hcs] at hc)) <;> (try simp (config := { maxSteps := 1000000 }) only [go_sem, ↓reduceIte, reduceCtorEq, Nat.reduceEqDiff, Nat.reduceAdd, Nat.reduceMul, Nat.reduceSub, Nat.reduceLeDiff, Int.reduceLT, Int.reduceLE, Int.reduceEq, Int.reduceSub, Int.reduceAdd, Int.reduceMul, Int.reduceNeg, Int.reduceToNat, h1_0, h1_27, h1_28, h1_29, fc]) <;> (try with_reducible rfl))
    all_goals try (first | omega | (simp only [n_i64, n_u8]; omega) | (simp only [n_i64, n_u8, lnA]; omega) | (simp only [lnA]; done))
    · exact getD_mem (by omega)
    · rw [any_bad, Bool.not_eq_true'] at hc
      rw [grid_bad (by omega : k < m.length)]
      rw [rowB, hc, Bool.and_false]
    · focus
        refine q_lp_n ((fun (k : Nat) => m.length - k) (k+1)) ?_ ⟨k+1, ?_, ?_, ?_, ?_, ?_, ?_, rfl⟩
        all_goals (try simp only [go_sem, ↓reduceIte, reduceCtorEq, Nat.reduceEqDiff, Nat.reduceAdd, Nat.reduceMul, Nat.reduceSub, Nat.reduceLeDiff, Int.reduceLT, Int.reduceLE, Int.reduceEq, Int.reduceSub, Int.reduceAdd, Int.reduceMul, Int.reduceNeg, Int.reduceToNat, h1_0, h1_27, h1_28, h1_29])
        repeat' refine And.intro ?_ ?_
        all_goals try first | rfl | omega | (simp only [lnA] <;> omega) | ((first | refine stp ?_ | refine dkz_eq ?_ ?_) <;> first | rfl | omega | (simp only [lnA] <;> omega) | (simp only [lnA, List.append_assoc, List.cons_append, List.nil_append]; done) | skip)
      rw [any_bad, Bool.not_eq_false'] at hc
      refine all_succ (d := []) (by omega) ?_ c1_1
      rw [rowB, hc, decide_eq_true (by omega), decide_eq_true (by omega), decide_eq_true (by omega)]; rfl
    · rw [grid_bad (by omega : k < m.length)]
      rw [rowB, decide_eq_false (by omega)]; simp
    · rw [List.take_of_length_le (by omega)] at c1_1
      rw [gridB, c1_1, decide_eq_true (by omega), decide_eq_true (by omega)]; rfl
  · rw [gridB, List.all_eq_false.2 ⟨m.getD 0 [], getD_mem (by omega), by rw [rowB, decide_eq_false (by omega : ¬ 1 ≤ (m.getD 0 []).length)]; simp⟩, Bool.and_false]
  · rw [gridB, decide_eq_false (by omega : ¬ m.length ≤ 3)]; simp
  · rw [gridB, decide_eq_false (by omega : ¬ 1 ≤ m.length)]; simp
end Go.Gl
