/-
  The first cuts with which a permutation fits a grid. Conditions: none.
-/
import Derived.Test.YtcnejdfpdgiffaaCuts
set_option linter.unusedSimpArgs false
set_option linter.unusedVariables false
set_option maxRecDepth 20000
set_option linter.unusedSectionVars false
namespace Go.Gl
open Go Go.Proofs
variable [Amb]
noncomputable def fRow (p : List Int) (m : List (List Int)) (c : List Int) : List (List Int) → Option (List Int)
  | [] => none
  | r :: R => if gfB p m c r = true then some r else fRow p m c R
noncomputable def fCol (p : List Int) (m : List (List Int)) (R : List (List Int)) : List (List Int) → Option (List Int × List Int)
  | [] => none
  | c :: C => match fRow p m c R with
    | some r => some (c, r)
    | none => fCol p m R C
noncomputable def fndG (p : List Int) (m : List (List Int)) : (List Int × List Int) × Bool :=
  match fCol p m (allC p.length (m.length - 1)) (allC p.length ((m.getD 0 []).length - 1)) with
  | some x => (x, true)
  | none => (([], []), false)
theorem fndG_some {p : List Int} {m : List (List Int)} {x : List Int × List Int} (h : fCol p m (allC p.length (m.length - 1)) (allC p.length ((m.getD 0 []).length - 1)) = some x) : fndG p m = (x, true) := by rw [fndG, h]
theorem fndG_none {p : List Int} {m : List (List Int)} (h : fCol p m (allC p.length (m.length - 1)) (allC p.length ((m.getD 0 []).length - 1)) = none) : fndG p m = (([], []), false) := by rw [fndG, h]
theorem impl_findGrid_c {m0 e1 m1 : Bool} (p : List Int) (m : List (List Int)) (hp : isPermB p = true) (hm : gridB m = true) : Fun Try.prog 80 [(.sl (.lent m0) (List.map (PV.int .i64) (p))), (.sl (.lent m1) (List.map (elI e1) (m)))] [(.sl .own (List.map (PV.int .i64) ((fndG p m).1.1))), (.sl .own (List.map (PV.int .i64) ((fndG p m).1.2))), (.bool ((fndG p m).2))] := by
  refine Fun.of (sg := sg0) (ts := [4, 5, 6]) mo Try.func80 rfl rfl rfl rfl (by kernel_rfl) (by simp only [go_sem]) rfl ?_
  have hl := (isPerm_facts hp).1
  obtain ⟨g1, g2, g3, g4, g5⟩ := grid_rows hm
  have a1 := allC_gd (n := p.length) (k := (m.getD 0 []).length - 1) hl
  have a2 := allC_len (n := p.length) (k := (m.getD 0 []).length - 1) hl (by omega)
  have a3 := allC_gd (n := p.length) (k := m.length - 1) hl
  have a4 := allC_len (n := p.length) (k := m.length - 1) hl (by omega)
  have a5 := fun x => fndG_some (p := p) (m := m) (x := x)
  have a6 := fndG_none (p := p) (m := m)
  have a7 := impl_allCuts_c ((m.getD 0 []).length - 1) p.length (by omega) hl
  have a8 := impl_allCuts_c (m.length - 1) p.length (by omega) hl
  rw [show (((m.getD 0 []).length - 1 : Nat) : Int) = ((m.getD 0 []).length : Int) - 1 by omega] at a7
  rw [show ((m.length - 1 : Nat) : Int) = (m.length : Int) - 1 by omega] at a8
  revert a1 a2 a3 a4 a5 a6 a7 a8
  generalize allC p.length ((m.getD 0 []).length - 1) = C
  generalize allC p.length (m.length - 1) = R
  intro a1 a2 a3 a4 a5 a6 a7 a8
  have fc : True := trivial
  repeat' first
    | with_reducible first | refine stp ?_ | refine q_blk_o rfl ?_ | (refine hK _ ?_; clear hK) | (refine hA ?_; clear hA hB) | (refine hB ?_; clear hA hB) | exact v_end0 | exact v_end0' | refine v_gb1 ?_ ?_ | refine v_gb0 ?_ ?_ | refine And.intro ?_ ?_
    | (with_reducible refine p_ok ?_; decide)
    | ((first | with_reducible first | refine v_region rfl rfl (fun K hK => ?_) | refine v_draws rfl rfl (fun K hK => ?_) | refine v_if (fun A B hA hB => ?_) | refine v_end rfl ?_ | refine v_fin1 ?_ | refine v_finC1 ?_ | refine v_finR1 ?_ | refine v_callE (a7) ?_ | refine v_callE (a8) ?_ | refine v_callE (impl_allCuts_c _ _ ?_ ?_) ?_ | refine v_callE (impl_fitsGrid_c _ _ _ _ ?_ ?_ ?_ ?_ ?_ ?_) ?_ | refine v_finO1 rfl ?_ | refine v_finN1 rfl ?_ ?_ | refine v_apj ?_ (fun j' => ?_) | refine v_stz ?_ ?_ ?_ ?_ ?_ | refine v_stq ?_ | refine v_cv1 ?_ ?_ ?_ | (intro hc; replace fc := And.intro hc fc; try simp only [hcs] at hc)) <;> (try simp (config := { maxSteps := 1000000 }) only [go_sem, ↓reduceIte, reduceCtorEq, Nat.reduceEqDiff, Nat.reduceAdd, Nat.reduceMul, Nat.reduceSub, Nat.reduceLeDiff, Int.reduceLT, Int.reduceLE, Int.reduceEq, Int.reduceSub, Int.reduceAdd, Int.reduceMul, Int.reduceNeg, Int.reduceToNat, fc]) <;> (try with_reducible rfl))
  all_goals try (first | omega | (simp only [n_i64, n_u8]; omega) | (simp only [n_i64, n_u8, lnA]; omega) | (simp only [lnA]; done))
  refine v_loop (fun ms1 S1 => ∃ (k : Nat), S1.e 0 = .p (.sl (.lent m0) (List.map (PV.int .i64) (p))) ∧ S1.e 1 = .p (.sl (.lent m1) (List.map (elI e1) (m))) ∧ DwnL (S1.e 18) S1.h S1.n (PV.int .i64) ((C).length) (C) ∧ S1.e 19 = .p (.int .i64 (C.length)) ∧ S1.e 20 = .p (.int .i64 (k)) ∧ (k ≤ C.length) ∧ (fCol p m R C = fCol p m R (C.drop k)) ∧ ms1 = C.length - k) ((fun (k : Nat) => C.length - k) (0)) ?init1_0 ?body1_0
  case' init1_0 =>
    refine ⟨0, ?_, ?_, ?_, ?_, ?_, ?_, ?_, rfl⟩
    all_goals (try simp only [go_sem, ↓reduceIte, reduceCtorEq, Nat.reduceEqDiff, Nat.reduceAdd, Nat.reduceMul, Nat.reduceSub, Nat.reduceLeDiff, Int.reduceLT, Int.reduceLE, Int.reduceEq, Int.reduceSub, Int.reduceAdd, Int.reduceMul, Int.reduceNeg, Int.reduceToNat])
    repeat' refine And.intro ?_ ?_
    all_goals try first | rfl | omega | (simp only [lnA] <;> omega) | ((first | refine stp ?_ | refine dkz_eq ?_ ?_) <;> first | rfl | omega | (simp only [lnA] <;> omega) | (simp only [lnA, List.append_assoc, List.cons_append, List.nil_append]; done) | skip)
  case' body1_0 =>
    rintro ms1 S1 ⟨k, h1_0, h1_1, o1_18, h1_19, h1_20, c1_0, c1_1, hm1⟩
    obtain ⟨i1_18, h1_18, b1_18, l1_18⟩ := o1_18.out
    have ni1_18 : ∀ c, (i1_18 = S1.n + c) = False := fun c => eq_false (by omega)
    have pi1_18 : ∀ c, (S1.n + c = i1_18) = False := fun c => eq_false (by omega)
    have qi1_18 : (i1_18 = S1.n) = False := eq_false (by omega)
    have ri1_18 : (S1.n = i1_18) = False := eq_false (by omega)
  have fc : True := trivial
  repeat' first
    | with_reducible first | refine stp ?_ | refine q_blk_o rfl ?_ | (refine hK _ ?_; clear hK) | (refine hA ?_; clear hA hB) | (refine hB ?_; clear hA hB) | exact v_end0 | exact v_end0' | refine v_gb1 ?_ ?_ | refine v_gb0 ?_ ?_ | refine And.intro ?_ ?_
    | (with_reducible refine p_ok ?_; decide)
    | ((first | with_reducible first | refine v_region rfl rfl (fun K hK => ?_) | refine v_draws rfl rfl (fun K hK => ?_) | refine v_if (fun A B hA hB => ?_) | refine v_end rfl ?_ | refine v_fin1 ?_ | refine v_finC1 ?_ | refine v_finR1 ?_ | refine v_callE (a7) ?_ | refine v_callE (a8) ?_ | refine v_callE (impl_allCuts_c _ _ ?_ ?_) ?_ | refine v_callE (impl_fitsGrid_c _ _ _ _ ?_ ?_ ?_ ?_ ?_ ?_) ?_ | refine v_finO1 rfl ?_ | refine v_finN1 rfl ?_ ?_ | refine v_apj ?_ (fun j' => ?_) | refine v_stz ?_ ?_ ?_ ?_ ?_ | refine v_stq ?_ | refine v_cv1 ?_ ?_ ?_ | (intro hc; replace fc := And.intro hc fc; try simp only [hcs] at hc)) <;> (try simp (config := { maxSteps := 1000000 }) only [go_sem, ↓reduceIte, reduceCtorEq, Nat.reduceEqDiff, Nat.reduceAdd, Nat.reduceMul, Nat.reduceSub, Nat.reduceLeDiff, Int.reduceLT, Int.reduceLE, Int.reduceEq, Int.reduceSub, Int.reduceAdd, Int.reduceMul, Int.reduceNeg, Int.reduceToNat, h1_0, h1_1, h1_19, h1_20, h1_18, b1_18, ni1_18, pi1_18, qi1_18, ri1_18, fc]) <;> (try with_reducible rfl))
  all_goals try (first | omega | (simp only [n_i64, n_u8]; omega) | (simp only [n_i64, n_u8, lnA]; omega) | (simp only [lnA]; done))
  · refine v_loop (fun ms2 S2 => ∃ (j : Nat), S2.e 0 = .p (.sl (.lent m0) (List.map (PV.int .i64) (p))) ∧ S2.e 1 = .p (.sl (.lent m1) (List.map (elI e1) (m))) ∧ DwnL (S2.e 18) S2.h S2.n (PV.int .i64) ((C).length) (C) ∧ S2.e 19 = .p (.int .i64 (C.length)) ∧ S2.e 20 = .p (.int .i64 (k)) ∧ InnL (S2.e 8) (S2.e 18) (k) ((C.getD k []).length) ∧ DwnL (S2.e 29) S2.h S2.n (PV.int .i64) ((R).length) (R) ∧ S2.e 30 = .p (.int .i64 (R.length)) ∧ S2.e 31 = .p (.int .i64 (j)) ∧ (j ≤ R.length) ∧ (k < C.length) ∧ (fRow p m (C.getD k []) R = fRow p m (C.getD k []) (R.drop j)) ∧ NId (S2.e 29) (S2.e 18) ∧ S1.n ≤ S2.n ∧ ms2 = R.length - j) ((fun (j : Nat) => R.length - j) (0)) ?init2_1 ?body2_1
    case' init2_1 =>
      refine ⟨0, ?_, ?_, ?_, ?_, ?_, ?_, ?_, ?_, ?_, ?_, ?_, ?_, ?_, ?_, rfl⟩
      all_goals (try simp only [go_sem, ↓reduceIte, reduceCtorEq, Nat.reduceEqDiff, Nat.reduceAdd, Nat.reduceMul, Nat.reduceSub, Nat.reduceLeDiff, Int.reduceLT, Int.reduceLE, Int.reduceEq, Int.reduceSub, Int.reduceAdd, Int.reduceMul, Int.reduceNeg, Int.reduceToNat, h1_0, h1_1, h1_19, h1_20, h1_18, b1_18, ni1_18, pi1_18, qi1_18, ri1_18])
      repeat' refine And.intro ?_ ?_
      all_goals try first | rfl | omega | (simp only [lnA] <;> omega) | ((first | refine stp ?_ | refine dkz_eq ?_ ?_) <;> first | rfl | omega | (simp only [lnA] <;> omega) | (simp only [lnA, List.append_assoc, List.cons_append, List.nil_append]; done) | skip)
    case' body2_1 =>
      rintro ms2 S2 ⟨j, h2_0, h2_1, o2_18, h2_19, h2_20, o2_8, o2_29, h2_30, h2_31, c2_0, c2_1, c2_2, u2_0, u2_1, hm2⟩
      obtain ⟨i2_18, h2_18, b2_18, l2_18⟩ := o2_18.out
      obtain ⟨i2_29, h2_29, b2_29, l2_29⟩ := o2_29.out
      have h2_8 := (o2_8).out h2_18
      have k2_0 := (u2_0).out h2_29 h2_18
      have ni2_18 : ∀ c, (i2_18 = S2.n + c) = False := fun c => eq_false (by omega)
      have pi2_18 : ∀ c, (S2.n + c = i2_18) = False := fun c => eq_false (by omega)
      have qi2_18 : (i2_18 = S2.n) = False := eq_false (by omega)
      have ri2_18 : (S2.n = i2_18) = False := eq_false (by omega)
      have ni2_29 : ∀ c, (i2_29 = S2.n + c) = False := fun c => eq_false (by omega)
      have pi2_29 : ∀ c, (S2.n + c = i2_29) = False := fun c => eq_false (by omega)
      have qi2_29 : (i2_29 = S2.n) = False := eq_false (by omega)
      have ri2_29 : (S2.n = i2_29) = False := eq_false (by omega)
      have di2_18i2_29 : (i2_18 = i2_29) = False := eq_false (by omega)
      have di2_29i2_18 : (i2_29 = i2_18) = False := eq_false (by omega)
    have b1 := a1 _ (getD_mem (d := []) c2_1)
    have b2 : j < R.length → gdC (R.getD j []) ∧ (R.getD j []).length = m.length - 1 := fun h => a3 _ (getD_mem h)
    by_cases hj : j < R.length
    · have b3 := b2 hj
      have b4 := b1.1.1
      have b5 := b3.1.1
      have e1 := c2_2
      rw [dropL_at hj, fRow] at e1
      have e2 := c1_1
      rw [dropL_at c2_1, fCol] at e2
      have fc : True := trivial
      repeat' first
        | with_reducible first | refine stp ?_ | refine q_blk_o rfl ?_ | (refine hK _ ?_; clear hK) | (refine hA ?_; clear hA hB) | (refine hB ?_; clear hA hB) | exact v_end0 | exact v_end0' | refine v_gb1 ?_ ?_ | refine v_gb0 ?_ ?_ | refine And.intro ?_ ?_
        | (with_reducible refine p_ok ?_; decide)
        | ((first | with_reducible first | refine v_region rfl rfl (fun K hK => ?_) | refine v_draws rfl rfl (fun K hK => ?_) | refine v_if (fun A B hA hB => ?_) | refine v_end rfl ?_ | refine v_fin1 ?_ | refine v_finC1 ?_ | refine v_finR1 ?_ | refine v_callE (impl_allCuts_c _ _ ?_ ?_) ?_ | refine v_callE (impl_fitsGrid_c _ _ _ _ ?_ ?_ ?_ ?_ ?_ ?_) ?_ | refine v_finO1 rfl ?_ | refine v_finN1 rfl ?_ ?_ | refine v_apj ?_ (fun j' => ?_) | refine v_stz ?_ ?_ ?_ ?_ ?_ | refine v_stq ?_ | refine v_cv1 ?_ ?_ ?_ | (intro hc; replace fc := And.intro hc fc; try simp only [hcs] at hc)) <;> (try simp (config := { maxSteps := 1000000 }) only [go_sem, ↓reduceIte, reduceCtorEq, Nat.reduceEqDiff, Nat.reduceAdd, Nat.reduceMul, Nat.reduceSub, Nat.reduceLeDiff, Int.reduceLT, Int.reduceLE, Int.reduceEq, Int.reduceSub, Int.reduceAdd, Int.reduceMul, Int.reduceNeg, Int.reduceToNat, h2_8, h2_0, h2_1, h2_19, h2_20, h2_30, h2_31, h2_18, b2_18, h2_29, b2_29, ni2_18, pi2_18, qi2_18, ri2_18, ni2_29, pi2_29, qi2_29, ri2_29, di2_18i2_29, di2_29i2_18, fc]) <;> (try with_reducible rfl))
      all_goals try (first | omega | (simp only [n_i64, n_u8]; omega) | (simp only [n_i64, n_u8, lnA]; omega) | (simp only [lnA]; done))
      · rw [a5 _ (by rw [e2, e1, if_pos hc])]
      · rw [a5 _ (by rw [e2, e1, if_pos hc])]
      · rw [a5 _ (by rw [e2, e1, if_pos hc])]
      · focus
          refine q_lp_n ((fun (j : Nat) => R.length - j) (j+1)) ?_ ⟨j+1, ?_, ?_, ?_, ?_, ?_, ?_, ?_, ?_, ?_, ?_, ?_, ?_, ?_, ?_, rfl⟩
          all_goals (try simp only [go_sem, ↓reduceIte, reduceCtorEq, Nat.reduceEqDiff, Nat.reduceAdd, Nat.reduceMul, Nat.reduceSub, Nat.reduceLeDiff, Int.reduceLT, Int.reduceLE, Int.reduceEq, Int.reduceSub, Int.reduceAdd, Int.reduceMul, Int.reduceNeg, Int.reduceToNat, h2_8, h2_0, h2_1, h2_19, h2_20, h2_30, h2_31, h2_18, b2_18, h2_29, b2_29, ni2_18, pi2_18, qi2_18, ri2_18, ni2_29, pi2_29, qi2_29, ri2_29, di2_18i2_29, di2_29i2_18])
          repeat' refine And.intro ?_ ?_
          all_goals try first | rfl | omega | (simp only [lnA] <;> omega) | ((first | refine stp ?_ | refine dkz_eq ?_ ?_) <;> first | rfl | omega | (simp only [lnA] <;> omega) | (simp only [lnA, List.append_assoc, List.cons_append, List.nil_append]; done) | skip)
        rw [e1, if_neg (by rw [hc]; decide)]
    · have fc : True := trivial
      repeat' first
        | with_reducible first | refine stp ?_ | refine q_blk_o rfl ?_ | (refine hK _ ?_; clear hK) | (refine hA ?_; clear hA hB) | (refine hB ?_; clear hA hB) | exact v_end0 | exact v_end0' | refine v_gb1 ?_ ?_ | refine v_gb0 ?_ ?_ | refine And.intro ?_ ?_
        | (with_reducible refine p_ok ?_; decide)
        | ((first | with_reducible first | refine v_region rfl rfl (fun K hK => ?_) | refine v_draws rfl rfl (fun K hK => ?_) | refine v_if (fun A B hA hB => ?_) | refine v_end rfl ?_ | refine v_fin1 ?_ | refine v_finC1 ?_ | refine v_finR1 ?_ | refine v_callE (impl_allCuts_c _ _ ?_ ?_) ?_ | refine v_callE (impl_fitsGrid_c _ _ _ _ ?_ ?_ ?_ ?_ ?_ ?_) ?_ | refine v_finO1 rfl ?_ | refine v_finN1 rfl ?_ ?_ | refine v_apj ?_ (fun j' => ?_) | refine v_stz ?_ ?_ ?_ ?_ ?_ | refine v_stq ?_ | refine v_cv1 ?_ ?_ ?_ | (intro hc; replace fc := And.intro hc fc; try simp only [hcs] at hc)) <;> (try simp (config := { maxSteps := 1000000 }) only [go_sem, ↓reduceIte, reduceCtorEq, Nat.reduceEqDiff, Nat.reduceAdd, Nat.reduceMul, Nat.reduceSub, Nat.reduceLeDiff, Int.reduceLT, Int.reduceLE, Int.reduceEq, Int.reduceSub, Int.reduceAdd, Int.reduceMul, Int.reduceNeg, Int.reduceToNat, h2_8, h2_0, h2_1, h2_19, h2_20, h2_30, h2_31, h2_18, b2_18, h2_29, b2_29, ni2_18, pi2_18, qi2_18, ri2_18, ni2_29, pi2_29, qi2_29, ri2_29, di2_18i2_29, di2_29i2_18, fc]) <;> (try with_reducible rfl))
      all_goals try (first | omega | (simp only [n_i64, n_u8]; omega) | (simp only [n_i64, n_u8, lnA]; omega) | (simp only [lnA]; done))
      have e1 := c2_2
      rw [List.drop_of_length_le (by omega), fRow] at e1
      have e2 := c1_1
      rw [dropL_at c2_1, fCol, e1] at e2
      focus
        refine q_lp_n ((fun (k : Nat) => C.length - k) (k+1)) ?_ ⟨k+1, ?_, ?_, ?_, ?_, ?_, ?_, ?_, rfl⟩
        all_goals (try simp only [go_sem, ↓reduceIte, reduceCtorEq, Nat.reduceEqDiff, Nat.reduceAdd, Nat.reduceMul, Nat.reduceSub, Nat.reduceLeDiff, Int.reduceLT, Int.reduceLE, Int.reduceEq, Int.reduceSub, Int.reduceAdd, Int.reduceMul, Int.reduceNeg, Int.reduceToNat, h2_8, h2_0, h2_1, h2_19, h2_20, h2_30, h2_31, h2_18, b2_18, h2_29, b2_29, ni2_18, pi2_18, qi2_18, ri2_18, ni2_29, pi2_29, qi2_29, ri2_29, di2_18i2_29, di2_29i2_18])
        repeat' refine And.intro ?_ ?_
        all_goals try first | rfl | omega | (simp only [lnA] <;> omega) | ((first | refine stp ?_ | refine dkz_eq ?_ ?_) <;> first | rfl | omega | (simp only [lnA] <;> omega) | (simp only [lnA, List.append_assoc, List.cons_append, List.nil_append]; done) | skip)
      all_goals exact e2
  · have e2 := c1_1
    rw [List.drop_of_length_le (by omega), fCol] at e2
    (rw [a6 e2] <;> rfl)
  · have e2 := c1_1
    rw [List.drop_of_length_le (by omega), fCol] at e2
    (rw [a6 e2] <;> rfl)
  · have e2 := c1_1
    rw [List.drop_of_length_le (by omega), fCol] at e2
    rw [a6 e2]
noncomputable def fndB (p : List Int) (m : List (List Int)) : (List Int × List Int) × Bool := if isPermB p && gridB m then fndG p m else (([], []), false)
theorem spec_FindGrid_c {m0 e1 m1 : Bool} (p : List Int) (m : List (List Int)) (hl : p.length ≤ 1048576) (hm : m.length ≤ 1048576) (hml : ∀ l ∈ m, l.length ≤ 1048576) : Fun Try.prog 35 [(.sl (.lent m0) (List.map (PV.int .i64) (p))), (.sl (.lent m1) (List.map (elI e1) (m)))] [(.sl (.lent false) (List.map (PV.int .i64) ((fndB p m).1.1))), (.sl (.lent false) (List.map (PV.int .i64) ((fndB p m).1.2))), (.bool ((fndB p m).2))] := by
  have hml' : ∀ l ∈ m, l.length ≤ 1099511627776 := fun l h => by have := hml l h; omega
  by_cases hp : isPermB p = true
  · by_cases hg : gridB m = true
    · have q1 : fndB p m = fndG p m := by rw [fndB, hp, hg]; rfl
      obtain ⟨g1, g2, g3, g4, g5⟩ := grid_rows hg
      have hl := (isPerm_facts hp).1
      have a1 := allC_gd (n := p.length) (k := (m.getD 0 []).length - 1) hl
      have a2 := allC_len (n := p.length) (k := (m.getD 0 []).length - 1) hl (by omega)
      have a3 := allC_gd (n := p.length) (k := m.length - 1) hl
      have a4 := allC_len (n := p.length) (k := m.length - 1) hl (by omega)
      have a5 := fun x => fndG_some (p := p) (m := m) (x := x)
      have a6 := fndG_none (p := p) (m := m)
      have p9 : 9 ^ ((m.getD 0 []).length - 1) ≤ 9 ^ 2 := Nat.pow_le_pow_right (by omega) (by omega)
      have p8 : 9 ^ (m.length - 1) ≤ 9 ^ 2 := Nat.pow_le_pow_right (by omega) (by omega)
      have a7 := spec_l32All_c p.length (m.getD 0 []).length hl g4 ((m.getD 0 []).length - 1) [] [] gd_nil (by simp only [List.length_nil]; omega) (by simp only [List.length_nil]; omega)
      have a8 := spec_l32All_c p.length m.length hl g2 (m.length - 1) [] [] gd_nil (by simp only [List.length_nil]; omega) (by simp only [List.length_nil]; omega)
      simp only [List.map_nil, List.nil_append] at a7 a8
      rw [show lvlC p.length ((m.getD 0 []).length - 1) [[]] = allC p.length ((m.getD 0 []).length - 1) from rfl] at a7
      rw [show lvlC p.length (m.length - 1) [[]] = allC p.length (m.length - 1) from rfl] at a8
      rw [q1]
      revert a1 a2 a3 a4 a5 a6 a7 a8
      generalize allC p.length ((m.getD 0 []).length - 1) = C
      generalize allC p.length (m.length - 1) = R
      intro a1 a2 a3 a4 a5 a6 a7 a8
      refine Fun.of (sg := sgAl) (ts := [4, 5, 6]) mo Try.func35 rfl rfl rfl rfl (by kernel_rfl) (by simp only [go_sem]) rfl ?_
      have fc : True := trivial
      repeat' first
        | with_reducible first | refine stp ?_ | refine q_blk_o rfl ?_ | (refine hK _ ?_; clear hK) | (refine hA ?_; clear hA hB) | (refine hB ?_; clear hA hB) | exact v_end0 | exact v_end0' | refine v_gb1 ?_ ?_ | refine v_gb0 ?_ ?_ | refine And.intro ?_ ?_
        | (with_reducible refine hK _ _ ?_ ?_; focus (first | exact clearAll_quiet rfl | (refine clearAll_of [false, false, false, false, false, false, false, false, false, false, true] [] rfl (by decide +kernel) ?_; try simp only [go_sem, ↓reduceIte, reduceCtorEq, Nat.reduceEqDiff, Nat.reduceAdd, Nat.reduceMul, Nat.reduceSub, Nat.reduceLeDiff, Int.reduceLT, Int.reduceLE, Int.reduceEq, Int.reduceSub, Int.reduceAdd, Int.reduceMul, Int.reduceNeg, Int.reduceToNat, hp, hg]) | (refine clearAll_of [false, false, false, false, true, false, false, false, false, true, false, false, false] [(0, 4), (1, 4), (2, 4), (3, 4), (4, 5), (4, 6), (4, 7), (4, 8), (0, 9), (1, 9), (2, 9), (3, 9)] rfl (by decide +kernel) ?_; try simp only [go_sem, ↓reduceIte, reduceCtorEq, Nat.reduceEqDiff, Nat.reduceAdd, Nat.reduceMul, Nat.reduceSub, Nat.reduceLeDiff, Int.reduceLT, Int.reduceLE, Int.reduceEq, Int.reduceSub, Int.reduceAdd, Int.reduceMul, Int.reduceNeg, Int.reduceToNat, hp, hg])); all_goals (try clear hK))
        | (with_reducible refine p_ok ?_; decide)
        | ((first | with_reducible first | refine v_region rfl rfl (fun K hK => ?_) | refine v_draws rfl rfl (fun K hK => ?_) | refine v_if (fun A B hA hB => ?_) | refine v_end rfl ?_ | refine v_fin1 ?_ | refine v_finC1 ?_ | refine v_finR1 ?_ | refine v_callE (spec_IsPerm_c _ ?_) ?_ | refine v_callE (spec_IsGrid_c _ ?_ ?_) ?_ | refine v_callE (spec_l32Fits_c _ _ _ _ ?_ ?_ ?_ ?_) ?_ | refine v_callN (a7) rfl ?_ ?_ | refine v_callT (a7) rfl ?_ ?_ | refine v_callTd (a7) rfl ?_ ?_ | refine v_callR (a7) rfl ?_ ?_ | refine v_callN (a8) rfl ?_ ?_ | refine v_callT (a8) rfl ?_ ?_ | refine v_callTd (a8) rfl ?_ ?_ | refine v_callR (a8) rfl ?_ ?_ | refine v_callT3 (a7) ?_ ?_ | refine v_callT4 (a7) ?_ ?_ | refine v_callT3 (a8) ?_ ?_ | refine v_callT4 (a8) ?_ ?_ | refine v_finO1 rfl ?_ | refine v_finN1 rfl ?_ ?_ | refine v_apj ?_ (fun j' => ?_) | refine v_stz ?_ ?_ ?_ ?_ ?_ | refine v_stq ?_ | refine v_cv1 ?_ ?_ ?_ | (intro hc; replace fc := And.intro hc fc; try simp only [hcs] at hc)) <;> (try simp (config := { maxSteps := 1000000 }) only [go_sem, ↓reduceIte, reduceCtorEq, Nat.reduceEqDiff, Nat.reduceAdd, Nat.reduceMul, Nat.reduceSub, Nat.reduceLeDiff, Int.reduceLT, Int.reduceLE, Int.reduceEq, Int.reduceSub, Int.reduceAdd, Int.reduceMul, Int.reduceNeg, Int.reduceToNat, hp, hg, fc]) <;> (try with_reducible rfl))
      all_goals try (first | omega | (simp only [n_i64, n_u8]; omega) | (simp only [n_i64, n_u8, lnA]; omega) | (simp only [lnA]; done))
      refine v_loop (fun ms1 S1 => ∃ (k : Nat), S1.e 0 = .p (.sl (.lent m0) (List.map (PV.int .i64) (p))) ∧ S1.e 1 = .p (.sl (.lent m1) (List.map (elI e1) (m))) ∧ OwnL (S1.e 7) S1.h S1.n (elI false) ((C).length) (C) ∧ OwnL (S1.e 8) S1.h S1.n (elI false) ((R).length) (R) ∧ S1.e 9 = .p (.int .i64 (k)) ∧ (k ≤ C.length) ∧ (fCol p m R C = fCol p m R (C.drop k)) ∧ NId (S1.e 8) (S1.e 7) ∧ ms1 = C.length - k) ((fun (k : Nat) => C.length - k) (0)) ?init1_2 ?body1_2
      case' init1_2 =>
        refine ⟨0, ?_, ?_, ?_, ?_, ?_, ?_, ?_, ?_, rfl⟩
        all_goals (try simp only [go_sem, ↓reduceIte, reduceCtorEq, Nat.reduceEqDiff, Nat.reduceAdd, Nat.reduceMul, Nat.reduceSub, Nat.reduceLeDiff, Int.reduceLT, Int.reduceLE, Int.reduceEq, Int.reduceSub, Int.reduceAdd, Int.reduceMul, Int.reduceNeg, Int.reduceToNat])
        repeat' refine And.intro ?_ ?_
        all_goals try first | rfl | omega | (simp only [lnA] <;> omega) | ((first | refine stp ?_ | refine dkz_eq ?_ ?_) <;> first | rfl | omega | (simp only [lnA] <;> omega) | (simp only [lnA, List.append_assoc, List.cons_append, List.nil_append]; done) | skip)
      case' body1_2 =>
        rintro ms1 S1 ⟨k, h1_0, h1_1, o1_7, o1_8, h1_9, c1_0, c1_1, u1_0, hm1⟩
        obtain ⟨i1_7, h1_7, b1_7, l1_7⟩ := o1_7.out
        obtain ⟨i1_8, h1_8, b1_8, l1_8⟩ := o1_8.out
        have k1_0 := (u1_0).out h1_8 h1_7
        have ni1_7 : ∀ c, (i1_7 = S1.n + c) = False := fun c => eq_false (by omega)
        have pi1_7 : ∀ c, (S1.n + c = i1_7) = False := fun c => eq_false (by omega)
        have qi1_7 : (i1_7 = S1.n) = False := eq_false (by omega)
        have ri1_7 : (S1.n = i1_7) = False := eq_false (by omega)
        have ni1_8 : ∀ c, (i1_8 = S1.n + c) = False := fun c => eq_false (by omega)
        have pi1_8 : ∀ c, (S1.n + c = i1_8) = False := fun c => eq_false (by omega)
        have qi1_8 : (i1_8 = S1.n) = False := eq_false (by omega)
        have ri1_8 : (S1.n = i1_8) = False := eq_false (by omega)
        have di1_7i1_8 : (i1_7 = i1_8) = False := eq_false (by omega)
        have di1_8i1_7 : (i1_8 = i1_7) = False := eq_false (by omega)
      have fc : True := trivial
      repeat' first
        | with_reducible first | refine stp ?_ | refine q_blk_o rfl ?_ | (refine hK _ ?_; clear hK) | (refine hA ?_; clear hA hB) | (refine hB ?_; clear hA hB) | exact v_end0 | exact v_end0' | refine v_gb1 ?_ ?_ | refine v_gb0 ?_ ?_ | refine And.intro ?_ ?_
        | (with_reducible refine hK _ _ ?_ ?_; focus (first | exact clearAll_quiet rfl | (refine clearAll_of [false, false, false, false, false, false, false, false, false, false, true] [] rfl (by decide +kernel) ?_; try simp only [go_sem, ↓reduceIte, reduceCtorEq, Nat.reduceEqDiff, Nat.reduceAdd, Nat.reduceMul, Nat.reduceSub, Nat.reduceLeDiff, Int.reduceLT, Int.reduceLE, Int.reduceEq, Int.reduceSub, Int.reduceAdd, Int.reduceMul, Int.reduceNeg, Int.reduceToNat, h1_0, h1_1, h1_9, h1_7, b1_7, h1_8, b1_8, ni1_7, pi1_7, qi1_7, ri1_7, ni1_8, pi1_8, qi1_8, ri1_8, di1_7i1_8, di1_8i1_7]) | (refine clearAll_of [false, false, false, false, true, false, false, false, false, true, false, false, false] [(0, 4), (1, 4), (2, 4), (3, 4), (4, 5), (4, 6), (4, 7), (4, 8), (0, 9), (1, 9), (2, 9), (3, 9)] rfl (by decide +kernel) ?_; try simp only [go_sem, ↓reduceIte, reduceCtorEq, Nat.reduceEqDiff, Nat.reduceAdd, Nat.reduceMul, Nat.reduceSub, Nat.reduceLeDiff, Int.reduceLT, Int.reduceLE, Int.reduceEq, Int.reduceSub, Int.reduceAdd, Int.reduceMul, Int.reduceNeg, Int.reduceToNat, h1_0, h1_1, h1_9, h1_7, b1_7, h1_8, b1_8, ni1_7, pi1_7, qi1_7, ri1_7, ni1_8, pi1_8, qi1_8, ri1_8, di1_7i1_8, di1_8i1_7])); all_goals (try clear hK))
        | (with_reducible refine p_ok ?_; decide)
        | ((first | with_reducible first | refine v_region rfl rfl (fun K hK => ?_) | refine v_draws rfl rfl (fun K hK => ?_) | refine v_if (fun A B hA hB => ?_) | refine v_end rfl ?_ | refine v_fin1 ?_ | refine v_finC1 ?_ | refine v_finR1 ?_ | refine v_callE (spec_IsPerm_c _ ?_) ?_ | refine v_callE (spec_IsGrid_c _ ?_ ?_) ?_ | refine v_callE (spec_l32Fits_c _ _ _ _ ?_ ?_ ?_ ?_) ?_ | refine v_finO1 rfl ?_ | refine v_finN1 rfl ?_ ?_ | refine v_apj ?_ (fun j' => ?_) | refine v_stz ?_ ?_ ?_ ?_ ?_ | refine v_stq ?_ | refine v_cv1 ?_ ?_ ?_ | (intro hc; replace fc := And.intro hc fc; try simp only [hcs] at hc)) <;> (try simp (config := { maxSteps := 1000000 }) only [go_sem, ↓reduceIte, reduceCtorEq, Nat.reduceEqDiff, Nat.reduceAdd, Nat.reduceMul, Nat.reduceSub, Nat.reduceLeDiff, Int.reduceLT, Int.reduceLE, Int.reduceEq, Int.reduceSub, Int.reduceAdd, Int.reduceMul, Int.reduceNeg, Int.reduceToNat, h1_0, h1_1, h1_9, h1_7, b1_7, h1_8, b1_8, ni1_7, pi1_7, qi1_7, ri1_7, ni1_8, pi1_8, qi1_8, ri1_8, di1_7i1_8, di1_8i1_7, fc]) <;> (try with_reducible rfl))
      all_goals try (first | omega | (simp only [n_i64, n_u8]; omega) | (simp only [n_i64, n_u8, lnA]; omega) | (simp only [lnA]; done))
      · refine v_loop (fun ms2 S2 => ∃ (j : Nat), S2.e 0 = .p (.sl (.lent m0) (List.map (PV.int .i64) (p))) ∧ S2.e 1 = .p (.sl (.lent m1) (List.map (elI e1) (m))) ∧ OwnL (S2.e 7) S2.h S2.n (elI false) ((C).length) (C) ∧ OwnL (S2.e 8) S2.h S2.n (elI false) ((R).length) (R) ∧ S2.e 9 = .p (.int .i64 (k)) ∧ S2.e 10 = .p (.int .i64 (j)) ∧ (j ≤ R.length) ∧ (k < C.length) ∧ (fRow p m (C.getD k []) R = fRow p m (C.getD k []) (R.drop j)) ∧ NId (S2.e 8) (S2.e 7) ∧ S1.n ≤ S2.n ∧ ms2 = R.length - j) ((fun (j : Nat) => R.length - j) (0)) ?init2_3 ?body2_3
        case' init2_3 =>
          refine ⟨0, ?_, ?_, ?_, ?_, ?_, ?_, ?_, ?_, ?_, ?_, ?_, rfl⟩
          all_goals (try simp only [go_sem, ↓reduceIte, reduceCtorEq, Nat.reduceEqDiff, Nat.reduceAdd, Nat.reduceMul, Nat.reduceSub, Nat.reduceLeDiff, Int.reduceLT, Int.reduceLE, Int.reduceEq, Int.reduceSub, Int.reduceAdd, Int.reduceMul, Int.reduceNeg, Int.reduceToNat, h1_0, h1_1, h1_9, h1_7, b1_7, h1_8, b1_8, ni1_7, pi1_7, qi1_7, ri1_7, ni1_8, pi1_8, qi1_8, ri1_8, di1_7i1_8, di1_8i1_7])
          repeat' refine And.intro ?_ ?_
          all_goals try first | rfl | omega | (simp only [lnA] <;> omega) | ((first | refine stp ?_ | refine dkz_eq ?_ ?_) <;> first | rfl | omega | (simp only [lnA] <;> omega) | (simp only [lnA, List.append_assoc, List.cons_append, List.nil_append]; done) | skip)
        case' body2_3 =>
          rintro ms2 S2 ⟨j, h2_0, h2_1, o2_7, o2_8, h2_9, h2_10, c2_0, c2_1, c2_2, u2_0, u2_1, hm2⟩
          obtain ⟨i2_7, h2_7, b2_7, l2_7⟩ := o2_7.out
          obtain ⟨i2_8, h2_8, b2_8, l2_8⟩ := o2_8.out
          have k2_0 := (u2_0).out h2_8 h2_7
          have ni2_7 : ∀ c, (i2_7 = S2.n + c) = False := fun c => eq_false (by omega)
          have pi2_7 : ∀ c, (S2.n + c = i2_7) = False := fun c => eq_false (by omega)
          have qi2_7 : (i2_7 = S2.n) = False := eq_false (by omega)
          have ri2_7 : (S2.n = i2_7) = False := eq_false (by omega)
          have ni2_8 : ∀ c, (i2_8 = S2.n + c) = False := fun c => eq_false (by omega)
          have pi2_8 : ∀ c, (S2.n + c = i2_8) = False := fun c => eq_false (by omega)
          have qi2_8 : (i2_8 = S2.n) = False := eq_false (by omega)
          have ri2_8 : (S2.n = i2_8) = False := eq_false (by omega)
          have di2_7i2_8 : (i2_7 = i2_8) = False := eq_false (by omega)
          have di2_8i2_7 : (i2_8 = i2_7) = False := eq_false (by omega)
        have b1 := a1 _ (getD_mem (d := []) c2_1)
        have b2 : j < R.length → gdC (R.getD j []) ∧ (R.getD j []).length = m.length - 1 := fun h => a3 _ (getD_mem h)
        by_cases hj : j < R.length
        · have b3 := b2 hj
          have e1 := c2_2
          rw [dropL_at hj, fRow] at e1
          have e2 := c1_1
          rw [dropL_at c2_1, fCol] at e2
          have fc : True := trivial
          repeat' first
            | with_reducible first | refine stp ?_ | refine q_blk_o rfl ?_ | (refine hK _ ?_; clear hK) | (refine hA ?_; clear hA hB) | (refine hB ?_; clear hA hB) | exact v_end0 | exact v_end0' | refine v_gb1 ?_ ?_ | refine v_gb0 ?_ ?_ | refine And.intro ?_ ?_
            | (with_reducible refine hK _ _ ?_ ?_; focus (first | exact clearAll_quiet rfl | (refine clearAll_of [false, false, false, false, false, false, false, false, false, false, true] [] rfl (by decide +kernel) ?_; try simp only [go_sem, ↓reduceIte, reduceCtorEq, Nat.reduceEqDiff, Nat.reduceAdd, Nat.reduceMul, Nat.reduceSub, Nat.reduceLeDiff, Int.reduceLT, Int.reduceLE, Int.reduceEq, Int.reduceSub, Int.reduceAdd, Int.reduceMul, Int.reduceNeg, Int.reduceToNat, h2_0, h2_1, h2_9, h2_10, h2_7, b2_7, h2_8, b2_8, ni2_7, pi2_7, qi2_7, ri2_7, ni2_8, pi2_8, qi2_8, ri2_8, di2_7i2_8, di2_8i2_7]) | (refine clearAll_of [false, false, false, false, true, false, false, false, false, true, false, false, false] [(0, 4), (1, 4), (2, 4), (3, 4), (4, 5), (4, 6), (4, 7), (4, 8), (0, 9), (1, 9), (2, 9), (3, 9)] rfl (by decide +kernel) ?_; try simp only [go_sem, ↓reduceIte, reduceCtorEq, Nat.reduceEqDiff, Nat.reduceAdd, Nat.reduceMul, Nat.reduceSub, Nat.reduceLeDiff, Int.reduceLT, Int.reduceLE, Int.reduceEq, Int.reduceSub, Int.reduceAdd, Int.reduceMul, Int.reduceNeg, Int.reduceToNat, h2_0, h2_1, h2_9, h2_10, h2_7, b2_7, h2_8, b2_8, ni2_7, pi2_7, qi2_7, ri2_7, ni2_8, pi2_8, qi2_8, ri2_8, di2_7i2_8, di2_8i2_7])); all_goals (try clear hK))
            | (with_reducible refine p_ok ?_; decide)
            | ((first | with_reducible first | refine v_region rfl rfl (fun K hK => ?_) | refine v_draws rfl rfl (fun K hK => ?_) | refine v_if (fun A B hA hB => ?_) | refine v_end rfl ?_ | refine v_fin1 ?_ | refine v_finC1 ?_ | refine v_finR1 ?_ | refine v_callE (spec_IsPerm_c _ ?_) ?_ | refine v_callE (spec_IsGrid_c _ ?_ ?_) ?_ | refine v_callE (spec_l32Fits_c _ _ _ _ ?_ ?_ ?_ ?_) ?_ | refine v_finO1 rfl ?_ | refine v_finN1 rfl ?_ ?_ | refine v_apj ?_ (fun j' => ?_) | refine v_stz ?_ ?_ ?_ ?_ ?_ | refine v_stq ?_ | refine v_cv1 ?_ ?_ ?_ | (intro hc; replace fc := And.intro hc fc; try simp only [hcs] at hc)) <;> (try simp (config := { maxSteps := 1000000 }) only [go_sem, ↓reduceIte, reduceCtorEq, Nat.reduceEqDiff, Nat.reduceAdd, Nat.reduceMul, Nat.reduceSub, Nat.reduceLeDiff, Int.reduceLT, Int.reduceLE, Int.reduceEq, Int.reduceSub, Int.reduceAdd, Int.reduceMul, Int.reduceNeg, Int.reduceToNat, h2_0, h2_1, h2_9, h2_10, h2_7, b2_7, h2_8, b2_8, ni2_7, pi2_7, qi2_7, ri2_7, ni2_8, pi2_8, qi2_8, ri2_8, di2_7i2_8, di2_8i2_7, fc]) <;> (try with_reducible rfl))
          all_goals try (first | omega | (simp only [n_i64, n_u8]; omega) | (simp only [n_i64, n_u8, lnA]; omega) | (simp only [lnA]; done))
          all_goals (try rw [a5 _ (by rw [e2, e1, if_pos hc])])
          focus
            refine q_lp_n ((fun (j : Nat) => R.length - j) (j+1)) ?_ ⟨j+1, ?_, ?_, ?_, ?_, ?_, ?_, ?_, ?_, ?_, ?_, ?_, rfl⟩
            all_goals (try simp only [go_sem, ↓reduceIte, reduceCtorEq, Nat.reduceEqDiff, Nat.reduceAdd, Nat.reduceMul, Nat.reduceSub, Nat.reduceLeDiff, Int.reduceLT, Int.reduceLE, Int.reduceEq, Int.reduceSub, Int.reduceAdd, Int.reduceMul, Int.reduceNeg, Int.reduceToNat, h2_0, h2_1, h2_9, h2_10, h2_7, b2_7, h2_8, b2_8, ni2_7, pi2_7, qi2_7, ri2_7, ni2_8, pi2_8, qi2_8, ri2_8, di2_7i2_8, di2_8i2_7])
            repeat' refine And.intro ?_ ?_
            all_goals try first | rfl | omega | (simp only [lnA] <;> omega) | ((first | refine stp ?_ | refine dkz_eq ?_ ?_) <;> first | rfl | omega | (simp only [lnA] <;> omega) | (simp only [lnA, List.append_assoc, List.cons_append, List.nil_append]; done) | skip)
          rw [e1, if_neg (by rw [hc]; decide)]
        · have fc : True := trivial
          repeat' first
            | with_reducible first | refine stp ?_ | refine q_blk_o rfl ?_ | (refine hK _ ?_; clear hK) | (refine hA ?_; clear hA hB) | (refine hB ?_; clear hA hB) | exact v_end0 | exact v_end0' | refine v_gb1 ?_ ?_ | refine v_gb0 ?_ ?_ | refine And.intro ?_ ?_
            | (with_reducible refine hK _ _ ?_ ?_; focus (first | exact clearAll_quiet rfl | (refine clearAll_of [false, false, false, false, false, false, false, false, false, false, true] [] rfl (by decide +kernel) ?_; try simp only [go_sem, ↓reduceIte, reduceCtorEq, Nat.reduceEqDiff, Nat.reduceAdd, Nat.reduceMul, Nat.reduceSub, Nat.reduceLeDiff, Int.reduceLT, Int.reduceLE, Int.reduceEq, Int.reduceSub, Int.reduceAdd, Int.reduceMul, Int.reduceNeg, Int.reduceToNat, h2_0, h2_1, h2_9, h2_10, h2_7, b2_7, h2_8, b2_8, ni2_7, pi2_7, qi2_7, ri2_7, ni2_8, pi2_8, qi2_8, ri2_8, di2_7i2_8, di2_8i2_7]) | (refine clearAll_of [false, false, false, false, true, false, false, false, false, true, false, false, false] [(0, 4), (1, 4), (2, 4), (3, 4), (4, 5), (4, 6), (4, 7), (4, 8), (0, 9), (1, 9), (2, 9), (3, 9)] rfl (by decide +kernel) ?_; try simp only [go_sem, ↓reduceIte, reduceCtorEq, Nat.reduceEqDiff, Nat.reduceAdd, Nat.reduceMul, Nat.reduceSub, Nat.reduceLeDiff, Int.reduceLT, Int.reduceLE, Int.reduceEq, Int.reduceSub, Int.reduceAdd, Int.reduceMul, Int.reduceNeg, Int.reduceToNat, h2_0, h2_1, h2_9, h2_10, h2_7, b2_7, h2_8, b2_8, ni2_7, pi2_7, qi2_7, ri2_7, ni2_8, pi2_8, qi2_8, ri2_8, di2_7i2_8, di2_8i2_7])); all_goals (try clear hK))
            | (with_reducible refine p_ok ?_; decide)
            | ((first | with_reducible first | refine v_region rfl rfl (fun K hK => ?_) | refine v_draws rfl rfl (fun K hK => ?_) | refine v_if (fun A B hA hB => ?_) | refine v_end rfl ?_ | refine v_fin1 ?_ | refine v_finC1 ?_ | refine v_finR1 ?_ | refine v_callE (spec_IsPerm_c _ ?_) ?_ | refine v_callE (spec_IsGrid_c _ ?_ ?_) ?_ | refine v_callE (spec_l32Fits_c _ _ _ _ ?_ ?_ ?_ ?_) ?_ | refine v_finO1 rfl ?_ | refine v_finN1 rfl ?_ ?_ | refine v_apj ?_ (fun j' => ?_) | refine v_stz ?_ ?_ ?_ ?_ ?_ | refine v_stq ?_ | refine v_cv1 ?_ ?_ ?_ | (intro hc; replace fc := And.intro hc fc; try simp only [hcs] at hc)) <;> (try simp (config := { maxSteps := 1000000 }) only [go_sem, ↓reduceIte, reduceCtorEq, Nat.reduceEqDiff, Nat.reduceAdd, Nat.reduceMul, Nat.reduceSub, Nat.reduceLeDiff, Int.reduceLT, Int.reduceLE, Int.reduceEq, Int.reduceSub, Int.reduceAdd, Int.reduceMul, Int.reduceNeg, Int.reduceToNat, h2_0, h2_1, h2_9, h2_10, h2_7, b2_7, h2_8, b2_8, ni2_7, pi2_7, qi2_7, ri2_7, ni2_8, pi2_8, qi2_8, ri2_8, di2_7i2_8, di2_8i2_7, fc]) <;> (try with_reducible rfl))
          all_goals try (first | omega | (simp only [n_i64, n_u8]; omega) | (simp only [n_i64, n_u8, lnA]; omega) | (simp only [lnA]; done))
          have e1 := c2_2
          rw [List.drop_of_length_le (by omega), fRow] at e1
          have e2 := c1_1
          rw [dropL_at c2_1, fCol, e1] at e2
          focus
            refine q_lp_n ((fun (k : Nat) => C.length - k) (k+1)) ?_ ⟨k+1, ?_, ?_, ?_, ?_, ?_, ?_, ?_, ?_, rfl⟩
            all_goals (try simp only [go_sem, ↓reduceIte, reduceCtorEq, Nat.reduceEqDiff, Nat.reduceAdd, Nat.reduceMul, Nat.reduceSub, Nat.reduceLeDiff, Int.reduceLT, Int.reduceLE, Int.reduceEq, Int.reduceSub, Int.reduceAdd, Int.reduceMul, Int.reduceNeg, Int.reduceToNat, h2_0, h2_1, h2_9, h2_10, h2_7, b2_7, h2_8, b2_8, ni2_7, pi2_7, qi2_7, ri2_7, ni2_8, pi2_8, qi2_8, ri2_8, di2_7i2_8, di2_8i2_7])
            repeat' refine And.intro ?_ ?_
            all_goals try first | rfl | omega | (simp only [lnA] <;> omega) | ((first | refine stp ?_ | refine dkz_eq ?_ ?_) <;> first | rfl | omega | (simp only [lnA] <;> omega) | (simp only [lnA, List.append_assoc, List.cons_append, List.nil_append]; done) | skip)
          all_goals exact e2
      all_goals (have e2 := c1_1; rw [List.drop_of_length_le (by omega), fCol] at e2; rw [a6 e2] <;> rfl)
    · have hg' : gridB m = false := by simpa using hg
      have q1 : fndB p m = (([], []), false) := by rw [fndB, hp, hg']; rfl
      rw [q1]
      refine Fun.of (sg := sg0) (ts := [4, 5, 6]) mo Try.func35 rfl rfl rfl rfl (by kernel_rfl) (by simp only [go_sem]) rfl ?_
      have fc : True := trivial
      repeat' first
        | with_reducible first | refine stp ?_ | refine q_blk_o rfl ?_ | (refine hK _ ?_; clear hK) | (refine hA ?_; clear hA hB) | (refine hB ?_; clear hA hB) | exact v_end0 | exact v_end0' | refine v_gb1 ?_ ?_ | refine v_gb0 ?_ ?_ | refine And.intro ?_ ?_
        | (with_reducible refine hK _ _ ?_ ?_; focus (first | exact clearAll_quiet rfl | (refine clearAll_of [false, false, false, false, false, false, false, false, false, false, true] [] rfl (by decide +kernel) ?_; try simp only [go_sem, ↓reduceIte, reduceCtorEq, Nat.reduceEqDiff, Nat.reduceAdd, Nat.reduceMul, Nat.reduceSub, Nat.reduceLeDiff, Int.reduceLT, Int.reduceLE, Int.reduceEq, Int.reduceSub, Int.reduceAdd, Int.reduceMul, Int.reduceNeg, Int.reduceToNat, hp, hg']) | (refine clearAll_of [false, false, false, false, true, false, false, false, false, true, false, false, false] [(0, 4), (1, 4), (2, 4), (3, 4), (4, 5), (4, 6), (4, 7), (4, 8), (0, 9), (1, 9), (2, 9), (3, 9)] rfl (by decide +kernel) ?_; try simp only [go_sem, ↓reduceIte, reduceCtorEq, Nat.reduceEqDiff, Nat.reduceAdd, Nat.reduceMul, Nat.reduceSub, Nat.reduceLeDiff, Int.reduceLT, Int.reduceLE, Int.reduceEq, Int.reduceSub, Int.reduceAdd, Int.reduceMul, Int.reduceNeg, Int.reduceToNat, hp, hg'])); all_goals (try clear hK))
        | (with_reducible refine p_ok ?_; decide)
        | ((first | with_reducible first | refine v_region rfl rfl (fun K hK => ?_) | refine v_draws rfl rfl (fun K hK => ?_) | refine v_if (fun A B hA hB => ?_) | refine v_end rfl ?_ | refine v_fin1 ?_ | refine v_finC1 ?_ | refine v_finR1 ?_ | refine v_callE (spec_IsPerm_c _ ?_) ?_ | refine v_callE (spec_IsGrid_c _ ?_ ?_) ?_ | refine v_callE (spec_l32Fits_c _ _ _ _ ?_ ?_ ?_ ?_) ?_ | refine v_finO1 rfl ?_ | refine v_finN1 rfl ?_ ?_ | refine v_apj ?_ (fun j' => ?_) | refine v_stz ?_ ?_ ?_ ?_ ?_ | refine v_stq ?_ | refine v_cv1 ?_ ?_ ?_ | (intro hc; replace fc := And.intro hc fc; try simp only [hcs] at hc)) <;> (try simp (config := { maxSteps := 1000000 }) only [go_sem, ↓reduceIte, reduceCtorEq, Nat.reduceEqDiff, Nat.reduceAdd, Nat.reduceMul, Nat.reduceSub, Nat.reduceLeDiff, Int.reduceLT, Int.reduceLE, Int.reduceEq, Int.reduceSub, Int.reduceAdd, Int.reduceMul, Int.reduceNeg, Int.reduceToNat, hp, hg', fc]) <;> (try with_reducible rfl))
      all_goals try (first | omega | (simp only [n_i64, n_u8]; omega) | (simp only [n_i64, n_u8, lnA]; omega) | (simp only [lnA]; done))
  · have hp' : isPermB p = false := by simpa using hp
    have q1 : fndB p m = (([], []), false) := by rw [fndB, hp']; rfl
    rw [q1]
    refine Fun.of (sg := sg0) (ts := [4, 5, 6]) mo Try.func35 rfl rfl rfl rfl (by kernel_rfl) (by simp only [go_sem]) rfl ?_
    have fc : True := trivial
    repeat' first
      | with_reducible first | refine stp ?_ | refine q_blk_o rfl ?_ | (refine hK _ ?_; clear hK) | (refine hA ?_; clear hA hB) | (refine hB ?_; clear hA hB) | exact v_end0 | exact v_end0' | refine v_gb1 ?_ ?_ | refine v_gb0 ?_ ?_ | refine And.intro ?_ ?_
      | (with_reducible refine hK _ _ ?_ ?_; focus (first | exact clearAll_quiet rfl | (refine clearAll_of [false, false, false, false, false, false, false, false, false, false, true] [] rfl (by decide +kernel) ?_; try simp only [go_sem, ↓reduceIte, reduceCtorEq, Nat.reduceEqDiff, Nat.reduceAdd, Nat.reduceMul, Nat.reduceSub, Nat.reduceLeDiff, Int.reduceLT, Int.reduceLE, Int.reduceEq, Int.reduceSub, Int.reduceAdd, Int.reduceMul, Int.reduceNeg, Int.reduceToNat, hp']) | (refine clearAll_of [false, false, false, false, true, false, false, false, false, true, false, false, false] [(0, 4), (1, 4), (2, 4), (3, 4), (4, 5), (4, 6), (4, 7), (4, 8), (0, 9), (1, 9), (2, 9), (3, 9)] rfl (by decide +kernel) ?_; try simp only [go_sem, ↓reduceIte, reduceCtorEq, Nat.reduceEqDiff, Nat.reduceAdd, Nat.reduceMul, Nat.reduceSub, Nat.reduceLeDiff, Int.reduceLT, Int.reduceLE, Int.reduceEq, Int.reduceSub, Int.reduceAdd, Int.reduceMul, Int.reduceNeg, Int.reduceToNat, hp'])); all_goals (try clear hK))
      | (with_reducible refine p_ok ?_; decide)
      | ((first | with_reducible first | refine v_region rfl rfl (fun K hK => ?_) | refine v_draws rfl rfl (fun K hK => ?_) | refine v_if (fun A B hA hB => ?_) | refine v_end rfl ?_ | refine v_fin1 ?_ | refine v_finC1 ?_ | refine v_finR1 ?_ | refine v_callE (spec_IsPerm_c _ ?_) ?_ | refine v_callE (spec_IsGrid_c _ ?_ ?_) ?_ | refine v_callE (spec_l32Fits_c _ _ _ _ ?_ ?_ ?_ ?_) ?_ | refine v_finO1 rfl ?_ | refine v_finN1 rfl ?_ ?_ | refine v_apj ?_ (fun j' => ?_) | refine v_stz ?_ ?_ ?_ ?_ ?_ | refine v_stq ?_ | refine v_cv1 ?_ ?_ ?_ | (intro hc; replace fc := And.intro hc fc; try simp only [hcs] at hc)) <;> (try simp (config := { maxSteps := 1000000 }) only [go_sem, ↓reduceIte, reduceCtorEq, Nat.reduceEqDiff, Nat.reduceAdd, Nat.reduceMul, Nat.reduceSub, Nat.reduceLeDiff, Int.reduceLT, Int.reduceLE, Int.reduceEq, Int.reduceSub, Int.reduceAdd, Int.reduceMul, Int.reduceNeg, Int.reduceToNat, hp', fc]) <;> (try with_reducible rfl))
    all_goals try (first | omega | (simp only [n_i64, n_u8]; omega) | (simp only [n_i64, n_u8, lnA]; omega) | (simp only [lnA]; done))
end Go.Gl
