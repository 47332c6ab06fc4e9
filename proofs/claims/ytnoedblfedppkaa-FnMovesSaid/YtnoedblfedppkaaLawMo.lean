/-
  The law of moves. Conditions: none.
-/
import Derived.Test.YtnoedblfedppkaaDrawM
import Derived.Test.YtnoedblfedppkaaCodF
set_option linter.unusedSimpArgs false
set_option linter.unusedVariables false
set_option maxRecDepth 20000
set_option linter.unusedSectionVars false
namespace Go.Gl
open Go Go.Proofs
variable [Amb]
theorem spec_InversePerm_c {m0 : Bool} (p : List Int) (hl : p.length ≤ 1048576) : Fun Try.prog 41 [(.sl (.lent m0) (List.map (PV.int .i64) (p)))] [(.sl .own (List.map (PV.int .i64) ((if isPermB p then inv p else [])))), (.bool (isPermB p))] := by
  by_cases hp : isPermB p = true
  · obtain ⟨h8, hq⟩ := isP_8 hp
    rw [if_pos hp, hp]
    refine Fun.of (sg := sg0) (ts := [2, 3]) mo Try.func41 rfl rfl rfl rfl (by kernel_rfl) (by simp only [go_sem]) rfl ?_
    have fc : True := trivial
    repeat' first
      | with_reducible first | refine stp ?_ | refine q_blk_o rfl ?_ | (refine hK _ ?_; clear hK) | (refine hA ?_; clear hA hB) | (refine hB ?_; clear hA hB) | exact v_end0 | exact v_end0' | refine v_gb1 ?_ ?_ | refine v_gb0 ?_ ?_ | refine And.intro ?_ ?_
      | (with_reducible refine p_ok ?_; decide)
      | ((first | with_reducible first | refine v_region rfl rfl (fun K hK => ?_) | refine v_draws rfl rfl (fun K hK => ?_) | refine v_if (fun A B hA hB => ?_) | refine v_end rfl ?_ | refine v_fin1 ?_ | refine v_finC1 ?_ | refine v_finR1 ?_ | refine v_callE (spec_IsPerm_c _ ?_) ?_ | refine v_callE (spec_l2Inverse_c _ ?_ ?_) ?_ | refine v_finO1 rfl ?_ | refine v_finN1 rfl ?_ ?_ | refine v_apj ?_ (fun j' => ?_) | refine v_stz ?_ ?_ ?_ ?_ ?_ | refine v_stq ?_ | refine v_cv1 ?_ ?_ ?_ | (intro hc; replace fc := And.intro hc fc; try simp only [hcs] at hc)) <;> (try simp (config := { maxSteps := 1000000 }) only [go_sem, ↓reduceIte, reduceCtorEq, Nat.reduceEqDiff, Nat.reduceAdd, Nat.reduceMul, Nat.reduceSub, Nat.reduceLeDiff, Int.reduceLT, Int.reduceLE, Int.reduceEq, Int.reduceSub, Int.reduceAdd, Int.reduceMul, Int.reduceNeg, Int.reduceToNat, hp, fc]) <;> (try with_reducible rfl))
    all_goals try (first | omega | (simp only [n_i64, n_u8]; omega) | (simp only [n_i64, n_u8, lnA]; omega) | (simp only [lnA]; done) | exact List.take_of_length_le (by simp))
  · rw [if_neg hp]
    rw [Bool.not_eq_true] at hp
    rw [hp]
    refine Fun.of (sg := sg0) (ts := [2, 3]) mo Try.func41 rfl rfl rfl rfl (by kernel_rfl) (by simp only [go_sem]) rfl ?_
    have fc : True := trivial
    repeat' first
      | with_reducible first | refine stp ?_ | refine q_blk_o rfl ?_ | (refine hK _ ?_; clear hK) | (refine hA ?_; clear hA hB) | (refine hB ?_; clear hA hB) | exact v_end0 | exact v_end0' | refine v_gb1 ?_ ?_ | refine v_gb0 ?_ ?_ | refine And.intro ?_ ?_
      | (with_reducible refine p_ok ?_; decide)
      | ((first | with_reducible first | refine v_region rfl rfl (fun K hK => ?_) | refine v_draws rfl rfl (fun K hK => ?_) | refine v_if (fun A B hA hB => ?_) | refine v_end rfl ?_ | refine v_fin1 ?_ | refine v_finC1 ?_ | refine v_finR1 ?_ | refine v_callE (spec_IsPerm_c _ ?_) ?_ | refine v_callE (spec_l2Inverse_c _ ?_ ?_) ?_ | refine v_finO1 rfl ?_ | refine v_finN1 rfl ?_ ?_ | refine v_apj ?_ (fun j' => ?_) | refine v_stz ?_ ?_ ?_ ?_ ?_ | refine v_stq ?_ | refine v_cv1 ?_ ?_ ?_ | (intro hc; replace fc := And.intro hc fc; try simp only [hcs] at hc)) <;> (try simp (config := { maxSteps := 1000000 }) only [go_sem, ↓reduceIte, reduceCtorEq, Nat.reduceEqDiff, Nat.reduceAdd, Nat.reduceMul, Nat.reduceSub, Nat.reduceLeDiff, Int.reduceLT, Int.reduceLE, Int.reduceEq, Int.reduceSub, Int.reduceAdd, Int.reduceMul, Int.reduceNeg, Int.reduceToNat, hp, fc]) <;> (try with_reducible rfl))
    all_goals try (first | omega | (simp only [n_i64, n_u8]; omega) | (simp only [n_i64, n_u8, lnA]; omega) | (simp only [lnA]; done) | exact List.take_of_length_le (by simp))
def hpB (p q : List Int) : Bool := isPermB p && isPermB q && hasB p q
def sgOc : FuncId → List Bool := fun f => if f = 248 then [false, false, false, true] else if f = 8589934840 then [false, false, true] else []
theorem sgOc_eq {f : FuncId} : sgOc f = if f = 248 then [false, false, false, true] else if f = 8589934840 then [false, false, true] else [] := _root_.id rfl
theorem wayE_sgOc : wayE sgOc = false := _root_.id rfl
theorem wayN_sgOc : wayN sgOc = false := _root_.id rfl
theorem wayS_sgOc : wayS sgOc = false := _root_.id rfl
theorem wayZ_sgOc : wayZ sgOc = false := _root_.id rfl
attribute [go_sem] sgOc_eq wayE_sgOc wayN_sgOc wayS_sgOc wayZ_sgOc
theorem spec_OccurrencesOf_c {m0 m1 : Bool} (p q : List Int) (hp : isPermB p = true) (hq : isPermB q = true) : Fun Try.prog 217 [(.sl (.lent m0) (List.map (PV.int .i64) (p))), (.sl (.lent m1) (List.map (PV.int .i64) (q)))] [(.sl .own (List.map (elI false) (occ 1 p q q.length [])))] := by
  refine Fun.of (sg := sgOc) (ts := [4]) mo Try.func217 rfl rfl rfl rfl (by kernel_rfl) (by simp only [go_sem]) rfl ?_
  have p8 := (isP_8 hp).1
  have q8 := (isP_8 hq).1
  have h9 := spec_l7Find_c (m0 := m0) (m1 := m1) p q p8 q8 q.length [] [] (Nat.zero_add _) (by simp) (by have h2 : 8 ^ q.length ≤ 8 ^ 8 := Nat.pow_le_pow_right (by omega) (by omega); simp only [List.length_nil, Nat.zero_add]; omega)
  simp only [List.map_nil, List.nil_append] at h9
  have fc : True := trivial
  repeat' first
    | with_reducible first | refine stp ?_ | refine q_blk_o rfl ?_ | (refine hK _ ?_; clear hK) | (refine hA ?_; clear hA hB) | (refine hB ?_; clear hA hB) | exact v_end0 | exact v_end0' | refine v_gb1 ?_ ?_ | refine v_gb0 ?_ ?_ | refine And.intro ?_ ?_
    | (with_reducible refine p_ok ?_; decide)
    | ((first | with_reducible first | refine v_region rfl rfl (fun K hK => ?_) | refine v_draws rfl rfl (fun K hK => ?_) | refine v_if (fun A B hA hB => ?_) | refine v_end rfl ?_ | refine v_fin1 ?_ | refine v_finC1 ?_ | refine v_finR1 ?_ | refine v_callE (spec_IsPerm_c _ ?_) ?_ | refine v_callN (h9) rfl ?_ ?_ | refine v_callT (h9) rfl ?_ ?_ | refine v_callTd (h9) rfl ?_ ?_ | refine v_callR (h9) rfl ?_ ?_ | refine v_callT3 (h9) ?_ ?_ | refine v_callT4 (h9) ?_ ?_ | refine v_finO1 rfl ?_ | refine v_finN1 rfl ?_ ?_ | refine v_apj ?_ (fun j' => ?_) | refine v_stz ?_ ?_ ?_ ?_ ?_ | refine v_stq ?_ | refine v_cv1 ?_ ?_ ?_ | (intro hc; replace fc := And.intro hc fc; try simp only [hcs] at hc)) <;> (try simp (config := { maxSteps := 1000000 }) only [go_sem, ↓reduceIte, reduceCtorEq, Nat.reduceEqDiff, Nat.reduceAdd, Nat.reduceMul, Nat.reduceSub, Nat.reduceLeDiff, Int.reduceLT, Int.reduceLE, Int.reduceEq, Int.reduceSub, Int.reduceAdd, Int.reduceMul, Int.reduceNeg, Int.reduceToNat, hp, hq, fc]) <;> (try with_reducible rfl))
  all_goals try (first | omega | (simp only [n_i64, n_u8]; omega) | (simp only [n_i64, n_u8, lnA]; omega) | (simp only [lnA]; done) | exact List.take_of_length_le (by simp))
  all_goals trace_state
theorem spec_CountPattern_c {m0 m1 : Bool} (p q : List Int) (hp : p.length ≤ 1048576) (hq : q.length ≤ 1048576) : Fun Try.prog 141 [(.sl (.lent m0) (List.map (PV.int .i64) (p))), (.sl (.lent m1) (List.map (PV.int .i64) (q)))] [(.int .i64 ((if isPermB p && isPermB q then ((occ 1 p q q.length []).length : Int) else -1)))] := by
  by_cases h1 : isPermB p = true
  · by_cases h2 : isPermB q = true
    · rw [h1, h2]
      refine Fun.of (sg := sg0) (ts := [4]) mo Try.func141 rfl rfl rfl rfl (by kernel_rfl) (by simp only [go_sem]) rfl ?_
      have fc : True := trivial
      repeat' first
        | with_reducible first | refine stp ?_ | refine q_blk_o rfl ?_ | (refine hK _ ?_; clear hK) | (refine hA ?_; clear hA hB) | (refine hB ?_; clear hA hB) | exact v_end0 | exact v_end0' | refine v_gb1 ?_ ?_ | refine v_gb0 ?_ ?_ | refine And.intro ?_ ?_
        | (with_reducible refine p_ok ?_; decide)
        | ((first | with_reducible first | refine v_region rfl rfl (fun K hK => ?_) | refine v_draws rfl rfl (fun K hK => ?_) | refine v_if (fun A B hA hB => ?_) | refine v_end rfl ?_ | refine v_fin1 ?_ | refine v_finC1 ?_ | refine v_finR1 ?_ | refine v_callE (spec_IsPerm_c _ ?_) ?_ | refine v_callE (spec_OccurrencesOf_c _ _ ?_ ?_) ?_ | refine v_finO1 rfl ?_ | refine v_finN1 rfl ?_ ?_ | refine v_apj ?_ (fun j' => ?_) | refine v_stz ?_ ?_ ?_ ?_ ?_ | refine v_stq ?_ | refine v_cv1 ?_ ?_ ?_ | (intro hc; replace fc := And.intro hc fc; try simp only [hcs] at hc)) <;> (try simp (config := { maxSteps := 1000000 }) only [go_sem, ↓reduceIte, reduceCtorEq, Nat.reduceEqDiff, Nat.reduceAdd, Nat.reduceMul, Nat.reduceSub, Nat.reduceLeDiff, Int.reduceLT, Int.reduceLE, Int.reduceEq, Int.reduceSub, Int.reduceAdd, Int.reduceMul, Int.reduceNeg, Int.reduceToNat, h1, h2, fc]) <;> (try with_reducible rfl))
      all_goals try (first | omega | (simp only [n_i64, n_u8]; omega) | (simp only [n_i64, n_u8, lnA]; omega) | (simp only [lnA]; done) | exact List.take_of_length_le (by simp))
      all_goals trace_state
    · rw [Bool.not_eq_true] at h2
      rw [h1, h2]
      refine Fun.of (sg := sg0) (ts := [4]) mo Try.func141 rfl rfl rfl rfl (by kernel_rfl) (by simp only [go_sem]) rfl ?_
      have fc : True := trivial
      repeat' first
        | with_reducible first | refine stp ?_ | refine q_blk_o rfl ?_ | (refine hK _ ?_; clear hK) | (refine hA ?_; clear hA hB) | (refine hB ?_; clear hA hB) | exact v_end0 | exact v_end0' | refine v_gb1 ?_ ?_ | refine v_gb0 ?_ ?_ | refine And.intro ?_ ?_
        | (with_reducible refine p_ok ?_; decide)
        | ((first | with_reducible first | refine v_region rfl rfl (fun K hK => ?_) | refine v_draws rfl rfl (fun K hK => ?_) | refine v_if (fun A B hA hB => ?_) | refine v_end rfl ?_ | refine v_fin1 ?_ | refine v_finC1 ?_ | refine v_finR1 ?_ | refine v_callE (spec_IsPerm_c _ ?_) ?_ | refine v_callE (spec_OccurrencesOf_c _ _ ?_ ?_) ?_ | refine v_finO1 rfl ?_ | refine v_finN1 rfl ?_ ?_ | refine v_apj ?_ (fun j' => ?_) | refine v_stz ?_ ?_ ?_ ?_ ?_ | refine v_stq ?_ | refine v_cv1 ?_ ?_ ?_ | (intro hc; replace fc := And.intro hc fc; try simp only [hcs] at hc)) <;> (try simp (config := { maxSteps := 1000000 }) only [go_sem, ↓reduceIte, reduceCtorEq, Nat.reduceEqDiff, Nat.reduceAdd, Nat.reduceMul, Nat.reduceSub, Nat.reduceLeDiff, Int.reduceLT, Int.reduceLE, Int.reduceEq, Int.reduceSub, Int.reduceAdd, Int.reduceMul, Int.reduceNeg, Int.reduceToNat, h1, h2, fc]) <;> (try with_reducible rfl))
      all_goals try (first | omega | (simp only [n_i64, n_u8]; omega) | (simp only [n_i64, n_u8, lnA]; omega) | (simp only [lnA]; done) | exact List.take_of_length_le (by simp))
  · rw [Bool.not_eq_true] at h1
    rw [h1]
    refine Fun.of (sg := sg0) (ts := [4]) mo Try.func141 rfl rfl rfl rfl (by kernel_rfl) (by simp only [go_sem]) rfl ?_
    have fc : True := trivial
    repeat' first
      | with_reducible first | refine stp ?_ | refine q_blk_o rfl ?_ | (refine hK _ ?_; clear hK) | (refine hA ?_; clear hA hB) | (refine hB ?_; clear hA hB) | exact v_end0 | exact v_end0' | refine v_gb1 ?_ ?_ | refine v_gb0 ?_ ?_ | refine And.intro ?_ ?_
      | (with_reducible refine p_ok ?_; decide)
      | ((first | with_reducible first | refine v_region rfl rfl (fun K hK => ?_) | refine v_draws rfl rfl (fun K hK => ?_) | refine v_if (fun A B hA hB => ?_) | refine v_end rfl ?_ | refine v_fin1 ?_ | refine v_finC1 ?_ | refine v_finR1 ?_ | refine v_callE (spec_IsPerm_c _ ?_) ?_ | refine v_callE (spec_OccurrencesOf_c _ _ ?_ ?_) ?_ | refine v_finO1 rfl ?_ | refine v_finN1 rfl ?_ ?_ | refine v_apj ?_ (fun j' => ?_) | refine v_stz ?_ ?_ ?_ ?_ ?_ | refine v_stq ?_ | refine v_cv1 ?_ ?_ ?_ | (intro hc; replace fc := And.intro hc fc; try simp only [hcs] at hc)) <;> (try simp (config := { maxSteps := 1000000 }) only [go_sem, ↓reduceIte, reduceCtorEq, Nat.reduceEqDiff, Nat.reduceAdd, Nat.reduceMul, Nat.reduceSub, Nat.reduceLeDiff, Int.reduceLT, Int.reduceLE, Int.reduceEq, Int.reduceSub, Int.reduceAdd, Int.reduceMul, Int.reduceNeg, Int.reduceToNat, h1, fc]) <;> (try with_reducible rfl))
    all_goals try (first | omega | (simp only [n_i64, n_u8]; omega) | (simp only [n_i64, n_u8, lnA]; omega) | (simp only [lnA]; done) | exact List.take_of_length_le (by simp))
theorem spec_HasPattern_c {m0 m1 : Bool} (p q : List Int) (hp : p.length ≤ 1048576) (hq : q.length ≤ 1048576) : Fun Try.prog 40 [(.sl (.lent m0) (List.map (PV.int .i64) (p))), (.sl (.lent m1) (List.map (PV.int .i64) (q)))] [(.bool (hpB p q))] := by
  have e : hpB p q = decide (1 ≤ (if isPermB p && isPermB q then ((occ 1 p q q.length []).length : Int) else -1)) := by
    unfold hpB
    by_cases h : (isPermB p && isPermB q) = true
    · rw [h, if_pos rfl, Bool.true_and, ← has_dec]
      rw [decide_eq_decide]; omega
    · rw [if_neg h]
      rw [Bool.not_eq_true] at h
      rw [h]; rfl
  rw [e]
  refine Fun.of (sg := sg0) (ts := [4]) mo Try.func40 rfl rfl rfl rfl (by kernel_rfl) (by simp only [go_sem]) rfl ?_
  have fc : True := trivial
  repeat' first
    | with_reducible first | refine stp ?_ | refine q_blk_o rfl ?_ | (refine hK _ ?_; clear hK) | (refine hA ?_; clear hA hB) | (refine hB ?_; clear hA hB) | exact v_end0 | exact v_end0' | refine v_gb1 ?_ ?_ | refine v_gb0 ?_ ?_ | refine And.intro ?_ ?_
    | (with_reducible refine p_ok ?_; decide)
    | ((first | with_reducible first | refine v_region rfl rfl (fun K hK => ?_) | refine v_draws rfl rfl (fun K hK => ?_) | refine v_if (fun A B hA hB => ?_) | refine v_end rfl ?_ | refine v_fin1 ?_ | refine v_finC1 ?_ | refine v_finR1 ?_ | refine v_callE (spec_CountPattern_c _ _ ?_ ?_) ?_ | refine v_finO1 rfl ?_ | refine v_finN1 rfl ?_ ?_ | refine v_apj ?_ (fun j' => ?_) | refine v_stz ?_ ?_ ?_ ?_ ?_ | refine v_stq ?_ | refine v_cv1 ?_ ?_ ?_ | (intro hc; replace fc := And.intro hc fc; try simp only [hcs] at hc)) <;> (try simp (config := { maxSteps := 1000000 }) only [go_sem, ↓reduceIte, reduceCtorEq, Nat.reduceEqDiff, Nat.reduceAdd, Nat.reduceMul, Nat.reduceSub, Nat.reduceLeDiff, Int.reduceLT, Int.reduceLE, Int.reduceEq, Int.reduceSub, Int.reduceAdd, Int.reduceMul, Int.reduceNeg, Int.reduceToNat, fc]) <;> (try with_reducible rfl))
  all_goals try (first | omega | (simp only [n_i64, n_u8]; omega) | (simp only [n_i64, n_u8, lnA]; omega) | (simp only [lnA]; done) | exact List.take_of_length_le (by simp))
  all_goals trace_state
theorem spec_DrawRunMoves_x (b : List UInt8) (hb : b.length ≤ 1048576) : ∃ t, Fun Try.prog 25 [.sl (.lent false) (b.map u8P)] [.str t] ∧ t.length ≤ 32 := by
  obtain ⟨s1, t, c1, ht⟩ := spec_l24Text_x b ⟨0, newH b (min b.length 4000)⟩ hb
  refine ⟨t, ?_, ht⟩
  refine Fun.of (sg := sgCu) (ts := [2]) mo Try.func25 rfl rfl rfl rfl (by kernel_rfl) (by simp only [go_sem]) rfl ?_
  have fc : True := trivial
  repeat' first
    | with_reducible first | refine stp ?_ | refine q_blk_o rfl ?_ | (refine hK _ ?_; clear hK) | (refine hA ?_; clear hA hB) | (refine hB ?_; clear hA hB) | exact v_end0 | exact v_end0' | refine v_gb1 ?_ ?_ | refine v_gb0 ?_ ?_ | refine And.intro ?_ ?_
    | (with_reducible refine p_ok ?_; decide)
    | ((first | with_reducible first | refine v_region rfl rfl (fun K hK => ?_) | refine v_draws rfl rfl (fun K hK => ?_) | refine v_if (fun A B hA hB => ?_) | refine v_end rfl ?_ | refine v_fin1 ?_ | refine v_finC1 ?_ | refine v_finR1 ?_ | refine v_callE (spec_l1New_c _ ?_) ?_ | refine v_callN (c1) rfl ?_ ?_ | refine v_callT (c1) rfl ?_ ?_ | refine v_callTd (c1) rfl ?_ ?_ | refine v_callR (c1) rfl ?_ ?_ | refine v_callT3 (c1) ?_ ?_ | refine v_callT4 (c1) ?_ ?_ | refine v_finO1 rfl ?_ | refine v_finN1 rfl ?_ ?_ | refine v_apj ?_ (fun j' => ?_) | refine v_stz ?_ ?_ ?_ ?_ ?_ | refine v_stq ?_ | refine v_cv1 ?_ ?_ ?_ | (intro hc; replace fc := And.intro hc fc; try simp only [hcs] at hc)) <;> (try simp (config := { maxSteps := 1000000 }) only [go_sem, ↓reduceIte, reduceCtorEq, Nat.reduceEqDiff, Nat.reduceAdd, Nat.reduceMul, Nat.reduceSub, Nat.reduceLeDiff, Int.reduceLT, Int.reduceLE, Int.reduceEq, Int.reduceSub, Int.reduceAdd, Int.reduceMul, Int.reduceNeg, Int.reduceToNat, fc]) <;> (try with_reducible rfl))
  all_goals try (first | omega | (simp only [n_i64, n_u8]; omega) | (simp only [n_i64, n_u8, lnA]; omega) | (simp only [lnA]; done) | exact List.take_of_length_le (by simp))
theorem runOut_sm {t : List UInt8} (h : movesOk t = true) : isPermB (runOut t) = true := (run_back (by rw [runOk_eq]; exact h)).1
theorem spec_DrawMovesFor_x (b : List UInt8) (hb : b.length ≤ 1048576) : ∃ p, Fun Try.prog 28 [.sl (.lent false) (b.map u8P)] [.sl .own (List.map (PV.int .i64) p)] ∧ SmL p := by
  obtain ⟨s1, t, c1, ht⟩ := spec_l24Text_x b ⟨0, newH b (min b.length 4000)⟩ hb
  by_cases h1 : movesOk t = true
  · have hs := SmL.of (runOut_sm h1)
    by_cases h0 : bwX b s1 2 = 0
    · refine ⟨runOut t, ?_, hs⟩
      refine Fun.of (sg := sgCu) (ts := [2]) mo Try.func28 rfl rfl rfl rfl (by kernel_rfl) (by simp only [go_sem]) rfl ?_
      have fc : True := trivial
      repeat' first
        | with_reducible first | refine stp ?_ | refine q_blk_o rfl ?_ | (refine hK _ ?_; clear hK) | (refine hA ?_; clear hA hB) | (refine hB ?_; clear hA hB) | exact v_end0 | exact v_end0' | refine v_gb1 ?_ ?_ | refine v_gb0 ?_ ?_ | refine And.intro ?_ ?_
        | (with_reducible refine p_ok ?_; decide)
        | ((first | with_reducible first | refine v_region rfl rfl (fun K hK => ?_) | refine v_draws rfl rfl (fun K hK => ?_) | refine v_if (fun A B hA hB => ?_) | refine v_end rfl ?_ | refine v_fin1 ?_ | refine v_finC1 ?_ | refine v_finR1 ?_ | refine v_callE (spec_RunMoves_c _) ?_ | refine v_callE (spec_l1New_c _ ?_) ?_ | refine v_callN (spec_l1Once_c _ _ _ ?_ ?_) rfl ?_ ?_ | refine v_callT (spec_l1Once_c _ _ _ ?_ ?_) rfl ?_ ?_ | refine v_callTd (spec_l1Once_c _ _ _ ?_ ?_) rfl ?_ ?_ | refine v_callR (spec_l1Once_c _ _ _ ?_ ?_) rfl ?_ ?_ | refine v_callN (c1) rfl ?_ ?_ | refine v_callT (c1) rfl ?_ ?_ | refine v_callTd (c1) rfl ?_ ?_ | refine v_callR (c1) rfl ?_ ?_ | refine v_callT3 (spec_l1Once_c _ _ _ ?_ ?_) ?_ ?_ | refine v_callT4 (spec_l1Once_c _ _ _ ?_ ?_) ?_ ?_ | refine v_callT3 (c1) ?_ ?_ | refine v_callT4 (c1) ?_ ?_ | refine v_finO1 rfl ?_ | refine v_finN1 rfl ?_ ?_ | refine v_apj ?_ (fun j' => ?_) | refine v_stz ?_ ?_ ?_ ?_ ?_ | refine v_stq ?_ | refine v_cv1 ?_ ?_ ?_ | (intro hc; replace fc := And.intro hc fc; try simp only [hcs] at hc)) <;> (try simp (config := { maxSteps := 1000000 }) only [go_sem, ↓reduceIte, reduceCtorEq, Nat.reduceEqDiff, Nat.reduceAdd, Nat.reduceMul, Nat.reduceSub, Nat.reduceLeDiff, Int.reduceLT, Int.reduceLE, Int.reduceEq, Int.reduceSub, Int.reduceAdd, Int.reduceMul, Int.reduceNeg, Int.reduceToNat, h1, h0, fc]) <;> (try with_reducible rfl))
      all_goals try (first | omega | (simp only [n_i64, n_u8]; omega) | (simp only [n_i64, n_u8, lnA]; omega) | (simp only [lnA]; done) | exact List.take_of_length_le (by simp))
      all_goals trace_state
    · have f0 : (bwX b s1 2 = 0) = False := eq_false h0
      obtain ⟨s2, p, c2, hp⟩ := spec_l2Bent_x b (bwS b s1 2) hb
      refine ⟨p, ?_, hp⟩
      refine Fun.of (sg := sgCu) (ts := [2]) mo Try.func28 rfl rfl rfl rfl (by kernel_rfl) (by simp only [go_sem]) rfl ?_
      have fc : True := trivial
      repeat' first
        | with_reducible first | refine stp ?_ | refine q_blk_o rfl ?_ | (refine hK _ ?_; clear hK) | (refine hA ?_; clear hA hB) | (refine hB ?_; clear hA hB) | exact v_end0 | exact v_end0' | refine v_gb1 ?_ ?_ | refine v_gb0 ?_ ?_ | refine And.intro ?_ ?_
        | (with_reducible refine p_ok ?_; decide)
        | ((first | with_reducible first | refine v_region rfl rfl (fun K hK => ?_) | refine v_draws rfl rfl (fun K hK => ?_) | refine v_if (fun A B hA hB => ?_) | refine v_end rfl ?_ | refine v_fin1 ?_ | refine v_finC1 ?_ | refine v_finR1 ?_ | refine v_callE (spec_RunMoves_c _) ?_ | refine v_callE (spec_l1New_c _ ?_) ?_ | refine v_callN (spec_l1Once_c _ _ _ ?_ ?_) rfl ?_ ?_ | refine v_callT (spec_l1Once_c _ _ _ ?_ ?_) rfl ?_ ?_ | refine v_callTd (spec_l1Once_c _ _ _ ?_ ?_) rfl ?_ ?_ | refine v_callR (spec_l1Once_c _ _ _ ?_ ?_) rfl ?_ ?_ | refine v_callN (c1) rfl ?_ ?_ | refine v_callT (c1) rfl ?_ ?_ | refine v_callTd (c1) rfl ?_ ?_ | refine v_callR (c1) rfl ?_ ?_ | refine v_callN (c2) rfl ?_ ?_ | refine v_callT (c2) rfl ?_ ?_ | refine v_callTd (c2) rfl ?_ ?_ | refine v_callR (c2) rfl ?_ ?_ | refine v_callT3 (spec_l1Once_c _ _ _ ?_ ?_) ?_ ?_ | refine v_callT4 (spec_l1Once_c _ _ _ ?_ ?_) ?_ ?_ | refine v_callT3 (c1) ?_ ?_ | refine v_callT4 (c1) ?_ ?_ | refine v_callT3 (c2) ?_ ?_ | refine v_callT4 (c2) ?_ ?_ | refine v_finO1 rfl ?_ | refine v_finN1 rfl ?_ ?_ | refine v_apj ?_ (fun j' => ?_) | refine v_stz ?_ ?_ ?_ ?_ ?_ | refine v_stq ?_ | refine v_cv1 ?_ ?_ ?_ | (intro hc; replace fc := And.intro hc fc; try simp only [hcs] at hc)) <;> (try simp (config := { maxSteps := 1000000 }) only [go_sem, ↓reduceIte, reduceCtorEq, Nat.reduceEqDiff, Nat.reduceAdd, Nat.reduceMul, Nat.reduceSub, Nat.reduceLeDiff, Int.reduceLT, Int.reduceLE, Int.reduceEq, Int.reduceSub, Int.reduceAdd, Int.reduceMul, Int.reduceNeg, Int.reduceToNat, h1, f0, fc]) <;> (try with_reducible rfl))
      all_goals try (first | omega | (simp only [n_i64, n_u8]; omega) | (simp only [n_i64, n_u8, lnA]; omega) | (simp only [lnA]; done) | exact List.take_of_length_le (by simp))
      all_goals trace_state
  · rw [Bool.not_eq_true] at h1
    obtain ⟨s2, p, c2, hp⟩ := spec_l2Bent_x b s1 hb
    refine ⟨p, ?_, hp⟩
    refine Fun.of (sg := sgCu) (ts := [2]) mo Try.func28 rfl rfl rfl rfl (by kernel_rfl) (by simp only [go_sem]) rfl ?_
    have fc : True := trivial
    repeat' first
      | with_reducible first | refine stp ?_ | refine q_blk_o rfl ?_ | (refine hK _ ?_; clear hK) | (refine hA ?_; clear hA hB) | (refine hB ?_; clear hA hB) | exact v_end0 | exact v_end0' | refine v_gb1 ?_ ?_ | refine v_gb0 ?_ ?_ | refine And.intro ?_ ?_
      | (with_reducible refine p_ok ?_; decide)
      | ((first | with_reducible first | refine v_region rfl rfl (fun K hK => ?_) | refine v_draws rfl rfl (fun K hK => ?_) | refine v_if (fun A B hA hB => ?_) | refine v_end rfl ?_ | refine v_fin1 ?_ | refine v_finC1 ?_ | refine v_finR1 ?_ | refine v_callE (spec_RunMoves_c _) ?_ | refine v_callE (spec_l1New_c _ ?_) ?_ | refine v_callN (spec_l1Once_c _ _ _ ?_ ?_) rfl ?_ ?_ | refine v_callT (spec_l1Once_c _ _ _ ?_ ?_) rfl ?_ ?_ | refine v_callTd (spec_l1Once_c _ _ _ ?_ ?_) rfl ?_ ?_ | refine v_callR (spec_l1Once_c _ _ _ ?_ ?_) rfl ?_ ?_ | refine v_callN (c1) rfl ?_ ?_ | refine v_callT (c1) rfl ?_ ?_ | refine v_callTd (c1) rfl ?_ ?_ | refine v_callR (c1) rfl ?_ ?_ | refine v_callN (c2) rfl ?_ ?_ | refine v_callT (c2) rfl ?_ ?_ | refine v_callTd (c2) rfl ?_ ?_ | refine v_callR (c2) rfl ?_ ?_ | refine v_callT3 (spec_l1Once_c _ _ _ ?_ ?_) ?_ ?_ | refine v_callT4 (spec_l1Once_c _ _ _ ?_ ?_) ?_ ?_ | refine v_callT3 (c1) ?_ ?_ | refine v_callT4 (c1) ?_ ?_ | refine v_callT3 (c2) ?_ ?_ | refine v_callT4 (c2) ?_ ?_ | refine v_finO1 rfl ?_ | refine v_finN1 rfl ?_ ?_ | refine v_apj ?_ (fun j' => ?_) | refine v_stz ?_ ?_ ?_ ?_ ?_ | refine v_stq ?_ | refine v_cv1 ?_ ?_ ?_ | (intro hc; replace fc := And.intro hc fc; try simp only [hcs] at hc)) <;> (try simp (config := { maxSteps := 1000000 }) only [go_sem, ↓reduceIte, reduceCtorEq, Nat.reduceEqDiff, Nat.reduceAdd, Nat.reduceMul, Nat.reduceSub, Nat.reduceLeDiff, Int.reduceLT, Int.reduceLE, Int.reduceEq, Int.reduceSub, Int.reduceAdd, Int.reduceMul, Int.reduceNeg, Int.reduceToNat, h1, fc]) <;> (try with_reducible rfl))
    all_goals try (first | omega | (simp only [n_i64, n_u8]; omega) | (simp only [n_i64, n_u8, lnA]; omega) | (simp only [lnA]; done) | exact List.take_of_length_le (by simp))
    all_goals trace_state
theorem spec_DrawSortingMoves_x (b : List UInt8) (hb : b.length ≤ 1048576) : ∃ p, Fun Try.prog 31 [.sl (.lent false) (b.map u8P)] [.sl .own (List.map (PV.int .i64) p)] ∧ SmL p := by
  obtain ⟨s1, p, c1, hp⟩ := spec_l18Avoiding_x b ⟨0, newH b (min b.length 4000)⟩ hb
  have hl := hp.len
  by_cases h0 : bwX b s1 2 = 0
  · refine ⟨p.reverse, ?_, sml_rev hp⟩
    refine Fun.of (sg := sgCu) (ts := [2]) mo Try.func31 rfl rfl rfl rfl (by kernel_rfl) (by simp only [go_sem]) rfl ?_
    have fc : True := trivial
    repeat' first
      | with_reducible first | refine stp ?_ | refine q_blk_o rfl ?_ | (refine hK _ ?_; clear hK) | (refine hA ?_; clear hA hB) | (refine hB ?_; clear hA hB) | exact v_end0 | exact v_end0' | refine v_gb1 ?_ ?_ | refine v_gb0 ?_ ?_ | refine And.intro ?_ ?_
      | (with_reducible refine p_ok ?_; decide)
      | ((first | with_reducible first | refine v_region rfl rfl (fun K hK => ?_) | refine v_draws rfl rfl (fun K hK => ?_) | refine v_if (fun A B hA hB => ?_) | refine v_end rfl ?_ | refine v_fin1 ?_ | refine v_finC1 ?_ | refine v_finR1 ?_ | refine v_callE (spec_l1New_c _ ?_) ?_ | refine v_callE (spec_l3Reverse_c _ ?_) ?_ | refine v_callN (spec_l1Once_c _ _ _ ?_ ?_) rfl ?_ ?_ | refine v_callT (spec_l1Once_c _ _ _ ?_ ?_) rfl ?_ ?_ | refine v_callTd (spec_l1Once_c _ _ _ ?_ ?_) rfl ?_ ?_ | refine v_callR (spec_l1Once_c _ _ _ ?_ ?_) rfl ?_ ?_ | refine v_callN (c1) rfl ?_ ?_ | refine v_callT (c1) rfl ?_ ?_ | refine v_callTd (c1) rfl ?_ ?_ | refine v_callR (c1) rfl ?_ ?_ | refine v_callT3 (spec_l1Once_c _ _ _ ?_ ?_) ?_ ?_ | refine v_callT4 (spec_l1Once_c _ _ _ ?_ ?_) ?_ ?_ | refine v_callT3 (c1) ?_ ?_ | refine v_callT4 (c1) ?_ ?_ | refine v_finO1 rfl ?_ | refine v_finN1 rfl ?_ ?_ | refine v_apj ?_ (fun j' => ?_) | refine v_stz ?_ ?_ ?_ ?_ ?_ | refine v_stq ?_ | refine v_cv1 ?_ ?_ ?_ | (intro hc; replace fc := And.intro hc fc; try simp only [hcs] at hc)) <;> (try simp (config := { maxSteps := 1000000 }) only [go_sem, ↓reduceIte, reduceCtorEq, Nat.reduceEqDiff, Nat.reduceAdd, Nat.reduceMul, Nat.reduceSub, Nat.reduceLeDiff, Int.reduceLT, Int.reduceLE, Int.reduceEq, Int.reduceSub, Int.reduceAdd, Int.reduceMul, Int.reduceNeg, Int.reduceToNat, h0, fc]) <;> (try with_reducible rfl))
    all_goals try (first | omega | (simp only [n_i64, n_u8]; omega) | (simp only [n_i64, n_u8, lnA]; omega) | (simp only [lnA]; done) | exact List.take_of_length_le (by simp))
    all_goals trace_state
  · have f0 : (bwX b s1 2 = 0) = False := eq_false h0
    refine ⟨p, ?_, hp⟩
    refine Fun.of (sg := sgCu) (ts := [2]) mo Try.func31 rfl rfl rfl rfl (by kernel_rfl) (by simp only [go_sem]) rfl ?_
    have fc : True := trivial
    repeat' first
      | with_reducible first | refine stp ?_ | refine q_blk_o rfl ?_ | (refine hK _ ?_; clear hK) | (refine hA ?_; clear hA hB) | (refine hB ?_; clear hA hB) | exact v_end0 | exact v_end0' | refine v_gb1 ?_ ?_ | refine v_gb0 ?_ ?_ | refine And.intro ?_ ?_
      | (with_reducible refine p_ok ?_; decide)
      | ((first | with_reducible first | refine v_region rfl rfl (fun K hK => ?_) | refine v_draws rfl rfl (fun K hK => ?_) | refine v_if (fun A B hA hB => ?_) | refine v_end rfl ?_ | refine v_fin1 ?_ | refine v_finC1 ?_ | refine v_finR1 ?_ | refine v_callE (spec_l1New_c _ ?_) ?_ | refine v_callE (spec_l3Reverse_c _ ?_) ?_ | refine v_callN (spec_l1Once_c _ _ _ ?_ ?_) rfl ?_ ?_ | refine v_callT (spec_l1Once_c _ _ _ ?_ ?_) rfl ?_ ?_ | refine v_callTd (spec_l1Once_c _ _ _ ?_ ?_) rfl ?_ ?_ | refine v_callR (spec_l1Once_c _ _ _ ?_ ?_) rfl ?_ ?_ | refine v_callN (c1) rfl ?_ ?_ | refine v_callT (c1) rfl ?_ ?_ | refine v_callTd (c1) rfl ?_ ?_ | refine v_callR (c1) rfl ?_ ?_ | refine v_callT3 (spec_l1Once_c _ _ _ ?_ ?_) ?_ ?_ | refine v_callT4 (spec_l1Once_c _ _ _ ?_ ?_) ?_ ?_ | refine v_callT3 (c1) ?_ ?_ | refine v_callT4 (c1) ?_ ?_ | refine v_finO1 rfl ?_ | refine v_finN1 rfl ?_ ?_ | refine v_apj ?_ (fun j' => ?_) | refine v_stz ?_ ?_ ?_ ?_ ?_ | refine v_stq ?_ | refine v_cv1 ?_ ?_ ?_ | (intro hc; replace fc := And.intro hc fc; try simp only [hcs] at hc)) <;> (try simp (config := { maxSteps := 1000000 }) only [go_sem, ↓reduceIte, reduceCtorEq, Nat.reduceEqDiff, Nat.reduceAdd, Nat.reduceMul, Nat.reduceSub, Nat.reduceLeDiff, Int.reduceLT, Int.reduceLE, Int.reduceEq, Int.reduceSub, Int.reduceAdd, Int.reduceMul, Int.reduceNeg, Int.reduceToNat, f0, fc]) <;> (try with_reducible rfl))
    all_goals try (first | omega | (simp only [n_i64, n_u8]; omega) | (simp only [n_i64, n_u8, lnA]; omega) | (simp only [lnA]; done) | exact List.take_of_length_le (by simp))
    all_goals trace_state
theorem mf_fact {q : List Int} (h : isPermB q = true) : (mfB q == hpB q [3, 1, 2]) = false := by
  obtain ⟨h8, hq⟩ := isP_8 h
  have h1 := mv_312 hq
  have e : isPermB [3, 1, 2] = true := by decide
  rw [mfB, hpB, h, e]
  cases hm : mvF q [] 0 with
  | none => rw [h1.1 hm]; rfl
  | some t =>
    have : hasB q [3, 1, 2] = false := by rw [Bool.eq_false_iff]; intro g; rw [h1.2 g] at hm; cases hm
    rw [this]; rfl
theorem sr_fact {q : List Int} (h : isPermB q = true) : (srB q == hpB q [2, 3, 1]) = false := by
  obtain ⟨h8, hq⟩ := isP_8 h
  have h1 := sr_231 hq
  have e : isPermB [2, 3, 1] = true := by decide
  rw [srB, hpB, h, e]
  cases hm : (srF q [] 1).2 with
  | nil =>
    have : hasB q [2, 3, 1] = false := by rw [Bool.eq_false_iff]; intro g; exact h1.2 g hm
    rw [this]; rfl
  | cons x l =>
    rw [h1.1 (by rw [hm]; simp)]; rfl
theorem mf_run {q : List Int} (h : mfB q = true) : movesOk (mfT q) = true ∧ runOut (mfT q) = q := by
  rw [mfB, Bool.and_eq_true, Option.isSome_iff_exists] at h
  obtain ⟨hp, t, ht⟩ := h
  have e : mfT q = t := by rw [mfT, if_pos hp, ht]; rfl
  rw [e, ← runOk_eq]
  exact mv_out hp ht
theorem sr_run2 {q : List Int} (h : srB q = true) : isPermB q = true ∧ movesOk (srT q) = true ∧ runOut (srT q) = inv q := by
  have h' := h
  rw [srB, Bool.and_eq_true, List.isEmpty_iff] at h'
  have e : srT q = (srF q [] 1).1 := if_pos h
  rw [e, ← runOk_eq]
  exact ⟨h'.1, sr_out h'.1 h'.2⟩
theorem run_mf {t : List UInt8} (h : movesOk t = true) : mfB (runOut t) = true ∧ mfT (runOut t) = t := by
  obtain ⟨h1, h2⟩ := run_back (t := t) (by rw [runOk_eq]; exact h)
  rw [mfB, mfT, h1, h2]; exact ⟨rfl, rfl⟩
theorem mfT_len {q : List Int} : (mfT q).length ≤ 16 := by
  unfold mfT
  split
  · rename_i h
    obtain ⟨h8, hq⟩ := isP_8 h
    cases hm : mvF q [] 0 with
    | none => simp
    | some t => have := mv_len hq hm; show t.length ≤ 16; omega
  · simp
theorem strself {a : List UInt8} : decide (a = a) = true := by simp
theorem dsI {a : List Int} : decide (a = a) = true := by simp
theorem bsB {a : Bool} : (a == a) = true := by simp
theorem isI {a : Int} : decide (a = a) = true := by simp
set_option maxHeartbeats 8000000 in
theorem laws_FnMoves_c (b : List UInt8) : Fun Try.prog 6 [(.sl (.lent false) (List.map u8P (b)))] [(.bool (true))] := by
  by_cases hs : b.length ≤ 1048576
  · obtain ⟨t, d1, ht⟩ := spec_DrawRunMoves_x b hs
    obtain ⟨q, d2, hq⟩ := spec_DrawMovesFor_x b hs
    obtain ⟨r, d3, hr⟩ := spec_DrawSortingMoves_x b hs
    have q1 := hq.len
    have r1 := hr.len
    have b1 := mfT_len (q := q)
    have b2 := srT_len (p := r)
    have b3 : (if movesOk t = true then runOut t else []).length ≤ 8 := by
      split
      · rename_i h; exact (isP_8 (runOut_sm h)).1
      · simp
    have b4 : (if isPermB r = true then inv r else []).length ≤ 9 := by
      split
      · rw [inv_len]; omega
      · simp
    have f1 : isPermB q = true → (mfB q == hpB q [3, 1, 2]) = false := fun h => mf_fact h
    have f2 : isPermB r = true → (srB r == hpB r [2, 3, 1]) = false := fun h => sr_fact h
    have f3 : mfB q = true → movesOk (mfT q) = true := fun h => (mf_run h).1
    have f4 : mfB q = true → runOut (mfT q) = q := fun h => (mf_run h).2
    have f5 : srB r = true → isPermB r = true := fun h => (sr_run2 h).1
    have f6 : srB r = true → movesOk (srT r) = true := fun h => (sr_run2 h).2.1
    have f7 : srB r = true → runOut (srT r) = inv r := fun h => (sr_run2 h).2.2
    have f8 : movesOk t = true → mfB (runOut t) = true := fun h => (run_mf h).1
    have f9 : movesOk t = true → mfT (runOut t) = t := fun h => (run_mf h).2
    have fA : movesOk t = true → mfB (if movesOk t = true then runOut t else []) = true := fun h => by rw [if_pos h]; exact f8 h
    have fB : movesOk t = true → mfT (if movesOk t = true then runOut t else []) = t := fun h => by rw [if_pos h]; exact f9 h
    have c1 : ∀ m0 m1 : Bool, q.length ≤ 1048576 → Fun Try.prog 40 [.sl (.lent m0) (List.map (PV.int .i64) q), .sl (.lent m1) [.int .i64 3, .int .i64 1, .int .i64 2]] [.bool (hpB q [3, 1, 2])] := fun m0 m1 h => spec_HasPattern_c (m0 := m0) (m1 := m1) q [3, 1, 2] h (by decide)
    have c2 : ∀ m0 m1 : Bool, r.length ≤ 1048576 → Fun Try.prog 40 [.sl (.lent m0) (List.map (PV.int .i64) r), .sl (.lent m1) [.int .i64 2, .int .i64 3, .int .i64 1]] [.bool (hpB r [2, 3, 1])] := fun m0 m1 h => spec_HasPattern_c (m0 := m0) (m1 := m1) r [2, 3, 1] h (by decide)
    refine Fun.of (sg := sg0) (ts := [2]) mo Try.func6 rfl rfl rfl rfl (by kernel_rfl) (by simp only [go_sem]) rfl ?_
    have fc : True := trivial
    repeat' first
      | with_reducible first | refine stp ?_ | refine q_blk_o rfl ?_ | (refine hK _ ?_; clear hK) | (refine hA ?_; clear hA hB) | (refine hB ?_; clear hA hB) | exact v_end0 | exact v_end0' | refine v_gb1 ?_ ?_ | refine v_gb0 ?_ ?_ | refine And.intro ?_ ?_
      | (with_reducible refine p_ok ?_; decide)
      | ((first | with_reducible first | refine v_region rfl rfl (fun K hK => ?_) | refine v_draws rfl rfl (fun K hK => ?_) | refine v_if (fun A B hA hB => ?_) | refine v_end rfl ?_ | refine v_fin1 ?_ | refine v_finC1 ?_ | refine v_finR1 ?_ | refine v_callE (d1) ?_ | refine v_callE (d2) ?_ | refine v_callE (d3) ?_ | refine v_callE (laws_big_c _) ?_ | refine v_callE (spec_RunMoves_c _) ?_ | refine v_callE (spec_AreMoves_c _) ?_ | refine v_callE (spec_GreatestStack_c _) ?_ | refine v_callE (c1 _ _ ?_) ?_ | refine v_callE (c2 _ _ ?_) ?_ | refine v_callE (impl_RunMoves_c _ ?_) ?_ | refine v_callE (impl_MovesFor_c _ ?_) ?_ | refine v_callE (spec_MovesFor_c _ ?_) ?_ | refine v_callE (impl_SortingMoves_c _ ?_) ?_ | refine v_callE (spec_SortingMoves_c _ ?_) ?_ | refine v_callE (laws_sameInts_c _ _ ?_ ?_) ?_ | refine v_callE (impl_AreMoves_c _ ?_) ?_ | refine v_callE (impl_GreatestStack_c _ ?_) ?_ | refine v_callE (spec_IsPerm_c _ ?_) ?_ | refine v_callE (spec_InversePerm_c _ ?_) ?_ | refine v_finO1 rfl ?_ | refine v_finN1 rfl ?_ ?_ | refine v_apj ?_ (fun j' => ?_) | refine v_stz ?_ ?_ ?_ ?_ ?_ | refine v_stq ?_ | refine v_cv1 ?_ ?_ ?_ | (intro hc; replace fc := And.intro hc fc; try simp only [hcs] at hc)) <;> (try simp (config := { maxSteps := 1000000 }) only [go_sem, ↓reduceIte, reduceCtorEq, Nat.reduceEqDiff, Nat.reduceAdd, Nat.reduceMul, Nat.reduceSub, Nat.reduceLeDiff, Int.reduceLT, Int.reduceLE, Int.reduceEq, Int.reduceSub, Int.reduceAdd, Int.reduceMul, Int.reduceNeg, Int.reduceToNat, dsI, isI, bsB, strself, f1, f2, f3, f4, f5, f6, f7, f8, f9, fA, fB, fc]) <;> (try with_reducible rfl))
    all_goals try (first | omega | (simp only [n_i64, n_u8]; omega) | (simp only [n_i64, n_u8, lnA]; omega) | (simp only [lnA]; done) | exact List.take_of_length_le (by simp))
    all_goals first | (rw [inv_len]; omega) | exact decide_eq_true (fB ‹movesOk t = true›) | (have g := fA ‹movesOk t = true›; rw [g] at hc; cases hc) | (have g := fA ‹movesOk t = true›; rw [hc] at g; cases g) | trace_state
  · refine Fun.of (sg := sg0) (ts := [2]) mo Try.func6 rfl rfl rfl rfl (by kernel_rfl) (by simp only [go_sem]) rfl ?_
    have c1 : decide ((1048576 : Int) < b.length) = true := decide_eq_true (by omega)
    have fc : True := trivial
    repeat' first
      | with_reducible first | refine stp ?_ | refine q_blk_o rfl ?_ | (refine hK _ ?_; clear hK) | (refine hA ?_; clear hA hB) | (refine hB ?_; clear hA hB) | exact v_end0 | exact v_end0' | refine v_gb1 ?_ ?_ | refine v_gb0 ?_ ?_ | refine And.intro ?_ ?_
      | (with_reducible refine p_ok ?_; decide)
      | ((first | with_reducible first | refine v_region rfl rfl (fun K hK => ?_) | refine v_draws rfl rfl (fun K hK => ?_) | refine v_if (fun A B hA hB => ?_) | refine v_end rfl ?_ | refine v_fin1 ?_ | refine v_finC1 ?_ | refine v_finR1 ?_ | refine v_callE (laws_big_c _) ?_ | refine v_callE (spec_RunMoves_c _) ?_ | refine v_callE (spec_AreMoves_c _) ?_ | refine v_callE (spec_GreatestStack_c _) ?_ | refine v_callE (impl_RunMoves_c _ ?_) ?_ | refine v_callE (impl_MovesFor_c _ ?_) ?_ | refine v_callE (spec_MovesFor_c _ ?_) ?_ | refine v_callE (impl_SortingMoves_c _ ?_) ?_ | refine v_callE (spec_SortingMoves_c _ ?_) ?_ | refine v_callE (laws_sameInts_c _ _ ?_ ?_) ?_ | refine v_callE (impl_AreMoves_c _ ?_) ?_ | refine v_callE (impl_GreatestStack_c _ ?_) ?_ | refine v_callE (spec_IsPerm_c _ ?_) ?_ | refine v_callE (spec_HasPattern_c _ _ ?_ ?_) ?_ | refine v_callE (spec_InversePerm_c _ ?_) ?_ | refine v_finO1 rfl ?_ | refine v_finN1 rfl ?_ ?_ | refine v_apj ?_ (fun j' => ?_) | refine v_stz ?_ ?_ ?_ ?_ ?_ | refine v_stq ?_ | refine v_cv1 ?_ ?_ ?_ | (intro hc; replace fc := And.intro hc fc; try simp only [hcs] at hc)) <;> (try simp (config := { maxSteps := 1000000 }) only [go_sem, ↓reduceIte, reduceCtorEq, Nat.reduceEqDiff, Nat.reduceAdd, Nat.reduceMul, Nat.reduceSub, Nat.reduceLeDiff, Int.reduceLT, Int.reduceLE, Int.reduceEq, Int.reduceSub, Int.reduceAdd, Int.reduceMul, Int.reduceNeg, Int.reduceToNat, c1, fc]) <;> (try with_reducible rfl))
end Go.Gl
