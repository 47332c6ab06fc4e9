/-
  Codes and ranks: what their functions compute. Conditions: none.
-/
import Derived.Test.YtnoedblfedppkaaPerm
import Derived.Test.YtnoedblfedppkaaFact
set_option linter.unusedSimpArgs false
set_option linter.unusedVariables false
set_option maxRecDepth 20000
set_option linter.unusedSectionVars false
namespace Go.Gl
open Go Go.Proofs
variable [Amb]
def cntLt (v : Int) : List Int → Int
  | [] => 0
  | w :: p => bitI (decide (w < v)) + cntLt v p
def codeGo : List Int → List Int
  | [] => []
  | v :: p => cntLt v p :: codeGo p
theorem codeGo_length : ∀ p : List Int, (codeGo p).length = p.length
  | [] => rfl
  | _ :: p => by simp [codeGo, codeGo_length p]
theorem cntLt_le (v : Int) : ∀ p : List Int, 0 ≤ cntLt v p ∧ cntLt v p ≤ p.length
  | [] => by simp [cntLt]
  | w :: p => by
    have := cntLt_le v p; have := bitI_r (decide (w < v))
    simp only [cntLt, List.length_cons]; omega
theorem codeGo_at : ∀ (p : List Int) (k : Nat), 0 ≤ (codeGo p).getD k 0 ∧ (codeGo p).getD k 0 ≤ p.length
  | [], k => by simp [codeGo]
  | v :: p, 0 => by have := cntLt_le v p; simp only [codeGo, List.getD_cons_zero, List.length_cons]; omega
  | v :: p, k + 1 => by have := codeGo_at p k; simp only [codeGo, List.getD_cons_succ, List.length_cons]; omega
def rankGo : List Int → Int
  | [] => 0
  | c :: cs => c * facN cs.length + rankGo cs
theorem spec_CodeOf_c {m0 : Bool} (p : List Int) (hl : p.length ≤ 1048576) : Fun Try.prog 74 [(.sl (.lent m0) (List.map (PV.int .i64) (p)))] [(.sl .own (List.map (PV.int .i64) ((if isPermB p then codeGo p else []))))] := by
  refine Fun.of (sg := sg0) (ts := [2]) mo Try.func74 rfl rfl rfl rfl (by kernel_rfl) (by simp only [go_sem]) rfl ?_
  have fc : True := trivial
  repeat' first
    | with_reducible first | refine stp ?_ | refine q_blk_o rfl ?_ | (refine hK _ ?_; clear hK) | (refine hA ?_; clear hA hB) | (refine hB ?_; clear hA hB) | exact v_end0 | exact v_end0' | refine v_gb1 ?_ ?_ | refine v_gb0 ?_ ?_ | refine And.intro ?_ ?_
    | (with_reducible refine hK _ _ ?_ ?_; focus (first | exact clearAll_quiet rfl | (refine clearAll_of [false, false, false, false, false, false, false, false, false, false, true, false, false] [(0, 10)] rfl (by decide +kernel) ?_; try simp only [go_sem, ↓reduceIte, reduceCtorEq, Nat.reduceEqDiff, Nat.reduceAdd, Nat.reduceMul, Nat.reduceSub, Nat.reduceLeDiff, Int.reduceLT, Int.reduceLE, Int.reduceEq, Int.reduceSub, Int.reduceAdd, Int.reduceMul, Int.reduceNeg, Int.reduceToNat])); all_goals (try clear hK))
    | (with_reducible refine p_ok ?_; decide)
    | ((first | with_reducible first | refine v_region rfl rfl (fun K hK => ?_) | refine v_draws rfl rfl (fun K hK => ?_) | refine v_if (fun A B hA hB => ?_) | refine v_end rfl ?_ | refine v_fin1 ?_ | refine v_finC1 ?_ | refine v_finR1 ?_ | refine v_callE (spec_l1Bit_c _) ?_ | refine v_callE (spec_IsPerm_c _ ?_) ?_ | refine v_finO1 rfl ?_ | refine v_finN1 rfl ?_ ?_ | refine v_apj ?_ (fun j' => ?_) | refine v_stz ?_ ?_ ?_ ?_ ?_ | refine v_stq ?_ | refine v_cv1 ?_ ?_ ?_ | (intro hc; replace fc := And.intro hc fc; try simp only [hcs] at hc)) <;> (try simp (config := { maxSteps := 1000000 }) only [go_sem, ↓reduceIte, reduceCtorEq, Nat.reduceEqDiff, Nat.reduceAdd, Nat.reduceMul, Nat.reduceSub, Nat.reduceLeDiff, Int.reduceLT, Int.reduceLE, Int.reduceEq, Int.reduceSub, Int.reduceAdd, Int.reduceMul, Int.reduceNeg, Int.reduceToNat, fc]) <;> (try with_reducible rfl))
  refine v_loop (fun ms1 S1 => ∃ (k : Nat) (out : List Int), S1.e 0 = .p (.sl (.lent m0) (List.map (PV.int .i64) (p))) ∧ OwnL (S1.e 3) S1.h S1.n (PV.int .i64) ((out).length) (out) ∧ S1.e 4 = .p (.int .i64 (k)) ∧ (k ≤ p.length) ∧ (0 < k → isPermB p = true) ∧ (codeGo p = out ++ codeGo (p.drop k)) ∧ (out.length = k) ∧ ms1 = p.length - k) ((fun (k : Nat) (out : List Int) => p.length - k) (0) ([])) ?init1_0 ?body1_0
  case' init1_0 =>
    refine ⟨0, [], ?_, ?_, ?_, ?_, ?_, ?_, ?_, rfl⟩
    all_goals (try simp only [go_sem, ↓reduceIte, reduceCtorEq, Nat.reduceEqDiff, Nat.reduceAdd, Nat.reduceMul, Nat.reduceSub, Nat.reduceLeDiff, Int.reduceLT, Int.reduceLE, Int.reduceEq, Int.reduceSub, Int.reduceAdd, Int.reduceMul, Int.reduceNeg, Int.reduceToNat])
    repeat' refine And.intro ?_ ?_
    all_goals try first | rfl | omega | (simp only [lnA] <;> omega) | ((first | refine stp ?_ | refine dkz_eq ?_ ?_) <;> first | rfl | omega | (simp only [lnA] <;> omega) | (simp only [lnA, List.append_assoc, List.cons_append, List.nil_append]; done) | skip)
  case' body1_0 =>
    rintro ms1 S1 ⟨k, out, h1_0, o1_3, h1_4, c1_0, c1_1, c1_2, c1_3, hm1⟩
    obtain ⟨i1_3, h1_3, b1_3, l1_3⟩ := o1_3.out
    have ni1_3 : ∀ c, (i1_3 = S1.n + c) = False := fun c => eq_false (by omega)
    have pi1_3 : ∀ c, (S1.n + c = i1_3) = False := fun c => eq_false (by omega)
    have qi1_3 : (i1_3 = S1.n) = False := eq_false (by omega)
    have ri1_3 : (S1.n = i1_3) = False := eq_false (by omega)
  have fc : True := trivial
  repeat' first
    | with_reducible first | refine stp ?_ | refine q_blk_o rfl ?_ | (refine hK _ ?_; clear hK) | (refine hA ?_; clear hA hB) | (refine hB ?_; clear hA hB) | exact v_end0 | exact v_end0' | refine v_gb1 ?_ ?_ | refine v_gb0 ?_ ?_ | refine And.intro ?_ ?_
    | (with_reducible refine hK _ _ ?_ ?_; focus (first | exact clearAll_quiet rfl | (refine clearAll_of [false, false, false, false, false, false, false, false, false, false, true, false, false] [(0, 10)] rfl (by decide +kernel) ?_; try simp only [go_sem, ↓reduceIte, reduceCtorEq, Nat.reduceEqDiff, Nat.reduceAdd, Nat.reduceMul, Nat.reduceSub, Nat.reduceLeDiff, Int.reduceLT, Int.reduceLE, Int.reduceEq, Int.reduceSub, Int.reduceAdd, Int.reduceMul, Int.reduceNeg, Int.reduceToNat, h1_0, h1_4, h1_3, b1_3, ni1_3, pi1_3, qi1_3, ri1_3])); all_goals (try clear hK))
    | (with_reducible refine p_ok ?_; decide)
    | ((first | with_reducible first | refine v_region rfl rfl (fun K hK => ?_) | refine v_draws rfl rfl (fun K hK => ?_) | refine v_if (fun A B hA hB => ?_) | refine v_end rfl ?_ | refine v_fin1 ?_ | refine v_finC1 ?_ | refine v_finR1 ?_ | refine v_callE (spec_l1Bit_c _) ?_ | refine v_callE (spec_IsPerm_c _ ?_) ?_ | refine v_finO1 rfl ?_ | refine v_finN1 rfl ?_ ?_ | refine v_apj ?_ (fun j' => ?_) | refine v_stz ?_ ?_ ?_ ?_ ?_ | refine v_stq ?_ | refine v_cv1 ?_ ?_ ?_ | (intro hc; replace fc := And.intro hc fc; try simp only [hcs] at hc)) <;> (try simp (config := { maxSteps := 1000000 }) only [go_sem, ↓reduceIte, reduceCtorEq, Nat.reduceEqDiff, Nat.reduceAdd, Nat.reduceMul, Nat.reduceSub, Nat.reduceLeDiff, Int.reduceLT, Int.reduceLE, Int.reduceEq, Int.reduceSub, Int.reduceAdd, Int.reduceMul, Int.reduceNeg, Int.reduceToNat, h1_0, h1_4, h1_3, b1_3, ni1_3, pi1_3, qi1_3, ri1_3, fc]) <;> (try with_reducible rfl))
  all_goals try (first | omega | (simp only [n_i64, n_u8]; omega) | (simp only [n_i64, n_u8, lnA]; omega) | (simp only [lnA]; done))
  · refine v_loop (fun ms2 S2 => ∃ (i : Nat) (n : Int), S2.e 0 = .p (.sl (.lent m0) (List.map (PV.int .i64) (p))) ∧ S2.e 3 = .ref i1_3 0 (out).length ∧ S2.h i1_3 = .live false (List.map (PV.int .i64) (out)) ∧ S2.e 4 = .p (.int .i64 (k)) ∧ S2.e 5 = .p (.int .i64 (n)) ∧ S2.e 6 = .p (.int .i64 (i)) ∧ (k < i) ∧ (i ≤ p.length) ∧ (0 ≤ n) ∧ (n ≤ i) ∧ (n + cntLt (p.getD k 0) (p.drop i) = cntLt (p.getD k 0) (p.drop (k + 1))) ∧ S1.n ≤ S2.n ∧ ms2 = p.length - i) ((fun (i : Nat) (n : Int) => p.length - i) (k+1) (0)) ?init2_1 ?body2_1
    case' init2_1 =>
      refine ⟨k+1, 0, ?_, ?_, ?_, ?_, ?_, ?_, ?_, ?_, ?_, ?_, ?_, ?_, rfl⟩
      all_goals (try simp only [go_sem, ↓reduceIte, reduceCtorEq, Nat.reduceEqDiff, Nat.reduceAdd, Nat.reduceMul, Nat.reduceSub, Nat.reduceLeDiff, Int.reduceLT, Int.reduceLE, Int.reduceEq, Int.reduceSub, Int.reduceAdd, Int.reduceMul, Int.reduceNeg, Int.reduceToNat, h1_0, h1_4, h1_3, b1_3, ni1_3, pi1_3, qi1_3, ri1_3])
      repeat' refine And.intro ?_ ?_
      all_goals try first | rfl | omega | (simp only [lnA] <;> omega) | ((first | refine stp ?_ | refine dkz_eq ?_ ?_) <;> first | rfl | omega | (simp only [lnA] <;> omega) | (simp only [lnA, List.append_assoc, List.cons_append, List.nil_append]; done) | skip)
    case' body2_1 =>
      rintro ms2 S2 ⟨i, n, h2_0, h2_3, b2_3, h2_4, h2_5, h2_6, c2_0, c2_1, c2_2, c2_3, c2_4, u2_0, hm2⟩
      have ni1_3 : ∀ c, (i1_3 = S2.n + c) = False := fun c => eq_false (by omega)
      have pi1_3 : ∀ c, (S2.n + c = i1_3) = False := fun c => eq_false (by omega)
      have qi1_3 : (i1_3 = S2.n) = False := eq_false (by omega)
      have ri1_3 : (S2.n = i1_3) = False := eq_false (by omega)
    have fc : True := trivial
    repeat' first
      | with_reducible first | refine stp ?_ | refine q_blk_o rfl ?_ | (refine hK _ ?_; clear hK) | (refine hA ?_; clear hA hB) | (refine hB ?_; clear hA hB) | exact v_end0 | exact v_end0' | refine v_gb1 ?_ ?_ | refine v_gb0 ?_ ?_ | refine And.intro ?_ ?_
      | (with_reducible refine hK _ _ ?_ ?_; focus (first | exact clearAll_quiet rfl | (refine clearAll_of [false, false, false, false, false, false, false, false, false, false, true, false, false] [(0, 10)] rfl (by decide +kernel) ?_; try simp only [go_sem, ↓reduceIte, reduceCtorEq, Nat.reduceEqDiff, Nat.reduceAdd, Nat.reduceMul, Nat.reduceSub, Nat.reduceLeDiff, Int.reduceLT, Int.reduceLE, Int.reduceEq, Int.reduceSub, Int.reduceAdd, Int.reduceMul, Int.reduceNeg, Int.reduceToNat, h2_0, h2_3, b2_3, h2_4, h2_5, h2_6, ni1_3, pi1_3, qi1_3, ri1_3])); all_goals (try clear hK))
      | (with_reducible refine p_ok ?_; decide)
      | ((first | with_reducible first | refine v_region rfl rfl (fun K hK => ?_) | refine v_draws rfl rfl (fun K hK => ?_) | refine v_if (fun A B hA hB => ?_) | refine v_end rfl ?_ | refine v_fin1 ?_ | refine v_finC1 ?_ | refine v_finR1 ?_ | refine v_callE (spec_l1Bit_c _) ?_ | refine v_callE (spec_IsPerm_c _ ?_) ?_ | refine v_finO1 rfl ?_ | refine v_finN1 rfl ?_ ?_ | refine v_apj ?_ (fun j' => ?_) | refine v_stz ?_ ?_ ?_ ?_ ?_ | refine v_stq ?_ | refine v_cv1 ?_ ?_ ?_ | (intro hc; replace fc := And.intro hc fc; try simp only [hcs] at hc)) <;> (try simp (config := { maxSteps := 1000000 }) only [go_sem, ↓reduceIte, reduceCtorEq, Nat.reduceEqDiff, Nat.reduceAdd, Nat.reduceMul, Nat.reduceSub, Nat.reduceLeDiff, Int.reduceLT, Int.reduceLE, Int.reduceEq, Int.reduceSub, Int.reduceAdd, Int.reduceMul, Int.reduceNeg, Int.reduceToNat, h2_0, h2_3, b2_3, h2_4, h2_5, h2_6, ni1_3, pi1_3, qi1_3, ri1_3, fc]) <;> (try with_reducible rfl))
    all_goals have hb := bitI_r (decide (p.getD i 0 < p.getD k 0))
    all_goals try (first | omega | (simp only [n_i64, n_u8]; omega) | (simp only [n_i64, n_u8, lnA]; omega) | (simp only [lnA]; done))
    · focus
        refine q_lp_n ((fun (i : Nat) (n : Int) => p.length - i) (i+1) (n + bitI (decide (p.getD i 0 < p.getD k 0)))) ?_ ⟨i+1, n + bitI (decide (p.getD i 0 < p.getD k 0)), ?_, ?_, ?_, ?_, ?_, ?_, ?_, ?_, ?_, ?_, ?_, ?_, rfl⟩
        all_goals (try simp only [go_sem, ↓reduceIte, reduceCtorEq, Nat.reduceEqDiff, Nat.reduceAdd, Nat.reduceMul, Nat.reduceSub, Nat.reduceLeDiff, Int.reduceLT, Int.reduceLE, Int.reduceEq, Int.reduceSub, Int.reduceAdd, Int.reduceMul, Int.reduceNeg, Int.reduceToNat, h2_0, h2_3, b2_3, h2_4, h2_5, h2_6, ni1_3, pi1_3, qi1_3, ri1_3])
        repeat' refine And.intro ?_ ?_
        all_goals try first | rfl | omega | (simp only [lnA] <;> omega) | ((first | refine stp ?_ | refine dkz_eq ?_ ?_) <;> first | rfl | omega | (simp only [lnA] <;> omega) | (simp only [lnA, List.append_assoc, List.cons_append, List.nil_append]; done) | skip)
      rw [← c2_4, dropI_at hc, cntLt, Int.add_assoc]
    · focus
        refine q_lp_n ((fun (k : Nat) (out : List Int) => p.length - k) (k+1) (out ++ [n])) ?_ ⟨k+1, out ++ [n], ?_, ?_, ?_, ?_, ?_, ?_, ?_, rfl⟩
        all_goals (try simp only [go_sem, ↓reduceIte, reduceCtorEq, Nat.reduceEqDiff, Nat.reduceAdd, Nat.reduceMul, Nat.reduceSub, Nat.reduceLeDiff, Int.reduceLT, Int.reduceLE, Int.reduceEq, Int.reduceSub, Int.reduceAdd, Int.reduceMul, Int.reduceNeg, Int.reduceToNat, h2_0, h2_3, b2_3, h2_4, h2_5, h2_6, ni1_3, pi1_3, qi1_3, ri1_3])
        repeat' refine And.intro ?_ ?_
        all_goals try first | rfl | omega | (simp only [lnA] <;> omega) | ((first | refine stp ?_ | refine dkz_eq ?_ ?_) <;> first | rfl | omega | (simp only [lnA] <;> omega) | (simp only [lnA, List.append_assoc, List.cons_append, List.nil_append]; done) | skip)
      · intro _; assumption
      · rw [c1_2, dropI_at (by omega), codeGo, ← c2_4, List.drop_of_length_le (by omega : p.length ≤ i), cntLt, Int.add_zero]
  · have : k = 0 := by
      rcases Nat.eq_zero_or_pos k with h | h
      · exact h
      · rw [c1_1 h] at hc; cases hc
    rw [List.eq_nil_of_length_eq_zero (by omega : out.length = 0)]; simp [hc]
  · have hp : isPermB p = true := by
      rcases Nat.eq_zero_or_pos k with h | h
      · rw [List.eq_nil_of_length_eq_zero (by omega : p.length = 0)]; rfl
      · exact c1_1 h
    rw [if_pos hp, c1_2, List.drop_of_length_le (by omega), codeGo, List.append_nil]
theorem impl_code_c {m0 : Bool} (p : List Int) (hl : p.length ≤ 1048576) : Fun Try.prog 157 [(.sl (.lent m0) (List.map (PV.int .i64) (p)))] [(.sl .own (List.map (PV.int .i64) (codeGo p)))] := by
  refine Fun.of (sg := sg0) (ts := [2]) mo Try.func157 rfl rfl rfl rfl (by kernel_rfl) (by simp only [go_sem]) rfl ?_
  have fc : True := trivial
  repeat' first
    | with_reducible first | refine stp ?_ | refine q_blk_o rfl ?_ | (refine hK _ ?_; clear hK) | (refine hA ?_; clear hA hB) | (refine hB ?_; clear hA hB) | exact v_end0 | exact v_end0' | refine v_gb1 ?_ ?_ | refine v_gb0 ?_ ?_ | refine And.intro ?_ ?_
    | (with_reducible refine p_ok ?_; decide)
    | ((first | with_reducible first | refine v_region rfl rfl (fun K hK => ?_) | refine v_draws rfl rfl (fun K hK => ?_) | refine v_if (fun A B hA hB => ?_) | refine v_end rfl ?_ | refine v_fin1 ?_ | refine v_finC1 ?_ | refine v_finR1 ?_ | refine v_finO1 rfl ?_ | refine v_finN1 rfl ?_ ?_ | refine v_apj ?_ (fun j' => ?_) | refine v_stz ?_ ?_ ?_ ?_ ?_ | refine v_stq ?_ | refine v_cv1 ?_ ?_ ?_ | (intro hc; replace fc := And.intro hc fc; try simp only [hcs] at hc)) <;> (try simp (config := { maxSteps := 1000000 }) only [go_sem, ↓reduceIte, reduceCtorEq, Nat.reduceEqDiff, Nat.reduceAdd, Nat.reduceMul, Nat.reduceSub, Nat.reduceLeDiff, Int.reduceLT, Int.reduceLE, Int.reduceEq, Int.reduceSub, Int.reduceAdd, Int.reduceMul, Int.reduceNeg, Int.reduceToNat, fc]) <;> (try with_reducible rfl))
  all_goals try (first | omega | (simp only [n_i64, n_u8]; omega) | (simp only [n_i64, n_u8, lnA]; omega) | (simp only [lnA]; done))
  refine v_loop (fun ms1 S1 => ∃ (k : Nat) (out : List Int), S1.e 0 = .p (.sl (.lent m0) (List.map (PV.int .i64) (p))) ∧ S1.e 10 = .p (.sl (.lent m0) (List.map (PV.int .i64) (p))) ∧ S1.e 11 = .p (.int .i64 (p.length)) ∧ OwnL (S1.e 3) S1.h S1.n (PV.int .i64) ((out).length) (out) ∧ S1.e 12 = .p (.int .i64 (k)) ∧ (k ≤ p.length) ∧ (codeGo p = out ++ codeGo (p.drop k)) ∧ (out.length = k) ∧ ms1 = p.length - k) ((fun (k : Nat) (out : List Int) => p.length - k) (0) ([])) ?init1_2 ?body1_2
  case' init1_2 =>
    refine ⟨0, [], ?_, ?_, ?_, ?_, ?_, ?_, ?_, ?_, rfl⟩
    all_goals (try simp only [go_sem, ↓reduceIte, reduceCtorEq, Nat.reduceEqDiff, Nat.reduceAdd, Nat.reduceMul, Nat.reduceSub, Nat.reduceLeDiff, Int.reduceLT, Int.reduceLE, Int.reduceEq, Int.reduceSub, Int.reduceAdd, Int.reduceMul, Int.reduceNeg, Int.reduceToNat])
    repeat' refine And.intro ?_ ?_
    all_goals try first | rfl | omega | (simp only [lnA] <;> omega) | ((first | refine stp ?_ | refine dkz_eq ?_ ?_) <;> first | rfl | omega | (simp only [lnA] <;> omega) | (simp only [lnA, List.append_assoc, List.cons_append, List.nil_append]; done) | skip)
  case' body1_2 =>
    rintro ms1 S1 ⟨k, out, h1_0, h1_10, h1_11, o1_3, h1_12, c1_0, c1_1, c1_2, hm1⟩
    obtain ⟨i1_3, h1_3, b1_3, l1_3⟩ := o1_3.out
    have ni1_3 : ∀ c, (i1_3 = S1.n + c) = False := fun c => eq_false (by omega)
    have pi1_3 : ∀ c, (S1.n + c = i1_3) = False := fun c => eq_false (by omega)
    have qi1_3 : (i1_3 = S1.n) = False := eq_false (by omega)
    have ri1_3 : (S1.n = i1_3) = False := eq_false (by omega)
  have fc : True := trivial
  repeat' first
    | with_reducible first | refine stp ?_ | refine q_blk_o rfl ?_ | (refine hK _ ?_; clear hK) | (refine hA ?_; clear hA hB) | (refine hB ?_; clear hA hB) | exact v_end0 | exact v_end0' | refine v_gb1 ?_ ?_ | refine v_gb0 ?_ ?_ | refine And.intro ?_ ?_
    | (with_reducible refine p_ok ?_; decide)
    | ((first | with_reducible first | refine v_region rfl rfl (fun K hK => ?_) | refine v_draws rfl rfl (fun K hK => ?_) | refine v_if (fun A B hA hB => ?_) | refine v_end rfl ?_ | refine v_fin1 ?_ | refine v_finC1 ?_ | refine v_finR1 ?_ | refine v_finO1 rfl ?_ | refine v_finN1 rfl ?_ ?_ | refine v_apj ?_ (fun j' => ?_) | refine v_stz ?_ ?_ ?_ ?_ ?_ | refine v_stq ?_ | refine v_cv1 ?_ ?_ ?_ | (intro hc; replace fc := And.intro hc fc; try simp only [hcs] at hc)) <;> (try simp (config := { maxSteps := 1000000 }) only [go_sem, ↓reduceIte, reduceCtorEq, Nat.reduceEqDiff, Nat.reduceAdd, Nat.reduceMul, Nat.reduceSub, Nat.reduceLeDiff, Int.reduceLT, Int.reduceLE, Int.reduceEq, Int.reduceSub, Int.reduceAdd, Int.reduceMul, Int.reduceNeg, Int.reduceToNat, h1_0, h1_10, h1_11, h1_12, h1_3, b1_3, ni1_3, pi1_3, qi1_3, ri1_3, fc]) <;> (try with_reducible rfl))
  all_goals try (first | omega | (simp only [n_i64, n_u8]; omega) | (simp only [n_i64, n_u8, lnA]; omega) | (simp only [lnA]; done))
  · refine v_loop (fun ms2 S2 => ∃ (i : Nat) (n : Int), S2.e 0 = .p (.sl (.lent m0) (List.map (PV.int .i64) (p))) ∧ S2.e 10 = .p (.sl (.lent m0) (List.map (PV.int .i64) (p))) ∧ S2.e 11 = .p (.int .i64 (p.length)) ∧ S2.e 3 = .ref i1_3 0 (out).length ∧ S2.h i1_3 = .live false (List.map (PV.int .i64) (out)) ∧ S2.e 12 = .p (.int .i64 (k)) ∧ S2.e 5 = .p (.int .i64 (p.getD k 0)) ∧ S2.e 6 = .p (.int .i64 (n)) ∧ S2.e 20 = .p (.sl (.lent m0) (List.map (PV.int .i64) (p.drop (k+1)))) ∧ S2.e 21 = .p (.int .i64 ((p.drop (k+1)).length)) ∧ S2.e 22 = .p (.int .i64 (i)) ∧ (i ≤ (p.drop (k+1)).length) ∧ (0 ≤ n) ∧ (n ≤ i) ∧ (n + cntLt (p.getD k 0) ((p.drop (k+1)).drop i) = cntLt (p.getD k 0) (p.drop (k + 1))) ∧ S1.n ≤ S2.n ∧ ms2 = (p.drop (k+1)).length - i) ((fun (i : Nat) (n : Int) => (p.drop (k+1)).length - i) (0) (0)) ?init2_3 ?body2_3
    case' init2_3 =>
      refine ⟨0, 0, ?_, ?_, ?_, ?_, ?_, ?_, ?_, ?_, ?_, ?_, ?_, ?_, ?_, ?_, ?_, ?_, rfl⟩
      all_goals (try simp only [go_sem, ↓reduceIte, reduceCtorEq, Nat.reduceEqDiff, Nat.reduceAdd, Nat.reduceMul, Nat.reduceSub, Nat.reduceLeDiff, Int.reduceLT, Int.reduceLE, Int.reduceEq, Int.reduceSub, Int.reduceAdd, Int.reduceMul, Int.reduceNeg, Int.reduceToNat, h1_0, h1_10, h1_11, h1_12, h1_3, b1_3, ni1_3, pi1_3, qi1_3, ri1_3])
      repeat' refine And.intro ?_ ?_
      all_goals try first | rfl | omega | (simp only [lnA] <;> omega) | ((first | refine stp ?_ | refine dkz_eq ?_ ?_) <;> first | rfl | omega | (simp only [lnA] <;> omega) | (simp only [lnA, List.append_assoc, List.cons_append, List.nil_append]; done) | skip)
    case' body2_3 =>
      rintro ms2 S2 ⟨i, n, h2_0, h2_10, h2_11, h2_3, b2_3, h2_12, h2_5, h2_6, h2_20, h2_21, h2_22, c2_0, c2_1, c2_2, c2_3, u2_0, hm2⟩
      have ni1_3 : ∀ c, (i1_3 = S2.n + c) = False := fun c => eq_false (by omega)
      have pi1_3 : ∀ c, (S2.n + c = i1_3) = False := fun c => eq_false (by omega)
      have qi1_3 : (i1_3 = S2.n) = False := eq_false (by omega)
      have ri1_3 : (S2.n = i1_3) = False := eq_false (by omega)
    have fc : True := trivial
    repeat' first
      | with_reducible first | refine stp ?_ | refine q_blk_o rfl ?_ | (refine hK _ ?_; clear hK) | (refine hA ?_; clear hA hB) | (refine hB ?_; clear hA hB) | exact v_end0 | exact v_end0' | refine v_gb1 ?_ ?_ | refine v_gb0 ?_ ?_ | refine And.intro ?_ ?_
      | (with_reducible refine p_ok ?_; decide)
      | ((first | with_reducible first | refine v_region rfl rfl (fun K hK => ?_) | refine v_draws rfl rfl (fun K hK => ?_) | refine v_if (fun A B hA hB => ?_) | refine v_end rfl ?_ | refine v_fin1 ?_ | refine v_finC1 ?_ | refine v_finR1 ?_ | refine v_finO1 rfl ?_ | refine v_finN1 rfl ?_ ?_ | refine v_apj ?_ (fun j' => ?_) | refine v_stz ?_ ?_ ?_ ?_ ?_ | refine v_stq ?_ | refine v_cv1 ?_ ?_ ?_ | (intro hc; replace fc := And.intro hc fc; try simp only [hcs] at hc)) <;> (try simp (config := { maxSteps := 1000000 }) only [go_sem, ↓reduceIte, reduceCtorEq, Nat.reduceEqDiff, Nat.reduceAdd, Nat.reduceMul, Nat.reduceSub, Nat.reduceLeDiff, Int.reduceLT, Int.reduceLE, Int.reduceEq, Int.reduceSub, Int.reduceAdd, Int.reduceMul, Int.reduceNeg, Int.reduceToNat, h2_0, h2_10, h2_11, h2_3, b2_3, h2_12, h2_5, h2_6, h2_20, h2_21, h2_22, ni1_3, pi1_3, qi1_3, ri1_3, fc]) <;> (try with_reducible rfl))
    all_goals have hd : (p.drop (k+1)).length = p.length - (k+1) := by simp
    all_goals try (first | omega | (simp only [n_i64, n_u8]; omega) | (simp only [n_i64, n_u8, lnA]; omega) | (simp only [lnA]; done))
    · focus
        refine q_lp_n ((fun (i : Nat) (n : Int) => (p.drop (k+1)).length - i) (i+1) (n + 1)) ?_ ⟨i+1, n + 1, ?_, ?_, ?_, ?_, ?_, ?_, ?_, ?_, ?_, ?_, ?_, ?_, ?_, ?_, ?_, ?_, rfl⟩
        all_goals (try simp only [go_sem, ↓reduceIte, reduceCtorEq, Nat.reduceEqDiff, Nat.reduceAdd, Nat.reduceMul, Nat.reduceSub, Nat.reduceLeDiff, Int.reduceLT, Int.reduceLE, Int.reduceEq, Int.reduceSub, Int.reduceAdd, Int.reduceMul, Int.reduceNeg, Int.reduceToNat, h2_0, h2_10, h2_11, h2_3, b2_3, h2_12, h2_5, h2_6, h2_20, h2_21, h2_22, ni1_3, pi1_3, qi1_3, ri1_3])
        repeat' refine And.intro ?_ ?_
        all_goals try first | rfl | omega | (simp only [lnA] <;> omega) | ((first | refine stp ?_ | refine dkz_eq ?_ ?_) <;> first | rfl | omega | (simp only [lnA] <;> omega) | (simp only [lnA, List.append_assoc, List.cons_append, List.nil_append]; done) | skip)
      rw [← c2_3, dropI_at (by assumption : i < (p.drop (k+1)).length), cntLt, bitI, decide_eq_true hc, if_pos rfl, Int.add_assoc]
    · focus
        refine q_lp_n ((fun (i : Nat) (n : Int) => (p.drop (k+1)).length - i) (i+1) (n)) ?_ ⟨i+1, n, ?_, ?_, ?_, ?_, ?_, ?_, ?_, ?_, ?_, ?_, ?_, ?_, ?_, ?_, ?_, ?_, rfl⟩
        all_goals (try simp only [go_sem, ↓reduceIte, reduceCtorEq, Nat.reduceEqDiff, Nat.reduceAdd, Nat.reduceMul, Nat.reduceSub, Nat.reduceLeDiff, Int.reduceLT, Int.reduceLE, Int.reduceEq, Int.reduceSub, Int.reduceAdd, Int.reduceMul, Int.reduceNeg, Int.reduceToNat, h2_0, h2_10, h2_11, h2_3, b2_3, h2_12, h2_5, h2_6, h2_20, h2_21, h2_22, ni1_3, pi1_3, qi1_3, ri1_3])
        repeat' refine And.intro ?_ ?_
        all_goals try first | rfl | omega | (simp only [lnA] <;> omega) | ((first | refine stp ?_ | refine dkz_eq ?_ ?_) <;> first | rfl | omega | (simp only [lnA] <;> omega) | (simp only [lnA, List.append_assoc, List.cons_append, List.nil_append]; done) | skip)
      rw [← c2_3, dropI_at (by assumption : i < (p.drop (k+1)).length), cntLt, bitI, decide_eq_false (by omega), if_neg (by decide), Int.zero_add]
    · focus
        refine q_lp_n ((fun (k : Nat) (out : List Int) => p.length - k) (k+1) (out ++ [n])) ?_ ⟨k+1, out ++ [n], ?_, ?_, ?_, ?_, ?_, ?_, ?_, ?_, rfl⟩
        all_goals (try simp only [go_sem, ↓reduceIte, reduceCtorEq, Nat.reduceEqDiff, Nat.reduceAdd, Nat.reduceMul, Nat.reduceSub, Nat.reduceLeDiff, Int.reduceLT, Int.reduceLE, Int.reduceEq, Int.reduceSub, Int.reduceAdd, Int.reduceMul, Int.reduceNeg, Int.reduceToNat, h2_0, h2_10, h2_11, h2_3, b2_3, h2_12, h2_5, h2_6, h2_20, h2_21, h2_22, ni1_3, pi1_3, qi1_3, ri1_3])
        repeat' refine And.intro ?_ ?_
        all_goals try first | rfl | omega | (simp only [lnA] <;> omega) | ((first | refine stp ?_ | refine dkz_eq ?_ ?_) <;> first | rfl | omega | (simp only [lnA] <;> omega) | (simp only [lnA, List.append_assoc, List.cons_append, List.nil_append]; done) | skip)
      rw [c1_1, dropI_at (by omega : k < p.length), codeGo, ← c2_3, List.drop_of_length_le (by omega : (p.drop (k+1)).length ≤ i), cntLt, Int.add_zero]
  · rw [c1_1, List.drop_of_length_le (by omega), codeGo, List.append_nil]
theorem rankGo_nonneg : ∀ {cs : List Int}, (∀ k, 0 ≤ cs.getD k 0) → 0 ≤ rankGo cs
  | [], _ => by simp [rankGo]
  | c :: cs, h => by
    have h0 := h 0
    rw [List.getD_cons_zero] at h0
    have := rankGo_nonneg (cs := cs) fun k => by have := h (k + 1); rwa [List.getD_cons_succ] at this
    have := Int.mul_nonneg h0 (Int.le_of_lt (facN_pos cs.length))
    rw [rankGo]; omega
theorem rankGo_le : ∀ {cs : List Int}, cs.length ≤ 8 → (∀ k, cs.getD k 0 ≤ 8) → rankGo cs ≤ 322560 * cs.length
  | [], _, _ => by simp [rankGo]
  | c :: cs, hl, h => by
    have h0 := h 0
    rw [List.getD_cons_zero] at h0
    simp only [List.length_cons] at hl ⊢
    have h1 := rankGo_le (cs := cs) (by omega) fun k => by have := h (k + 1); rwa [List.getD_cons_succ] at this
    have h2 := facN_8 (n := cs.length) (by omega)
    have h3 := facN_pos cs.length
    have : c * facN cs.length ≤ 8 * facN cs.length := Int.mul_le_mul_of_nonneg_right h0 (Int.le_of_lt h3)
    rw [rankGo]; omega
theorem rank_drop {cs : List Int} {k : Nat} (h : k < cs.length) : rankGo (cs.drop k) = cs.getD k 0 * facN (cs.length - (k + 1)) + rankGo (cs.drop (k + 1)) := by
  rw [dropI_at h, rankGo, List.length_drop]
theorem spec_RankOf_c {m0 : Bool} (p : List Int) (hl : p.length ≤ 1048576) : Fun Try.prog 77 [(.sl (.lent m0) (List.map (PV.int .i64) (p)))] [(.int .i64 ((if isPermB p then rankGo (codeGo p) else -1)))] := by
  by_cases hp : isPermB p = true
  · rw [if_pos hp]
    have h8 : p.length ≤ 8 := by simp [isPermB] at hp; exact hp.1
    have hf := spec_CodeOf_c (m0 := m0) p hl
    rw [if_pos hp] at hf
    have hcl := codeGo_length p
    have hca := codeGo_at p
    generalize codeGo p = cs at *
    have hr := rankGo_le (cs := cs) (by omega) (fun k => by have := (hca k).2; omega)
    refine Fun.of (sg := sg0) (ts := [2]) mo Try.func77 rfl rfl rfl rfl (by kernel_rfl) (by simp only [go_sem]) rfl ?_
    have fc : True := trivial
    repeat' first
      | with_reducible first | refine stp ?_ | refine q_blk_o rfl ?_ | (refine hK _ ?_; clear hK) | (refine hA ?_; clear hA hB) | (refine hB ?_; clear hA hB) | exact v_end0 | exact v_end0' | refine v_gb1 ?_ ?_ | refine v_gb0 ?_ ?_ | refine And.intro ?_ ?_
      | (with_reducible refine p_ok ?_; decide)
      | ((first | with_reducible first | refine v_region rfl rfl (fun K hK => ?_) | refine v_draws rfl rfl (fun K hK => ?_) | refine v_if (fun A B hA hB => ?_) | refine v_end rfl ?_ | refine v_fin1 ?_ | refine v_finC1 ?_ | refine v_finR1 ?_ | refine v_callE (hf) ?_ | refine v_callE (spec_IsPerm_c _ ?_) ?_ | refine v_finO1 rfl ?_ | refine v_finN1 rfl ?_ ?_ | refine v_apj ?_ (fun j' => ?_) | refine v_stz ?_ ?_ ?_ ?_ ?_ | refine v_stq ?_ | refine v_cv1 ?_ ?_ ?_ | (intro hc; replace fc := And.intro hc fc; try simp only [hcs] at hc)) <;> (try simp (config := { maxSteps := 1000000 }) only [go_sem, ↓reduceIte, reduceCtorEq, Nat.reduceEqDiff, Nat.reduceAdd, Nat.reduceMul, Nat.reduceSub, Nat.reduceLeDiff, Int.reduceLT, Int.reduceLE, Int.reduceEq, Int.reduceSub, Int.reduceAdd, Int.reduceMul, Int.reduceNeg, Int.reduceToNat, hp, fc]) <;> (try with_reducible rfl))
    all_goals try (first | omega | (simp only [n_i64, n_u8]; omega) | (simp only [n_i64, n_u8, lnA]; omega) | (simp only [lnA]; done))
    refine v_loop (fun ms1 S1 => ∃ (k : Nat) (r : Int), OwnL (S1.e 3) S1.h S1.n (PV.int .i64) ((cs).length) (cs) ∧ S1.e 4 = .p (.int .i64 (r)) ∧ S1.e 5 = .p (.int .i64 (k)) ∧ (k ≤ cs.length) ∧ (r * facN (cs.length - k) + rankGo (cs.drop k) = rankGo cs) ∧ (0 ≤ r) ∧ ms1 = cs.length - k) ((fun (k : Nat) (r : Int) => cs.length - k) (0) (0)) ?init1_4 ?body1_4
    case' init1_4 =>
      refine ⟨0, 0, ?_, ?_, ?_, ?_, ?_, ?_, rfl⟩
      all_goals (try simp only [go_sem, ↓reduceIte, reduceCtorEq, Nat.reduceEqDiff, Nat.reduceAdd, Nat.reduceMul, Nat.reduceSub, Nat.reduceLeDiff, Int.reduceLT, Int.reduceLE, Int.reduceEq, Int.reduceSub, Int.reduceAdd, Int.reduceMul, Int.reduceNeg, Int.reduceToNat])
      repeat' refine And.intro ?_ ?_
      all_goals try first | rfl | omega | (simp only [lnA] <;> omega) | ((first | refine stp ?_ | refine dkz_eq ?_ ?_) <;> first | rfl | omega | (simp only [lnA] <;> omega) | (simp only [lnA, List.append_assoc, List.cons_append, List.nil_append]; done) | skip)
    case' body1_4 =>
      rintro ms1 S1 ⟨k, r, o1_3, h1_4, h1_5, c1_0, c1_1, c1_2, hm1⟩
      obtain ⟨i1_3, h1_3, b1_3, l1_3⟩ := o1_3.out
      have ni1_3 : ∀ c, (i1_3 = S1.n + c) = False := fun c => eq_false (by omega)
      have pi1_3 : ∀ c, (S1.n + c = i1_3) = False := fun c => eq_false (by omega)
      have qi1_3 : (i1_3 = S1.n) = False := eq_false (by omega)
      have ri1_3 : (S1.n = i1_3) = False := eq_false (by omega)
    have fc : True := trivial
    repeat' first
      | with_reducible first | refine stp ?_ | refine q_blk_o rfl ?_ | (refine hK _ ?_; clear hK) | (refine hA ?_; clear hA hB) | (refine hB ?_; clear hA hB) | exact v_end0 | exact v_end0' | refine v_gb1 ?_ ?_ | refine v_gb0 ?_ ?_ | refine And.intro ?_ ?_
      | (with_reducible refine p_ok ?_; decide)
      | ((first | with_reducible first | refine v_region rfl rfl (fun K hK => ?_) | refine v_draws rfl rfl (fun K hK => ?_) | refine v_if (fun A B hA hB => ?_) | refine v_end rfl ?_ | refine v_fin1 ?_ | refine v_finC1 ?_ | refine v_finR1 ?_ | refine v_callE (spec_IsPerm_c _ ?_) ?_ | refine v_callE (spec_CodeOf_c _ ?_) ?_ | refine v_finO1 rfl ?_ | refine v_finN1 rfl ?_ ?_ | refine v_apj ?_ (fun j' => ?_) | refine v_stz ?_ ?_ ?_ ?_ ?_ | refine v_stq ?_ | refine v_cv1 ?_ ?_ ?_ | (intro hc; replace fc := And.intro hc fc; try simp only [hcs] at hc)) <;> (try simp (config := { maxSteps := 1000000 }) only [go_sem, ↓reduceIte, reduceCtorEq, Nat.reduceEqDiff, Nat.reduceAdd, Nat.reduceMul, Nat.reduceSub, Nat.reduceLeDiff, Int.reduceLT, Int.reduceLE, Int.reduceEq, Int.reduceSub, Int.reduceAdd, Int.reduceMul, Int.reduceNeg, Int.reduceToNat, h1_4, h1_5, h1_3, b1_3, ni1_3, pi1_3, qi1_3, ri1_3, fc]) <;> (try with_reducible rfl))
    all_goals have ha := hca k
    all_goals try rw [rank_drop hc] at c1_1
    all_goals try
      have hF := facN_pos (cs.length - (k + 1))
      have e0 : facN (cs.length - k) = ((cs.length : Int) - k) * facN (cs.length - (k + 1)) := by
        rw [show cs.length - k = (cs.length - (k + 1)) + 1 by omega, facN]; congr 1; omega
      have e1 : r * facN (cs.length - k) = (r * ((cs.length : Int) - k)) * facN (cs.length - (k + 1)) := by rw [e0, Int.mul_assoc]
      have e2 : 0 ≤ r * ((cs.length : Int) - k) := Int.mul_nonneg (by omega) (by omega)
      have e3 : (r * ((cs.length : Int) - k)) * 1 ≤ (r * ((cs.length : Int) - k)) * facN (cs.length - (k + 1)) := Int.mul_le_mul_of_nonneg_left (by omega) e2
      have e4 := rankGo_nonneg (cs := cs.drop (k + 1)) fun i => by rw [List.getD_eq_getElem?_getD, List.getElem?_drop, ← List.getD_eq_getElem?_getD]; exact (hca _).1
      have e5 : 0 ≤ cs.getD k 0 * facN (cs.length - (k + 1)) := Int.mul_nonneg ha.1 (by omega)
    all_goals try (first | omega | (simp only [n_i64, n_u8]; omega) | (simp only [n_i64, n_u8, lnA]; omega) | (simp only [lnA]; done))
    · focus
        refine q_lp_n ((fun (k : Nat) (r : Int) => cs.length - k) (k+1) (r * ((cs.length : Int) - k) + cs.getD k 0)) ?_ ⟨k+1, r * ((cs.length : Int) - k) + cs.getD k 0, ?_, ?_, ?_, ?_, ?_, ?_, rfl⟩
        all_goals (try simp only [go_sem, ↓reduceIte, reduceCtorEq, Nat.reduceEqDiff, Nat.reduceAdd, Nat.reduceMul, Nat.reduceSub, Nat.reduceLeDiff, Int.reduceLT, Int.reduceLE, Int.reduceEq, Int.reduceSub, Int.reduceAdd, Int.reduceMul, Int.reduceNeg, Int.reduceToNat, h1_4, h1_5, h1_3, b1_3, ni1_3, pi1_3, qi1_3, ri1_3])
        repeat' refine And.intro ?_ ?_
        all_goals try first | rfl | omega | (simp only [lnA] <;> omega) | ((first | refine stp ?_ | refine dkz_eq ?_ ?_) <;> first | rfl | omega | (simp only [lnA] <;> omega) | (simp only [lnA, List.append_assoc, List.cons_append, List.nil_append]; done) | skip)
      rw [Int.add_mul, ← e1, ← c1_1]; omega
    · rw [List.drop_of_length_le (by omega), show cs.length - k = 0 by omega] at c1_1
      simp [facN, rankGo] at c1_1; exact c1_1
  · rw [if_neg hp]
    have hp' : isPermB p = false := by simpa using hp
    refine Fun.of (sg := sg0) (ts := [2]) mo Try.func77 rfl rfl rfl rfl (by kernel_rfl) (by simp only [go_sem]) rfl ?_
    have fc : True := trivial
    repeat' first
      | with_reducible first | refine stp ?_ | refine q_blk_o rfl ?_ | (refine hK _ ?_; clear hK) | (refine hA ?_; clear hA hB) | (refine hB ?_; clear hA hB) | exact v_end0 | exact v_end0' | refine v_gb1 ?_ ?_ | refine v_gb0 ?_ ?_ | refine And.intro ?_ ?_
      | (with_reducible refine p_ok ?_; decide)
      | ((first | with_reducible first | refine v_region rfl rfl (fun K hK => ?_) | refine v_draws rfl rfl (fun K hK => ?_) | refine v_if (fun A B hA hB => ?_) | refine v_end rfl ?_ | refine v_fin1 ?_ | refine v_finC1 ?_ | refine v_finR1 ?_ | refine v_callE (spec_IsPerm_c _ ?_) ?_ | refine v_callE (spec_CodeOf_c _ ?_) ?_ | refine v_finO1 rfl ?_ | refine v_finN1 rfl ?_ ?_ | refine v_apj ?_ (fun j' => ?_) | refine v_stz ?_ ?_ ?_ ?_ ?_ | refine v_stq ?_ | refine v_cv1 ?_ ?_ ?_ | (intro hc; replace fc := And.intro hc fc; try simp only [hcs] at hc)) <;> (try simp (config := { maxSteps := 1000000 }) only [go_sem, ↓reduceIte, reduceCtorEq, Nat.reduceEqDiff, Nat.reduceAdd, Nat.reduceMul, Nat.reduceSub, Nat.reduceLeDiff, Int.reduceLT, Int.reduceLE, Int.reduceEq, Int.reduceSub, Int.reduceAdd, Int.reduceMul, Int.reduceNeg, Int.reduceToNat, hp', fc]) <;> (try with_reducible rfl))
    all_goals try (first | omega | (simp only [n_i64, n_u8]; omega) | (simp only [n_i64, n_u8, lnA]; omega) | (simp only [lnA]; done))
theorem impl_RankOf_c {m0 : Bool} (p : List Int) (hl : p.length ≤ 1048576) : Fun Try.prog 76 [(.sl (.lent m0) (List.map (PV.int .i64) (p)))] [(.int .i64 ((if isPermB p then rankGo (codeGo p) else -1)))] := by
  by_cases hp : isPermB p = true
  · rw [if_pos hp]
    have h8 : p.length ≤ 8 := by simp [isPermB] at hp; exact hp.1
    have hf := impl_code_c (m0 := m0) p hl
    have hcl := codeGo_length p
    have hca := codeGo_at p
    generalize codeGo p = cs at *
    have hr := rankGo_le (cs := cs) (by omega) (fun k => by have := (hca k).2; omega)
    refine Fun.of (sg := sg0) (ts := [2]) mo Try.func76 rfl rfl rfl rfl (by kernel_rfl) (by simp only [go_sem]) rfl ?_
    have fc : True := trivial
    repeat' first
      | with_reducible first | refine stp ?_ | refine q_blk_o rfl ?_ | (refine hK _ ?_; clear hK) | (refine hA ?_; clear hA hB) | (refine hB ?_; clear hA hB) | exact v_end0 | exact v_end0' | refine v_gb1 ?_ ?_ | refine v_gb0 ?_ ?_ | refine And.intro ?_ ?_
      | (with_reducible refine p_ok ?_; decide)
      | ((first | with_reducible first | refine v_region rfl rfl (fun K hK => ?_) | refine v_draws rfl rfl (fun K hK => ?_) | refine v_if (fun A B hA hB => ?_) | refine v_end rfl ?_ | refine v_fin1 ?_ | refine v_finC1 ?_ | refine v_finR1 ?_ | refine v_callE (hf) ?_ | refine v_callE (impl_IsPerm_c _ ?_) ?_ | refine v_callE (impl_factorial_c _ ?_) ?_ | refine v_finO1 rfl ?_ | refine v_finN1 rfl ?_ ?_ | refine v_apj ?_ (fun j' => ?_) | refine v_stz ?_ ?_ ?_ ?_ ?_ | refine v_stq ?_ | refine v_cv1 ?_ ?_ ?_ | (intro hc; replace fc := And.intro hc fc; try simp only [hcs] at hc)) <;> (try simp (config := { maxSteps := 1000000 }) only [go_sem, ↓reduceIte, reduceCtorEq, Nat.reduceEqDiff, Nat.reduceAdd, Nat.reduceMul, Nat.reduceSub, Nat.reduceLeDiff, Int.reduceLT, Int.reduceLE, Int.reduceEq, Int.reduceSub, Int.reduceAdd, Int.reduceMul, Int.reduceNeg, Int.reduceToNat, hp, fc]) <;> (try with_reducible rfl))
    all_goals try (first | omega | (simp only [n_i64, n_u8]; omega) | (simp only [n_i64, n_u8, lnA]; omega) | (simp only [lnA]; done))
    refine v_loop (fun ms1 S1 => ∃ (k : Nat) (r : Int), S1.e 0 = .p (.sl (.lent m0) (List.map (PV.int .i64) (p))) ∧ OwnL (S1.e 10) S1.h S1.n (PV.int .i64) ((cs).length) (cs) ∧ S1.e 11 = .p (.int .i64 (cs.length)) ∧ S1.e 3 = .p (.int .i64 (r)) ∧ S1.e 12 = .p (.int .i64 (k)) ∧ (k ≤ cs.length) ∧ (r + rankGo (cs.drop k) = rankGo cs) ∧ (0 ≤ r) ∧ ms1 = cs.length - k) ((fun (k : Nat) (r : Int) => cs.length - k) (0) (0)) ?init1_5 ?body1_5
    case' init1_5 =>
      refine ⟨0, 0, ?_, ?_, ?_, ?_, ?_, ?_, ?_, ?_, rfl⟩
      all_goals (try simp only [go_sem, ↓reduceIte, reduceCtorEq, Nat.reduceEqDiff, Nat.reduceAdd, Nat.reduceMul, Nat.reduceSub, Nat.reduceLeDiff, Int.reduceLT, Int.reduceLE, Int.reduceEq, Int.reduceSub, Int.reduceAdd, Int.reduceMul, Int.reduceNeg, Int.reduceToNat])
      repeat' refine And.intro ?_ ?_
      all_goals try first | rfl | omega | (simp only [lnA] <;> omega) | ((first | refine stp ?_ | refine dkz_eq ?_ ?_) <;> first | rfl | omega | (simp only [lnA] <;> omega) | (simp only [lnA, List.append_assoc, List.cons_append, List.nil_append]; done) | skip)
    case' body1_5 =>
      rintro ms1 S1 ⟨k, r, h1_0, o1_10, h1_11, h1_3, h1_12, c1_0, c1_1, c1_2, hm1⟩
      obtain ⟨i1_10, h1_10, b1_10, l1_10⟩ := o1_10.out
      have ni1_10 : ∀ c, (i1_10 = S1.n + c) = False := fun c => eq_false (by omega)
      have pi1_10 : ∀ c, (S1.n + c = i1_10) = False := fun c => eq_false (by omega)
      have qi1_10 : (i1_10 = S1.n) = False := eq_false (by omega)
      have ri1_10 : (S1.n = i1_10) = False := eq_false (by omega)
    have fc : True := trivial
    repeat' first
      | with_reducible first | refine stp ?_ | refine q_blk_o rfl ?_ | (refine hK _ ?_; clear hK) | (refine hA ?_; clear hA hB) | (refine hB ?_; clear hA hB) | exact v_end0 | exact v_end0' | refine v_gb1 ?_ ?_ | refine v_gb0 ?_ ?_ | refine And.intro ?_ ?_
      | (with_reducible refine p_ok ?_; decide)
      | ((first | with_reducible first | refine v_region rfl rfl (fun K hK => ?_) | refine v_draws rfl rfl (fun K hK => ?_) | refine v_if (fun A B hA hB => ?_) | refine v_end rfl ?_ | refine v_fin1 ?_ | refine v_finC1 ?_ | refine v_finR1 ?_ | refine v_callE (impl_IsPerm_c _ ?_) ?_ | refine v_callE (impl_code_c _ ?_) ?_ | refine v_callE (impl_factorial_c _ ?_) ?_ | refine v_finO1 rfl ?_ | refine v_finN1 rfl ?_ ?_ | refine v_apj ?_ (fun j' => ?_) | refine v_stz ?_ ?_ ?_ ?_ ?_ | refine v_stq ?_ | refine v_cv1 ?_ ?_ ?_ | (intro hc; replace fc := And.intro hc fc; try simp only [hcs] at hc)) <;> (try simp (config := { maxSteps := 1000000 }) only [go_sem, ↓reduceIte, reduceCtorEq, Nat.reduceEqDiff, Nat.reduceAdd, Nat.reduceMul, Nat.reduceSub, Nat.reduceLeDiff, Int.reduceLT, Int.reduceLE, Int.reduceEq, Int.reduceSub, Int.reduceAdd, Int.reduceMul, Int.reduceNeg, Int.reduceToNat, h1_0, h1_11, h1_3, h1_12, h1_10, b1_10, ni1_10, pi1_10, qi1_10, ri1_10, fc]) <;> (try with_reducible rfl))
    all_goals have ha := hca k
    all_goals try rw [rank_drop hc] at c1_1
    all_goals try
      have hF := facN_pos (cs.length - (k + 1))
      have e0 : facI ((p.length : Int) - 1 - k) = facN (cs.length - (k + 1)) := by rw [facI]; congr 1; omega
      have e4 := rankGo_nonneg (cs := cs.drop (k + 1)) fun i => by rw [List.getD_eq_getElem?_getD, List.getElem?_drop, ← List.getD_eq_getElem?_getD]; exact (hca _).1
      have e5 : 0 ≤ cs.getD k 0 * facN (cs.length - (k + 1)) := Int.mul_nonneg ha.1 (by omega)
      try rw [e0]
    all_goals try (first | omega | (simp only [n_i64, n_u8]; omega) | (simp only [n_i64, n_u8, lnA]; omega) | (simp only [lnA]; done))
    · focus
        refine q_lp_n ((fun (k : Nat) (r : Int) => cs.length - k) (k+1) (r + cs.getD k 0 * facN (cs.length - (k + 1)))) ?_ ⟨k+1, r + cs.getD k 0 * facN (cs.length - (k + 1)), ?_, ?_, ?_, ?_, ?_, ?_, ?_, ?_, rfl⟩
        all_goals (try simp only [go_sem, ↓reduceIte, reduceCtorEq, Nat.reduceEqDiff, Nat.reduceAdd, Nat.reduceMul, Nat.reduceSub, Nat.reduceLeDiff, Int.reduceLT, Int.reduceLE, Int.reduceEq, Int.reduceSub, Int.reduceAdd, Int.reduceMul, Int.reduceNeg, Int.reduceToNat, h1_0, h1_11, h1_3, h1_12, h1_10, b1_10, ni1_10, pi1_10, qi1_10, ri1_10])
        repeat' refine And.intro ?_ ?_
        all_goals try first | rfl | omega | (simp only [lnA] <;> omega) | ((first | refine stp ?_ | refine dkz_eq ?_ ?_) <;> first | rfl | omega | (simp only [lnA] <;> omega) | (simp only [lnA, List.append_assoc, List.cons_append, List.nil_append]; done) | skip)
    · rw [List.drop_of_length_le (by omega), rankGo] at c1_1; omega
  · rw [if_neg hp]
    have hp' : isPermB p = false := by simpa using hp
    refine Fun.of (sg := sg0) (ts := [2]) mo Try.func76 rfl rfl rfl rfl (by kernel_rfl) (by simp only [go_sem]) rfl ?_
    have fc : True := trivial
    repeat' first
      | with_reducible first | refine stp ?_ | refine q_blk_o rfl ?_ | (refine hK _ ?_; clear hK) | (refine hA ?_; clear hA hB) | (refine hB ?_; clear hA hB) | exact v_end0 | exact v_end0' | refine v_gb1 ?_ ?_ | refine v_gb0 ?_ ?_ | refine And.intro ?_ ?_
      | (with_reducible refine p_ok ?_; decide)
      | ((first | with_reducible first | refine v_region rfl rfl (fun K hK => ?_) | refine v_draws rfl rfl (fun K hK => ?_) | refine v_if (fun A B hA hB => ?_) | refine v_end rfl ?_ | refine v_fin1 ?_ | refine v_finC1 ?_ | refine v_finR1 ?_ | refine v_callE (impl_IsPerm_c _ ?_) ?_ | refine v_callE (impl_code_c _ ?_) ?_ | refine v_callE (impl_factorial_c _ ?_) ?_ | refine v_finO1 rfl ?_ | refine v_finN1 rfl ?_ ?_ | refine v_apj ?_ (fun j' => ?_) | refine v_stz ?_ ?_ ?_ ?_ ?_ | refine v_stq ?_ | refine v_cv1 ?_ ?_ ?_ | (intro hc; replace fc := And.intro hc fc; try simp only [hcs] at hc)) <;> (try simp (config := { maxSteps := 1000000 }) only [go_sem, ↓reduceIte, reduceCtorEq, Nat.reduceEqDiff, Nat.reduceAdd, Nat.reduceMul, Nat.reduceSub, Nat.reduceLeDiff, Int.reduceLT, Int.reduceLE, Int.reduceEq, Int.reduceSub, Int.reduceAdd, Int.reduceMul, Int.reduceNeg, Int.reduceToNat, hp', fc]) <;> (try with_reducible rfl))
    all_goals try (first | omega | (simp only [n_i64, n_u8]; omega) | (simp only [n_i64, n_u8, lnA]; omega) | (simp only [lnA]; done))
end Go.Gl
