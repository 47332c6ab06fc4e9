/-
  Rows in order, each once: what the library's compacting and the reference's putting in compute. Conditions: none.
-/
import Derived.Test.YtdpahkppdakenaaSrt
import Derived.Test.YtdpahkppdakenaaClone
set_option linter.unusedSimpArgs false
set_option linter.unusedVariables false
set_option maxRecDepth 20000
set_option linter.unusedSectionVars false
namespace Go.Gl
open Go Go.Proofs
variable [Amb]
theorem cptF_same {L : List (List Int)} : ∀ {j : Nat}, j ≤ L.length → (∀ i, 0 < i → i < j → L.getD i [] ≠ L.getD (i - 1) []) → cptF L j = L.take j
  | 0, _, _ => by simp [cptF]
  | j + 1, h, h1 => by
    rw [cptF, cptF_same (by omega) fun i a b => h1 i a (by omega), if_neg (fun q => h1 j q.1 (by omega) q.2), ← take_getD (by omega)]
theorem slices_CompactFunc_LLint_int_c (Z : List (List Int)) (hl : Z.length ≤ 1099511627776) (hz : ∀ l ∈ Z, l.length ≤ 1099511627776) : CallT Try.prog true 199 [.mu false (List.map (elI false) (Z)), .pv (.fn 200 [] [])] [none, none] [(.sl .own (List.map (elI false) (cptF Z Z.length)))] := by
  refine CallT.of (sg := sg0) (ts := [4]) mo Try.func199 rfl rfl rfl rfl (by kernel_rfl) (by simp only [go_sem]) rfl (by simp only [go_sem]) ?_
  have e0 : Z.length < 2 → cptF Z Z.length = Z := fun h => by
    rw [cptF_same (Nat.le_refl _) (fun i a b => by omega), List.take_length]
  have fc : True := trivial
  repeat' first
    | with_reducible first | refine stp ?_ | refine q_blk_o rfl ?_ | (refine hK _ ?_; clear hK) | (refine hA ?_; clear hA hB) | (refine hB ?_; clear hA hB) | exact v_end0 | exact v_end0' | refine v_gb1 ?_ ?_ | refine v_gb0 ?_ ?_ | refine And.intro ?_ ?_
    | (with_reducible refine hK _ _ ?_ ?_; focus (first | exact clearAll_quiet rfl | (refine clearAll_of [false, false, false, false, false, false, false, false, false, false, true] [] rfl (by decide +kernel) ?_; try simp only [go_sem, ↓reduceIte, reduceCtorEq, Nat.reduceEqDiff, Nat.reduceAdd, Nat.reduceMul, Nat.reduceSub, Nat.reduceLeDiff, Int.reduceLT, Int.reduceLE, Int.reduceEq, Int.reduceSub, Int.reduceAdd, Int.reduceMul, Int.reduceNeg, Int.reduceToNat]) | (refine clearAll_of [false, false, false, false, false, false, false, false, false, false, true, false] [] rfl (by decide +kernel) ?_; try simp only [go_sem, ↓reduceIte, reduceCtorEq, Nat.reduceEqDiff, Nat.reduceAdd, Nat.reduceMul, Nat.reduceSub, Nat.reduceLeDiff, Int.reduceLT, Int.reduceLE, Int.reduceEq, Int.reduceSub, Int.reduceAdd, Int.reduceMul, Int.reduceNeg, Int.reduceToNat])); all_goals (try clear hK))
    | (with_reducible refine p_ok ?_; decide)
    | ((first | with_reducible first | refine v_region rfl rfl (fun K hK => ?_) | refine v_draws rfl rfl (fun K hK => ?_) | refine v_if (fun A B hA hB => ?_) | refine v_end rfl ?_ | refine v_fin1 ?_ | refine v_finC1 ?_ | refine v_finR1 ?_ | refine v_finO1 rfl ?_ | refine v_finN1 rfl ?_ ?_ | refine v_finT1 rfl ?_ | refine v_apj ?_ (fun j' => ?_) | refine v_stz ?_ ?_ ?_ ?_ ?_ | refine v_stq ?_ | refine v_cv1 ?_ ?_ ?_ | (intro hc; replace fc := And.intro hc fc; try simp only [hcs] at hc)) <;> (try simp (config := { maxSteps := 1000000 }) only [go_sem, ↓reduceIte, reduceCtorEq, Nat.reduceEqDiff, Nat.reduceAdd, Nat.reduceMul, Nat.reduceSub, Nat.reduceLeDiff, Int.reduceLT, Int.reduceLE, Int.reduceEq, Int.reduceSub, Int.reduceAdd, Int.reduceMul, Int.reduceNeg, Int.reduceToNat, fc]) <;> (try with_reducible rfl))
  all_goals try (first | omega | (simp only [n_i64, n_u8]; omega) | (simp only [n_i64, n_u8, lnA]; omega) | (simp only [lnA]; done))
  · exact (e0 (by omega)).symm
  refine v_loop (fun ms1 S1 => ∃ (k : Nat), S1.e 0 = .ref 0 0 (Z).length ∧ S1.h 0 = .live true (List.map (elI false) (Z)) ∧ 0 < S1.n ∧ S1.e 1 = .p (.fn 200 [] []) ∧ S1.e 5 = .p (.int .i64 (k)) ∧ (1 ≤ k) ∧ (k ≤ Z.length) ∧ (∀ i, 0 < i → i < k → Z.getD i [] ≠ Z.getD (i - 1) []) ∧ ms1 = Z.length - k) ((fun (k : Nat) => Z.length - k) (1)) ?init1_0 ?body1_0
  case' init1_0 =>
    refine ⟨1, ?_, ?_, ?_, ?_, ?_, ?_, ?_, ?_, rfl⟩
    all_goals (try simp only [go_sem, ↓reduceIte, reduceCtorEq, Nat.reduceEqDiff, Nat.reduceAdd, Nat.reduceMul, Nat.reduceSub, Nat.reduceLeDiff, Int.reduceLT, Int.reduceLE, Int.reduceEq, Int.reduceSub, Int.reduceAdd, Int.reduceMul, Int.reduceNeg, Int.reduceToNat])
    repeat' refine And.intro ?_ ?_
    all_goals try first | rfl | omega | (simp only [lnA] <;> omega) | ((first | refine stp ?_ | refine dkz_eq ?_ ?_) <;> first | rfl | omega | (simp only [lnA] <;> omega) | (simp only [lnA, List.append_assoc, List.cons_append, List.nil_append]; done) | skip)
  case' body1_0 =>
    rintro ms1 S1 ⟨k, h1_0, b1_0, l1_0, h1_1, h1_5, c1_0, c1_1, c1_2, hm1⟩
    have n0 : ∀ c, (0 = S1.n + c) = False := fun c => eq_false (by omega)
    have p0 : ∀ c, (S1.n + c = 0) = False := fun c => eq_false (by omega)
    have q0 : (0 = S1.n) = False := eq_false (by omega)
    have r0 : (S1.n = 0) = False := eq_false (by omega)
  · by_cases hk : k < Z.length
    · have e1 : ((k : Int) - 1).toNat = k - 1 := by omega
      have e2 := hz (Z.getD k []) (getD_mem hk)
      have e3 := hz (Z.getD (k - 1) []) (getD_mem (by omega))
      have fc : True := trivial
      repeat' first
        | with_reducible first | refine stp ?_ | refine q_blk_o rfl ?_ | (refine hK _ ?_; clear hK) | (refine hA ?_; clear hA hB) | (refine hB ?_; clear hA hB) | exact v_end0 | exact v_end0' | refine v_gb1 ?_ ?_ | refine v_gb0 ?_ ?_ | refine And.intro ?_ ?_
        | (with_reducible refine hK _ _ ?_ ?_; focus (first | exact clearAll_quiet rfl | (refine clearAll_of [false, false, false, false, false, false, false, false, false, false, true] [] rfl (by decide +kernel) ?_; try simp only [go_sem, ↓reduceIte, reduceCtorEq, Nat.reduceEqDiff, Nat.reduceAdd, Nat.reduceMul, Nat.reduceSub, Nat.reduceLeDiff, Int.reduceLT, Int.reduceLE, Int.reduceEq, Int.reduceSub, Int.reduceAdd, Int.reduceMul, Int.reduceNeg, Int.reduceToNat, h1_0, b1_0, h1_1, h1_5, n0, p0, q0, r0, e1]) | (refine clearAll_of [false, false, false, false, false, false, false, false, false, false, true, false] [] rfl (by decide +kernel) ?_; try simp only [go_sem, ↓reduceIte, reduceCtorEq, Nat.reduceEqDiff, Nat.reduceAdd, Nat.reduceMul, Nat.reduceSub, Nat.reduceLeDiff, Int.reduceLT, Int.reduceLE, Int.reduceEq, Int.reduceSub, Int.reduceAdd, Int.reduceMul, Int.reduceNeg, Int.reduceToNat, h1_0, b1_0, h1_1, h1_5, n0, p0, q0, r0, e1])); all_goals (try clear hK))
        | (with_reducible refine p_ok ?_; decide)
        | ((first | with_reducible first | refine v_region rfl rfl (fun K hK => ?_) | refine v_draws rfl rfl (fun K hK => ?_) | refine v_if (fun A B hA hB => ?_) | refine v_end rfl ?_ | refine v_fin1 ?_ | refine v_finC1 ?_ | refine v_finR1 ?_ | refine v_callE (slices_Equal_int_int_c _ _ ?_ ?_) ?_ | refine v_finO1 rfl ?_ | refine v_finN1 rfl ?_ ?_ | refine v_finT1 rfl ?_ | refine v_apj ?_ (fun j' => ?_) | refine v_stz ?_ ?_ ?_ ?_ ?_ | refine v_stq ?_ | refine v_cv1 ?_ ?_ ?_ | (intro hc; replace fc := And.intro hc fc; try simp only [hcs] at hc)) <;> (try simp (config := { maxSteps := 1000000 }) only [go_sem, ↓reduceIte, reduceCtorEq, Nat.reduceEqDiff, Nat.reduceAdd, Nat.reduceMul, Nat.reduceSub, Nat.reduceLeDiff, Int.reduceLT, Int.reduceLE, Int.reduceEq, Int.reduceSub, Int.reduceAdd, Int.reduceMul, Int.reduceNeg, Int.reduceToNat, h1_0, b1_0, h1_1, h1_5, n0, p0, q0, r0, e1, fc]) <;> (try with_reducible rfl))
      all_goals try (first | omega | (simp only [n_i64, n_u8]; omega) | (simp only [n_i64, n_u8, lnA]; omega) | (simp only [lnA]; done))
      rotate_left
      · focus
          refine q_lp_n ((fun (k : Nat) => Z.length - k) (k+1)) ?_ ⟨k+1, ?_, ?_, ?_, ?_, ?_, ?_, ?_, ?_, rfl⟩
          all_goals (try simp only [go_sem, ↓reduceIte, reduceCtorEq, Nat.reduceEqDiff, Nat.reduceAdd, Nat.reduceMul, Nat.reduceSub, Nat.reduceLeDiff, Int.reduceLT, Int.reduceLE, Int.reduceEq, Int.reduceSub, Int.reduceAdd, Int.reduceMul, Int.reduceNeg, Int.reduceToNat, h1_0, b1_0, h1_1, h1_5, n0, p0, q0, r0])
          repeat' refine And.intro ?_ ?_
          all_goals try first | rfl | omega | (simp only [lnA] <;> omega) | ((first | refine stp ?_ | refine dkz_eq ?_ ?_) <;> first | rfl | omega | (simp only [lnA] <;> omega) | (simp only [lnA, List.append_assoc, List.cons_append, List.nil_append]; done) | skip)
        intro i h1 h2
        by_cases h3 : i = k
        · subst h3; exact hc
        · exact c1_2 i h1 (by omega)
      · have f1 := cptF_same (L := Z) (j := k) (by omega) c1_2
        have f2 : cptF Z (k + 1) = Z.take k := by rw [cptF, if_pos ⟨by omega, hc⟩, List.append_nil, f1]
        have f3 : (Z.take k).length = k := by simp; omega
        refine v_loop (fun ms2 S2 => ∃ (j : Nat) (Y : List (List Int)), S2.e 0 = .ref 0 0 (Y).length ∧ S2.h 0 = .live true (List.map (elI false) (Y)) ∧ 0 < S2.n ∧ S2.e 1 = .p (.fn 200 [] []) ∧ S2.e 5 = .p (.int .i64 ((cptF Z (k + j)).length)) ∧ S2.e 6 = .ref 0 k (Z.length - k) ∧ S2.e 7 = .p (.int .i64 (j)) ∧ (1 ≤ j) ∧ (k + j ≤ Z.length) ∧ (Y.length = Z.length) ∧ (Y.take (cptF Z (k + j)).length = cptF Z (k + j)) ∧ ((cptF Z (k + j)).length < k + j) ∧ (∀ q, k + j ≤ q + 1 → q < Z.length → Y.getD q [] = Z.getD q []) ∧ S1.n ≤ S2.n ∧ ms2 = Z.length - k - j) ((fun (j : Nat) (Y : List (List Int)) => Z.length - k - j) (1) (Z)) ?init2_1 ?body2_1
        case' init2_1 =>
          refine ⟨1, Z, ?_, ?_, ?_, ?_, ?_, ?_, ?_, ?_, ?_, ?_, ?_, ?_, ?_, ?_, rfl⟩
          all_goals (try simp only [go_sem, ↓reduceIte, reduceCtorEq, Nat.reduceEqDiff, Nat.reduceAdd, Nat.reduceMul, Nat.reduceSub, Nat.reduceLeDiff, Int.reduceLT, Int.reduceLE, Int.reduceEq, Int.reduceSub, Int.reduceAdd, Int.reduceMul, Int.reduceNeg, Int.reduceToNat, h1_0, b1_0, h1_1, h1_5, n0, p0, q0, r0])
          repeat' refine And.intro ?_ ?_
          all_goals try first | rfl | omega | (simp only [lnA] <;> omega) | ((first | refine stp ?_ | refine dkz_eq ?_ ?_) <;> first | rfl | omega | (simp only [lnA] <;> omega) | (simp only [lnA, List.append_assoc, List.cons_append, List.nil_append]; done) | skip)
        case' body2_1 =>
          rintro ms2 S2 ⟨j, Y, h2_0, b2_0, l2_0, h2_1, h2_5, h2_6, h2_7, c2_0, c2_1, c2_2, c2_3, c2_4, c2_5, u2_0, hm2⟩
          have n0 : ∀ c, (0 = S2.n + c) = False := fun c => eq_false (by omega)
          have p0 : ∀ c, (S2.n + c = 0) = False := fun c => eq_false (by omega)
          have q0 : (0 = S2.n) = False := eq_false (by omega)
          have r0 : (S2.n = 0) = False := eq_false (by omega)
        · by_cases hj : k + j < Z.length
          · have g1 := c2_5 (k + j) (by omega) hj
            have g2 := c2_5 (k + j - 1) (by omega) (by omega)
            have g3 := hz (Z.getD (k + j) []) (getD_mem hj)
            have g4 := hz (Z.getD (k + j - 1) []) (getD_mem (by omega))
            have g5 : ((j : Int) - 1).toNat = j - 1 := by omega
            have g6 : k + (j - 1) = k + j - 1 := by omega
            have fc : True := trivial
            repeat' first
              | with_reducible first | refine stp ?_ | refine q_blk_o rfl ?_ | (refine hK _ ?_; clear hK) | (refine hA ?_; clear hA hB) | (refine hB ?_; clear hA hB) | exact v_end0 | exact v_end0' | refine v_gb1 ?_ ?_ | refine v_gb0 ?_ ?_ | refine And.intro ?_ ?_
              | (with_reducible refine hK _ _ ?_ ?_; focus (first | exact clearAll_quiet rfl | (refine clearAll_of [false, false, false, false, false, false, false, false, false, false, true] [] rfl (by decide +kernel) ?_; try simp only [go_sem, ↓reduceIte, reduceCtorEq, Nat.reduceEqDiff, Nat.reduceAdd, Nat.reduceMul, Nat.reduceSub, Nat.reduceLeDiff, Int.reduceLT, Int.reduceLE, Int.reduceEq, Int.reduceSub, Int.reduceAdd, Int.reduceMul, Int.reduceNeg, Int.reduceToNat, h2_0, b2_0, h2_1, h2_5, h2_6, h2_7, n0, p0, q0, r0, g1, g2, g5, g6, c2_2]) | (refine clearAll_of [false, false, false, false, false, false, false, false, false, false, true, false] [] rfl (by decide +kernel) ?_; try simp only [go_sem, ↓reduceIte, reduceCtorEq, Nat.reduceEqDiff, Nat.reduceAdd, Nat.reduceMul, Nat.reduceSub, Nat.reduceLeDiff, Int.reduceLT, Int.reduceLE, Int.reduceEq, Int.reduceSub, Int.reduceAdd, Int.reduceMul, Int.reduceNeg, Int.reduceToNat, h2_0, b2_0, h2_1, h2_5, h2_6, h2_7, n0, p0, q0, r0, g1, g2, g5, g6, c2_2])); all_goals (try clear hK))
              | (with_reducible refine p_ok ?_; decide)
              | ((first | with_reducible first | refine v_region rfl rfl (fun K hK => ?_) | refine v_draws rfl rfl (fun K hK => ?_) | refine v_if (fun A B hA hB => ?_) | refine v_end rfl ?_ | refine v_fin1 ?_ | refine v_finC1 ?_ | refine v_finR1 ?_ | refine v_callE (slices_Equal_int_int_c _ _ ?_ ?_) ?_ | refine v_finO1 rfl ?_ | refine v_finN1 rfl ?_ ?_ | refine v_finT1 rfl ?_ | refine v_apj ?_ (fun j' => ?_) | refine v_stz ?_ ?_ ?_ ?_ ?_ | refine v_stq ?_ | refine v_cv1 ?_ ?_ ?_ | (intro hc; replace fc := And.intro hc fc; try simp only [hcs] at hc)) <;> (try simp (config := { maxSteps := 1000000 }) only [go_sem, ↓reduceIte, reduceCtorEq, Nat.reduceEqDiff, Nat.reduceAdd, Nat.reduceMul, Nat.reduceSub, Nat.reduceLeDiff, Int.reduceLT, Int.reduceLE, Int.reduceEq, Int.reduceSub, Int.reduceAdd, Int.reduceMul, Int.reduceNeg, Int.reduceToNat, h2_0, b2_0, h2_1, h2_5, h2_6, h2_7, n0, p0, q0, r0, g1, g2, g5, g6, c2_2, fc]) <;> (try with_reducible rfl))
            all_goals try (first | omega | (simp only [n_i64, n_u8]; omega) | (simp only [n_i64, n_u8, lnA]; omega) | (simp only [lnA]; done))
            · have s1 : cptF Z (k + (j + 1)) = cptF Z (k + j) ++ [Z.getD (k + j) []] := by rw [show k + (j + 1) = k + j + 1 from rfl, cptF, if_neg (fun q => hc q.2)]
              have s2 : (cptF Z (k + (j + 1))).length = (cptF Z (k + j)).length + 1 := by rw [s1, List.length_append]; rfl
              focus
                refine q_lp_n ((fun (j : Nat) (Y : List (List Int)) => Z.length - k - j) (j+1) (Y.set (cptF Z (k + j)).length (Z.getD (k + j) []))) ?_ ⟨j+1, Y.set (cptF Z (k + j)).length (Z.getD (k + j) []), ?_, ?_, ?_, ?_, ?_, ?_, ?_, ?_, ?_, ?_, ?_, ?_, ?_, ?_, rfl⟩
                all_goals (try simp only [go_sem, ↓reduceIte, reduceCtorEq, Nat.reduceEqDiff, Nat.reduceAdd, Nat.reduceMul, Nat.reduceSub, Nat.reduceLeDiff, Int.reduceLT, Int.reduceLE, Int.reduceEq, Int.reduceSub, Int.reduceAdd, Int.reduceMul, Int.reduceNeg, Int.reduceToNat, h2_0, b2_0, h2_1, h2_5, h2_6, h2_7, n0, p0, q0, r0])
                repeat' refine And.intro ?_ ?_
                all_goals try first | rfl | omega | (simp only [lnA] <;> omega) | ((first | refine stp ?_ | refine dkz_eq ?_ ?_) <;> first | rfl | omega | (simp only [lnA] <;> omega) | (simp only [lnA, List.append_assoc, List.cons_append, List.nil_append]; done) | skip)
              all_goals first | (rw [s2, set_take' (by omega), c2_3, s1]; done) | omega | skip
              all_goals try (intro q h5 h6; rw [List.getD_eq_getElem?_getD, List.getElem?_set_ne (by omega), ← List.getD_eq_getElem?_getD]; exact c2_5 q (by omega) h6)
            · have s1 : cptF Z (k + (j + 1)) = cptF Z (k + j) := by rw [show k + (j + 1) = k + j + 1 from rfl, cptF, if_pos ⟨by omega, hc⟩, List.append_nil]
              focus
                refine q_lp_n ((fun (j : Nat) (Y : List (List Int)) => Z.length - k - j) (j+1) (Y)) ?_ ⟨j+1, Y, ?_, ?_, ?_, ?_, ?_, ?_, ?_, ?_, ?_, ?_, ?_, ?_, ?_, ?_, rfl⟩
                all_goals (try simp only [go_sem, ↓reduceIte, reduceCtorEq, Nat.reduceEqDiff, Nat.reduceAdd, Nat.reduceMul, Nat.reduceSub, Nat.reduceLeDiff, Int.reduceLT, Int.reduceLE, Int.reduceEq, Int.reduceSub, Int.reduceAdd, Int.reduceMul, Int.reduceNeg, Int.reduceToNat, h2_0, b2_0, h2_1, h2_5, h2_6, h2_7, n0, p0, q0, r0])
                repeat' refine And.intro ?_ ?_
                all_goals try first | rfl | omega | (simp only [lnA] <;> omega) | ((first | refine stp ?_ | refine dkz_eq ?_ ?_) <;> first | rfl | omega | (simp only [lnA] <;> omega) | (simp only [lnA, List.append_assoc, List.cons_append, List.nil_append]; done) | skip)
              · rw [s1]
              · rw [s1]; exact c2_3
              · rw [s1]; omega
              · intro q h5 h6; exact c2_5 q (by omega) h6
          · have fc : True := trivial
            repeat' first
              | with_reducible first | refine stp ?_ | refine q_blk_o rfl ?_ | (refine hK _ ?_; clear hK) | (refine hA ?_; clear hA hB) | (refine hB ?_; clear hA hB) | exact v_end0 | exact v_end0' | refine v_gb1 ?_ ?_ | refine v_gb0 ?_ ?_ | refine And.intro ?_ ?_
              | (with_reducible refine hK _ _ ?_ ?_; focus (first | exact clearAll_quiet rfl | (refine clearAll_of [false, false, false, false, false, false, false, false, false, false, true] [] rfl (by decide +kernel) ?_; try simp only [go_sem, ↓reduceIte, reduceCtorEq, Nat.reduceEqDiff, Nat.reduceAdd, Nat.reduceMul, Nat.reduceSub, Nat.reduceLeDiff, Int.reduceLT, Int.reduceLE, Int.reduceEq, Int.reduceSub, Int.reduceAdd, Int.reduceMul, Int.reduceNeg, Int.reduceToNat, h2_0, b2_0, h2_1, h2_5, h2_6, h2_7, n0, p0, q0, r0, c2_2]) | (refine clearAll_of [false, false, false, false, false, false, false, false, false, false, true, false] [] rfl (by decide +kernel) ?_; try simp only [go_sem, ↓reduceIte, reduceCtorEq, Nat.reduceEqDiff, Nat.reduceAdd, Nat.reduceMul, Nat.reduceSub, Nat.reduceLeDiff, Int.reduceLT, Int.reduceLE, Int.reduceEq, Int.reduceSub, Int.reduceAdd, Int.reduceMul, Int.reduceNeg, Int.reduceToNat, h2_0, b2_0, h2_1, h2_5, h2_6, h2_7, n0, p0, q0, r0, c2_2])); all_goals (try clear hK))
              | (with_reducible refine p_ok ?_; decide)
              | ((first | with_reducible first | refine v_region rfl rfl (fun K hK => ?_) | refine v_draws rfl rfl (fun K hK => ?_) | refine v_if (fun A B hA hB => ?_) | refine v_end rfl ?_ | refine v_fin1 ?_ | refine v_finC1 ?_ | refine v_finR1 ?_ | refine v_finO1 rfl ?_ | refine v_finN1 rfl ?_ ?_ | refine v_finT1 rfl ?_ | refine v_apj ?_ (fun j' => ?_) | refine v_stz ?_ ?_ ?_ ?_ ?_ | refine v_stq ?_ | refine v_cv1 ?_ ?_ ?_ | (intro hc; replace fc := And.intro hc fc; try simp only [hcs] at hc)) <;> (try simp (config := { maxSteps := 1000000 }) only [go_sem, ↓reduceIte, reduceCtorEq, Nat.reduceEqDiff, Nat.reduceAdd, Nat.reduceMul, Nat.reduceSub, Nat.reduceLeDiff, Int.reduceLT, Int.reduceLE, Int.reduceEq, Int.reduceSub, Int.reduceAdd, Int.reduceMul, Int.reduceNeg, Int.reduceToNat, h2_0, b2_0, h2_1, h2_5, h2_6, h2_7, n0, p0, q0, r0, c2_2, fc]) <;> (try with_reducible rfl))
            all_goals try (first | omega | (simp only [n_i64, n_u8]; omega) | (simp only [n_i64, n_u8, lnA]; omega) | (simp only [lnA]; done))
            obtain e9 : k + j = Z.length := by omega
            rw [List.take_append_of_le_length (by simp; omega), List.take_take, Nat.min_self, c2_3, e9]
        · rw [f2, f3]
        · rw [f2, f3]
        · rw [f2, f3]; omega
    · have fc : True := trivial
      repeat' first
        | with_reducible first | refine stp ?_ | refine q_blk_o rfl ?_ | (refine hK _ ?_; clear hK) | (refine hA ?_; clear hA hB) | (refine hB ?_; clear hA hB) | exact v_end0 | exact v_end0' | refine v_gb1 ?_ ?_ | refine v_gb0 ?_ ?_ | refine And.intro ?_ ?_
        | (with_reducible refine hK _ _ ?_ ?_; focus (first | exact clearAll_quiet rfl | (refine clearAll_of [false, false, false, false, false, false, false, false, false, false, true] [] rfl (by decide +kernel) ?_; try simp only [go_sem, ↓reduceIte, reduceCtorEq, Nat.reduceEqDiff, Nat.reduceAdd, Nat.reduceMul, Nat.reduceSub, Nat.reduceLeDiff, Int.reduceLT, Int.reduceLE, Int.reduceEq, Int.reduceSub, Int.reduceAdd, Int.reduceMul, Int.reduceNeg, Int.reduceToNat, h1_0, b1_0, h1_1, h1_5, n0, p0, q0, r0]) | (refine clearAll_of [false, false, false, false, false, false, false, false, false, false, true, false] [] rfl (by decide +kernel) ?_; try simp only [go_sem, ↓reduceIte, reduceCtorEq, Nat.reduceEqDiff, Nat.reduceAdd, Nat.reduceMul, Nat.reduceSub, Nat.reduceLeDiff, Int.reduceLT, Int.reduceLE, Int.reduceEq, Int.reduceSub, Int.reduceAdd, Int.reduceMul, Int.reduceNeg, Int.reduceToNat, h1_0, b1_0, h1_1, h1_5, n0, p0, q0, r0])); all_goals (try clear hK))
        | (with_reducible refine p_ok ?_; decide)
        | ((first | with_reducible first | refine v_region rfl rfl (fun K hK => ?_) | refine v_draws rfl rfl (fun K hK => ?_) | refine v_if (fun A B hA hB => ?_) | refine v_end rfl ?_ | refine v_fin1 ?_ | refine v_finC1 ?_ | refine v_finR1 ?_ | refine v_finO1 rfl ?_ | refine v_finN1 rfl ?_ ?_ | refine v_finT1 rfl ?_ | refine v_apj ?_ (fun j' => ?_) | refine v_stz ?_ ?_ ?_ ?_ ?_ | refine v_stq ?_ | refine v_cv1 ?_ ?_ ?_ | (intro hc; replace fc := And.intro hc fc; try simp only [hcs] at hc)) <;> (try simp (config := { maxSteps := 1000000 }) only [go_sem, ↓reduceIte, reduceCtorEq, Nat.reduceEqDiff, Nat.reduceAdd, Nat.reduceMul, Nat.reduceSub, Nat.reduceLeDiff, Int.reduceLT, Int.reduceLE, Int.reduceEq, Int.reduceSub, Int.reduceAdd, Int.reduceMul, Int.reduceNeg, Int.reduceToNat, h1_0, b1_0, h1_1, h1_5, n0, p0, q0, r0, fc]) <;> (try with_reducible rfl))
      all_goals try (first | omega | (simp only [n_i64, n_u8]; omega) | (simp only [n_i64, n_u8, lnA]; omega) | (simp only [lnA]; done))
      obtain rfl : k = Z.length := by omega
      rw [cptF_same (Nat.le_refl _) c1_2, List.take_length]
theorem tk_mid {L D : List (List Int)} {p : List Int} {j : Nat} (h : j ≤ L.length) : List.take (j + 1) (L.take j ++ p :: D) = L.take j ++ [p] := by
  rw [List.take_append, List.take_of_length_le (by simp; omega), List.length_take, Nat.min_eq_left h, Nat.add_sub_cancel_left]; rfl
theorem put_at {L : List (List Int)} {p : List Int} {j : Nat} (h1 : j ≤ L.length) (h2 : ∀ q, j ≤ q → q < L.length → befB p (L.getD q []) = true) (h3 : 0 < j → befB p (L.getD (j - 1) []) = false) (h4 : 0 < j → ¬ L.getD (j - 1) [] = p) : putP L p = L.take j ++ p :: L.drop j := by
  have e := atP_uniq h1 h2 h3
  rw [putP, insS, e, if_neg fun h => h4 h.1 h.2]; rfl
theorem put_in {L : List (List Int)} {p : List Int} {j : Nat} (h1 : j ≤ L.length) (h2 : ∀ q, j ≤ q → q < L.length → befB p (L.getD q []) = true) (h3 : 0 < j → befB p (L.getD (j - 1) []) = false) (h4 : 0 < j) (h5 : L.getD (j - 1) [] = p) : putP L p = L := by
  have e := atP_uniq h1 h2 h3
  rw [putP, e, if_pos ⟨h4, h5⟩]
theorem bef_dn {L : List (List Int)} {p : List Int} {j : Nat} (h2 : ∀ q, j ≤ q → q < L.length → befB p (L.getD q []) = true) (h3 : befB p (L.getD (j - 1) []) = true) : ∀ q, j - 1 ≤ q → q < L.length → befB p (L.getD q []) = true := fun q a b => by
  by_cases e : q = j - 1
  · rw [e]; exact h3
  · exact h2 q (by omega) b
theorem spec_l3Put_c {m1 : Bool} (L : List (List Int)) (p : List Int) (hL : L.length ≤ 1000) (hl : ∀ l ∈ L, l.length ≤ 1048576) (hp : p.length ≤ 1048576) : CallT Try.prog true 154 [.mu false (List.map (elI false) (L)), .pv (.sl (.lent m1) (List.map (PV.int .i64) (p)))] [none, none] [(.sl .own (List.map (elI false) (putP L p)))] := by
  refine CallT.of (sg := sg0) (ts := [4]) mo Try.func154 rfl rfl rfl rfl (by kernel_rfl) (by simp only [go_sem]) rfl (by simp only [go_sem]) ?_
  have fc : True := trivial
  repeat' first
    | with_reducible first | refine stp ?_ | refine q_blk_o rfl ?_ | (refine hK _ ?_; clear hK) | (refine hA ?_; clear hA hB) | (refine hB ?_; clear hA hB) | exact v_end0 | exact v_end0' | refine v_gb1 ?_ ?_ | refine v_gb0 ?_ ?_ | refine And.intro ?_ ?_
    | (with_reducible refine hK _ _ ?_ ?_; focus (first | exact clearAll_quiet rfl | (refine clearAll_of [false, false, false, true, false, true, true, true, false, true, false] [(0, 3), (1, 3), (2, 3), (3, 4), (0, 5), (1, 5), (2, 5), (0, 6), (1, 6), (2, 6), (3, 8), (5, 8), (6, 8), (7, 8)] rfl (by decide +kernel) ?_; try simp only [go_sem, ↓reduceIte, reduceCtorEq, Nat.reduceEqDiff, Nat.reduceAdd, Nat.reduceMul, Nat.reduceSub, Nat.reduceLeDiff, Int.reduceLT, Int.reduceLE, Int.reduceEq, Int.reduceSub, Int.reduceAdd, Int.reduceMul, Int.reduceNeg, Int.reduceToNat])); all_goals (try clear hK))
    | (with_reducible refine p_ok ?_; decide)
    | ((first | with_reducible first | refine v_region rfl rfl (fun K hK => ?_) | refine v_draws rfl rfl (fun K hK => ?_) | refine v_if (fun A B hA hB => ?_) | refine v_end rfl ?_ | refine v_fin1 ?_ | refine v_finC1 ?_ | refine v_finR1 ?_ | refine v_callE (spec_l2Before_c _ _ ?_ ?_) ?_ | refine v_callE (spec_l2Same_c _ _ ?_ ?_) ?_ | refine v_finO1 rfl ?_ | refine v_finN1 rfl ?_ ?_ | refine v_finT1 rfl ?_ | refine v_apj ?_ (fun j' => ?_) | refine v_stz ?_ ?_ ?_ ?_ ?_ | refine v_stq ?_ | refine v_cv1 ?_ ?_ ?_ | (intro hc; replace fc := And.intro hc fc; try simp only [hcs] at hc)) <;> (try simp (config := { maxSteps := 1000000 }) only [go_sem, ↓reduceIte, reduceCtorEq, Nat.reduceEqDiff, Nat.reduceAdd, Nat.reduceMul, Nat.reduceSub, Nat.reduceLeDiff, Int.reduceLT, Int.reduceLE, Int.reduceEq, Int.reduceSub, Int.reduceAdd, Int.reduceMul, Int.reduceNeg, Int.reduceToNat, fc]) <;> (try with_reducible rfl))
  all_goals try (first | omega | (simp only [n_i64, n_u8]; omega) | (simp only [n_i64, n_u8, lnA]; omega) | (simp only [lnA]; done))
  refine v_loop (fun ms1 S1 => ∃ (j : Nat), S1.e 0 = .ref 0 0 (L).length ∧ S1.h 0 = .live true (List.map (elI false) (L)) ∧ 0 < S1.n ∧ S1.e 1 = .p (.sl (.lent m1) (List.map (PV.int .i64) (p))) ∧ S1.e 5 = .p (.int .i64 (j)) ∧ (j ≤ L.length) ∧ (∀ q, j ≤ q → q < L.length → befB p (L.getD q []) = true) ∧ ms1 = j) ((fun (j : Nat) => j) (L.length)) ?init1_2 ?body1_2
  case' init1_2 =>
    refine ⟨L.length, ?_, ?_, ?_, ?_, ?_, ?_, ?_, rfl⟩
    all_goals (try simp only [go_sem, ↓reduceIte, reduceCtorEq, Nat.reduceEqDiff, Nat.reduceAdd, Nat.reduceMul, Nat.reduceSub, Nat.reduceLeDiff, Int.reduceLT, Int.reduceLE, Int.reduceEq, Int.reduceSub, Int.reduceAdd, Int.reduceMul, Int.reduceNeg, Int.reduceToNat])
    repeat' refine And.intro ?_ ?_
    all_goals try first | rfl | omega | (simp only [lnA] <;> omega) | ((first | refine stp ?_ | refine dkz_eq ?_ ?_) <;> first | rfl | omega | (simp only [lnA] <;> omega) | (simp only [lnA, List.append_assoc, List.cons_append, List.nil_append]; done) | skip)
  case' body1_2 =>
    rintro ms1 S1 ⟨j, h1_0, b1_0, l1_0, h1_1, h1_5, c1_0, c1_1, hm1⟩
    have n0 : ∀ c, (0 = S1.n + c) = False := fun c => eq_false (by omega)
    have p0 : ∀ c, (S1.n + c = 0) = False := fun c => eq_false (by omega)
    have q0 : (0 = S1.n) = False := eq_false (by omega)
    have r0 : (S1.n = 0) = False := eq_false (by omega)
  · have e1 : ((j : Int) - 1).toNat = j - 1 := by omega
    have e3 : List.take (L.length - j) (List.drop j L) = L.drop j := List.take_of_length_le (by simp)
    by_cases hj : 0 < j
    · have e2 := hl (L.getD (j - 1) []) (getD_mem (by omega))
      have gg : ((0 : Int) < (j : Int)) = True := eq_true (by omega)
      by_cases h0 : j = L.length
      · have h0' := h0
        subst h0'
        have e4 : List.drop L.length L = [] := List.drop_length
        have e5 : List.take L.length L = L := List.take_length
        have f1 : (L.length + 1 = (L ++ [p]).length) = True := eq_true (by simp)
        have fc : True := trivial
        repeat' first
          | with_reducible first | refine stp ?_ | refine q_blk_o rfl ?_ | (refine hK _ ?_; clear hK) | (refine hA ?_; clear hA hB) | (refine hB ?_; clear hA hB) | exact v_end0 | exact v_end0' | refine v_gb1 ?_ ?_ | refine v_gb0 ?_ ?_ | refine And.intro ?_ ?_
          | (with_reducible refine hK _ _ ?_ ?_; focus (first | exact clearAll_quiet rfl | (refine clearAll_of [false, false, false, true, false, true, true, true, false, true, false] [(0, 3), (1, 3), (2, 3), (3, 4), (0, 5), (1, 5), (2, 5), (0, 6), (1, 6), (2, 6), (3, 8), (5, 8), (6, 8), (7, 8)] rfl (by decide +kernel) ?_; try simp only [go_sem, ↓reduceIte, reduceCtorEq, Nat.reduceEqDiff, Nat.reduceAdd, Nat.reduceMul, Nat.reduceSub, Nat.reduceLeDiff, Int.reduceLT, Int.reduceLE, Int.reduceEq, Int.reduceSub, Int.reduceAdd, Int.reduceMul, Int.reduceNeg, Int.reduceToNat, h1_0, b1_0, h1_1, h1_5, n0, p0, q0, r0, e1, e3, e4, e5, f1, gg])); all_goals (try clear hK))
          | (with_reducible refine p_ok ?_; decide)
          | ((first | with_reducible first | refine v_region rfl rfl (fun K hK => ?_) | refine v_draws rfl rfl (fun K hK => ?_) | refine v_if (fun A B hA hB => ?_) | refine v_end rfl ?_ | refine v_fin1 ?_ | refine v_finC1 ?_ | refine v_finR1 ?_ | refine v_callE (spec_l2Before_c _ _ ?_ ?_) ?_ | refine v_callE (spec_l2Same_c _ _ ?_ ?_) ?_ | refine v_finO1 rfl ?_ | refine v_finN1 rfl ?_ ?_ | refine v_finT1 rfl ?_ | refine v_apj ?_ (fun j' => ?_) | refine v_stz ?_ ?_ ?_ ?_ ?_ | refine v_stq ?_ | refine v_cv1 ?_ ?_ ?_ | (intro hc; replace fc := And.intro hc fc; try simp only [hcs] at hc)) <;> (try simp (config := { maxSteps := 1000000 }) only [go_sem, ↓reduceIte, reduceCtorEq, Nat.reduceEqDiff, Nat.reduceAdd, Nat.reduceMul, Nat.reduceSub, Nat.reduceLeDiff, Int.reduceLT, Int.reduceLE, Int.reduceEq, Int.reduceSub, Int.reduceAdd, Int.reduceMul, Int.reduceNeg, Int.reduceToNat, h1_0, b1_0, h1_1, h1_5, n0, p0, q0, r0, e1, e3, e4, e5, f1, gg, fc]) <;> (try with_reducible rfl))
        all_goals try (first | omega | (simp only [n_i64, n_u8]; omega) | (simp only [n_i64, n_u8, lnA]; omega) | (simp only [lnA]; done))
        · focus
            refine q_lp_n ((fun (j : Nat) => j) (L.length - 1)) ?_ ⟨L.length - 1, ?_, ?_, ?_, ?_, ?_, ?_, ?_, rfl⟩
            all_goals (try simp only [go_sem, ↓reduceIte, reduceCtorEq, Nat.reduceEqDiff, Nat.reduceAdd, Nat.reduceMul, Nat.reduceSub, Nat.reduceLeDiff, Int.reduceLT, Int.reduceLE, Int.reduceEq, Int.reduceSub, Int.reduceAdd, Int.reduceMul, Int.reduceNeg, Int.reduceToNat, h1_0, b1_0, h1_1, h1_5, n0, p0, q0, r0])
            repeat' refine And.intro ?_ ?_
            all_goals try first | rfl | omega | (simp only [lnA] <;> omega) | ((first | refine stp ?_ | refine dkz_eq ?_ ?_) <;> first | rfl | omega | (simp only [lnA] <;> omega) | (simp only [lnA, List.append_assoc, List.cons_append, List.nil_append]; done) | skip)
          exact bef_dn c1_1 hc
        · exact (put_in (Nat.le_refl _) c1_1 (fun _ => by assumption) hj hc).symm
        · rw [put_at (Nat.le_refl _) c1_1 (fun _ => by assumption) (fun _ => by assumption), List.take_of_length_le (by simp)]; simp
      · have f0 : (j = L.length) = False := eq_false h0
        have f1 : (j + 1 ≤ L.length) = True := eq_true (by omega)
        have f2 : (List.take j L ++ p :: List.drop (j + 1) L).length = L.length := by simp; omega
        have f3 : (List.drop j L).length = L.length - j := by simp
        by_cases h1 : j + 1 = L.length
        · have f4 : (j + 1 = L.length) = True := eq_true h1
          have fc : True := trivial
          repeat' first
            | with_reducible first | refine stp ?_ | refine q_blk_o rfl ?_ | (refine hK _ ?_; clear hK) | (refine hA ?_; clear hA hB) | (refine hB ?_; clear hA hB) | exact v_end0 | exact v_end0' | refine v_gb1 ?_ ?_ | refine v_gb0 ?_ ?_ | refine And.intro ?_ ?_
            | (with_reducible refine hK _ _ ?_ ?_; focus (first | exact clearAll_quiet rfl | (refine clearAll_of [false, false, false, true, false, true, true, true, false, true, false] [(0, 3), (1, 3), (2, 3), (3, 4), (0, 5), (1, 5), (2, 5), (0, 6), (1, 6), (2, 6), (3, 8), (5, 8), (6, 8), (7, 8)] rfl (by decide +kernel) ?_; try simp only [go_sem, ↓reduceIte, reduceCtorEq, Nat.reduceEqDiff, Nat.reduceAdd, Nat.reduceMul, Nat.reduceSub, Nat.reduceLeDiff, Int.reduceLT, Int.reduceLE, Int.reduceEq, Int.reduceSub, Int.reduceAdd, Int.reduceMul, Int.reduceNeg, Int.reduceToNat, h1_0, b1_0, h1_1, h1_5, n0, p0, q0, r0, e1, e3, f0, f1, f2, f3, f4, gg])); all_goals (try clear hK))
            | (with_reducible refine p_ok ?_; decide)
            | ((first | with_reducible first | refine v_region rfl rfl (fun K hK => ?_) | refine v_draws rfl rfl (fun K hK => ?_) | refine v_if (fun A B hA hB => ?_) | refine v_end rfl ?_ | refine v_fin1 ?_ | refine v_finC1 ?_ | refine v_finR1 ?_ | refine v_callE (spec_l2Before_c _ _ ?_ ?_) ?_ | refine v_callE (spec_l2Same_c _ _ ?_ ?_) ?_ | refine v_finO1 rfl ?_ | refine v_finN1 rfl ?_ ?_ | refine v_finT1 rfl ?_ | refine v_apj ?_ (fun j' => ?_) | refine v_stz ?_ ?_ ?_ ?_ ?_ | refine v_stq ?_ | refine v_cv1 ?_ ?_ ?_ | (intro hc; replace fc := And.intro hc fc; try simp only [hcs] at hc)) <;> (try simp (config := { maxSteps := 1000000 }) only [go_sem, ↓reduceIte, reduceCtorEq, Nat.reduceEqDiff, Nat.reduceAdd, Nat.reduceMul, Nat.reduceSub, Nat.reduceLeDiff, Int.reduceLT, Int.reduceLE, Int.reduceEq, Int.reduceSub, Int.reduceAdd, Int.reduceMul, Int.reduceNeg, Int.reduceToNat, h1_0, b1_0, h1_1, h1_5, n0, p0, q0, r0, e1, e3, f0, f1, f2, f3, f4, gg, fc]) <;> (try with_reducible rfl))
          all_goals try (first | omega | (simp only [n_i64, n_u8]; omega) | (simp only [n_i64, n_u8, lnA]; omega) | (simp only [lnA]; done))
          · focus
              refine q_lp_n ((fun (j : Nat) => j) (j - 1)) ?_ ⟨j - 1, ?_, ?_, ?_, ?_, ?_, ?_, ?_, rfl⟩
              all_goals (try simp only [go_sem, ↓reduceIte, reduceCtorEq, Nat.reduceEqDiff, Nat.reduceAdd, Nat.reduceMul, Nat.reduceSub, Nat.reduceLeDiff, Int.reduceLT, Int.reduceLE, Int.reduceEq, Int.reduceSub, Int.reduceAdd, Int.reduceMul, Int.reduceNeg, Int.reduceToNat, h1_0, b1_0, h1_1, h1_5, n0, p0, q0, r0])
              repeat' refine And.intro ?_ ?_
              all_goals try first | rfl | omega | (simp only [lnA] <;> omega) | ((first | refine stp ?_ | refine dkz_eq ?_ ?_) <;> first | rfl | omega | (simp only [lnA] <;> omega) | (simp only [lnA, List.append_assoc, List.cons_append, List.nil_append]; done) | skip)
            exact bef_dn c1_1 hc
          · exact (put_in c1_0 c1_1 (fun _ => by assumption) hj hc).symm
          · rw [put_at c1_0 c1_1 (fun _ => by assumption) (fun _ => by assumption), List.drop_of_length_le (i := j + 1) (by omega), List.nil_append, List.take_of_length_le (by simp; omega)]
        · have f4 : (j + 1 = L.length) = False := eq_false h1
          have f5 : (j + (1 + (L.length - j)) ≤ L.length) = False := eq_false (by omega)
          have fc : True := trivial
          repeat' first
            | with_reducible first | refine stp ?_ | refine q_blk_o rfl ?_ | (refine hK _ ?_; clear hK) | (refine hA ?_; clear hA hB) | (refine hB ?_; clear hA hB) | exact v_end0 | exact v_end0' | refine v_gb1 ?_ ?_ | refine v_gb0 ?_ ?_ | refine And.intro ?_ ?_
            | (with_reducible refine hK _ _ ?_ ?_; focus (first | exact clearAll_quiet rfl | (refine clearAll_of [false, false, false, true, false, true, true, true, false, true, false] [(0, 3), (1, 3), (2, 3), (3, 4), (0, 5), (1, 5), (2, 5), (0, 6), (1, 6), (2, 6), (3, 8), (5, 8), (6, 8), (7, 8)] rfl (by decide +kernel) ?_; try simp only [go_sem, ↓reduceIte, reduceCtorEq, Nat.reduceEqDiff, Nat.reduceAdd, Nat.reduceMul, Nat.reduceSub, Nat.reduceLeDiff, Int.reduceLT, Int.reduceLE, Int.reduceEq, Int.reduceSub, Int.reduceAdd, Int.reduceMul, Int.reduceNeg, Int.reduceToNat, h1_0, b1_0, h1_1, h1_5, n0, p0, q0, r0, e1, e3, f0, f1, f2, f3, f4, f5, gg])); all_goals (try clear hK))
            | (with_reducible refine p_ok ?_; decide)
            | ((first | with_reducible first | refine v_region rfl rfl (fun K hK => ?_) | refine v_draws rfl rfl (fun K hK => ?_) | refine v_if (fun A B hA hB => ?_) | refine v_end rfl ?_ | refine v_fin1 ?_ | refine v_finC1 ?_ | refine v_finR1 ?_ | refine v_callE (spec_l2Before_c _ _ ?_ ?_) ?_ | refine v_callE (spec_l2Same_c _ _ ?_ ?_) ?_ | refine v_finO1 rfl ?_ | refine v_finN1 rfl ?_ ?_ | refine v_finT1 rfl ?_ | refine v_apj ?_ (fun j' => ?_) | refine v_stz ?_ ?_ ?_ ?_ ?_ | refine v_stq ?_ | refine v_cv1 ?_ ?_ ?_ | (intro hc; replace fc := And.intro hc fc; try simp only [hcs] at hc)) <;> (try simp (config := { maxSteps := 1000000 }) only [go_sem, ↓reduceIte, reduceCtorEq, Nat.reduceEqDiff, Nat.reduceAdd, Nat.reduceMul, Nat.reduceSub, Nat.reduceLeDiff, Int.reduceLT, Int.reduceLE, Int.reduceEq, Int.reduceSub, Int.reduceAdd, Int.reduceMul, Int.reduceNeg, Int.reduceToNat, h1_0, b1_0, h1_1, h1_5, n0, p0, q0, r0, e1, e3, f0, f1, f2, f3, f4, f5, gg, fc]) <;> (try with_reducible rfl))
          all_goals try (first | omega | (simp only [n_i64, n_u8]; omega) | (simp only [n_i64, n_u8, lnA]; omega) | (simp only [lnA]; done))
          · focus
              refine q_lp_n ((fun (j : Nat) => j) (j - 1)) ?_ ⟨j - 1, ?_, ?_, ?_, ?_, ?_, ?_, ?_, rfl⟩
              all_goals (try simp only [go_sem, ↓reduceIte, reduceCtorEq, Nat.reduceEqDiff, Nat.reduceAdd, Nat.reduceMul, Nat.reduceSub, Nat.reduceLeDiff, Int.reduceLT, Int.reduceLE, Int.reduceEq, Int.reduceSub, Int.reduceAdd, Int.reduceMul, Int.reduceNeg, Int.reduceToNat, h1_0, b1_0, h1_1, h1_5, n0, p0, q0, r0])
              repeat' refine And.intro ?_ ?_
              all_goals try first | rfl | omega | (simp only [lnA] <;> omega) | ((first | refine stp ?_ | refine dkz_eq ?_ ?_) <;> first | rfl | omega | (simp only [lnA] <;> omega) | (simp only [lnA, List.append_assoc, List.cons_append, List.nil_append]; done) | skip)
            exact bef_dn c1_1 hc
          · exact (put_in c1_0 c1_1 (fun _ => by assumption) hj hc).symm
          · rw [put_at c1_0 c1_1 (fun _ => by assumption) (fun _ => by assumption), tk_mid (by omega), List.take_of_length_le (by simp; omega), List.append_assoc]; rfl
    · have gg : ((0 : Int) < (j : Int)) = False := eq_false (by omega)
      by_cases h0 : j = L.length
      · have h0' := h0
        subst h0'
        have e4 : List.drop L.length L = [] := List.drop_length
        have e5 : List.take L.length L = L := List.take_length
        have f1 : (L.length + 1 = (L ++ [p]).length) = True := eq_true (by simp)
        have fc : True := trivial
        repeat' first
          | with_reducible first | refine stp ?_ | refine q_blk_o rfl ?_ | (refine hK _ ?_; clear hK) | (refine hA ?_; clear hA hB) | (refine hB ?_; clear hA hB) | exact v_end0 | exact v_end0' | refine v_gb1 ?_ ?_ | refine v_gb0 ?_ ?_ | refine And.intro ?_ ?_
          | (with_reducible refine hK _ _ ?_ ?_; focus (first | exact clearAll_quiet rfl | (refine clearAll_of [false, false, false, true, false, true, true, true, false, true, false] [(0, 3), (1, 3), (2, 3), (3, 4), (0, 5), (1, 5), (2, 5), (0, 6), (1, 6), (2, 6), (3, 8), (5, 8), (6, 8), (7, 8)] rfl (by decide +kernel) ?_; try simp only [go_sem, ↓reduceIte, reduceCtorEq, Nat.reduceEqDiff, Nat.reduceAdd, Nat.reduceMul, Nat.reduceSub, Nat.reduceLeDiff, Int.reduceLT, Int.reduceLE, Int.reduceEq, Int.reduceSub, Int.reduceAdd, Int.reduceMul, Int.reduceNeg, Int.reduceToNat, h1_0, b1_0, h1_1, h1_5, n0, p0, q0, r0, e1, e3, e4, e5, f1, gg])); all_goals (try clear hK))
          | (with_reducible refine p_ok ?_; decide)
          | ((first | with_reducible first | refine v_region rfl rfl (fun K hK => ?_) | refine v_draws rfl rfl (fun K hK => ?_) | refine v_if (fun A B hA hB => ?_) | refine v_end rfl ?_ | refine v_fin1 ?_ | refine v_finC1 ?_ | refine v_finR1 ?_ | refine v_callE (spec_l2Before_c _ _ ?_ ?_) ?_ | refine v_callE (spec_l2Same_c _ _ ?_ ?_) ?_ | refine v_finO1 rfl ?_ | refine v_finN1 rfl ?_ ?_ | refine v_finT1 rfl ?_ | refine v_apj ?_ (fun j' => ?_) | refine v_stz ?_ ?_ ?_ ?_ ?_ | refine v_stq ?_ | refine v_cv1 ?_ ?_ ?_ | (intro hc; replace fc := And.intro hc fc; try simp only [hcs] at hc)) <;> (try simp (config := { maxSteps := 1000000 }) only [go_sem, ↓reduceIte, reduceCtorEq, Nat.reduceEqDiff, Nat.reduceAdd, Nat.reduceMul, Nat.reduceSub, Nat.reduceLeDiff, Int.reduceLT, Int.reduceLE, Int.reduceEq, Int.reduceSub, Int.reduceAdd, Int.reduceMul, Int.reduceNeg, Int.reduceToNat, h1_0, b1_0, h1_1, h1_5, n0, p0, q0, r0, e1, e3, e4, e5, f1, gg, fc]) <;> (try with_reducible rfl))
        all_goals try (first | omega | (simp only [n_i64, n_u8]; omega) | (simp only [n_i64, n_u8, lnA]; omega) | (simp only [lnA]; done))
        rw [put_at (Nat.le_refl _) c1_1 (fun h => absurd h hj) (fun h => absurd h hj), List.take_of_length_le (by simp)]; simp
      · have f0 : (j = L.length) = False := eq_false h0
        have f1 : (j + 1 ≤ L.length) = True := eq_true (by omega)
        have f2 : (List.take j L ++ p :: List.drop (j + 1) L).length = L.length := by simp; omega
        have f3 : (List.drop j L).length = L.length - j := by simp
        by_cases h1 : j + 1 = L.length
        · have f4 : (j + 1 = L.length) = True := eq_true h1
          have fc : True := trivial
          repeat' first
            | with_reducible first | refine stp ?_ | refine q_blk_o rfl ?_ | (refine hK _ ?_; clear hK) | (refine hA ?_; clear hA hB) | (refine hB ?_; clear hA hB) | exact v_end0 | exact v_end0' | refine v_gb1 ?_ ?_ | refine v_gb0 ?_ ?_ | refine And.intro ?_ ?_
            | (with_reducible refine hK _ _ ?_ ?_; focus (first | exact clearAll_quiet rfl | (refine clearAll_of [false, false, false, true, false, true, true, true, false, true, false] [(0, 3), (1, 3), (2, 3), (3, 4), (0, 5), (1, 5), (2, 5), (0, 6), (1, 6), (2, 6), (3, 8), (5, 8), (6, 8), (7, 8)] rfl (by decide +kernel) ?_; try simp only [go_sem, ↓reduceIte, reduceCtorEq, Nat.reduceEqDiff, Nat.reduceAdd, Nat.reduceMul, Nat.reduceSub, Nat.reduceLeDiff, Int.reduceLT, Int.reduceLE, Int.reduceEq, Int.reduceSub, Int.reduceAdd, Int.reduceMul, Int.reduceNeg, Int.reduceToNat, h1_0, b1_0, h1_1, h1_5, n0, p0, q0, r0, e1, e3, f0, f1, f2, f3, f4, gg])); all_goals (try clear hK))
            | (with_reducible refine p_ok ?_; decide)
            | ((first | with_reducible first | refine v_region rfl rfl (fun K hK => ?_) | refine v_draws rfl rfl (fun K hK => ?_) | refine v_if (fun A B hA hB => ?_) | refine v_end rfl ?_ | refine v_fin1 ?_ | refine v_finC1 ?_ | refine v_finR1 ?_ | refine v_callE (spec_l2Before_c _ _ ?_ ?_) ?_ | refine v_callE (spec_l2Same_c _ _ ?_ ?_) ?_ | refine v_finO1 rfl ?_ | refine v_finN1 rfl ?_ ?_ | refine v_finT1 rfl ?_ | refine v_apj ?_ (fun j' => ?_) | refine v_stz ?_ ?_ ?_ ?_ ?_ | refine v_stq ?_ | refine v_cv1 ?_ ?_ ?_ | (intro hc; replace fc := And.intro hc fc; try simp only [hcs] at hc)) <;> (try simp (config := { maxSteps := 1000000 }) only [go_sem, ↓reduceIte, reduceCtorEq, Nat.reduceEqDiff, Nat.reduceAdd, Nat.reduceMul, Nat.reduceSub, Nat.reduceLeDiff, Int.reduceLT, Int.reduceLE, Int.reduceEq, Int.reduceSub, Int.reduceAdd, Int.reduceMul, Int.reduceNeg, Int.reduceToNat, h1_0, b1_0, h1_1, h1_5, n0, p0, q0, r0, e1, e3, f0, f1, f2, f3, f4, gg, fc]) <;> (try with_reducible rfl))
          all_goals try (first | omega | (simp only [n_i64, n_u8]; omega) | (simp only [n_i64, n_u8, lnA]; omega) | (simp only [lnA]; done))
          rw [put_at c1_0 c1_1 (fun h => absurd h hj) (fun h => absurd h hj), List.drop_of_length_le (i := j + 1) (by omega), List.nil_append, List.take_of_length_le (by simp; omega)]
        · have f4 : (j + 1 = L.length) = False := eq_false h1
          have f5 : (j + (1 + (L.length - j)) ≤ L.length) = False := eq_false (by omega)
          have fc : True := trivial
          repeat' first
            | with_reducible first | refine stp ?_ | refine q_blk_o rfl ?_ | (refine hK _ ?_; clear hK) | (refine hA ?_; clear hA hB) | (refine hB ?_; clear hA hB) | exact v_end0 | exact v_end0' | refine v_gb1 ?_ ?_ | refine v_gb0 ?_ ?_ | refine And.intro ?_ ?_
            | (with_reducible refine hK _ _ ?_ ?_; focus (first | exact clearAll_quiet rfl | (refine clearAll_of [false, false, false, true, false, true, true, true, false, true, false] [(0, 3), (1, 3), (2, 3), (3, 4), (0, 5), (1, 5), (2, 5), (0, 6), (1, 6), (2, 6), (3, 8), (5, 8), (6, 8), (7, 8)] rfl (by decide +kernel) ?_; try simp only [go_sem, ↓reduceIte, reduceCtorEq, Nat.reduceEqDiff, Nat.reduceAdd, Nat.reduceMul, Nat.reduceSub, Nat.reduceLeDiff, Int.reduceLT, Int.reduceLE, Int.reduceEq, Int.reduceSub, Int.reduceAdd, Int.reduceMul, Int.reduceNeg, Int.reduceToNat, h1_0, b1_0, h1_1, h1_5, n0, p0, q0, r0, e1, e3, f0, f1, f2, f3, f4, f5, gg])); all_goals (try clear hK))
            | (with_reducible refine p_ok ?_; decide)
            | ((first | with_reducible first | refine v_region rfl rfl (fun K hK => ?_) | refine v_draws rfl rfl (fun K hK => ?_) | refine v_if (fun A B hA hB => ?_) | refine v_end rfl ?_ | refine v_fin1 ?_ | refine v_finC1 ?_ | refine v_finR1 ?_ | refine v_callE (spec_l2Before_c _ _ ?_ ?_) ?_ | refine v_callE (spec_l2Same_c _ _ ?_ ?_) ?_ | refine v_finO1 rfl ?_ | refine v_finN1 rfl ?_ ?_ | refine v_finT1 rfl ?_ | refine v_apj ?_ (fun j' => ?_) | refine v_stz ?_ ?_ ?_ ?_ ?_ | refine v_stq ?_ | refine v_cv1 ?_ ?_ ?_ | (intro hc; replace fc := And.intro hc fc; try simp only [hcs] at hc)) <;> (try simp (config := { maxSteps := 1000000 }) only [go_sem, ↓reduceIte, reduceCtorEq, Nat.reduceEqDiff, Nat.reduceAdd, Nat.reduceMul, Nat.reduceSub, Nat.reduceLeDiff, Int.reduceLT, Int.reduceLE, Int.reduceEq, Int.reduceSub, Int.reduceAdd, Int.reduceMul, Int.reduceNeg, Int.reduceToNat, h1_0, b1_0, h1_1, h1_5, n0, p0, q0, r0, e1, e3, f0, f1, f2, f3, f4, f5, gg, fc]) <;> (try with_reducible rfl))
          all_goals try (first | omega | (simp only [n_i64, n_u8]; omega) | (simp only [n_i64, n_u8, lnA]; omega) | (simp only [lnA]; done))
          rw [put_at c1_0 c1_1 (fun h => absurd h hj) (fun h => absurd h hj), tk_mid (by omega), List.take_of_length_le (by simp; omega), List.append_assoc]; rfl
  all_goals trace_state
theorem isortL_len {L : List (List Int)} : (isortL L).length = L.length := by unfold isortL; rw [isort_len]; simp
theorem isortL_mem {L : List (List Int)} {x : List Int} : x ∈ isortL L ↔ x ∈ L := by unfold isortL; rw [isort_mem]; simp
theorem put_lens {L : List (List Int)} {n : Nat} (h : ∀ l ∈ L, l.length ≤ n) : ∀ l ∈ putL L, l.length ≤ n := fun l hl => by
  rw [putL, put_mem] at hl
  rcases hl with hl | hl
  · exact h l hl
  · cases hl
theorem putL_len {L : List (List Int)} : (putL L).length ≤ L.length := by have := put_len L (A := []); rw [List.length_nil, Nat.add_zero] at this; exact this
theorem putL_snoc {f : Nat → List Int} {k : Nat} : putL ((List.range (k + 1)).map f) = putP (putL ((List.range k).map f)) (f k) := by
  rw [List.range_succ, List.map_append, putL, List.foldl_append]; rfl
theorem isP_8 {p : List Int} (h : isPermB p = true) : p.length ≤ 8 ∧ permB p = true := by simpa [isPermB] using h
def sgOrd : FuncId → List Bool := fun f => if f = 198 then [true] else if f = 199 then [true] else []
theorem sgOrd_eq {f : FuncId} : sgOrd f = if f = 198 then [true] else if f = 199 then [true] else [] := _root_.id rfl
theorem wayE_sgOrd : wayE sgOrd = false := _root_.id rfl
theorem wayN_sgOrd : wayN sgOrd = false := _root_.id rfl
theorem wayS_sgOrd : wayS sgOrd = false := _root_.id rfl
theorem wayZ_sgOrd : wayZ sgOrd = false := _root_.id rfl
attribute [go_sem] sgOrd_eq wayE_sgOrd wayN_sgOrd wayS_sgOrd wayZ_sgOrd
theorem impl_ordered_c {e0 m0 : Bool} (L : List (List Int)) (hL : L.length ≤ 12) (hl : ∀ l ∈ L, l.length ≤ 1048576) : Fun Try.prog 159 [(.sl (.lent m0) (List.map (elI e0) (L)))] [(.sl .own (List.map (elI false) (putL L)))] := by
  refine Fun.of (sg := sgOrd) (ts := [2]) mo Try.func159 rfl rfl rfl rfl (by kernel_rfl) (by simp only [go_sem]) rfl ?_
  have fc : True := trivial
  repeat' first
    | with_reducible first | refine stp ?_ | refine q_blk_o rfl ?_ | (refine hK _ ?_; clear hK) | (refine hA ?_; clear hA hB) | (refine hB ?_; clear hA hB) | exact v_end0 | exact v_end0' | refine v_gb1 ?_ ?_ | refine v_gb0 ?_ ?_ | refine And.intro ?_ ?_
    | (with_reducible refine p_ok ?_; decide)
    | ((first | with_reducible first | refine v_region rfl rfl (fun K hK => ?_) | refine v_draws rfl rfl (fun K hK => ?_) | refine v_if (fun A B hA hB => ?_) | refine v_end rfl ?_ | refine v_fin1 ?_ | refine v_finC1 ?_ | refine v_finR1 ?_ | refine v_callE (slices_Clone_c _ ?_) ?_ | refine v_callE (impl_comparePerms_c _ _ ?_ ?_) ?_ | refine v_callE (slices_Equal_int_int_c _ _ ?_ ?_) ?_ | refine v_callN (slices_SortFunc_LLint_int_c _ ?_ ?_) rfl ?_ ?_ | refine v_callT (slices_SortFunc_LLint_int_c _ ?_ ?_) rfl ?_ ?_ | refine v_callTd (slices_SortFunc_LLint_int_c _ ?_ ?_) rfl ?_ ?_ | refine v_callR (slices_SortFunc_LLint_int_c _ ?_ ?_) rfl ?_ ?_ | refine v_callN (slices_CompactFunc_LLint_int_c _ ?_ ?_) rfl ?_ ?_ | refine v_callT (slices_CompactFunc_LLint_int_c _ ?_ ?_) rfl ?_ ?_ | refine v_callTd (slices_CompactFunc_LLint_int_c _ ?_ ?_) rfl ?_ ?_ | refine v_callR (slices_CompactFunc_LLint_int_c _ ?_ ?_) rfl ?_ ?_ | refine v_callT3 (slices_SortFunc_LLint_int_c _ ?_ ?_) ?_ ?_ | refine v_callT4 (slices_SortFunc_LLint_int_c _ ?_ ?_) ?_ ?_ | refine v_callT3 (slices_CompactFunc_LLint_int_c _ ?_ ?_) ?_ ?_ | refine v_callT4 (slices_CompactFunc_LLint_int_c _ ?_ ?_) ?_ ?_ | refine v_finO1 rfl ?_ | refine v_finN1 rfl ?_ ?_ | refine v_apj ?_ (fun j' => ?_) | refine v_stz ?_ ?_ ?_ ?_ ?_ | refine v_stq ?_ | refine v_cv1 ?_ ?_ ?_ | (intro hc; replace fc := And.intro hc fc; try simp only [hcs] at hc)) <;> (try simp (config := { maxSteps := 1000000 }) only [go_sem, ↓reduceIte, reduceCtorEq, Nat.reduceEqDiff, Nat.reduceAdd, Nat.reduceMul, Nat.reduceSub, Nat.reduceLeDiff, Int.reduceLT, Int.reduceLE, Int.reduceEq, Int.reduceSub, Int.reduceAdd, Int.reduceMul, Int.reduceNeg, Int.reduceToNat, fc]) <;> (try with_reducible rfl))
  all_goals try (first | omega | (simp only [n_i64, n_u8]; omega) | (simp only [n_i64, n_u8, lnA]; omega) | (simp only [lnA]; done))
  refine v_loop (fun ms1 S1 => ∃ (k : Nat), S1.e 7 = .p (.sl (.lent m0) (List.map (elI e0) (L))) ∧ S1.e 8 = .p (.int .i64 (L.length)) ∧ OwnL (S1.e 3) S1.h S1.n (elI false) ((L.take k).length) (L.take k) ∧ S1.e 9 = .p (.int .i64 (k)) ∧ (k ≤ L.length) ∧ ms1 = L.length - k) ((fun (k : Nat) => L.length - k) (0)) ?init1_3 ?body1_3
  case' init1_3 =>
    refine ⟨0, ?_, ?_, ?_, ?_, ?_, rfl⟩
    all_goals (try simp only [go_sem, ↓reduceIte, reduceCtorEq, Nat.reduceEqDiff, Nat.reduceAdd, Nat.reduceMul, Nat.reduceSub, Nat.reduceLeDiff, Int.reduceLT, Int.reduceLE, Int.reduceEq, Int.reduceSub, Int.reduceAdd, Int.reduceMul, Int.reduceNeg, Int.reduceToNat])
    repeat' refine And.intro ?_ ?_
    all_goals try first | rfl | omega | (simp only [lnA] <;> omega) | ((first | refine stp ?_ | refine dkz_eq ?_ ?_) <;> first | rfl | omega | (simp only [lnA] <;> omega) | (simp only [lnA, List.append_assoc, List.cons_append, List.nil_append]; done) | skip)
  case' body1_3 =>
    rintro ms1 S1 ⟨k, h1_7, h1_8, o1_3, h1_9, c1_0, hm1⟩
    obtain ⟨i1_3, h1_3, b1_3, l1_3⟩ := o1_3.out
    have ni1_3 : ∀ c, (i1_3 = S1.n + c) = False := fun c => eq_false (by omega)
    have pi1_3 : ∀ c, (S1.n + c = i1_3) = False := fun c => eq_false (by omega)
    have qi1_3 : (i1_3 = S1.n) = False := eq_false (by omega)
    have ri1_3 : (S1.n = i1_3) = False := eq_false (by omega)
  · have b1 : k < L.length → (L.getD k []).length ≤ 1048576 := fun h => hl _ (getD_mem h)
    have fc : True := trivial
    repeat' first
      | with_reducible first | refine stp ?_ | refine q_blk_o rfl ?_ | (refine hK _ ?_; clear hK) | (refine hA ?_; clear hA hB) | (refine hB ?_; clear hA hB) | exact v_end0 | exact v_end0' | refine v_gb1 ?_ ?_ | refine v_gb0 ?_ ?_ | refine And.intro ?_ ?_
      | (with_reducible refine p_ok ?_; decide)
      | ((first | with_reducible first | refine v_region rfl rfl (fun K hK => ?_) | refine v_draws rfl rfl (fun K hK => ?_) | refine v_if (fun A B hA hB => ?_) | refine v_end rfl ?_ | refine v_fin1 ?_ | refine v_finC1 ?_ | refine v_finR1 ?_ | refine v_callE (slices_Clone_c _ ?_) ?_ | refine v_callE (impl_comparePerms_c _ _ ?_ ?_) ?_ | refine v_callE (slices_Equal_int_int_c _ _ ?_ ?_) ?_ | refine v_callN (slices_SortFunc_LLint_int_c _ ?_ ?_) rfl ?_ ?_ | refine v_callT (slices_SortFunc_LLint_int_c _ ?_ ?_) rfl ?_ ?_ | refine v_callTd (slices_SortFunc_LLint_int_c _ ?_ ?_) rfl ?_ ?_ | refine v_callR (slices_SortFunc_LLint_int_c _ ?_ ?_) rfl ?_ ?_ | refine v_callN (slices_CompactFunc_LLint_int_c _ ?_ ?_) rfl ?_ ?_ | refine v_callT (slices_CompactFunc_LLint_int_c _ ?_ ?_) rfl ?_ ?_ | refine v_callTd (slices_CompactFunc_LLint_int_c _ ?_ ?_) rfl ?_ ?_ | refine v_callR (slices_CompactFunc_LLint_int_c _ ?_ ?_) rfl ?_ ?_ | refine v_callT3 (slices_SortFunc_LLint_int_c _ ?_ ?_) ?_ ?_ | refine v_callT4 (slices_SortFunc_LLint_int_c _ ?_ ?_) ?_ ?_ | refine v_callT3 (slices_CompactFunc_LLint_int_c _ ?_ ?_) ?_ ?_ | refine v_callT4 (slices_CompactFunc_LLint_int_c _ ?_ ?_) ?_ ?_ | refine v_finO1 rfl ?_ | refine v_finN1 rfl ?_ ?_ | refine v_apj ?_ (fun j' => ?_) | refine v_stz ?_ ?_ ?_ ?_ ?_ | refine v_stq ?_ | refine v_cv1 ?_ ?_ ?_ | (intro hc; replace fc := And.intro hc fc; try simp only [hcs] at hc)) <;> (try simp (config := { maxSteps := 1000000 }) only [go_sem, ↓reduceIte, reduceCtorEq, Nat.reduceEqDiff, Nat.reduceAdd, Nat.reduceMul, Nat.reduceSub, Nat.reduceLeDiff, Int.reduceLT, Int.reduceLE, Int.reduceEq, Int.reduceSub, Int.reduceAdd, Int.reduceMul, Int.reduceNeg, Int.reduceToNat, h1_7, h1_8, h1_9, h1_3, b1_3, ni1_3, pi1_3, qi1_3, ri1_3, fc]) <;> (try with_reducible rfl))
    all_goals try have b3 := b1 (by omega)
    all_goals try (first | omega | (simp only [n_i64, n_u8]; omega) | (simp only [n_i64, n_u8, lnA]; omega) | (simp only [lnA]; done))
    · focus
        refine q_lp_n ((fun (k : Nat) => L.length - k) (k+1)) ?_ ⟨k+1, ?_, ?_, ?_, ?_, ?_, rfl⟩
        all_goals (try simp only [go_sem, ↓reduceIte, reduceCtorEq, Nat.reduceEqDiff, Nat.reduceAdd, Nat.reduceMul, Nat.reduceSub, Nat.reduceLeDiff, Int.reduceLT, Int.reduceLE, Int.reduceEq, Int.reduceSub, Int.reduceAdd, Int.reduceMul, Int.reduceNeg, Int.reduceToNat, h1_7, h1_8, h1_9, h1_3, b1_3, ni1_3, pi1_3, qi1_3, ri1_3])
        repeat' refine And.intro ?_ ?_
        all_goals try first | rfl | omega | (simp only [lnA] <;> omega) | ((first | refine stp ?_ | refine dkz_eq ?_ ?_) <;> first | rfl | omega | (simp only [lnA] <;> omega) | (simp only [lnA, List.append_assoc, List.cons_append, List.nil_append]; done) | skip)
      rw [take_getD (d := []) (by omega)]
    · intro l h; exact hl l (List.mem_of_mem_take h)
    · rw [isortL_len]
    · rw [isortL_len]; simp; omega
    · intro l h; have := hl l (List.mem_of_mem_take (isortL_mem.1 h)); omega
    · rw [List.take_of_length_le (by omega), ord_eq]
  all_goals trace_state
end Go.Gl
