/-
  Draws of codes, ranks and forms. Conditions: none.
-/
import Derived.Test.YtnoedblfedppkaaDraw
import Derived.Test.YtnoedblfedppkaaCodT
import Derived.Test.YtnoedblfedppkaaFoc
set_option linter.unusedSimpArgs false
set_option linter.unusedVariables false
set_option maxRecDepth 20000
set_option linter.unusedSectionVars false
namespace Go.Gl
open Go Go.Proofs
variable [Amb]
theorem spec_DrawCodeOf_x (b : List UInt8) (hb : b.length ≤ 1048576) : ∃ p, Fun Try.prog 61 [.sl (.lent false) (b.map u8P)] [.sl .own (List.map (PV.int .i64) p)] ∧ SmL p := by
  obtain ⟨s1, p, c1, hp⟩ := spec_l2Bent_x b ⟨0, newH b (min b.length 4000)⟩ hb
  refine ⟨p, ?_, hp⟩
  refine Fun.of (sg := sgCu) (ts := [2]) mo Try.func61 rfl rfl rfl rfl (by kernel_rfl) (by simp only [go_sem]) rfl ?_
  have fc : True := trivial
  repeat' first
    | with_reducible first | refine stp ?_ | refine q_blk_o rfl ?_ | (refine hK _ ?_; clear hK) | (refine hA ?_; clear hA hB) | (refine hB ?_; clear hA hB) | exact v_end0 | exact v_end0' | refine v_gb1 ?_ ?_ | refine v_gb0 ?_ ?_ | refine And.intro ?_ ?_
    | (with_reducible refine p_ok ?_; decide)
    | ((first | with_reducible first | refine v_region rfl rfl (fun K hK => ?_) | refine v_draws rfl rfl (fun K hK => ?_) | refine v_if (fun A B hA hB => ?_) | refine v_end rfl ?_ | refine v_fin1 ?_ | refine v_finC1 ?_ | refine v_finR1 ?_ | refine v_callE (spec_l1New_c _ ?_) ?_ | refine v_callN (c1) rfl ?_ ?_ | refine v_callT (c1) rfl ?_ ?_ | refine v_callTd (c1) rfl ?_ ?_ | refine v_callR (c1) rfl ?_ ?_ | refine v_callT3 (c1) ?_ ?_ | refine v_callT4 (c1) ?_ ?_ | refine v_finO1 rfl ?_ | refine v_finN1 rfl ?_ ?_ | refine v_apj ?_ (fun j' => ?_) | refine v_stz ?_ ?_ ?_ ?_ ?_ | refine v_stq ?_ | refine v_cv1 ?_ ?_ ?_ | (intro hc; replace fc := And.intro hc fc; try simp only [hcs] at hc)) <;> (try simp (config := { maxSteps := 1000000 }) only [go_sem, ↓reduceIte, reduceCtorEq, Nat.reduceEqDiff, Nat.reduceAdd, Nat.reduceMul, Nat.reduceSub, Nat.reduceLeDiff, Int.reduceLT, Int.reduceLE, Int.reduceEq, Int.reduceSub, Int.reduceAdd, Int.reduceMul, Int.reduceNeg, Int.reduceToNat, fc]) <;> (try with_reducible rfl))
  all_goals try (first | omega | (simp only [n_i64, n_u8]; omega) | (simp only [n_i64, n_u8, lnA]; omega) | (simp only [lnA]; done) | exact List.take_of_length_le (by simp))
theorem spec_DrawNextPerm_x (b : List UInt8) (hb : b.length ≤ 1048576) : ∃ p, Fun Try.prog 71 [.sl (.lent false) (b.map u8P)] [.sl .own (List.map (PV.int .i64) p)] ∧ SmL p := by
  obtain ⟨s1, p, c1, hp⟩ := spec_l2Bent_x b ⟨0, newH b (min b.length 4000)⟩ hb
  refine ⟨p, ?_, hp⟩
  refine Fun.of (sg := sgCu) (ts := [2]) mo Try.func71 rfl rfl rfl rfl (by kernel_rfl) (by simp only [go_sem]) rfl ?_
  have fc : True := trivial
  repeat' first
    | with_reducible first | refine stp ?_ | refine q_blk_o rfl ?_ | (refine hK _ ?_; clear hK) | (refine hA ?_; clear hA hB) | (refine hB ?_; clear hA hB) | exact v_end0 | exact v_end0' | refine v_gb1 ?_ ?_ | refine v_gb0 ?_ ?_ | refine And.intro ?_ ?_
    | (with_reducible refine p_ok ?_; decide)
    | ((first | with_reducible first | refine v_region rfl rfl (fun K hK => ?_) | refine v_draws rfl rfl (fun K hK => ?_) | refine v_if (fun A B hA hB => ?_) | refine v_end rfl ?_ | refine v_fin1 ?_ | refine v_finC1 ?_ | refine v_finR1 ?_ | refine v_callE (spec_l1New_c _ ?_) ?_ | refine v_callN (c1) rfl ?_ ?_ | refine v_callT (c1) rfl ?_ ?_ | refine v_callTd (c1) rfl ?_ ?_ | refine v_callR (c1) rfl ?_ ?_ | refine v_callT3 (c1) ?_ ?_ | refine v_callT4 (c1) ?_ ?_ | refine v_finO1 rfl ?_ | refine v_finN1 rfl ?_ ?_ | refine v_apj ?_ (fun j' => ?_) | refine v_stz ?_ ?_ ?_ ?_ ?_ | refine v_stq ?_ | refine v_cv1 ?_ ?_ ?_ | (intro hc; replace fc := And.intro hc fc; try simp only [hcs] at hc)) <;> (try simp (config := { maxSteps := 1000000 }) only [go_sem, ↓reduceIte, reduceCtorEq, Nat.reduceEqDiff, Nat.reduceAdd, Nat.reduceMul, Nat.reduceSub, Nat.reduceLeDiff, Int.reduceLT, Int.reduceLE, Int.reduceEq, Int.reduceSub, Int.reduceAdd, Int.reduceMul, Int.reduceNeg, Int.reduceToNat, fc]) <;> (try with_reducible rfl))
  all_goals try (first | omega | (simp only [n_i64, n_u8]; omega) | (simp only [n_i64, n_u8, lnA]; omega) | (simp only [lnA]; done) | exact List.take_of_length_le (by simp))
theorem spec_DrawPermOfCode_x (b : List UInt8) (hb : b.length ≤ 1048576) : ∃ p, Fun Try.prog 63 [.sl (.lent false) (b.map u8P)] [.sl .own (List.map (PV.int .i64) p)] ∧ SmL p := by
  obtain ⟨s1, q, c1, hq⟩ := spec_l2Any_x b ⟨0, newH b (min b.length 4000)⟩ hb
  have h8 : q.length ≤ 8 := by simp [isPermB] at hq; exact hq.1
  have c2 : ∀ m : Bool, Fun Try.prog 74 [.sl (.lent m) (List.map (PV.int .i64) q)] [.sl .own (List.map (PV.int .i64) (codeGo q))] := fun m => by
    have h := spec_CodeOf_c (m0 := m) q (by omega)
    rw [if_pos hq] at h; exact h
  have hl := codeGo_length q
  have hr : ∀ x ∈ codeGo q, 0 ≤ x ∧ x ≤ 8 := fun x hx => by
    obtain ⟨i, hi, rfl⟩ := List.getElem_of_mem hx
    have := codeGo_at q i
    rw [List.getD_eq_getElem?_getD, List.getElem?_eq_getElem hi] at this
    simp only [Option.getD_some] at this; omega
  generalize codeGo q = c at *
  have hs : SmL c := ⟨by omega, fun x hx => by have := hr x hx; omega⟩
  by_cases h0 : 0 < c.length ∧ bwX b s1 8 = 0
  · have q1 := bwX_r (b := b) (s := bwS b s1 8) (n := 11)
    refine ⟨c.set 0 (bwX b (bwS b s1 8) 11 - 1), ?_, by simp; omega, fun y hy => ?_⟩
    · have f1 := h0.2
      refine Fun.of (sg := sgCu) (ts := [2]) mo Try.func63 rfl rfl rfl rfl (by kernel_rfl) (by simp only [go_sem]) rfl ?_
      have fc : True := trivial
      repeat' first
        | with_reducible first | refine stp ?_ | refine q_blk_o rfl ?_ | (refine hK _ ?_; clear hK) | (refine hA ?_; clear hA hB) | (refine hB ?_; clear hA hB) | exact v_end0 | exact v_end0' | refine v_gb1 ?_ ?_ | refine v_gb0 ?_ ?_ | refine And.intro ?_ ?_
        | (with_reducible refine p_ok ?_; decide)
        | ((first | with_reducible first | refine v_region rfl rfl (fun K hK => ?_) | refine v_draws rfl rfl (fun K hK => ?_) | refine v_if (fun A B hA hB => ?_) | refine v_end rfl ?_ | refine v_fin1 ?_ | refine v_finC1 ?_ | refine v_finR1 ?_ | refine v_callE (c2 _) ?_ | refine v_callE (spec_l1New_c _ ?_) ?_ | refine v_callN (spec_l1Once_c _ _ _ ?_ ?_) rfl ?_ ?_ | refine v_callT (spec_l1Once_c _ _ _ ?_ ?_) rfl ?_ ?_ | refine v_callTd (spec_l1Once_c _ _ _ ?_ ?_) rfl ?_ ?_ | refine v_callR (spec_l1Once_c _ _ _ ?_ ?_) rfl ?_ ?_ | refine v_callN (spec_l1Below_c _ _ _ ?_ ?_) rfl ?_ ?_ | refine v_callT (spec_l1Below_c _ _ _ ?_ ?_) rfl ?_ ?_ | refine v_callTd (spec_l1Below_c _ _ _ ?_ ?_) rfl ?_ ?_ | refine v_callR (spec_l1Below_c _ _ _ ?_ ?_) rfl ?_ ?_ | refine v_callN (c1) rfl ?_ ?_ | refine v_callT (c1) rfl ?_ ?_ | refine v_callTd (c1) rfl ?_ ?_ | refine v_callR (c1) rfl ?_ ?_ | refine v_callT3 (spec_l1Once_c _ _ _ ?_ ?_) ?_ ?_ | refine v_callT4 (spec_l1Once_c _ _ _ ?_ ?_) ?_ ?_ | refine v_callT3 (spec_l1Below_c _ _ _ ?_ ?_) ?_ ?_ | refine v_callT4 (spec_l1Below_c _ _ _ ?_ ?_) ?_ ?_ | refine v_callT3 (c1) ?_ ?_ | refine v_callT4 (c1) ?_ ?_ | refine v_finO1 rfl ?_ | refine v_finN1 rfl ?_ ?_ | refine v_apj ?_ (fun j' => ?_) | refine v_stz ?_ ?_ ?_ ?_ ?_ | refine v_stq ?_ | refine v_cv1 ?_ ?_ ?_ | (intro hc; replace fc := And.intro hc fc; try simp only [hcs] at hc)) <;> (try simp (config := { maxSteps := 1000000 }) only [go_sem, ↓reduceIte, reduceCtorEq, Nat.reduceEqDiff, Nat.reduceAdd, Nat.reduceMul, Nat.reduceSub, Nat.reduceLeDiff, Int.reduceLT, Int.reduceLE, Int.reduceEq, Int.reduceSub, Int.reduceAdd, Int.reduceMul, Int.reduceNeg, Int.reduceToNat, f1, fc]) <;> (try with_reducible rfl))
      all_goals try (first | omega | (simp only [n_i64, n_u8]; omega) | (simp only [n_i64, n_u8, lnA]; omega) | (simp only [lnA]; done) | exact List.take_of_length_le (by simp))
      all_goals trace_state
    · rcases List.mem_or_eq_of_mem_set hy with g | g
      · exact hs.rg y g
      · omega
  · refine ⟨c, ?_, hs⟩
    by_cases h1 : 0 < c.length
    · have f1 : (bwX b s1 8 = 0) = False := eq_false fun e => h0 ⟨h1, e⟩
      refine Fun.of (sg := sgCu) (ts := [2]) mo Try.func63 rfl rfl rfl rfl (by kernel_rfl) (by simp only [go_sem]) rfl ?_
      have fc : True := trivial
      repeat' first
        | with_reducible first | refine stp ?_ | refine q_blk_o rfl ?_ | (refine hK _ ?_; clear hK) | (refine hA ?_; clear hA hB) | (refine hB ?_; clear hA hB) | exact v_end0 | exact v_end0' | refine v_gb1 ?_ ?_ | refine v_gb0 ?_ ?_ | refine And.intro ?_ ?_
        | (with_reducible refine p_ok ?_; decide)
        | ((first | with_reducible first | refine v_region rfl rfl (fun K hK => ?_) | refine v_draws rfl rfl (fun K hK => ?_) | refine v_if (fun A B hA hB => ?_) | refine v_end rfl ?_ | refine v_fin1 ?_ | refine v_finC1 ?_ | refine v_finR1 ?_ | refine v_callE (c2 _) ?_ | refine v_callE (spec_l1New_c _ ?_) ?_ | refine v_callN (spec_l1Once_c _ _ _ ?_ ?_) rfl ?_ ?_ | refine v_callT (spec_l1Once_c _ _ _ ?_ ?_) rfl ?_ ?_ | refine v_callTd (spec_l1Once_c _ _ _ ?_ ?_) rfl ?_ ?_ | refine v_callR (spec_l1Once_c _ _ _ ?_ ?_) rfl ?_ ?_ | refine v_callN (spec_l1Below_c _ _ _ ?_ ?_) rfl ?_ ?_ | refine v_callT (spec_l1Below_c _ _ _ ?_ ?_) rfl ?_ ?_ | refine v_callTd (spec_l1Below_c _ _ _ ?_ ?_) rfl ?_ ?_ | refine v_callR (spec_l1Below_c _ _ _ ?_ ?_) rfl ?_ ?_ | refine v_callN (c1) rfl ?_ ?_ | refine v_callT (c1) rfl ?_ ?_ | refine v_callTd (c1) rfl ?_ ?_ | refine v_callR (c1) rfl ?_ ?_ | refine v_callT3 (spec_l1Once_c _ _ _ ?_ ?_) ?_ ?_ | refine v_callT4 (spec_l1Once_c _ _ _ ?_ ?_) ?_ ?_ | refine v_callT3 (spec_l1Below_c _ _ _ ?_ ?_) ?_ ?_ | refine v_callT4 (spec_l1Below_c _ _ _ ?_ ?_) ?_ ?_ | refine v_callT3 (c1) ?_ ?_ | refine v_callT4 (c1) ?_ ?_ | refine v_finO1 rfl ?_ | refine v_finN1 rfl ?_ ?_ | refine v_apj ?_ (fun j' => ?_) | refine v_stz ?_ ?_ ?_ ?_ ?_ | refine v_stq ?_ | refine v_cv1 ?_ ?_ ?_ | (intro hc; replace fc := And.intro hc fc; try simp only [hcs] at hc)) <;> (try simp (config := { maxSteps := 1000000 }) only [go_sem, ↓reduceIte, reduceCtorEq, Nat.reduceEqDiff, Nat.reduceAdd, Nat.reduceMul, Nat.reduceSub, Nat.reduceLeDiff, Int.reduceLT, Int.reduceLE, Int.reduceEq, Int.reduceSub, Int.reduceAdd, Int.reduceMul, Int.reduceNeg, Int.reduceToNat, f1, fc]) <;> (try with_reducible rfl))
      all_goals try (first | omega | (simp only [n_i64, n_u8]; omega) | (simp only [n_i64, n_u8, lnA]; omega) | (simp only [lnA]; done) | exact List.take_of_length_le (by simp))
      all_goals trace_state
    · refine Fun.of (sg := sgCu) (ts := [2]) mo Try.func63 rfl rfl rfl rfl (by kernel_rfl) (by simp only [go_sem]) rfl ?_
      have fc : True := trivial
      repeat' first
        | with_reducible first | refine stp ?_ | refine q_blk_o rfl ?_ | (refine hK _ ?_; clear hK) | (refine hA ?_; clear hA hB) | (refine hB ?_; clear hA hB) | exact v_end0 | exact v_end0' | refine v_gb1 ?_ ?_ | refine v_gb0 ?_ ?_ | refine And.intro ?_ ?_
        | (with_reducible refine p_ok ?_; decide)
        | ((first | with_reducible first | refine v_region rfl rfl (fun K hK => ?_) | refine v_draws rfl rfl (fun K hK => ?_) | refine v_if (fun A B hA hB => ?_) | refine v_end rfl ?_ | refine v_fin1 ?_ | refine v_finC1 ?_ | refine v_finR1 ?_ | refine v_callE (c2 _) ?_ | refine v_callE (spec_l1New_c _ ?_) ?_ | refine v_callN (spec_l1Once_c _ _ _ ?_ ?_) rfl ?_ ?_ | refine v_callT (spec_l1Once_c _ _ _ ?_ ?_) rfl ?_ ?_ | refine v_callTd (spec_l1Once_c _ _ _ ?_ ?_) rfl ?_ ?_ | refine v_callR (spec_l1Once_c _ _ _ ?_ ?_) rfl ?_ ?_ | refine v_callN (spec_l1Below_c _ _ _ ?_ ?_) rfl ?_ ?_ | refine v_callT (spec_l1Below_c _ _ _ ?_ ?_) rfl ?_ ?_ | refine v_callTd (spec_l1Below_c _ _ _ ?_ ?_) rfl ?_ ?_ | refine v_callR (spec_l1Below_c _ _ _ ?_ ?_) rfl ?_ ?_ | refine v_callN (c1) rfl ?_ ?_ | refine v_callT (c1) rfl ?_ ?_ | refine v_callTd (c1) rfl ?_ ?_ | refine v_callR (c1) rfl ?_ ?_ | refine v_callT3 (spec_l1Once_c _ _ _ ?_ ?_) ?_ ?_ | refine v_callT4 (spec_l1Once_c _ _ _ ?_ ?_) ?_ ?_ | refine v_callT3 (spec_l1Below_c _ _ _ ?_ ?_) ?_ ?_ | refine v_callT4 (spec_l1Below_c _ _ _ ?_ ?_) ?_ ?_ | refine v_callT3 (c1) ?_ ?_ | refine v_callT4 (c1) ?_ ?_ | refine v_finO1 rfl ?_ | refine v_finN1 rfl ?_ ?_ | refine v_apj ?_ (fun j' => ?_) | refine v_stz ?_ ?_ ?_ ?_ ?_ | refine v_stq ?_ | refine v_cv1 ?_ ?_ ?_ | (intro hc; replace fc := And.intro hc fc; try simp only [hcs] at hc)) <;> (try simp (config := { maxSteps := 1000000 }) only [go_sem, ↓reduceIte, reduceCtorEq, Nat.reduceEqDiff, Nat.reduceAdd, Nat.reduceMul, Nat.reduceSub, Nat.reduceLeDiff, Int.reduceLT, Int.reduceLE, Int.reduceEq, Int.reduceSub, Int.reduceAdd, Int.reduceMul, Int.reduceNeg, Int.reduceToNat, fc]) <;> (try with_reducible rfl))
      all_goals try (first | omega | (simp only [n_i64, n_u8]; omega) | (simp only [n_i64, n_u8, lnA]; omega) | (simp only [lnA]; done) | exact List.take_of_length_le (by simp))
      all_goals trace_state
theorem spec_DrawPermAt_x (b : List UInt8) (hb : b.length ≤ 1048576) : ∃ n k, Fun Try.prog 66 [.sl (.lent false) (b.map u8P)] [.int .i64 n, .int .i64 k] ∧ -1 ≤ n ∧ n ≤ 9 ∧ -1 ≤ k ∧ k ≤ 40320 := by
  obtain ⟨s0, hs0⟩ : ∃ s0, (⟨0, newH b (min b.length 4000)⟩ : Cu) = s0 := ⟨_, rfl⟩
  have q1 := bwX_r (b := b) (s := s0) (n := 10)
  have q2 := bitI_r (decide (bwX b (bwS b s0 10) 10 = 0))
  have q3 := bwX_r (b := b) (s := bwS b (bwS b s0 10) 10) (n := 24)
  have q4 := bwX_r (b := b) (s := bwS b (bwS b (bwS b s0 10) 10) 24) (n := 720)
  obtain ⟨s1, k, c1, hk⟩ := spec_l1PickInt_x (m0 := true) b (bwS b (bwS b (bwS b (bwS b s0 10) 10) 24) 720) [0, 1, bwX b (bwS b (bwS b s0 10) 10) 24, bwX b (bwS b (bwS b (bwS b s0 10) 10) 24) 720, 5039, 5040, 40319, 40320, -1] hb (by simp) (by simp)
  have hk2 : -1 ≤ k ∧ k ≤ 40320 := by
    simp only [List.mem_cons, List.not_mem_nil, or_false] at hk
    omega
  simp only [List.map_cons, List.map_nil] at c1
  refine ⟨bwX b s0 10 - bitI (decide (bwX b (bwS b s0 10) 10 = 0)), k, ?_, by omega, by omega, hk2.1, hk2.2⟩
  refine Fun.of (sg := sgCu) (ts := [2, 3]) mo Try.func66 rfl rfl rfl rfl (by kernel_rfl) (by simp only [go_sem]) rfl ?_
  have fc : True := trivial
  repeat' first
    | with_reducible first | refine stp ?_ | refine q_blk_o rfl ?_ | (refine hK _ ?_; clear hK) | (refine hA ?_; clear hA hB) | (refine hB ?_; clear hA hB) | exact v_end0 | exact v_end0' | refine v_gb1 ?_ ?_ | refine v_gb0 ?_ ?_ | refine And.intro ?_ ?_
    | (with_reducible refine p_ok ?_; decide)
    | ((first | with_reducible first | refine v_region rfl rfl (fun K hK => ?_) | refine v_draws rfl rfl (fun K hK => ?_) | refine v_if (fun A B hA hB => ?_) | refine v_end rfl ?_ | refine v_fin1 ?_ | refine v_finC1 ?_ | refine v_finR1 ?_ | refine v_callE (spec_l1Bit_c _) ?_ | refine v_callE (spec_l1New_c _ ?_) ?_ | refine v_callN (spec_l1Below_c _ _ _ ?_ ?_) rfl ?_ ?_ | refine v_callT (spec_l1Below_c _ _ _ ?_ ?_) rfl ?_ ?_ | refine v_callTd (spec_l1Below_c _ _ _ ?_ ?_) rfl ?_ ?_ | refine v_callR (spec_l1Below_c _ _ _ ?_ ?_) rfl ?_ ?_ | refine v_callN (spec_l1Once_c _ _ _ ?_ ?_) rfl ?_ ?_ | refine v_callT (spec_l1Once_c _ _ _ ?_ ?_) rfl ?_ ?_ | refine v_callTd (spec_l1Once_c _ _ _ ?_ ?_) rfl ?_ ?_ | refine v_callR (spec_l1Once_c _ _ _ ?_ ?_) rfl ?_ ?_ | refine v_callN (c1) rfl ?_ ?_ | refine v_callT (c1) rfl ?_ ?_ | refine v_callTd (c1) rfl ?_ ?_ | refine v_callR (c1) rfl ?_ ?_ | refine v_callT3 (spec_l1Below_c _ _ _ ?_ ?_) ?_ ?_ | refine v_callT4 (spec_l1Below_c _ _ _ ?_ ?_) ?_ ?_ | refine v_callT3 (spec_l1Once_c _ _ _ ?_ ?_) ?_ ?_ | refine v_callT4 (spec_l1Once_c _ _ _ ?_ ?_) ?_ ?_ | refine v_callT3 (c1) ?_ ?_ | refine v_callT4 (c1) ?_ ?_ | refine v_finO1 rfl ?_ | refine v_finN1 rfl ?_ ?_ | refine v_apj ?_ (fun j' => ?_) | refine v_stz ?_ ?_ ?_ ?_ ?_ | refine v_stq ?_ | refine v_cv1 ?_ ?_ ?_ | (intro hc; replace fc := And.intro hc fc; try simp only [hcs] at hc)) <;> (try simp (config := { maxSteps := 1000000 }) only [go_sem, ↓reduceIte, reduceCtorEq, Nat.reduceEqDiff, Nat.reduceAdd, Nat.reduceMul, Nat.reduceSub, Nat.reduceLeDiff, Int.reduceLT, Int.reduceLE, Int.reduceEq, Int.reduceSub, Int.reduceAdd, Int.reduceMul, Int.reduceNeg, Int.reduceToNat, hs0, fc]) <;> (try with_reducible rfl))
  all_goals try (first | omega | (simp only [n_i64, n_u8]; omega) | (simp only [n_i64, n_u8, lnA]; omega) | (simp only [lnA]; done) | exact List.take_of_length_le (by simp))
  all_goals trace_state
theorem spec_DrawTurnedForm_x (b : List UInt8) (hb : b.length ≤ 1048576) : ∃ f, Fun Try.prog 69 [.sl (.lent false) (b.map u8P)] [.sl .own (List.map (PV.int .i64) f)] ∧ f.length ≤ 9 ∧ ∀ x ∈ f, 0 ≤ x ∧ x ≤ 101 := by
  obtain ⟨s1, q, c1, hq⟩ := spec_l2Any_x b ⟨0, newH b (min b.length 4000)⟩ hb
  have h8 : q.length ≤ 8 := by simp [isPermB] at hq; exact hq.1
  have hf : (focL q).length ≤ 8 ∧ ∀ x ∈ focL q, 0 ≤ x ∧ x ≤ 8 := by
    rw [focL, if_pos hq]
    constructor
    · rw [List.length_reverse, srtI_len]
      have : (kpI (fun x => decide (x = 0)) (codeGo q)).length ≤ (codeGo q).length := List.length_filter_le _ _
      rw [codeGo_length] at this; omega
    · intro x hx
      have h1 := srtI_perm.subset (List.mem_reverse.1 hx)
      have h2 := (List.mem_filter.1 h1).1
      obtain ⟨i, hi, rfl⟩ := List.getElem_of_mem h2
      have := codeGo_at q i
      rw [List.getD_eq_getElem?_getD, List.getElem?_eq_getElem hi] at this
      simp only [Option.getD_some] at this; omega
  have c2 := fun m : Bool => spec_FormOfCode_c (m0 := m) q (by omega)
  generalize focL q = c at *
  by_cases h0 : bwX b s1 10 = 0
  · obtain ⟨s2, k, c3, hk⟩ := spec_l1PickInt_x (m0 := true) b (bwS b s1 10) [0, 100, 101] hb (by decide) (by decide)
    simp only [List.map_cons, List.map_nil] at c3
    refine ⟨c ++ [k], ?_, by simp; omega, fun y hy => ?_⟩
    · refine Fun.of (sg := sgCu) (ts := [2]) mo Try.func69 rfl rfl rfl rfl (by kernel_rfl) (by simp only [go_sem]) rfl ?_
      have fc : True := trivial
      repeat' first
        | with_reducible first | refine stp ?_ | refine q_blk_o rfl ?_ | (refine hK _ ?_; clear hK) | (refine hA ?_; clear hA hB) | (refine hB ?_; clear hA hB) | exact v_end0 | exact v_end0' | refine v_gb1 ?_ ?_ | refine v_gb0 ?_ ?_ | refine And.intro ?_ ?_
        | (with_reducible refine p_ok ?_; decide)
        | ((first | with_reducible first | refine v_region rfl rfl (fun K hK => ?_) | refine v_draws rfl rfl (fun K hK => ?_) | refine v_if (fun A B hA hB => ?_) | refine v_end rfl ?_ | refine v_fin1 ?_ | refine v_finC1 ?_ | refine v_finR1 ?_ | refine v_callE (c2 _) ?_ | refine v_callE (spec_l1New_c _ ?_) ?_ | refine v_callN (spec_l1Once_c _ _ _ ?_ ?_) rfl ?_ ?_ | refine v_callT (spec_l1Once_c _ _ _ ?_ ?_) rfl ?_ ?_ | refine v_callTd (spec_l1Once_c _ _ _ ?_ ?_) rfl ?_ ?_ | refine v_callR (spec_l1Once_c _ _ _ ?_ ?_) rfl ?_ ?_ | refine v_callN (c1) rfl ?_ ?_ | refine v_callT (c1) rfl ?_ ?_ | refine v_callTd (c1) rfl ?_ ?_ | refine v_callR (c1) rfl ?_ ?_ | refine v_callN (c3) rfl ?_ ?_ | refine v_callT (c3) rfl ?_ ?_ | refine v_callTd (c3) rfl ?_ ?_ | refine v_callR (c3) rfl ?_ ?_ | refine v_callT3 (spec_l1Once_c _ _ _ ?_ ?_) ?_ ?_ | refine v_callT4 (spec_l1Once_c _ _ _ ?_ ?_) ?_ ?_ | refine v_callT3 (c1) ?_ ?_ | refine v_callT4 (c1) ?_ ?_ | refine v_callT3 (c3) ?_ ?_ | refine v_callT4 (c3) ?_ ?_ | refine v_finO1 rfl ?_ | refine v_finN1 rfl ?_ ?_ | refine v_apj ?_ (fun j' => ?_) | refine v_stz ?_ ?_ ?_ ?_ ?_ | refine v_stq ?_ | refine v_cv1 ?_ ?_ ?_ | (intro hc; replace fc := And.intro hc fc; try simp only [hcs] at hc)) <;> (try simp (config := { maxSteps := 1000000 }) only [go_sem, ↓reduceIte, reduceCtorEq, Nat.reduceEqDiff, Nat.reduceAdd, Nat.reduceMul, Nat.reduceSub, Nat.reduceLeDiff, Int.reduceLT, Int.reduceLE, Int.reduceEq, Int.reduceSub, Int.reduceAdd, Int.reduceMul, Int.reduceNeg, Int.reduceToNat, h0, fc]) <;> (try with_reducible rfl))
      all_goals try (first | omega | (simp only [n_i64, n_u8]; omega) | (simp only [n_i64, n_u8, lnA]; omega) | (simp only [lnA]; done) | exact List.take_of_length_le (by simp))
      all_goals trace_state
    · rcases List.mem_append.1 hy with g | g
      · have := hf.2 y g; omega
      · simp at g hk; omega
  · have f1 : (bwX b s1 10 = 0) = False := eq_false h0
    refine ⟨c, ?_, by omega, fun y hy => by have := hf.2 y hy; omega⟩
    refine Fun.of (sg := sgCu) (ts := [2]) mo Try.func69 rfl rfl rfl rfl (by kernel_rfl) (by simp only [go_sem]) rfl ?_
    have fc : True := trivial
    repeat' first
      | with_reducible first | refine stp ?_ | refine q_blk_o rfl ?_ | (refine hK _ ?_; clear hK) | (refine hA ?_; clear hA hB) | (refine hB ?_; clear hA hB) | exact v_end0 | exact v_end0' | refine v_gb1 ?_ ?_ | refine v_gb0 ?_ ?_ | refine And.intro ?_ ?_
      | (with_reducible refine p_ok ?_; decide)
      | ((first | with_reducible first | refine v_region rfl rfl (fun K hK => ?_) | refine v_draws rfl rfl (fun K hK => ?_) | refine v_if (fun A B hA hB => ?_) | refine v_end rfl ?_ | refine v_fin1 ?_ | refine v_finC1 ?_ | refine v_finR1 ?_ | refine v_callE (c2 _) ?_ | refine v_callE (spec_l1New_c _ ?_) ?_ | refine v_callN (spec_l1Once_c _ _ _ ?_ ?_) rfl ?_ ?_ | refine v_callT (spec_l1Once_c _ _ _ ?_ ?_) rfl ?_ ?_ | refine v_callTd (spec_l1Once_c _ _ _ ?_ ?_) rfl ?_ ?_ | refine v_callR (spec_l1Once_c _ _ _ ?_ ?_) rfl ?_ ?_ | refine v_callN (c1) rfl ?_ ?_ | refine v_callT (c1) rfl ?_ ?_ | refine v_callTd (c1) rfl ?_ ?_ | refine v_callR (c1) rfl ?_ ?_ | refine v_callT3 (spec_l1Once_c _ _ _ ?_ ?_) ?_ ?_ | refine v_callT4 (spec_l1Once_c _ _ _ ?_ ?_) ?_ ?_ | refine v_callT3 (c1) ?_ ?_ | refine v_callT4 (c1) ?_ ?_ | refine v_finO1 rfl ?_ | refine v_finN1 rfl ?_ ?_ | refine v_apj ?_ (fun j' => ?_) | refine v_stz ?_ ?_ ?_ ?_ ?_ | refine v_stq ?_ | refine v_cv1 ?_ ?_ ?_ | (intro hc; replace fc := And.intro hc fc; try simp only [hcs] at hc)) <;> (try simp (config := { maxSteps := 1000000 }) only [go_sem, ↓reduceIte, reduceCtorEq, Nat.reduceEqDiff, Nat.reduceAdd, Nat.reduceMul, Nat.reduceSub, Nat.reduceLeDiff, Int.reduceLT, Int.reduceLE, Int.reduceEq, Int.reduceSub, Int.reduceAdd, Int.reduceMul, Int.reduceNeg, Int.reduceToNat, f1, fc]) <;> (try with_reducible rfl))
    all_goals try (first | omega | (simp only [n_i64, n_u8]; omega) | (simp only [n_i64, n_u8, lnA]; omega) | (simp only [lnA]; done) | exact List.take_of_length_le (by simp))
    all_goals trace_state
