/-
  The factorial: what its functions compute. Conditions: none.
-/
import Derived.Test.YtdiiocckeldkfaaNum
set_option linter.unusedSimpArgs false
set_option linter.unusedVariables false
set_option maxRecDepth 20000
namespace Go.Gl
open Go Go.Proofs

def facN : Nat → Int
  | 0 => 1
  | n + 1 => (n + 1) * facN n
theorem facN_pos : ∀ n, 0 < facN n
  | 0 => by decide
  | n + 1 => Int.mul_pos (by omega) (facN_pos n)
theorem facN_mono {m n : Nat} (h : m ≤ n) : facN m ≤ facN n := by
  induction h with
  | refl => exact Int.le_refl _
  | step h ih =>
    rename_i k
    refine Int.le_trans ih ?_
    have := facN_pos k
    have e : facN (k + 1) = (k : Int) * facN k + facN k := by simp only [facN]; rw [Int.add_mul]; omega
    rw [e]
    have := Int.mul_nonneg (Int.natCast_nonneg k) (Int.le_of_lt this)
    omega
theorem facN_le {n : Nat} (h : n ≤ 20) : facN n ≤ 2432902008176640000 := Int.le_trans (facN_mono h) (by decide)
theorem facN_8 {n : Nat} (h : n ≤ 8) : facN n ≤ 40320 := Int.le_trans (facN_mono h) (by decide)

def facI (n : Int) : Int := facN n.toNat
theorem impl_factorial_c (n : Int) (hn : n ≤ 20) : Fun Try.prog 85 [(.int .i64 (n))] [(.int .i64 (facI n))] := by
  refine Fun.of (sg := sg0) (ts := [2]) mo Try.func85 rfl rfl rfl rfl (by kernel_rfl) (by simp [noRoL, nrA_int, nrA_bool, nrA_str, nrA_own, nrA_lent, nrA_agg, nrL_int, nrL_str, nrL_bool, nrL_u8, nrL_frI, nrL_frS]) rfl ?_
  have fc : True := trivial
  repeat' first
    | with_reducible first | refine v_seq ?_ | refine v_skip ?_ | refine v_exit ?_ | refine v_ret ?_ | refine v_block ?_ | refine q_seq_n ?_ | refine q_seq_e ?_ | refine q_seq_r ?_ | refine q_blk_n ?_ | refine q_blk_r ?_ | refine q_blk_s ?_ | refine q_blk_o rfl ?_ | refine q_lp_e ?_ | refine q_lp_r ?_ | (refine hK _ ?_; clear hK) | (refine hA ?_; clear hA hB) | (refine hB ?_; clear hA hB) | exact v_end0 | exact v_end0' | refine And.intro ?_ ?_
    | ((with_reducible first | refine v_region rfl rfl (fun K hK => ?_) | refine v_draws rfl rfl (fun K hK => ?_) | refine v_if (fun A B hA hB => ?_) | refine v_end rfl ?_ | refine v_fin (.inl rfl) ?_ | refine v_fin (.inr rfl) ?_); simp (config := {contextual := true, maxSteps := 1000000}) only [go_sem, ↓reduceIte, reduceCtorEq, Nat.reduceEqDiff, Nat.reduceAdd, Nat.reduceMul, Nat.reduceSub, Nat.reduceLeDiff, Int.reduceLT, Int.reduceLE, Int.reduceEq, Int.reduceSub, Int.reduceAdd, Int.reduceMul, Int.reduceNeg, Int.reduceToNat, fc])
    | ((with_reducible first | refine v_finN (.inl rfl) rfl ?_ ?_ | refine v_finN (.inr rfl) rfl ?_ ?_) <;> (try simp (config := {contextual := true, maxSteps := 1000000}) only [go_sem, ↓reduceIte, reduceCtorEq, Nat.reduceEqDiff, Nat.reduceAdd, Nat.reduceMul, Nat.reduceSub, Nat.reduceLeDiff, Int.reduceLT, Int.reduceLE, Int.reduceEq, Int.reduceSub, Int.reduceAdd, Int.reduceMul, Int.reduceNeg, Int.reduceToNat, fc]) <;> (try with_reducible rfl))
    | (with_reducible refine v_apj ?_ (fun j' => ?_)) <;> try simp (config := {contextual := true, maxSteps := 1000000}) only [go_sem, ↓reduceIte, reduceCtorEq, Nat.reduceEqDiff, Nat.reduceAdd, Nat.reduceMul, Nat.reduceSub, Nat.reduceLeDiff, Int.reduceLT, Int.reduceLE, Int.reduceEq, Int.reduceSub, Int.reduceAdd, Int.reduceMul, Int.reduceNeg, Int.reduceToNat, fc]
    | (with_reducible refine p_ok ?_; decide)
    | (intro hc; replace fc := And.intro hc fc; try simp only [decide_eq_true_eq, decide_eq_false_iff_not, Bool.and_eq_true, Bool.or_eq_true, Bool.and_eq_false_iff, Bool.or_eq_false_iff, Bool.not_eq_true', Bool.not_eq_false', Int.not_lt, Int.not_le] at hc)
  refine v_loop (fun ms1 S1 => ∃ (i : Nat), S1.e 3 = .p (.int .i64 (facN i)) ∧ S1.e 5 = .p (.int .i64 (n)) ∧ S1.e 6 = .p (.int .i64 (i)) ∧ ((i : Int) ≤ max n 0) ∧ ms1 = n.toNat - i) ((fun (i : Nat) => n.toNat - i) (0)) ?init1_0 ?body1_0
  case' init1_0 =>
    refine ⟨0, ?_, ?_, ?_, ?_, rfl⟩
    all_goals (try simp only [go_sem, ↓reduceIte, reduceCtorEq, Nat.reduceEqDiff, Nat.reduceAdd, Nat.reduceMul, Nat.reduceSub, Nat.reduceLeDiff, Int.reduceLT, Int.reduceLE, Int.reduceEq, Int.reduceSub, Int.reduceAdd, Int.reduceMul, Int.reduceNeg, Int.reduceToNat])
    repeat' refine And.intro ?_ ?_
    all_goals try first | rfl | omega | (simp only [List.length_append, List.length_cons, List.length_nil, List.length_set, List.length_take, List.length_drop, List.length_map, List.length_replicate] <;> omega) | ((first | refine ref_eq ?_ | refine live_eq ?_ | refine int_eq ?_ | refine bool_eq ?_ | refine str_eq ?_ | refine sl_eq ?_ | refine mp_eq ?_) <;> first | rfl | omega | (simp only [List.length_append, List.length_cons, List.length_nil, List.length_set, List.length_take, List.length_drop, List.length_map, List.length_replicate] <;> omega) | (simp only [List.length_append, List.length_cons, List.length_nil, List.length_set, List.length_take, List.length_drop, List.length_map, List.length_replicate, List.append_assoc, List.cons_append, List.nil_append]; done) | skip)
  case' body1_0 =>
    rintro ms1 S1 ⟨i, h1_3, h1_5, h1_6, c1_0, hm1⟩
  have fc : True := trivial
  repeat' first
    | with_reducible first | refine v_seq ?_ | refine v_skip ?_ | refine v_exit ?_ | refine v_ret ?_ | refine v_block ?_ | refine q_seq_n ?_ | refine q_seq_e ?_ | refine q_seq_r ?_ | refine q_blk_n ?_ | refine q_blk_r ?_ | refine q_blk_s ?_ | refine q_blk_o rfl ?_ | refine q_lp_e ?_ | refine q_lp_r ?_ | (refine hK _ ?_; clear hK) | (refine hA ?_; clear hA hB) | (refine hB ?_; clear hA hB) | exact v_end0 | exact v_end0' | refine And.intro ?_ ?_
    | ((with_reducible first | refine v_region rfl rfl (fun K hK => ?_) | refine v_draws rfl rfl (fun K hK => ?_) | refine v_if (fun A B hA hB => ?_) | refine v_end rfl ?_ | refine v_fin (.inl rfl) ?_ | refine v_fin (.inr rfl) ?_); simp (config := {contextual := true, maxSteps := 1000000}) only [go_sem, ↓reduceIte, reduceCtorEq, Nat.reduceEqDiff, Nat.reduceAdd, Nat.reduceMul, Nat.reduceSub, Nat.reduceLeDiff, Int.reduceLT, Int.reduceLE, Int.reduceEq, Int.reduceSub, Int.reduceAdd, Int.reduceMul, Int.reduceNeg, Int.reduceToNat, h1_3, h1_5, h1_6, fc])
    | ((with_reducible first | refine v_finN (.inl rfl) rfl ?_ ?_ | refine v_finN (.inr rfl) rfl ?_ ?_) <;> (try simp (config := {contextual := true, maxSteps := 1000000}) only [go_sem, ↓reduceIte, reduceCtorEq, Nat.reduceEqDiff, Nat.reduceAdd, Nat.reduceMul, Nat.reduceSub, Nat.reduceLeDiff, Int.reduceLT, Int.reduceLE, Int.reduceEq, Int.reduceSub, Int.reduceAdd, Int.reduceMul, Int.reduceNeg, Int.reduceToNat, h1_3, h1_5, h1_6, fc]) <;> (try with_reducible rfl))
    | (with_reducible refine v_apj ?_ (fun j' => ?_)) <;> try simp (config := {contextual := true, maxSteps := 1000000}) only [go_sem, ↓reduceIte, reduceCtorEq, Nat.reduceEqDiff, Nat.reduceAdd, Nat.reduceMul, Nat.reduceSub, Nat.reduceLeDiff, Int.reduceLT, Int.reduceLE, Int.reduceEq, Int.reduceSub, Int.reduceAdd, Int.reduceMul, Int.reduceNeg, Int.reduceToNat, h1_3, h1_5, h1_6, fc]
    | (with_reducible refine p_ok ?_; decide)
    | (intro hc; replace fc := And.intro hc fc; try simp only [decide_eq_true_eq, decide_eq_false_iff_not, Bool.and_eq_true, Bool.or_eq_true, Bool.and_eq_false_iff, Bool.or_eq_false_iff, Bool.not_eq_true', Bool.not_eq_false', Int.not_lt, Int.not_le] at hc)
  all_goals have h2 := facN_pos i
  all_goals try have h1 := facN_le (n := i + 1) (by omega)
  all_goals try have h3 := facN_pos (i + 1)
  all_goals have e : facN i * (i + 1) = facN (i + 1) := by simp only [facN]; rw [Int.mul_comm]
  all_goals try rw [e]
  all_goals try (first | omega | (simp only [n_i64, n_u8]; omega) | (simp only [n_i64, n_u8, List.length_append, List.length_map, List.length_cons, List.length_nil, List.length_take, List.length_drop, List.length_replicate, List.length_set]; omega))
  · focus
      refine q_lp_n ((fun (i : Nat) => n.toNat - i) (i+1)) ?_ ⟨i+1, ?_, ?_, ?_, ?_, rfl⟩
      all_goals (try simp only [go_sem, ↓reduceIte, reduceCtorEq, Nat.reduceEqDiff, Nat.reduceAdd, Nat.reduceMul, Nat.reduceSub, Nat.reduceLeDiff, Int.reduceLT, Int.reduceLE, Int.reduceEq, Int.reduceSub, Int.reduceAdd, Int.reduceMul, Int.reduceNeg, Int.reduceToNat, h1_3, h1_5, h1_6])
      repeat' refine And.intro ?_ ?_
      all_goals try first | rfl | omega | (simp only [List.length_append, List.length_cons, List.length_nil, List.length_set, List.length_take, List.length_drop, List.length_map, List.length_replicate] <;> omega) | ((first | refine ref_eq ?_ | refine live_eq ?_ | refine int_eq ?_ | refine bool_eq ?_ | refine str_eq ?_ | refine sl_eq ?_ | refine mp_eq ?_) <;> first | rfl | omega | (simp only [List.length_append, List.length_cons, List.length_nil, List.length_set, List.length_take, List.length_drop, List.length_map, List.length_replicate] <;> omega) | (simp only [List.length_append, List.length_cons, List.length_nil, List.length_set, List.length_take, List.length_drop, List.length_map, List.length_replicate, List.append_assoc, List.cons_append, List.nil_append]; done) | skip)
  · rw [facI]; congr 1; omega
end Go.Gl
