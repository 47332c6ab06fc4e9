/-
  The law of the output of moves. Conditions: none.
-/
import Derived.Test.YtcfolbnhbagpiaaLaw0
import Derived.Test.YtcfolbnhbagpiaaMoves
set_option linter.unusedSimpArgs false
set_option linter.unusedVariables false
set_option maxRecDepth 20000
namespace Go.Gl
open Go Go.Proofs

def sgR : FuncId → List Bool := fun f => if f = 26 then [true] else []
theorem sgR_eq {f : FuncId} : sgR f = if f = 26 then [true] else [] := _root_.id rfl
attribute [local go_sem] sgR_eq

theorem runM_len : ∀ (s : List UInt8) (out st : List Int) (most next : Int) (o st' : List Int) (m n : Int), runM s out st most next = some (o, st', m, n) → o.length ≤ out.length + s.length
  | [], out, st, most, next, o, st', m, n, h => by
    simp only [runM, Option.some.injEq, Prod.mk.injEq] at h; simp [h.1]
  | c :: s, out, st, most, next, o, st', m, n, h => by
    simp only [runM] at h
    split at h
    · have := runM_len s _ _ _ _ _ _ _ _ h; simp only [List.length_cons]; omega
    · split at h
      · have := runM_len s _ _ _ _ _ _ _ _ h; simp only [List.length_append, List.length_cons, List.length_nil] at this ⊢; omega
      · cases h
theorem runOut_len {s : List UInt8} : (runOut s).length ≤ s.length := by
  unfold runOut
  split
  · rename_i h; have := runM_len _ _ _ _ _ _ _ _ _ h; simpa using this
  · simp
theorem laws_FnExactRunMoves_c (s : List UInt8) : Fun Try.prog 11 [(.str (s))] [(.bool (true))] := by
  by_cases hs : s.length ≤ 1048576
  · have hf := impl_RunMoves_c s hs
    have hl : (if movesOk s then runOut s else []).length ≤ 1048576 := by
      split
      · have := runOut_len (s := s); omega
      · simp
    refine Fun.of (sg := sgR) (ts := [2]) mo Try.func11 rfl rfl rfl rfl (by kernel_rfl) (by simp [noRoL, noRo, nrL_int, nrL_str, nrL_bool, nrL_u8, nrL_frI, nrL_frS]) rfl ?_
    have fc : True := trivial
    repeat' first
      | with_reducible first | refine v_seq ?_ | refine v_skip ?_ | refine v_exit ?_ | refine v_ret ?_ | refine v_block ?_ | refine q_seq_n ?_ | refine q_seq_e ?_ | refine q_seq_r ?_ | refine q_blk_n ?_ | refine q_blk_r ?_ | refine q_blk_s ?_ | refine q_blk_o rfl ?_ | refine q_lp_e ?_ | refine q_lp_r ?_ | (refine hK _ ?_; clear hK) | (refine hA ?_; clear hA hB) | (refine hB ?_; clear hA hB) | exact v_end0 | exact v_end0' | refine And.intro ?_ ?_
      | ((with_reducible first | refine v_region rfl rfl (fun K hK => ?_) | refine v_draws rfl rfl (fun K hK => ?_) | refine v_if (fun A B hA hB => ?_) | refine v_end rfl ?_ | refine v_fin (.inl rfl) ?_ | refine v_fin (.inr rfl) ?_ | refine v_callE (hf) ?_ | refine v_callE (spec_RunMoves_c _) ?_); simp (config := {contextual := true, maxSteps := 1000000}) only [go_sem, ↓reduceIte, reduceCtorEq, Nat.reduceEqDiff, Nat.reduceAdd, Nat.reduceMul, Nat.reduceSub, Nat.reduceLeDiff, Int.reduceLT, Int.reduceLE, Int.reduceEq, Int.reduceSub, Int.reduceAdd, Int.reduceMul, Int.reduceNeg, Int.reduceToNat, fc])
      | ((with_reducible first | refine v_callE (laws_eqIntS_c _ _ ?_ ?_) ?_ | refine v_callE (laws_heldIntS_c _ _ ?_ ?_ ?_) ?_ | refine v_callN (laws_markIntS_c _ _ ?_ ?_ ?_) rfl ?_ ?_ | refine v_finN (.inl rfl) rfl ?_ ?_ | refine v_finN (.inr rfl) rfl ?_ ?_) <;> (try simp (config := {contextual := true, maxSteps := 1000000}) only [go_sem, ↓reduceIte, reduceCtorEq, Nat.reduceEqDiff, Nat.reduceAdd, Nat.reduceMul, Nat.reduceSub, Nat.reduceLeDiff, Int.reduceLT, Int.reduceLE, Int.reduceEq, Int.reduceSub, Int.reduceAdd, Int.reduceMul, Int.reduceNeg, Int.reduceToNat, fc]) <;> (try with_reducible rfl))
      | (with_reducible refine v_apj ?_ (fun j' => ?_)) <;> try simp (config := {contextual := true, maxSteps := 1000000}) only [go_sem, ↓reduceIte, reduceCtorEq, Nat.reduceEqDiff, Nat.reduceAdd, Nat.reduceMul, Nat.reduceSub, Nat.reduceLeDiff, Int.reduceLT, Int.reduceLE, Int.reduceEq, Int.reduceSub, Int.reduceAdd, Int.reduceMul, Int.reduceNeg, Int.reduceToNat, fc]
      | (with_reducible refine p_ok ?_; decide)
      | (intro hc; replace fc := And.intro hc fc; try simp only [decide_eq_true_eq, decide_eq_false_iff_not, Bool.and_eq_true, Bool.or_eq_true, Bool.and_eq_false_iff, Bool.or_eq_false_iff, Bool.not_eq_true', Bool.not_eq_false', Int.not_lt, Int.not_le] at hc)
    all_goals first | exact Nat.le_trans hl (by decide) | omega | (simp at hc)
  · refine Fun.of (sg := sg0) (ts := [2]) mo Try.func11 rfl rfl rfl rfl (by kernel_rfl) (by simp [noRoL, noRo, nrL_int, nrL_str, nrL_bool, nrL_u8, nrL_frI, nrL_frS]) rfl ?_
    have c1 : decide ((1048576 : Int) < s.length) = true := decide_eq_true (by omega)
    have fc : True := trivial
    repeat' first
      | with_reducible first | refine v_seq ?_ | refine v_skip ?_ | refine v_exit ?_ | refine v_ret ?_ | refine v_block ?_ | refine q_seq_n ?_ | refine q_seq_e ?_ | refine q_seq_r ?_ | refine q_blk_n ?_ | refine q_blk_r ?_ | refine q_blk_s ?_ | refine q_blk_o rfl ?_ | refine q_lp_e ?_ | refine q_lp_r ?_ | (refine hK _ ?_; clear hK) | (refine hA ?_; clear hA hB) | (refine hB ?_; clear hA hB) | exact v_end0 | exact v_end0' | refine And.intro ?_ ?_
      | ((with_reducible first | refine v_region rfl rfl (fun K hK => ?_) | refine v_draws rfl rfl (fun K hK => ?_) | refine v_if (fun A B hA hB => ?_) | refine v_end rfl ?_ | refine v_fin (.inl rfl) ?_ | refine v_fin (.inr rfl) ?_ | refine v_callE (spec_RunMoves_c _) ?_); simp (config := {contextual := true, maxSteps := 1000000}) only [go_sem, ↓reduceIte, reduceCtorEq, Nat.reduceEqDiff, Nat.reduceAdd, Nat.reduceMul, Nat.reduceSub, Nat.reduceLeDiff, Int.reduceLT, Int.reduceLE, Int.reduceEq, Int.reduceSub, Int.reduceAdd, Int.reduceMul, Int.reduceNeg, Int.reduceToNat, c1, fc])
      | ((with_reducible first | refine v_callE (impl_RunMoves_c _ ?_) ?_ | refine v_callE (laws_eqIntS_c _ _ ?_ ?_) ?_ | refine v_callE (laws_heldIntS_c _ _ ?_ ?_ ?_) ?_ | refine v_callN (laws_markIntS_c _ _ ?_ ?_ ?_) rfl ?_ ?_ | refine v_finN (.inl rfl) rfl ?_ ?_ | refine v_finN (.inr rfl) rfl ?_ ?_) <;> (try simp (config := {contextual := true, maxSteps := 1000000}) only [go_sem, ↓reduceIte, reduceCtorEq, Nat.reduceEqDiff, Nat.reduceAdd, Nat.reduceMul, Nat.reduceSub, Nat.reduceLeDiff, Int.reduceLT, Int.reduceLE, Int.reduceEq, Int.reduceSub, Int.reduceAdd, Int.reduceMul, Int.reduceNeg, Int.reduceToNat, c1, fc]) <;> (try with_reducible rfl))
      | (with_reducible refine v_apj ?_ (fun j' => ?_)) <;> try simp (config := {contextual := true, maxSteps := 1000000}) only [go_sem, ↓reduceIte, reduceCtorEq, Nat.reduceEqDiff, Nat.reduceAdd, Nat.reduceMul, Nat.reduceSub, Nat.reduceLeDiff, Int.reduceLT, Int.reduceLE, Int.reduceEq, Int.reduceSub, Int.reduceAdd, Int.reduceMul, Int.reduceNeg, Int.reduceToNat, c1, fc]
      | (with_reducible refine p_ok ?_; decide)
      | (intro hc; replace fc := And.intro hc fc; try simp only [decide_eq_true_eq, decide_eq_false_iff_not, Bool.and_eq_true, Bool.or_eq_true, Bool.and_eq_false_iff, Bool.or_eq_false_iff, Bool.not_eq_true', Bool.not_eq_false', Int.not_lt, Int.not_le] at hc)
end Go.Gl
