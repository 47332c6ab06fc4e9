/-
  The next permutation: what its functions compute. Conditions: none.
-/
import Derived.Test.YtdiiocckeldkfaaPermAt
set_option linter.unusedSimpArgs false
set_option linter.unusedVariables false
set_option maxRecDepth 20000
namespace Go.Gl
open Go Go.Proofs

def npOk (p : List Int) : Bool := isPermB p && paOk p.length (rankGo (codeGo p) + 1)
def npL (p : List Int) : List Int := if isPermB p then paL p.length (rankGo (codeGo p) + 1) else []
theorem rank_in {p : List Int} (h : isPermB p = true) : 0 ≤ rankGo (codeGo p) ∧ rankGo (codeGo p) ≤ 2580480 := by
  have h8 : p.length ≤ 8 := by simp [isPermB] at h; exact h.1
  have hcl := codeGo_length p
  have hca := codeGo_at p
  have h1 := rankGo_nonneg (cs := codeGo p) fun k => (hca k).1
  have h2 := rankGo_le (cs := codeGo p) (by omega) fun k => by have := (hca k).2; omega
  refine ⟨h1, ?_⟩
  have : (322560 * (codeGo p).length : Int) ≤ 322560 * 8 := by omega
  omega
theorem impl_NextPerm_c {m0 : Bool} (p : List Int) (hl : p.length ≤ 1048576) : Fun Try.prog 24 [(.sl (.lent m0) (List.map (PV.int .i64) (p)))] [(.sl .own (List.map (PV.int .i64) (npL p))), (.bool (npOk p))] := by
  by_cases hp : isPermB p = true
  · have hr := rank_in hp
    have h8 : p.length ≤ 8 := by simp [isPermB] at hp; exact hp.1
    have hf := impl_RankOf_c (m0 := m0) p hl
    rw [if_pos hp] at hf
    rw [npL, npOk, if_pos hp, hp, Bool.true_and]
    refine Fun.of (sg := sg0) (ts := [2, 3]) mo Try.func24 rfl rfl rfl rfl (by kernel_rfl) (by simp [noRoL, nrA_int, nrA_bool, nrA_str, nrA_own, nrA_lent, nrA_agg, nrL_int, nrL_str, nrL_bool, nrL_u8, nrL_frI, nrL_frS]) rfl ?_
    have fc : True := trivial
    repeat' first
      | with_reducible first | refine v_seq ?_ | refine v_skip ?_ | refine v_exit ?_ | refine v_ret ?_ | refine v_block ?_ | refine q_seq_n ?_ | refine q_seq_e ?_ | refine q_seq_r ?_ | refine q_blk_n ?_ | refine q_blk_r ?_ | refine q_blk_s ?_ | refine q_blk_o rfl ?_ | refine q_lp_e ?_ | refine q_lp_r ?_ | (refine hK _ ?_; clear hK) | (refine hA ?_; clear hA hB) | (refine hB ?_; clear hA hB) | exact v_end0 | exact v_end0' | refine And.intro ?_ ?_
      | ((with_reducible first | refine v_region rfl rfl (fun K hK => ?_) | refine v_draws rfl rfl (fun K hK => ?_) | refine v_if (fun A B hA hB => ?_) | refine v_end rfl ?_ | refine v_fin (.inl rfl) ?_ | refine v_fin (.inr rfl) ?_ | refine v_callE (hf) ?_); simp (config := {contextual := true, maxSteps := 1000000}) only [go_sem, ↓reduceIte, reduceCtorEq, Nat.reduceEqDiff, Nat.reduceAdd, Nat.reduceMul, Nat.reduceSub, Nat.reduceLeDiff, Int.reduceLT, Int.reduceLE, Int.reduceEq, Int.reduceSub, Int.reduceAdd, Int.reduceMul, Int.reduceNeg, Int.reduceToNat, fc])
      | ((with_reducible first | refine v_callE (impl_PermAt_c _ _ ?_) ?_ | refine v_finN (.inl rfl) rfl ?_ ?_ | refine v_finN (.inr rfl) rfl ?_ ?_) <;> (try simp (config := {contextual := true, maxSteps := 1000000}) only [go_sem, ↓reduceIte, reduceCtorEq, Nat.reduceEqDiff, Nat.reduceAdd, Nat.reduceMul, Nat.reduceSub, Nat.reduceLeDiff, Int.reduceLT, Int.reduceLE, Int.reduceEq, Int.reduceSub, Int.reduceAdd, Int.reduceMul, Int.reduceNeg, Int.reduceToNat, fc]) <;> (try with_reducible rfl))
      | (with_reducible refine v_apj ?_ (fun j' => ?_)) <;> try simp (config := {contextual := true, maxSteps := 1000000}) only [go_sem, ↓reduceIte, reduceCtorEq, Nat.reduceEqDiff, Nat.reduceAdd, Nat.reduceMul, Nat.reduceSub, Nat.reduceLeDiff, Int.reduceLT, Int.reduceLE, Int.reduceEq, Int.reduceSub, Int.reduceAdd, Int.reduceMul, Int.reduceNeg, Int.reduceToNat, fc]
      | (with_reducible refine p_ok ?_; decide)
      | (intro hc; replace fc := And.intro hc fc; try simp only [decide_eq_true_eq, decide_eq_false_iff_not, Bool.and_eq_true, Bool.or_eq_true, Bool.and_eq_false_iff, Bool.or_eq_false_iff, Bool.not_eq_true', Bool.not_eq_false', Int.not_lt, Int.not_le] at hc)
    all_goals try (first | omega | (simp only [n_i64, n_u8]; omega) | (simp only [n_i64, n_u8, List.length_append, List.length_map, List.length_cons, List.length_nil, List.length_take, List.length_drop, List.length_replicate, List.length_set]; omega))
  · have hf := impl_RankOf_c (m0 := m0) p hl
    rw [if_neg hp] at hf
    have hp' : isPermB p = false := by simpa using hp
    rw [npL, npOk, if_neg hp, hp', Bool.false_and]
    refine Fun.of (sg := sg0) (ts := [2, 3]) mo Try.func24 rfl rfl rfl rfl (by kernel_rfl) (by simp [noRoL, nrA_int, nrA_bool, nrA_str, nrA_own, nrA_lent, nrA_agg, nrL_int, nrL_str, nrL_bool, nrL_u8, nrL_frI, nrL_frS]) rfl ?_
    have fc : True := trivial
    repeat' first
      | with_reducible first | refine v_seq ?_ | refine v_skip ?_ | refine v_exit ?_ | refine v_ret ?_ | refine v_block ?_ | refine q_seq_n ?_ | refine q_seq_e ?_ | refine q_seq_r ?_ | refine q_blk_n ?_ | refine q_blk_r ?_ | refine q_blk_s ?_ | refine q_blk_o rfl ?_ | refine q_lp_e ?_ | refine q_lp_r ?_ | (refine hK _ ?_; clear hK) | (refine hA ?_; clear hA hB) | (refine hB ?_; clear hA hB) | exact v_end0 | exact v_end0' | refine And.intro ?_ ?_
      | ((with_reducible first | refine v_region rfl rfl (fun K hK => ?_) | refine v_draws rfl rfl (fun K hK => ?_) | refine v_if (fun A B hA hB => ?_) | refine v_end rfl ?_ | refine v_fin (.inl rfl) ?_ | refine v_fin (.inr rfl) ?_ | refine v_callE (hf) ?_); simp (config := {contextual := true, maxSteps := 1000000}) only [go_sem, ↓reduceIte, reduceCtorEq, Nat.reduceEqDiff, Nat.reduceAdd, Nat.reduceMul, Nat.reduceSub, Nat.reduceLeDiff, Int.reduceLT, Int.reduceLE, Int.reduceEq, Int.reduceSub, Int.reduceAdd, Int.reduceMul, Int.reduceNeg, Int.reduceToNat, fc])
      | ((with_reducible first | refine v_callE (impl_PermAt_c _ _ ?_) ?_ | refine v_finN (.inl rfl) rfl ?_ ?_ | refine v_finN (.inr rfl) rfl ?_ ?_) <;> (try simp (config := {contextual := true, maxSteps := 1000000}) only [go_sem, ↓reduceIte, reduceCtorEq, Nat.reduceEqDiff, Nat.reduceAdd, Nat.reduceMul, Nat.reduceSub, Nat.reduceLeDiff, Int.reduceLT, Int.reduceLE, Int.reduceEq, Int.reduceSub, Int.reduceAdd, Int.reduceMul, Int.reduceNeg, Int.reduceToNat, fc]) <;> (try with_reducible rfl))
      | (with_reducible refine v_apj ?_ (fun j' => ?_)) <;> try simp (config := {contextual := true, maxSteps := 1000000}) only [go_sem, ↓reduceIte, reduceCtorEq, Nat.reduceEqDiff, Nat.reduceAdd, Nat.reduceMul, Nat.reduceSub, Nat.reduceLeDiff, Int.reduceLT, Int.reduceLE, Int.reduceEq, Int.reduceSub, Int.reduceAdd, Int.reduceMul, Int.reduceNeg, Int.reduceToNat, fc]
      | (with_reducible refine p_ok ?_; decide)
      | (intro hc; replace fc := And.intro hc fc; try simp only [decide_eq_true_eq, decide_eq_false_iff_not, Bool.and_eq_true, Bool.or_eq_true, Bool.and_eq_false_iff, Bool.or_eq_false_iff, Bool.not_eq_true', Bool.not_eq_false', Int.not_lt, Int.not_le] at hc)
    all_goals try (first | omega | (simp only [n_i64, n_u8]; omega) | (simp only [n_i64, n_u8, List.length_append, List.length_map, List.length_cons, List.length_nil, List.length_take, List.length_drop, List.length_replicate, List.length_set]; omega))
theorem spec_NextPerm_c {m0 : Bool} (p : List Int) (hl : p.length ≤ 1048576) : Fun Try.prog 23 [(.sl (.lent m0) (List.map (PV.int .i64) (p)))] [(.sl .own (List.map (PV.int .i64) (npL p))), (.bool (npOk p))] := by
  by_cases hp : isPermB p = true
  · have hr := rank_in hp
    have h8 : p.length ≤ 8 := by simp [isPermB] at hp; exact hp.1
    have hf := spec_RankOf_c (m0 := m0) p hl
    rw [if_pos hp] at hf
    rw [npL, npOk, if_pos hp, hp, Bool.true_and]
    refine Fun.of (sg := sg0) (ts := [2, 3]) mo Try.func23 rfl rfl rfl rfl (by kernel_rfl) (by simp [noRoL, nrA_int, nrA_bool, nrA_str, nrA_own, nrA_lent, nrA_agg, nrL_int, nrL_str, nrL_bool, nrL_u8, nrL_frI, nrL_frS]) rfl ?_
    have fc : True := trivial
    repeat' first
      | with_reducible first | refine v_seq ?_ | refine v_skip ?_ | refine v_exit ?_ | refine v_ret ?_ | refine v_block ?_ | refine q_seq_n ?_ | refine q_seq_e ?_ | refine q_seq_r ?_ | refine q_blk_n ?_ | refine q_blk_r ?_ | refine q_blk_s ?_ | refine q_blk_o rfl ?_ | refine q_lp_e ?_ | refine q_lp_r ?_ | (refine hK _ ?_; clear hK) | (refine hA ?_; clear hA hB) | (refine hB ?_; clear hA hB) | exact v_end0 | exact v_end0' | refine And.intro ?_ ?_
      | ((with_reducible first | refine v_region rfl rfl (fun K hK => ?_) | refine v_draws rfl rfl (fun K hK => ?_) | refine v_if (fun A B hA hB => ?_) | refine v_end rfl ?_ | refine v_fin (.inl rfl) ?_ | refine v_fin (.inr rfl) ?_ | refine v_callE (hf) ?_); simp (config := {contextual := true, maxSteps := 1000000}) only [go_sem, ↓reduceIte, reduceCtorEq, Nat.reduceEqDiff, Nat.reduceAdd, Nat.reduceMul, Nat.reduceSub, Nat.reduceLeDiff, Int.reduceLT, Int.reduceLE, Int.reduceEq, Int.reduceSub, Int.reduceAdd, Int.reduceMul, Int.reduceNeg, Int.reduceToNat, fc])
      | ((with_reducible first | refine v_callE (spec_PermAt_c _ _ ?_) ?_ | refine v_finN (.inl rfl) rfl ?_ ?_ | refine v_finN (.inr rfl) rfl ?_ ?_) <;> (try simp (config := {contextual := true, maxSteps := 1000000}) only [go_sem, ↓reduceIte, reduceCtorEq, Nat.reduceEqDiff, Nat.reduceAdd, Nat.reduceMul, Nat.reduceSub, Nat.reduceLeDiff, Int.reduceLT, Int.reduceLE, Int.reduceEq, Int.reduceSub, Int.reduceAdd, Int.reduceMul, Int.reduceNeg, Int.reduceToNat, fc]) <;> (try with_reducible rfl))
      | (with_reducible refine v_apj ?_ (fun j' => ?_)) <;> try simp (config := {contextual := true, maxSteps := 1000000}) only [go_sem, ↓reduceIte, reduceCtorEq, Nat.reduceEqDiff, Nat.reduceAdd, Nat.reduceMul, Nat.reduceSub, Nat.reduceLeDiff, Int.reduceLT, Int.reduceLE, Int.reduceEq, Int.reduceSub, Int.reduceAdd, Int.reduceMul, Int.reduceNeg, Int.reduceToNat, fc]
      | (with_reducible refine p_ok ?_; decide)
      | (intro hc; replace fc := And.intro hc fc; try simp only [decide_eq_true_eq, decide_eq_false_iff_not, Bool.and_eq_true, Bool.or_eq_true, Bool.and_eq_false_iff, Bool.or_eq_false_iff, Bool.not_eq_true', Bool.not_eq_false', Int.not_lt, Int.not_le] at hc)
    all_goals try (first | omega | (simp only [n_i64, n_u8]; omega) | (simp only [n_i64, n_u8, List.length_append, List.length_map, List.length_cons, List.length_nil, List.length_take, List.length_drop, List.length_replicate, List.length_set]; omega))
  · have hf := spec_RankOf_c (m0 := m0) p hl
    rw [if_neg hp] at hf
    have hp' : isPermB p = false := by simpa using hp
    rw [npL, npOk, if_neg hp, hp', Bool.false_and]
    refine Fun.of (sg := sg0) (ts := [2, 3]) mo Try.func23 rfl rfl rfl rfl (by kernel_rfl) (by simp [noRoL, nrA_int, nrA_bool, nrA_str, nrA_own, nrA_lent, nrA_agg, nrL_int, nrL_str, nrL_bool, nrL_u8, nrL_frI, nrL_frS]) rfl ?_
    have fc : True := trivial
    repeat' first
      | with_reducible first | refine v_seq ?_ | refine v_skip ?_ | refine v_exit ?_ | refine v_ret ?_ | refine v_block ?_ | refine q_seq_n ?_ | refine q_seq_e ?_ | refine q_seq_r ?_ | refine q_blk_n ?_ | refine q_blk_r ?_ | refine q_blk_s ?_ | refine q_blk_o rfl ?_ | refine q_lp_e ?_ | refine q_lp_r ?_ | (refine hK _ ?_; clear hK) | (refine hA ?_; clear hA hB) | (refine hB ?_; clear hA hB) | exact v_end0 | exact v_end0' | refine And.intro ?_ ?_
      | ((with_reducible first | refine v_region rfl rfl (fun K hK => ?_) | refine v_draws rfl rfl (fun K hK => ?_) | refine v_if (fun A B hA hB => ?_) | refine v_end rfl ?_ | refine v_fin (.inl rfl) ?_ | refine v_fin (.inr rfl) ?_ | refine v_callE (hf) ?_); simp (config := {contextual := true, maxSteps := 1000000}) only [go_sem, ↓reduceIte, reduceCtorEq, Nat.reduceEqDiff, Nat.reduceAdd, Nat.reduceMul, Nat.reduceSub, Nat.reduceLeDiff, Int.reduceLT, Int.reduceLE, Int.reduceEq, Int.reduceSub, Int.reduceAdd, Int.reduceMul, Int.reduceNeg, Int.reduceToNat, fc])
      | ((with_reducible first | refine v_callE (spec_PermAt_c _ _ ?_) ?_ | refine v_finN (.inl rfl) rfl ?_ ?_ | refine v_finN (.inr rfl) rfl ?_ ?_) <;> (try simp (config := {contextual := true, maxSteps := 1000000}) only [go_sem, ↓reduceIte, reduceCtorEq, Nat.reduceEqDiff, Nat.reduceAdd, Nat.reduceMul, Nat.reduceSub, Nat.reduceLeDiff, Int.reduceLT, Int.reduceLE, Int.reduceEq, Int.reduceSub, Int.reduceAdd, Int.reduceMul, Int.reduceNeg, Int.reduceToNat, fc]) <;> (try with_reducible rfl))
      | (with_reducible refine v_apj ?_ (fun j' => ?_)) <;> try simp (config := {contextual := true, maxSteps := 1000000}) only [go_sem, ↓reduceIte, reduceCtorEq, Nat.reduceEqDiff, Nat.reduceAdd, Nat.reduceMul, Nat.reduceSub, Nat.reduceLeDiff, Int.reduceLT, Int.reduceLE, Int.reduceEq, Int.reduceSub, Int.reduceAdd, Int.reduceMul, Int.reduceNeg, Int.reduceToNat, fc]
      | (with_reducible refine p_ok ?_; decide)
      | (intro hc; replace fc := And.intro hc fc; try simp only [decide_eq_true_eq, decide_eq_false_iff_not, Bool.and_eq_true, Bool.or_eq_true, Bool.and_eq_false_iff, Bool.or_eq_false_iff, Bool.not_eq_true', Bool.not_eq_false', Int.not_lt, Int.not_le] at hc)
    all_goals try (first | omega | (simp only [n_i64, n_u8]; omega) | (simp only [n_i64, n_u8, List.length_append, List.length_map, List.length_cons, List.length_nil, List.length_take, List.length_drop, List.length_replicate, List.length_set]; omega))
end Go.Gl
