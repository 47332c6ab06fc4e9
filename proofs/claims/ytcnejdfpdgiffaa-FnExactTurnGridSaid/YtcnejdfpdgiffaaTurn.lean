/-
  Turned grids: what their functions compute. Conditions: none.
-/
import Derived.Test.YtcnejdfpdgiffaaGrid
import Derived.Test.YtcnejdfpdgiffaaLaw2
set_option linter.unusedSimpArgs false
set_option linter.unusedVariables false
set_option maxRecDepth 20000
namespace Go.Gl
open Go Go.Proofs

/-- A row of the turned grid: what stands in a place of each row, the last row first. -/
def tgC (m : List (List Int)) (x j : Nat) : Int := (m.getD (m.length - 1 - j) []).getD x 0
def tgR (m : List (List Int)) (x : Nat) : List Int := (List.range m.length).map (tgC m x)
def tgN (m : List (List Int)) : Nat := (m.getD 0 []).length
def tgL (m : List (List Int)) : List (List Int) := if gridB m = true then (List.range (tgN m)).map fun i => tgR m (tgN m - 1 - i) else []
theorem range_snoc {α : Type} {f : Nat → α} {k : Nat} : (List.range (k + 1)).map f = (List.range k).map f ++ [f k] := by simp [List.range_succ]
theorem grid_facts {m : List (List Int)} (h : gridB m = true) : 1 ≤ m.length ∧ m.length ≤ 3 ∧ 1 ≤ tgN m ∧ tgN m ≤ 3 ∧ ∀ i, i < m.length → (m.getD i []).length = tgN m := by
  simp only [gridB, Bool.and_eq_true, decide_eq_true_eq, List.all_eq_true] at h
  obtain ⟨⟨h1, h2⟩, h3⟩ := h
  have h4 := h3 (m.getD 0 []) (getD_mem (by omega))
  simp only [rowB, Bool.and_eq_true, decide_eq_true_eq] at h4
  refine ⟨h1, h2, h4.1.1.2, h4.1.2, fun i hi => ?_⟩
  have h5 := h3 (m.getD i []) (getD_mem hi)
  simp only [rowB, Bool.and_eq_true, decide_eq_true_eq] at h5
  exact h5.1.1.1
attribute [local go_sem] List.length_range
def sgNZ : FuncId → List Bool := fun f => if f = 4294967297 then [true, false, true] else []
theorem sgNZ_eq {f : FuncId} : sgNZ f = if f = 4294967297 then [true, false, true] else [] := _root_.id rfl
theorem wayE_sgNZ : wayE sgNZ = false := _root_.id rfl
theorem wayN_sgNZ : wayN sgNZ = true := _root_.id rfl
theorem wayS_sgNZ : wayS sgNZ = false := _root_.id rfl
theorem wayZ_sgNZ : wayZ sgNZ = true := _root_.id rfl
attribute [go_sem] sgNZ_eq wayE_sgNZ wayN_sgNZ wayS_sgNZ wayZ_sgNZ
theorem spec_TurnGrid_c {e0 m0 : Bool} (m : List (List Int)) (hm : m.length ≤ 1099511627776) (hl : ∀ l ∈ m, l.length ≤ 1099511627776) : Fun Try.prog 21 [(.sl (.lent m0) (List.map (elI e0) (m)))] [(.dl (List.map (List.map (PV.int .i64)) (tgL m))), (.bool (gridB m))] := by
  by_cases hg : gridB m = true
  · obtain ⟨g1, g2, g3, g4, g5⟩ := grid_facts hg
    have g6 : (m.getD 0 []).length = tgN m := rfl
    have g7 : tgL m = (List.range (tgN m)).map fun i => tgR m (tgN m - 1 - i) := if_pos hg
    refine Fun.of (sg := sgNZ) (ts := [2, 3]) mo Try.func21 rfl rfl rfl rfl (by kernel_rfl) (by simp [noRoL, nrA_int, nrA_bool, nrA_str, nrA_own, nrA_lent, nrA_agg, nrL_int, nrL_str, nrL_bool, nrL_u8, nrL_frI, nrL_frS, nr_dl, nrLLI, nrLLS]) rfl ?_
    have fc : True := trivial
    repeat' first
      | with_reducible first | refine v_seq ?_ | refine v_skip ?_ | refine v_exit ?_ | refine v_ret ?_ | refine v_block ?_ | refine q_seq_n ?_ | refine q_seq_e ?_ | refine q_seq_r ?_ | refine q_blk_n ?_ | refine q_blk_r ?_ | refine q_blk_s ?_ | refine q_blk_o rfl ?_ | refine q_lp_e ?_ | refine q_lp_r ?_ | (refine hK _ ?_; clear hK) | (refine hA ?_; clear hA hB) | (refine hB ?_; clear hA hB) | exact v_end0 | exact v_end0' | refine And.intro ?_ ?_
      | ((with_reducible first | refine v_region rfl rfl (fun K hK => ?_) | refine v_draws rfl rfl (fun K hK => ?_) | refine v_if (fun A B hA hB => ?_) | refine v_end rfl ?_ | refine v_fin (.inl rfl) ?_ | refine v_fin (.inr rfl) ?_ | refine v_finC (.inl rfl) ?_ | refine v_finC (.inr rfl) ?_); simp (config := {contextual := true, maxSteps := 1000000}) only [go_sem, ↓reduceIte, reduceCtorEq, Nat.reduceEqDiff, Nat.reduceAdd, Nat.reduceMul, Nat.reduceSub, Nat.reduceLeDiff, Int.reduceLT, Int.reduceLE, Int.reduceEq, Int.reduceSub, Int.reduceAdd, Int.reduceMul, Int.reduceNeg, Int.reduceToNat, hg, g6, fc])
      | ((with_reducible first | refine v_callE (spec_IsGrid_c _ ?_ ?_) ?_ | refine v_finN (.inl rfl) rfl ?_ ?_ | refine v_finN (.inr rfl) rfl ?_ ?_) <;> (try simp (config := {contextual := true, maxSteps := 1000000}) only [go_sem, ↓reduceIte, reduceCtorEq, Nat.reduceEqDiff, Nat.reduceAdd, Nat.reduceMul, Nat.reduceSub, Nat.reduceLeDiff, Int.reduceLT, Int.reduceLE, Int.reduceEq, Int.reduceSub, Int.reduceAdd, Int.reduceMul, Int.reduceNeg, Int.reduceToNat, hg, g6, fc]) <;> (try with_reducible rfl))
      | (with_reducible refine v_apj ?_ (fun j' => ?_)) <;> try simp (config := {contextual := true, maxSteps := 1000000}) only [go_sem, ↓reduceIte, reduceCtorEq, Nat.reduceEqDiff, Nat.reduceAdd, Nat.reduceMul, Nat.reduceSub, Nat.reduceLeDiff, Int.reduceLT, Int.reduceLE, Int.reduceEq, Int.reduceSub, Int.reduceAdd, Int.reduceMul, Int.reduceNeg, Int.reduceToNat, hg, g6, fc]
      | (with_reducible refine v_stz ?_ ?_ ?_ ?_ ?_) <;> try simp (config := {contextual := true, maxSteps := 1000000}) only [go_sem, ↓reduceIte, reduceCtorEq, Nat.reduceEqDiff, Nat.reduceAdd, Nat.reduceMul, Nat.reduceSub, Nat.reduceLeDiff, Int.reduceLT, Int.reduceLE, Int.reduceEq, Int.reduceSub, Int.reduceAdd, Int.reduceMul, Int.reduceNeg, Int.reduceToNat, hg, g6, fc]
      | (with_reducible refine p_ok ?_; decide)
      | (intro hc; replace fc := And.intro hc fc; try simp only [decide_eq_true_eq, decide_eq_false_iff_not, Bool.and_eq_true, Bool.or_eq_true, Bool.and_eq_false_iff, Bool.or_eq_false_iff, Bool.not_eq_true', Bool.not_eq_false', Int.not_lt, Int.not_le] at hc)
    all_goals try (first | omega | (simp only [n_i64, n_u8]; omega) | (simp only [n_i64, n_u8, List.length_append, List.length_map, List.length_cons, List.length_nil, List.length_take, List.length_drop, List.length_replicate, List.length_set]; omega))
    refine v_loop (fun ms1 S1 => ∃ (k : Nat), S1.e 0 = .p (.sl (.lent m0) (List.map (elI e0) (m))) ∧ DwnL (S1.e 4) S1.h S1.n (PV.int .i64) (((List.range k).map (fun i => tgR m (tgN m - 1 - i))).length) ((List.range k).map (fun i => tgR m (tgN m - 1 - i))) ∧ S1.e 5 = .p (.int .i64 ((tgN m - 1 - k))) ∧ (k ≤ tgN m) ∧ ms1 = tgN m - k) ((fun (k : Nat) => tgN m - k) (0)) ?init1_0 ?body1_0
    case' init1_0 =>
      refine ⟨0, ?_, ?_, ?_, ?_, rfl⟩
      all_goals (try simp only [go_sem, ↓reduceIte, reduceCtorEq, Nat.reduceEqDiff, Nat.reduceAdd, Nat.reduceMul, Nat.reduceSub, Nat.reduceLeDiff, Int.reduceLT, Int.reduceLE, Int.reduceEq, Int.reduceSub, Int.reduceAdd, Int.reduceMul, Int.reduceNeg, Int.reduceToNat])
      repeat' refine And.intro ?_ ?_
      all_goals try first | rfl | omega | (simp only [List.length_append, List.length_cons, List.length_nil, List.length_set, List.length_take, List.length_drop, List.length_map, List.length_replicate] <;> omega) | ((first | refine ref_eq ?_ | refine live_eq ?_ | refine int_eq ?_ | refine bool_eq ?_ | refine str_eq ?_ | refine sl_eq ?_ | refine mp_eq ?_ | refine dk_eq ?_ | refine dkz_eq ?_ ?_) <;> first | rfl | omega | (simp only [List.length_append, List.length_cons, List.length_nil, List.length_set, List.length_take, List.length_drop, List.length_map, List.length_replicate] <;> omega) | (simp only [List.length_append, List.length_cons, List.length_nil, List.length_set, List.length_take, List.length_drop, List.length_map, List.length_replicate, List.append_assoc, List.cons_append, List.nil_append]; done) | skip)
    case' body1_0 =>
      rintro ms1 S1 ⟨k, h1_0, o1_4, h1_5, c1_0, hm1⟩
      obtain ⟨i1_4, h1_4, b1_4, l1_4⟩ := o1_4.out
      have ni1_4 : ∀ c, (i1_4 = S1.n + c) = False := fun c => eq_false (by omega)
      have pi1_4 : ∀ c, (S1.n + c = i1_4) = False := fun c => eq_false (by omega)
      have qi1_4 : (i1_4 = S1.n) = False := eq_false (by omega)
      have ri1_4 : (S1.n = i1_4) = False := eq_false (by omega)
    have fc : True := trivial
    repeat' first
      | with_reducible first | refine v_seq ?_ | refine v_skip ?_ | refine v_exit ?_ | refine v_ret ?_ | refine v_block ?_ | refine q_seq_n ?_ | refine q_seq_e ?_ | refine q_seq_r ?_ | refine q_blk_n ?_ | refine q_blk_r ?_ | refine q_blk_s ?_ | refine q_blk_o rfl ?_ | refine q_lp_e ?_ | refine q_lp_r ?_ | (refine hK _ ?_; clear hK) | (refine hA ?_; clear hA hB) | (refine hB ?_; clear hA hB) | exact v_end0 | exact v_end0' | refine And.intro ?_ ?_
      | ((with_reducible first | refine v_region rfl rfl (fun K hK => ?_) | refine v_draws rfl rfl (fun K hK => ?_) | refine v_if (fun A B hA hB => ?_) | refine v_end rfl ?_ | refine v_fin (.inl rfl) ?_ | refine v_fin (.inr rfl) ?_ | refine v_finC (.inl rfl) ?_ | refine v_finC (.inr rfl) ?_); simp (config := {contextual := true, maxSteps := 1000000}) only [go_sem, ↓reduceIte, reduceCtorEq, Nat.reduceEqDiff, Nat.reduceAdd, Nat.reduceMul, Nat.reduceSub, Nat.reduceLeDiff, Int.reduceLT, Int.reduceLE, Int.reduceEq, Int.reduceSub, Int.reduceAdd, Int.reduceMul, Int.reduceNeg, Int.reduceToNat, h1_0, h1_5, h1_4, b1_4, ni1_4, pi1_4, qi1_4, ri1_4, hg, g6, fc])
      | ((with_reducible first | refine v_callE (spec_IsGrid_c _ ?_ ?_) ?_ | refine v_finN (.inl rfl) rfl ?_ ?_ | refine v_finN (.inr rfl) rfl ?_ ?_) <;> (try simp (config := {contextual := true, maxSteps := 1000000}) only [go_sem, ↓reduceIte, reduceCtorEq, Nat.reduceEqDiff, Nat.reduceAdd, Nat.reduceMul, Nat.reduceSub, Nat.reduceLeDiff, Int.reduceLT, Int.reduceLE, Int.reduceEq, Int.reduceSub, Int.reduceAdd, Int.reduceMul, Int.reduceNeg, Int.reduceToNat, h1_0, h1_5, h1_4, b1_4, ni1_4, pi1_4, qi1_4, ri1_4, hg, g6, fc]) <;> (try with_reducible rfl))
      | (with_reducible refine v_apj ?_ (fun j' => ?_)) <;> try simp (config := {contextual := true, maxSteps := 1000000}) only [go_sem, ↓reduceIte, reduceCtorEq, Nat.reduceEqDiff, Nat.reduceAdd, Nat.reduceMul, Nat.reduceSub, Nat.reduceLeDiff, Int.reduceLT, Int.reduceLE, Int.reduceEq, Int.reduceSub, Int.reduceAdd, Int.reduceMul, Int.reduceNeg, Int.reduceToNat, h1_0, h1_5, h1_4, b1_4, ni1_4, pi1_4, qi1_4, ri1_4, hg, g6, fc]
      | (with_reducible refine v_stz ?_ ?_ ?_ ?_ ?_) <;> try simp (config := {contextual := true, maxSteps := 1000000}) only [go_sem, ↓reduceIte, reduceCtorEq, Nat.reduceEqDiff, Nat.reduceAdd, Nat.reduceMul, Nat.reduceSub, Nat.reduceLeDiff, Int.reduceLT, Int.reduceLE, Int.reduceEq, Int.reduceSub, Int.reduceAdd, Int.reduceMul, Int.reduceNeg, Int.reduceToNat, h1_0, h1_5, h1_4, b1_4, ni1_4, pi1_4, qi1_4, ri1_4, hg, g6, fc]
      | (with_reducible refine p_ok ?_; decide)
      | (intro hc; replace fc := And.intro hc fc; try simp only [decide_eq_true_eq, decide_eq_false_iff_not, Bool.and_eq_true, Bool.or_eq_true, Bool.and_eq_false_iff, Bool.or_eq_false_iff, Bool.not_eq_true', Bool.not_eq_false', Int.not_lt, Int.not_le] at hc)
    all_goals try (first | omega | (simp only [n_i64, n_u8]; omega) | (simp only [n_i64, n_u8, List.length_append, List.length_map, List.length_cons, List.length_nil, List.length_take, List.length_drop, List.length_replicate, List.length_set]; omega))
    · refine v_loop (fun ms2 S2 => ∃ (j : Nat), S2.e 0 = .p (.sl (.lent m0) (List.map (elI e0) (m))) ∧ DwnL (S2.e 4) S2.h S2.n (PV.int .i64) (((List.range k).map (fun i => tgR m (tgN m - 1 - i))).length) ((List.range k).map (fun i => tgR m (tgN m - 1 - i))) ∧ S2.e 5 = .p (.int .i64 ((tgN m - 1 - k))) ∧ OwnL (S2.e 6) S2.h S2.n (PV.int .i64) (((List.range j).map (tgC m (tgN m - 1 - k))).length) ((List.range j).map (tgC m (tgN m - 1 - k))) ∧ S2.e 7 = .p (.int .i64 ((m.length - 1 - j))) ∧ (j ≤ m.length) ∧ NId (S2.e 6) (S2.e 4) ∧ S1.n ≤ S2.n ∧ ms2 = m.length - j) ((fun (j : Nat) => m.length - j) (0)) ?init2_1 ?body2_1
      case' init2_1 =>
        refine ⟨0, ?_, ?_, ?_, ?_, ?_, ?_, ?_, ?_, rfl⟩
        all_goals (try simp only [go_sem, ↓reduceIte, reduceCtorEq, Nat.reduceEqDiff, Nat.reduceAdd, Nat.reduceMul, Nat.reduceSub, Nat.reduceLeDiff, Int.reduceLT, Int.reduceLE, Int.reduceEq, Int.reduceSub, Int.reduceAdd, Int.reduceMul, Int.reduceNeg, Int.reduceToNat, h1_0, h1_5, h1_4, b1_4, ni1_4, pi1_4, qi1_4, ri1_4])
        repeat' refine And.intro ?_ ?_
        all_goals try first | rfl | omega | (simp only [List.length_append, List.length_cons, List.length_nil, List.length_set, List.length_take, List.length_drop, List.length_map, List.length_replicate] <;> omega) | ((first | refine ref_eq ?_ | refine live_eq ?_ | refine int_eq ?_ | refine bool_eq ?_ | refine str_eq ?_ | refine sl_eq ?_ | refine mp_eq ?_ | refine dk_eq ?_ | refine dkz_eq ?_ ?_) <;> first | rfl | omega | (simp only [List.length_append, List.length_cons, List.length_nil, List.length_set, List.length_take, List.length_drop, List.length_map, List.length_replicate] <;> omega) | (simp only [List.length_append, List.length_cons, List.length_nil, List.length_set, List.length_take, List.length_drop, List.length_map, List.length_replicate, List.append_assoc, List.cons_append, List.nil_append]; done) | skip)
      case' body2_1 =>
        rintro ms2 S2 ⟨j, h2_0, o2_4, h2_5, o2_6, h2_7, c2_0, u2_0, u2_1, hm2⟩
        obtain ⟨i2_4, h2_4, b2_4, l2_4⟩ := o2_4.out
        obtain ⟨i2_6, h2_6, b2_6, l2_6⟩ := o2_6.out
        have k2_0 := (u2_0).out h2_6 h2_4
        have ni2_4 : ∀ c, (i2_4 = S2.n + c) = False := fun c => eq_false (by omega)
        have pi2_4 : ∀ c, (S2.n + c = i2_4) = False := fun c => eq_false (by omega)
        have qi2_4 : (i2_4 = S2.n) = False := eq_false (by omega)
        have ri2_4 : (S2.n = i2_4) = False := eq_false (by omega)
        have ni2_6 : ∀ c, (i2_6 = S2.n + c) = False := fun c => eq_false (by omega)
        have pi2_6 : ∀ c, (S2.n + c = i2_6) = False := fun c => eq_false (by omega)
        have qi2_6 : (i2_6 = S2.n) = False := eq_false (by omega)
        have ri2_6 : (S2.n = i2_6) = False := eq_false (by omega)
        have di2_4i2_6 : (i2_4 = i2_6) = False := eq_false (by omega)
        have di2_6i2_4 : (i2_6 = i2_4) = False := eq_false (by omega)
      have q1 : ((m.length : Int) - 1 - j).toNat = m.length - 1 - j := by omega
      have q2 : ((tgN m : Int) - 1 - k).toNat = tgN m - 1 - k := by omega
      have q3 : j < m.length → (m.getD (m.length - 1 - j) []).length = tgN m := fun h => g5 _ (by omega)
      have fc : True := trivial
      repeat' first
        | with_reducible first | refine v_seq ?_ | refine v_skip ?_ | refine v_exit ?_ | refine v_ret ?_ | refine v_block ?_ | refine q_seq_n ?_ | refine q_seq_e ?_ | refine q_seq_r ?_ | refine q_blk_n ?_ | refine q_blk_r ?_ | refine q_blk_s ?_ | refine q_blk_o rfl ?_ | refine q_lp_e ?_ | refine q_lp_r ?_ | (refine hK _ ?_; clear hK) | (refine hA ?_; clear hA hB) | (refine hB ?_; clear hA hB) | exact v_end0 | exact v_end0' | refine And.intro ?_ ?_
        | ((with_reducible first | refine v_region rfl rfl (fun K hK => ?_) | refine v_draws rfl rfl (fun K hK => ?_) | refine v_if (fun A B hA hB => ?_) | refine v_end rfl ?_ | refine v_fin (.inl rfl) ?_ | refine v_fin (.inr rfl) ?_ | refine v_finC (.inl rfl) ?_ | refine v_finC (.inr rfl) ?_); simp (config := {contextual := true, maxSteps := 1000000}) only [go_sem, ↓reduceIte, reduceCtorEq, Nat.reduceEqDiff, Nat.reduceAdd, Nat.reduceMul, Nat.reduceSub, Nat.reduceLeDiff, Int.reduceLT, Int.reduceLE, Int.reduceEq, Int.reduceSub, Int.reduceAdd, Int.reduceMul, Int.reduceNeg, Int.reduceToNat, h2_0, h2_5, h2_7, h2_4, b2_4, h2_6, b2_6, ni2_4, pi2_4, qi2_4, ri2_4, ni2_6, pi2_6, qi2_6, ri2_6, di2_4i2_6, di2_6i2_4, hg, g6, q1, q2, fc])
        | ((with_reducible first | refine v_callE (spec_IsGrid_c _ ?_ ?_) ?_ | refine v_finN (.inl rfl) rfl ?_ ?_ | refine v_finN (.inr rfl) rfl ?_ ?_) <;> (try simp (config := {contextual := true, maxSteps := 1000000}) only [go_sem, ↓reduceIte, reduceCtorEq, Nat.reduceEqDiff, Nat.reduceAdd, Nat.reduceMul, Nat.reduceSub, Nat.reduceLeDiff, Int.reduceLT, Int.reduceLE, Int.reduceEq, Int.reduceSub, Int.reduceAdd, Int.reduceMul, Int.reduceNeg, Int.reduceToNat, h2_0, h2_5, h2_7, h2_4, b2_4, h2_6, b2_6, ni2_4, pi2_4, qi2_4, ri2_4, ni2_6, pi2_6, qi2_6, ri2_6, di2_4i2_6, di2_6i2_4, hg, g6, q1, q2, fc]) <;> (try with_reducible rfl))
        | (with_reducible refine v_apj ?_ (fun j' => ?_)) <;> try simp (config := {contextual := true, maxSteps := 1000000}) only [go_sem, ↓reduceIte, reduceCtorEq, Nat.reduceEqDiff, Nat.reduceAdd, Nat.reduceMul, Nat.reduceSub, Nat.reduceLeDiff, Int.reduceLT, Int.reduceLE, Int.reduceEq, Int.reduceSub, Int.reduceAdd, Int.reduceMul, Int.reduceNeg, Int.reduceToNat, h2_0, h2_5, h2_7, h2_4, b2_4, h2_6, b2_6, ni2_4, pi2_4, qi2_4, ri2_4, ni2_6, pi2_6, qi2_6, ri2_6, di2_4i2_6, di2_6i2_4, hg, g6, q1, q2, fc]
        | (with_reducible refine v_stz ?_ ?_ ?_ ?_ ?_) <;> try simp (config := {contextual := true, maxSteps := 1000000}) only [go_sem, ↓reduceIte, reduceCtorEq, Nat.reduceEqDiff, Nat.reduceAdd, Nat.reduceMul, Nat.reduceSub, Nat.reduceLeDiff, Int.reduceLT, Int.reduceLE, Int.reduceEq, Int.reduceSub, Int.reduceAdd, Int.reduceMul, Int.reduceNeg, Int.reduceToNat, h2_0, h2_5, h2_7, h2_4, b2_4, h2_6, b2_6, ni2_4, pi2_4, qi2_4, ri2_4, ni2_6, pi2_6, qi2_6, ri2_6, di2_4i2_6, di2_6i2_4, hg, g6, q1, q2, fc]
        | (with_reducible refine p_ok ?_; decide)
        | (intro hc; replace fc := And.intro hc fc; try simp only [decide_eq_true_eq, decide_eq_false_iff_not, Bool.and_eq_true, Bool.or_eq_true, Bool.and_eq_false_iff, Bool.or_eq_false_iff, Bool.not_eq_true', Bool.not_eq_false', Int.not_lt, Int.not_le] at hc)
      all_goals try (first | omega | (simp only [n_i64, n_u8]; omega) | (simp only [n_i64, n_u8, List.length_append, List.length_map, List.length_cons, List.length_nil, List.length_take, List.length_drop, List.length_replicate, List.length_set]; omega))
      all_goals try (first | (rw [q3 (by omega)]; omega))
      · focus
          refine q_lp_n ((fun (j : Nat) => m.length - j) (j+1)) ?_ ⟨j+1, ?_, ?_, ?_, ?_, ?_, ?_, ?_, ?_, rfl⟩
          all_goals (try simp only [go_sem, ↓reduceIte, reduceCtorEq, Nat.reduceEqDiff, Nat.reduceAdd, Nat.reduceMul, Nat.reduceSub, Nat.reduceLeDiff, Int.reduceLT, Int.reduceLE, Int.reduceEq, Int.reduceSub, Int.reduceAdd, Int.reduceMul, Int.reduceNeg, Int.reduceToNat, h2_0, h2_5, h2_7, h2_4, b2_4, h2_6, b2_6, ni2_4, pi2_4, qi2_4, ri2_4, ni2_6, pi2_6, qi2_6, ri2_6, di2_4i2_6, di2_6i2_4])
          repeat' refine And.intro ?_ ?_
          all_goals try first | rfl | omega | (simp only [List.length_append, List.length_cons, List.length_nil, List.length_set, List.length_take, List.length_drop, List.length_map, List.length_replicate] <;> omega) | ((first | refine ref_eq ?_ | refine live_eq ?_ | refine int_eq ?_ | refine bool_eq ?_ | refine str_eq ?_ | refine sl_eq ?_ | refine mp_eq ?_ | refine dk_eq ?_ | refine dkz_eq ?_ ?_) <;> first | rfl | omega | (simp only [List.length_append, List.length_cons, List.length_nil, List.length_set, List.length_take, List.length_drop, List.length_map, List.length_replicate] <;> omega) | (simp only [List.length_append, List.length_cons, List.length_nil, List.length_set, List.length_take, List.length_drop, List.length_map, List.length_replicate, List.append_assoc, List.cons_append, List.nil_append]; done) | skip)
        all_goals simp [List.range_succ, tgC]
      · focus
          refine q_lp_n ((fun (k : Nat) => tgN m - k) (k+1)) ?_ ⟨k+1, ?_, ?_, ?_, ?_, rfl⟩
          all_goals (try simp only [go_sem, ↓reduceIte, reduceCtorEq, Nat.reduceEqDiff, Nat.reduceAdd, Nat.reduceMul, Nat.reduceSub, Nat.reduceLeDiff, Int.reduceLT, Int.reduceLE, Int.reduceEq, Int.reduceSub, Int.reduceAdd, Int.reduceMul, Int.reduceNeg, Int.reduceToNat, h2_0, h2_5, h2_7, h2_4, b2_4, h2_6, b2_6, ni2_4, pi2_4, qi2_4, ri2_4, ni2_6, pi2_6, qi2_6, ri2_6, di2_4i2_6, di2_6i2_4])
          repeat' refine And.intro ?_ ?_
          all_goals try first | rfl | omega | (simp only [List.length_append, List.length_cons, List.length_nil, List.length_set, List.length_take, List.length_drop, List.length_map, List.length_replicate] <;> omega) | ((first | refine ref_eq ?_ | refine live_eq ?_ | refine int_eq ?_ | refine bool_eq ?_ | refine str_eq ?_ | refine sl_eq ?_ | refine mp_eq ?_ | refine dk_eq ?_ | refine dkz_eq ?_ ?_) <;> first | rfl | omega | (simp only [List.length_append, List.length_cons, List.length_nil, List.length_set, List.length_take, List.length_drop, List.length_map, List.length_replicate] <;> omega) | (simp only [List.length_append, List.length_cons, List.length_nil, List.length_set, List.length_take, List.length_drop, List.length_map, List.length_replicate, List.append_assoc, List.cons_append, List.nil_append]; done) | skip)
        all_goals (obtain rfl : j = m.length := by omega)
        all_goals simp [List.range_succ, tgR]
    · obtain rfl : k = tgN m := by omega
      rw [g7, List.take_of_length_le (by simp)]
  · have g7 : tgL m = [] := if_neg hg
    rw [Bool.not_eq_true] at hg
    refine Fun.of (sg := sgNZ) (ts := [2, 3]) mo Try.func21 rfl rfl rfl rfl (by kernel_rfl) (by simp [noRoL, nrA_int, nrA_bool, nrA_str, nrA_own, nrA_lent, nrA_agg, nrL_int, nrL_str, nrL_bool, nrL_u8, nrL_frI, nrL_frS, nr_dl, nrLLI, nrLLS]) rfl ?_
    have fc : True := trivial
    repeat' first
      | with_reducible first | refine v_seq ?_ | refine v_skip ?_ | refine v_exit ?_ | refine v_ret ?_ | refine v_block ?_ | refine q_seq_n ?_ | refine q_seq_e ?_ | refine q_seq_r ?_ | refine q_blk_n ?_ | refine q_blk_r ?_ | refine q_blk_s ?_ | refine q_blk_o rfl ?_ | refine q_lp_e ?_ | refine q_lp_r ?_ | (refine hK _ ?_; clear hK) | (refine hA ?_; clear hA hB) | (refine hB ?_; clear hA hB) | exact v_end0 | exact v_end0' | refine And.intro ?_ ?_
      | ((with_reducible first | refine v_region rfl rfl (fun K hK => ?_) | refine v_draws rfl rfl (fun K hK => ?_) | refine v_if (fun A B hA hB => ?_) | refine v_end rfl ?_ | refine v_fin (.inl rfl) ?_ | refine v_fin (.inr rfl) ?_ | refine v_finC (.inl rfl) ?_ | refine v_finC (.inr rfl) ?_); simp (config := {contextual := true, maxSteps := 1000000}) only [go_sem, ↓reduceIte, reduceCtorEq, Nat.reduceEqDiff, Nat.reduceAdd, Nat.reduceMul, Nat.reduceSub, Nat.reduceLeDiff, Int.reduceLT, Int.reduceLE, Int.reduceEq, Int.reduceSub, Int.reduceAdd, Int.reduceMul, Int.reduceNeg, Int.reduceToNat, hg, g7, fc])
      | ((with_reducible first | refine v_callE (spec_IsGrid_c _ ?_ ?_) ?_ | refine v_finN (.inl rfl) rfl ?_ ?_ | refine v_finN (.inr rfl) rfl ?_ ?_) <;> (try simp (config := {contextual := true, maxSteps := 1000000}) only [go_sem, ↓reduceIte, reduceCtorEq, Nat.reduceEqDiff, Nat.reduceAdd, Nat.reduceMul, Nat.reduceSub, Nat.reduceLeDiff, Int.reduceLT, Int.reduceLE, Int.reduceEq, Int.reduceSub, Int.reduceAdd, Int.reduceMul, Int.reduceNeg, Int.reduceToNat, hg, g7, fc]) <;> (try with_reducible rfl))
      | (with_reducible refine v_apj ?_ (fun j' => ?_)) <;> try simp (config := {contextual := true, maxSteps := 1000000}) only [go_sem, ↓reduceIte, reduceCtorEq, Nat.reduceEqDiff, Nat.reduceAdd, Nat.reduceMul, Nat.reduceSub, Nat.reduceLeDiff, Int.reduceLT, Int.reduceLE, Int.reduceEq, Int.reduceSub, Int.reduceAdd, Int.reduceMul, Int.reduceNeg, Int.reduceToNat, hg, g7, fc]
      | (with_reducible refine v_stz ?_ ?_ ?_ ?_ ?_) <;> try simp (config := {contextual := true, maxSteps := 1000000}) only [go_sem, ↓reduceIte, reduceCtorEq, Nat.reduceEqDiff, Nat.reduceAdd, Nat.reduceMul, Nat.reduceSub, Nat.reduceLeDiff, Int.reduceLT, Int.reduceLE, Int.reduceEq, Int.reduceSub, Int.reduceAdd, Int.reduceMul, Int.reduceNeg, Int.reduceToNat, hg, g7, fc]
      | (with_reducible refine p_ok ?_; decide)
      | (intro hc; replace fc := And.intro hc fc; try simp only [decide_eq_true_eq, decide_eq_false_iff_not, Bool.and_eq_true, Bool.or_eq_true, Bool.and_eq_false_iff, Bool.or_eq_false_iff, Bool.not_eq_true', Bool.not_eq_false', Int.not_lt, Int.not_le] at hc)
    all_goals try (first | omega | (simp only [n_i64, n_u8]; omega) | (simp only [n_i64, n_u8, List.length_append, List.length_map, List.length_cons, List.length_nil, List.length_take, List.length_drop, List.length_replicate, List.length_set]; omega))
theorem impl_TurnGrid_c {e0 m0 : Bool} (m : List (List Int)) (hm : m.length ≤ 1099511627776) (hl : ∀ l ∈ m, l.length ≤ 1099511627776) : Fun Try.prog 23 [(.sl (.lent m0) (List.map (elI e0) (m)))] [(.dl (List.map (List.map (PV.int .i64)) (tgL m))), (.bool (gridB m))] := by
  by_cases hg : gridB m = true
  · obtain ⟨g1, g2, g3, g4, g5⟩ := grid_facts hg
    have g6 : (m.getD 0 []).length = tgN m := rfl
    have g7 : tgL m = (List.range (tgN m)).map fun i => tgR m (tgN m - 1 - i) := if_pos hg
    refine Fun.of (sg := sgNZ) (ts := [2, 3]) mo Try.func23 rfl rfl rfl rfl (by kernel_rfl) (by simp [noRoL, nrA_int, nrA_bool, nrA_str, nrA_own, nrA_lent, nrA_agg, nrL_int, nrL_str, nrL_bool, nrL_u8, nrL_frI, nrL_frS, nr_dl, nrLLI, nrLLS]) rfl ?_
    have fc : True := trivial
    repeat' first
      | with_reducible first | refine v_seq ?_ | refine v_skip ?_ | refine v_exit ?_ | refine v_ret ?_ | refine v_block ?_ | refine q_seq_n ?_ | refine q_seq_e ?_ | refine q_seq_r ?_ | refine q_blk_n ?_ | refine q_blk_r ?_ | refine q_blk_s ?_ | refine q_blk_o rfl ?_ | refine q_lp_e ?_ | refine q_lp_r ?_ | (refine hK _ ?_; clear hK) | (refine hA ?_; clear hA hB) | (refine hB ?_; clear hA hB) | exact v_end0 | exact v_end0' | refine And.intro ?_ ?_
      | ((with_reducible first | refine v_region rfl rfl (fun K hK => ?_) | refine v_draws rfl rfl (fun K hK => ?_) | refine v_if (fun A B hA hB => ?_) | refine v_end rfl ?_ | refine v_fin (.inl rfl) ?_ | refine v_fin (.inr rfl) ?_ | refine v_finC (.inl rfl) ?_ | refine v_finC (.inr rfl) ?_); simp (config := {contextual := true, maxSteps := 1000000}) only [go_sem, ↓reduceIte, reduceCtorEq, Nat.reduceEqDiff, Nat.reduceAdd, Nat.reduceMul, Nat.reduceSub, Nat.reduceLeDiff, Int.reduceLT, Int.reduceLE, Int.reduceEq, Int.reduceSub, Int.reduceAdd, Int.reduceMul, Int.reduceNeg, Int.reduceToNat, hg, g6, fc])
      | ((with_reducible first | refine v_callE (impl_IsGrid_c _ ?_ ?_) ?_ | refine v_finN (.inl rfl) rfl ?_ ?_ | refine v_finN (.inr rfl) rfl ?_ ?_) <;> (try simp (config := {contextual := true, maxSteps := 1000000}) only [go_sem, ↓reduceIte, reduceCtorEq, Nat.reduceEqDiff, Nat.reduceAdd, Nat.reduceMul, Nat.reduceSub, Nat.reduceLeDiff, Int.reduceLT, Int.reduceLE, Int.reduceEq, Int.reduceSub, Int.reduceAdd, Int.reduceMul, Int.reduceNeg, Int.reduceToNat, hg, g6, fc]) <;> (try with_reducible rfl))
      | (with_reducible refine v_apj ?_ (fun j' => ?_)) <;> try simp (config := {contextual := true, maxSteps := 1000000}) only [go_sem, ↓reduceIte, reduceCtorEq, Nat.reduceEqDiff, Nat.reduceAdd, Nat.reduceMul, Nat.reduceSub, Nat.reduceLeDiff, Int.reduceLT, Int.reduceLE, Int.reduceEq, Int.reduceSub, Int.reduceAdd, Int.reduceMul, Int.reduceNeg, Int.reduceToNat, hg, g6, fc]
      | (with_reducible refine v_stz ?_ ?_ ?_ ?_ ?_) <;> try simp (config := {contextual := true, maxSteps := 1000000}) only [go_sem, ↓reduceIte, reduceCtorEq, Nat.reduceEqDiff, Nat.reduceAdd, Nat.reduceMul, Nat.reduceSub, Nat.reduceLeDiff, Int.reduceLT, Int.reduceLE, Int.reduceEq, Int.reduceSub, Int.reduceAdd, Int.reduceMul, Int.reduceNeg, Int.reduceToNat, hg, g6, fc]
      | (with_reducible refine p_ok ?_; decide)
      | (intro hc; replace fc := And.intro hc fc; try simp only [decide_eq_true_eq, decide_eq_false_iff_not, Bool.and_eq_true, Bool.or_eq_true, Bool.and_eq_false_iff, Bool.or_eq_false_iff, Bool.not_eq_true', Bool.not_eq_false', Int.not_lt, Int.not_le] at hc)
    all_goals try (first | omega | (simp only [n_i64, n_u8]; omega) | (simp only [n_i64, n_u8, List.length_append, List.length_map, List.length_cons, List.length_nil, List.length_take, List.length_drop, List.length_replicate, List.length_set]; omega))
    refine v_loop (fun ms1 S1 => ∃ (k : Nat), S1.e 0 = .p (.sl (.lent m0) (List.map (elI e0) (m))) ∧ DwnL (S1.e 4) S1.h S1.n (PV.int .i64) (((List.range k).map (fun i => tgR m (tgN m - 1 - i))).length) ((List.range k).map (fun i => tgR m (tgN m - 1 - i))) ∧ S1.e 5 = .p (.int .i64 ((tgN m - 1 - k))) ∧ (k ≤ tgN m) ∧ ms1 = tgN m - k) ((fun (k : Nat) => tgN m - k) (0)) ?init1_2 ?body1_2
    case' init1_2 =>
      refine ⟨0, ?_, ?_, ?_, ?_, rfl⟩
      all_goals (try simp only [go_sem, ↓reduceIte, reduceCtorEq, Nat.reduceEqDiff, Nat.reduceAdd, Nat.reduceMul, Nat.reduceSub, Nat.reduceLeDiff, Int.reduceLT, Int.reduceLE, Int.reduceEq, Int.reduceSub, Int.reduceAdd, Int.reduceMul, Int.reduceNeg, Int.reduceToNat])
      repeat' refine And.intro ?_ ?_
      all_goals try first | rfl | omega | (simp only [List.length_append, List.length_cons, List.length_nil, List.length_set, List.length_take, List.length_drop, List.length_map, List.length_replicate] <;> omega) | ((first | refine ref_eq ?_ | refine live_eq ?_ | refine int_eq ?_ | refine bool_eq ?_ | refine str_eq ?_ | refine sl_eq ?_ | refine mp_eq ?_ | refine dk_eq ?_ | refine dkz_eq ?_ ?_) <;> first | rfl | omega | (simp only [List.length_append, List.length_cons, List.length_nil, List.length_set, List.length_take, List.length_drop, List.length_map, List.length_replicate] <;> omega) | (simp only [List.length_append, List.length_cons, List.length_nil, List.length_set, List.length_take, List.length_drop, List.length_map, List.length_replicate, List.append_assoc, List.cons_append, List.nil_append]; done) | skip)
    case' body1_2 =>
      rintro ms1 S1 ⟨k, h1_0, o1_4, h1_5, c1_0, hm1⟩
      obtain ⟨i1_4, h1_4, b1_4, l1_4⟩ := o1_4.out
      have ni1_4 : ∀ c, (i1_4 = S1.n + c) = False := fun c => eq_false (by omega)
      have pi1_4 : ∀ c, (S1.n + c = i1_4) = False := fun c => eq_false (by omega)
      have qi1_4 : (i1_4 = S1.n) = False := eq_false (by omega)
      have ri1_4 : (S1.n = i1_4) = False := eq_false (by omega)
    have fc : True := trivial
    repeat' first
      | with_reducible first | refine v_seq ?_ | refine v_skip ?_ | refine v_exit ?_ | refine v_ret ?_ | refine v_block ?_ | refine q_seq_n ?_ | refine q_seq_e ?_ | refine q_seq_r ?_ | refine q_blk_n ?_ | refine q_blk_r ?_ | refine q_blk_s ?_ | refine q_blk_o rfl ?_ | refine q_lp_e ?_ | refine q_lp_r ?_ | (refine hK _ ?_; clear hK) | (refine hA ?_; clear hA hB) | (refine hB ?_; clear hA hB) | exact v_end0 | exact v_end0' | refine And.intro ?_ ?_
      | ((with_reducible first | refine v_region rfl rfl (fun K hK => ?_) | refine v_draws rfl rfl (fun K hK => ?_) | refine v_if (fun A B hA hB => ?_) | refine v_end rfl ?_ | refine v_fin (.inl rfl) ?_ | refine v_fin (.inr rfl) ?_ | refine v_finC (.inl rfl) ?_ | refine v_finC (.inr rfl) ?_); simp (config := {contextual := true, maxSteps := 1000000}) only [go_sem, ↓reduceIte, reduceCtorEq, Nat.reduceEqDiff, Nat.reduceAdd, Nat.reduceMul, Nat.reduceSub, Nat.reduceLeDiff, Int.reduceLT, Int.reduceLE, Int.reduceEq, Int.reduceSub, Int.reduceAdd, Int.reduceMul, Int.reduceNeg, Int.reduceToNat, h1_0, h1_5, h1_4, b1_4, ni1_4, pi1_4, qi1_4, ri1_4, hg, g6, fc])
      | ((with_reducible first | refine v_callE (impl_IsGrid_c _ ?_ ?_) ?_ | refine v_finN (.inl rfl) rfl ?_ ?_ | refine v_finN (.inr rfl) rfl ?_ ?_) <;> (try simp (config := {contextual := true, maxSteps := 1000000}) only [go_sem, ↓reduceIte, reduceCtorEq, Nat.reduceEqDiff, Nat.reduceAdd, Nat.reduceMul, Nat.reduceSub, Nat.reduceLeDiff, Int.reduceLT, Int.reduceLE, Int.reduceEq, Int.reduceSub, Int.reduceAdd, Int.reduceMul, Int.reduceNeg, Int.reduceToNat, h1_0, h1_5, h1_4, b1_4, ni1_4, pi1_4, qi1_4, ri1_4, hg, g6, fc]) <;> (try with_reducible rfl))
      | (with_reducible refine v_apj ?_ (fun j' => ?_)) <;> try simp (config := {contextual := true, maxSteps := 1000000}) only [go_sem, ↓reduceIte, reduceCtorEq, Nat.reduceEqDiff, Nat.reduceAdd, Nat.reduceMul, Nat.reduceSub, Nat.reduceLeDiff, Int.reduceLT, Int.reduceLE, Int.reduceEq, Int.reduceSub, Int.reduceAdd, Int.reduceMul, Int.reduceNeg, Int.reduceToNat, h1_0, h1_5, h1_4, b1_4, ni1_4, pi1_4, qi1_4, ri1_4, hg, g6, fc]
      | (with_reducible refine v_stz ?_ ?_ ?_ ?_ ?_) <;> try simp (config := {contextual := true, maxSteps := 1000000}) only [go_sem, ↓reduceIte, reduceCtorEq, Nat.reduceEqDiff, Nat.reduceAdd, Nat.reduceMul, Nat.reduceSub, Nat.reduceLeDiff, Int.reduceLT, Int.reduceLE, Int.reduceEq, Int.reduceSub, Int.reduceAdd, Int.reduceMul, Int.reduceNeg, Int.reduceToNat, h1_0, h1_5, h1_4, b1_4, ni1_4, pi1_4, qi1_4, ri1_4, hg, g6, fc]
      | (with_reducible refine p_ok ?_; decide)
      | (intro hc; replace fc := And.intro hc fc; try simp only [decide_eq_true_eq, decide_eq_false_iff_not, Bool.and_eq_true, Bool.or_eq_true, Bool.and_eq_false_iff, Bool.or_eq_false_iff, Bool.not_eq_true', Bool.not_eq_false', Int.not_lt, Int.not_le] at hc)
    all_goals try (first | omega | (simp only [n_i64, n_u8]; omega) | (simp only [n_i64, n_u8, List.length_append, List.length_map, List.length_cons, List.length_nil, List.length_take, List.length_drop, List.length_replicate, List.length_set]; omega))
    · refine v_loop (fun ms2 S2 => ∃ (j : Nat), S2.e 0 = .p (.sl (.lent m0) (List.map (elI e0) (m))) ∧ DwnL (S2.e 4) S2.h S2.n (PV.int .i64) (((List.range k).map (fun i => tgR m (tgN m - 1 - i))).length) ((List.range k).map (fun i => tgR m (tgN m - 1 - i))) ∧ S2.e 5 = .p (.int .i64 ((tgN m - 1 - k))) ∧ OwnL (S2.e 6) S2.h S2.n (PV.int .i64) (((List.range j).map (tgC m (tgN m - 1 - k))).length) ((List.range j).map (tgC m (tgN m - 1 - k))) ∧ S2.e 7 = .p (.int .i64 ((m.length - 1 - j))) ∧ (j ≤ m.length) ∧ NId (S2.e 6) (S2.e 4) ∧ S1.n ≤ S2.n ∧ ms2 = m.length - j) ((fun (j : Nat) => m.length - j) (0)) ?init2_3 ?body2_3
      case' init2_3 =>
        refine ⟨0, ?_, ?_, ?_, ?_, ?_, ?_, ?_, ?_, rfl⟩
        all_goals (try simp only [go_sem, ↓reduceIte, reduceCtorEq, Nat.reduceEqDiff, Nat.reduceAdd, Nat.reduceMul, Nat.reduceSub, Nat.reduceLeDiff, Int.reduceLT, Int.reduceLE, Int.reduceEq, Int.reduceSub, Int.reduceAdd, Int.reduceMul, Int.reduceNeg, Int.reduceToNat, h1_0, h1_5, h1_4, b1_4, ni1_4, pi1_4, qi1_4, ri1_4])
        repeat' refine And.intro ?_ ?_
        all_goals try first | rfl | omega | (simp only [List.length_append, List.length_cons, List.length_nil, List.length_set, List.length_take, List.length_drop, List.length_map, List.length_replicate] <;> omega) | ((first | refine ref_eq ?_ | refine live_eq ?_ | refine int_eq ?_ | refine bool_eq ?_ | refine str_eq ?_ | refine sl_eq ?_ | refine mp_eq ?_ | refine dk_eq ?_ | refine dkz_eq ?_ ?_) <;> first | rfl | omega | (simp only [List.length_append, List.length_cons, List.length_nil, List.length_set, List.length_take, List.length_drop, List.length_map, List.length_replicate] <;> omega) | (simp only [List.length_append, List.length_cons, List.length_nil, List.length_set, List.length_take, List.length_drop, List.length_map, List.length_replicate, List.append_assoc, List.cons_append, List.nil_append]; done) | skip)
      case' body2_3 =>
        rintro ms2 S2 ⟨j, h2_0, o2_4, h2_5, o2_6, h2_7, c2_0, u2_0, u2_1, hm2⟩
        obtain ⟨i2_4, h2_4, b2_4, l2_4⟩ := o2_4.out
        obtain ⟨i2_6, h2_6, b2_6, l2_6⟩ := o2_6.out
        have k2_0 := (u2_0).out h2_6 h2_4
        have ni2_4 : ∀ c, (i2_4 = S2.n + c) = False := fun c => eq_false (by omega)
        have pi2_4 : ∀ c, (S2.n + c = i2_4) = False := fun c => eq_false (by omega)
        have qi2_4 : (i2_4 = S2.n) = False := eq_false (by omega)
        have ri2_4 : (S2.n = i2_4) = False := eq_false (by omega)
        have ni2_6 : ∀ c, (i2_6 = S2.n + c) = False := fun c => eq_false (by omega)
        have pi2_6 : ∀ c, (S2.n + c = i2_6) = False := fun c => eq_false (by omega)
        have qi2_6 : (i2_6 = S2.n) = False := eq_false (by omega)
        have ri2_6 : (S2.n = i2_6) = False := eq_false (by omega)
        have di2_4i2_6 : (i2_4 = i2_6) = False := eq_false (by omega)
        have di2_6i2_4 : (i2_6 = i2_4) = False := eq_false (by omega)
      have q1 : ((m.length : Int) - 1 - j).toNat = m.length - 1 - j := by omega
      have q2 : ((tgN m : Int) - 1 - k).toNat = tgN m - 1 - k := by omega
      have q3 : j < m.length → (m.getD (m.length - 1 - j) []).length = tgN m := fun h => g5 _ (by omega)
      have fc : True := trivial
      repeat' first
        | with_reducible first | refine v_seq ?_ | refine v_skip ?_ | refine v_exit ?_ | refine v_ret ?_ | refine v_block ?_ | refine q_seq_n ?_ | refine q_seq_e ?_ | refine q_seq_r ?_ | refine q_blk_n ?_ | refine q_blk_r ?_ | refine q_blk_s ?_ | refine q_blk_o rfl ?_ | refine q_lp_e ?_ | refine q_lp_r ?_ | (refine hK _ ?_; clear hK) | (refine hA ?_; clear hA hB) | (refine hB ?_; clear hA hB) | exact v_end0 | exact v_end0' | refine And.intro ?_ ?_
        | ((with_reducible first | refine v_region rfl rfl (fun K hK => ?_) | refine v_draws rfl rfl (fun K hK => ?_) | refine v_if (fun A B hA hB => ?_) | refine v_end rfl ?_ | refine v_fin (.inl rfl) ?_ | refine v_fin (.inr rfl) ?_ | refine v_finC (.inl rfl) ?_ | refine v_finC (.inr rfl) ?_); simp (config := {contextual := true, maxSteps := 1000000}) only [go_sem, ↓reduceIte, reduceCtorEq, Nat.reduceEqDiff, Nat.reduceAdd, Nat.reduceMul, Nat.reduceSub, Nat.reduceLeDiff, Int.reduceLT, Int.reduceLE, Int.reduceEq, Int.reduceSub, Int.reduceAdd, Int.reduceMul, Int.reduceNeg, Int.reduceToNat, h2_0, h2_5, h2_7, h2_4, b2_4, h2_6, b2_6, ni2_4, pi2_4, qi2_4, ri2_4, ni2_6, pi2_6, qi2_6, ri2_6, di2_4i2_6, di2_6i2_4, hg, g6, q1, q2, fc])
        | ((with_reducible first | refine v_callE (impl_IsGrid_c _ ?_ ?_) ?_ | refine v_finN (.inl rfl) rfl ?_ ?_ | refine v_finN (.inr rfl) rfl ?_ ?_) <;> (try simp (config := {contextual := true, maxSteps := 1000000}) only [go_sem, ↓reduceIte, reduceCtorEq, Nat.reduceEqDiff, Nat.reduceAdd, Nat.reduceMul, Nat.reduceSub, Nat.reduceLeDiff, Int.reduceLT, Int.reduceLE, Int.reduceEq, Int.reduceSub, Int.reduceAdd, Int.reduceMul, Int.reduceNeg, Int.reduceToNat, h2_0, h2_5, h2_7, h2_4, b2_4, h2_6, b2_6, ni2_4, pi2_4, qi2_4, ri2_4, ni2_6, pi2_6, qi2_6, ri2_6, di2_4i2_6, di2_6i2_4, hg, g6, q1, q2, fc]) <;> (try with_reducible rfl))
        | (with_reducible refine v_apj ?_ (fun j' => ?_)) <;> try simp (config := {contextual := true, maxSteps := 1000000}) only [go_sem, ↓reduceIte, reduceCtorEq, Nat.reduceEqDiff, Nat.reduceAdd, Nat.reduceMul, Nat.reduceSub, Nat.reduceLeDiff, Int.reduceLT, Int.reduceLE, Int.reduceEq, Int.reduceSub, Int.reduceAdd, Int.reduceMul, Int.reduceNeg, Int.reduceToNat, h2_0, h2_5, h2_7, h2_4, b2_4, h2_6, b2_6, ni2_4, pi2_4, qi2_4, ri2_4, ni2_6, pi2_6, qi2_6, ri2_6, di2_4i2_6, di2_6i2_4, hg, g6, q1, q2, fc]
        | (with_reducible refine v_stz ?_ ?_ ?_ ?_ ?_) <;> try simp (config := {contextual := true, maxSteps := 1000000}) only [go_sem, ↓reduceIte, reduceCtorEq, Nat.reduceEqDiff, Nat.reduceAdd, Nat.reduceMul, Nat.reduceSub, Nat.reduceLeDiff, Int.reduceLT, Int.reduceLE, Int.reduceEq, Int.reduceSub, Int.reduceAdd, Int.reduceMul, Int.reduceNeg, Int.reduceToNat, h2_0, h2_5, h2_7, h2_4, b2_4, h2_6, b2_6, ni2_4, pi2_4, qi2_4, ri2_4, ni2_6, pi2_6, qi2_6, ri2_6, di2_4i2_6, di2_6i2_4, hg, g6, q1, q2, fc]
        | (with_reducible refine p_ok ?_; decide)
        | (intro hc; replace fc := And.intro hc fc; try simp only [decide_eq_true_eq, decide_eq_false_iff_not, Bool.and_eq_true, Bool.or_eq_true, Bool.and_eq_false_iff, Bool.or_eq_false_iff, Bool.not_eq_true', Bool.not_eq_false', Int.not_lt, Int.not_le] at hc)
      all_goals try (first | omega | (simp only [n_i64, n_u8]; omega) | (simp only [n_i64, n_u8, List.length_append, List.length_map, List.length_cons, List.length_nil, List.length_take, List.length_drop, List.length_replicate, List.length_set]; omega))
      all_goals try (first | (rw [q3 (by omega)]; omega))
      · focus
          refine q_lp_n ((fun (j : Nat) => m.length - j) (j+1)) ?_ ⟨j+1, ?_, ?_, ?_, ?_, ?_, ?_, ?_, ?_, rfl⟩
          all_goals (try simp only [go_sem, ↓reduceIte, reduceCtorEq, Nat.reduceEqDiff, Nat.reduceAdd, Nat.reduceMul, Nat.reduceSub, Nat.reduceLeDiff, Int.reduceLT, Int.reduceLE, Int.reduceEq, Int.reduceSub, Int.reduceAdd, Int.reduceMul, Int.reduceNeg, Int.reduceToNat, h2_0, h2_5, h2_7, h2_4, b2_4, h2_6, b2_6, ni2_4, pi2_4, qi2_4, ri2_4, ni2_6, pi2_6, qi2_6, ri2_6, di2_4i2_6, di2_6i2_4])
          repeat' refine And.intro ?_ ?_
          all_goals try first | rfl | omega | (simp only [List.length_append, List.length_cons, List.length_nil, List.length_set, List.length_take, List.length_drop, List.length_map, List.length_replicate] <;> omega) | ((first | refine ref_eq ?_ | refine live_eq ?_ | refine int_eq ?_ | refine bool_eq ?_ | refine str_eq ?_ | refine sl_eq ?_ | refine mp_eq ?_ | refine dk_eq ?_ | refine dkz_eq ?_ ?_) <;> first | rfl | omega | (simp only [List.length_append, List.length_cons, List.length_nil, List.length_set, List.length_take, List.length_drop, List.length_map, List.length_replicate] <;> omega) | (simp only [List.length_append, List.length_cons, List.length_nil, List.length_set, List.length_take, List.length_drop, List.length_map, List.length_replicate, List.append_assoc, List.cons_append, List.nil_append]; done) | skip)
        all_goals simp [List.range_succ, tgC]
      · focus
          refine q_lp_n ((fun (k : Nat) => tgN m - k) (k+1)) ?_ ⟨k+1, ?_, ?_, ?_, ?_, rfl⟩
          all_goals (try simp only [go_sem, ↓reduceIte, reduceCtorEq, Nat.reduceEqDiff, Nat.reduceAdd, Nat.reduceMul, Nat.reduceSub, Nat.reduceLeDiff, Int.reduceLT, Int.reduceLE, Int.reduceEq, Int.reduceSub, Int.reduceAdd, Int.reduceMul, Int.reduceNeg, Int.reduceToNat, h2_0, h2_5, h2_7, h2_4, b2_4, h2_6, b2_6, ni2_4, pi2_4, qi2_4, ri2_4, ni2_6, pi2_6, qi2_6, ri2_6, di2_4i2_6, di2_6i2_4])
          repeat' refine And.intro ?_ ?_
          all_goals try first | rfl | omega | (simp only [List.length_append, List.length_cons, List.length_nil, List.length_set, List.length_take, List.length_drop, List.length_map, List.length_replicate] <;> omega) | ((first | refine ref_eq ?_ | refine live_eq ?_ | refine int_eq ?_ | refine bool_eq ?_ | refine str_eq ?_ | refine sl_eq ?_ | refine mp_eq ?_ | refine dk_eq ?_ | refine dkz_eq ?_ ?_) <;> first | rfl | omega | (simp only [List.length_append, List.length_cons, List.length_nil, List.length_set, List.length_take, List.length_drop, List.length_map, List.length_replicate] <;> omega) | (simp only [List.length_append, List.length_cons, List.length_nil, List.length_set, List.length_take, List.length_drop, List.length_map, List.length_replicate, List.append_assoc, List.cons_append, List.nil_append]; done) | skip)
        all_goals (obtain rfl : j = m.length := by omega)
        all_goals simp [List.range_succ, tgR]
    · obtain rfl : k = tgN m := by omega
      rw [g7, List.take_of_length_le (by simp)]
  · have g7 : tgL m = [] := if_neg hg
    rw [Bool.not_eq_true] at hg
    refine Fun.of (sg := sgNZ) (ts := [2, 3]) mo Try.func23 rfl rfl rfl rfl (by kernel_rfl) (by simp [noRoL, nrA_int, nrA_bool, nrA_str, nrA_own, nrA_lent, nrA_agg, nrL_int, nrL_str, nrL_bool, nrL_u8, nrL_frI, nrL_frS, nr_dl, nrLLI, nrLLS]) rfl ?_
    have fc : True := trivial
    repeat' first
      | with_reducible first | refine v_seq ?_ | refine v_skip ?_ | refine v_exit ?_ | refine v_ret ?_ | refine v_block ?_ | refine q_seq_n ?_ | refine q_seq_e ?_ | refine q_seq_r ?_ | refine q_blk_n ?_ | refine q_blk_r ?_ | refine q_blk_s ?_ | refine q_blk_o rfl ?_ | refine q_lp_e ?_ | refine q_lp_r ?_ | (refine hK _ ?_; clear hK) | (refine hA ?_; clear hA hB) | (refine hB ?_; clear hA hB) | exact v_end0 | exact v_end0' | refine And.intro ?_ ?_
      | ((with_reducible first | refine v_region rfl rfl (fun K hK => ?_) | refine v_draws rfl rfl (fun K hK => ?_) | refine v_if (fun A B hA hB => ?_) | refine v_end rfl ?_ | refine v_fin (.inl rfl) ?_ | refine v_fin (.inr rfl) ?_ | refine v_finC (.inl rfl) ?_ | refine v_finC (.inr rfl) ?_); simp (config := {contextual := true, maxSteps := 1000000}) only [go_sem, ↓reduceIte, reduceCtorEq, Nat.reduceEqDiff, Nat.reduceAdd, Nat.reduceMul, Nat.reduceSub, Nat.reduceLeDiff, Int.reduceLT, Int.reduceLE, Int.reduceEq, Int.reduceSub, Int.reduceAdd, Int.reduceMul, Int.reduceNeg, Int.reduceToNat, hg, g7, fc])
      | ((with_reducible first | refine v_callE (impl_IsGrid_c _ ?_ ?_) ?_ | refine v_finN (.inl rfl) rfl ?_ ?_ | refine v_finN (.inr rfl) rfl ?_ ?_) <;> (try simp (config := {contextual := true, maxSteps := 1000000}) only [go_sem, ↓reduceIte, reduceCtorEq, Nat.reduceEqDiff, Nat.reduceAdd, Nat.reduceMul, Nat.reduceSub, Nat.reduceLeDiff, Int.reduceLT, Int.reduceLE, Int.reduceEq, Int.reduceSub, Int.reduceAdd, Int.reduceMul, Int.reduceNeg, Int.reduceToNat, hg, g7, fc]) <;> (try with_reducible rfl))
      | (with_reducible refine v_apj ?_ (fun j' => ?_)) <;> try simp (config := {contextual := true, maxSteps := 1000000}) only [go_sem, ↓reduceIte, reduceCtorEq, Nat.reduceEqDiff, Nat.reduceAdd, Nat.reduceMul, Nat.reduceSub, Nat.reduceLeDiff, Int.reduceLT, Int.reduceLE, Int.reduceEq, Int.reduceSub, Int.reduceAdd, Int.reduceMul, Int.reduceNeg, Int.reduceToNat, hg, g7, fc]
      | (with_reducible refine v_stz ?_ ?_ ?_ ?_ ?_) <;> try simp (config := {contextual := true, maxSteps := 1000000}) only [go_sem, ↓reduceIte, reduceCtorEq, Nat.reduceEqDiff, Nat.reduceAdd, Nat.reduceMul, Nat.reduceSub, Nat.reduceLeDiff, Int.reduceLT, Int.reduceLE, Int.reduceEq, Int.reduceSub, Int.reduceAdd, Int.reduceMul, Int.reduceNeg, Int.reduceToNat, hg, g7, fc]
      | (with_reducible refine p_ok ?_; decide)
      | (intro hc; replace fc := And.intro hc fc; try simp only [decide_eq_true_eq, decide_eq_false_iff_not, Bool.and_eq_true, Bool.or_eq_true, Bool.and_eq_false_iff, Bool.or_eq_false_iff, Bool.not_eq_true', Bool.not_eq_false', Int.not_lt, Int.not_le] at hc)
    all_goals try (first | omega | (simp only [n_i64, n_u8]; omega) | (simp only [n_i64, n_u8, List.length_append, List.length_map, List.length_cons, List.length_nil, List.length_take, List.length_drop, List.length_replicate, List.length_set]; omega))
end Go.Gl
