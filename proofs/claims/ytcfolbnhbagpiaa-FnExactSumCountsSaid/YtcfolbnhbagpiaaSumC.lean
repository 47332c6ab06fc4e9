/-
  The numbers of sums of parts: what their functions compute (their sums may go round). Conditions: none.
-/
import Derived.Test.YtcfolbnhbagpiaaNum
import Derived.Test.YtcfolbnhbagpiaaGl34
set_option linter.unusedSimpArgs false
set_option linter.unusedVariables false
set_option maxRecDepth 20000
namespace Go.Gl
open Go Go.Proofs

def sgW : FuncId → List Bool := fun f => if f = 4294967296 then [true] else []
theorem sgW_eq {f : FuncId} : sgW f = if f = 4294967296 then [true] else [] := _root_.id rfl
theorem wayE_sgW : wayE sgW = true := _root_.id rfl
theorem wrap_i {x : Int} (h : inR .i64 x) : IntKind.i64.wrap x = x := wrap_in h
attribute [local go_sem] wayE_sgW wrap_i sgW_eq

def scSum (w a : List Int) (m : Nat) : Nat → Int
  | 0 => 0
  | k + 1 => IntKind.i64.wrap (scSum w a m k + IntKind.i64.wrap (w.getD (k + 1) 0 * a.getD (m - (k + 1)) 0))
def scL (w : List Int) : Nat → List Int
  | 0 => [1]
  | n + 1 => scL w n ++ [scSum w (scL w n) (n + 1) (min (n + 1) (w.length - 1))]
theorem scL_len {w : List Int} : ∀ n, (scL w n).length = n + 1
  | 0 => rfl
  | n + 1 => by simp [scL, scL_len n]
def scOk (w : List Int) (n : Int) : Bool := decide (0 ≤ n) && decide (n ≤ 10) && decide (w.length ≤ 20) && w.all fun x => decide (0 ≤ x) && decide (x ≤ 1000)
def scR (w : List Int) (n : Int) : List Int := if scOk w n then scL w n.toNat else []

theorem memW {l : List Int} {i : Nat} (h : i < l.length) : l.getD i 0 ∈ l := by
  rw [List.getD_eq_getElem?_getD, List.getElem?_eq_getElem h]; exact List.getElem_mem h
theorem takeW {l : List Int} {i : Nat} (h : i < l.length) : l.take (i + 1) = l.take i ++ [l.getD i 0] := by
  rw [List.take_add_one, List.getD_eq_getElem?_getD, List.getElem?_eq_getElem h]; rfl
theorem spec_SumCounts_c {m0 : Bool} (w : List Int) (n : Int) (hl : w.length ≤ 1048576) : Fun Try.prog 28 [(.sl (.lent m0) (List.map (PV.int .i64) (w))), (.int .i64 (n))] [(.sl .own (List.map (PV.int .i64) (scR w n)))] := by
  by_cases h : (0 ≤ n ∧ n ≤ 10) ∧ w.length ≤ 20
  · obtain ⟨N, rfl⟩ := Int.eq_ofNat_of_zero_le h.1.1
    refine Fun.of (sg := sgW) (ts := [4]) mo Try.func28 rfl rfl rfl rfl (by kernel_rfl) (by simp [noRoL, nrA_int, nrA_bool, nrA_str, nrA_own, nrA_lent, nrA_agg, nrL_int, nrL_str, nrL_bool, nrL_u8, nrL_frI, nrL_frS]) rfl ?_
    have fc : True := trivial
    repeat' first
      | with_reducible first | refine v_seq ?_ | refine v_skip ?_ | refine v_exit ?_ | refine v_ret ?_ | refine v_block ?_ | refine q_seq_n ?_ | refine q_seq_e ?_ | refine q_seq_r ?_ | refine q_blk_n ?_ | refine q_blk_r ?_ | refine q_blk_s ?_ | refine q_blk_o rfl ?_ | refine q_lp_e ?_ | refine q_lp_r ?_ | (refine hK _ ?_; clear hK) | (refine hA ?_; clear hA hB) | (refine hB ?_; clear hA hB) | exact v_end0 | exact v_end0' | refine And.intro ?_ ?_
      | (with_reducible refine hK _ _ ?_ ?_; focus (first | exact clearAll_quiet rfl); all_goals (try clear hK))
      | ((with_reducible first | refine v_region rfl rfl (fun K hK => ?_) | refine v_draws rfl rfl (fun K hK => ?_) | refine v_if (fun A B hA hB => ?_) | refine v_end rfl ?_ | refine v_fin (.inl rfl) ?_ | refine v_fin (.inr rfl) ?_ | refine v_callE (spec_l1In_c _ _ _) ?_); simp (config := {contextual := true, maxSteps := 1000000}) (disch := first | (simp only [go_sem]; done) | (simp only [n_i64]; omega)) only [go_sem, ↓reduceIte, reduceCtorEq, Nat.reduceEqDiff, Nat.reduceAdd, Nat.reduceMul, Nat.reduceSub, Nat.reduceLeDiff, Int.reduceLT, Int.reduceLE, Int.reduceEq, Int.reduceSub, Int.reduceAdd, Int.reduceMul, Int.reduceNeg, Int.reduceToNat, fc])
      | ((with_reducible first | refine v_finN (.inl rfl) rfl ?_ ?_ | refine v_finN (.inr rfl) rfl ?_ ?_) <;> (try simp (config := {contextual := true, maxSteps := 1000000}) (disch := first | (simp only [go_sem]; done) | (simp only [n_i64]; omega)) only [go_sem, ↓reduceIte, reduceCtorEq, Nat.reduceEqDiff, Nat.reduceAdd, Nat.reduceMul, Nat.reduceSub, Nat.reduceLeDiff, Int.reduceLT, Int.reduceLE, Int.reduceEq, Int.reduceSub, Int.reduceAdd, Int.reduceMul, Int.reduceNeg, Int.reduceToNat, fc]) <;> (try with_reducible rfl))
      | (with_reducible refine v_apj ?_ (fun j' => ?_)) <;> try simp (config := {contextual := true, maxSteps := 1000000}) (disch := first | (simp only [go_sem]; done) | (simp only [n_i64]; omega)) only [go_sem, ↓reduceIte, reduceCtorEq, Nat.reduceEqDiff, Nat.reduceAdd, Nat.reduceMul, Nat.reduceSub, Nat.reduceLeDiff, Int.reduceLT, Int.reduceLE, Int.reduceEq, Int.reduceSub, Int.reduceAdd, Int.reduceMul, Int.reduceNeg, Int.reduceToNat, fc]
      | (with_reducible refine p_ok ?_; decide)
      | (intro hc; replace fc := And.intro hc fc; try simp only [decide_eq_true_eq, decide_eq_false_iff_not, Bool.and_eq_true, Bool.or_eq_true, Bool.and_eq_false_iff, Bool.or_eq_false_iff, Bool.not_eq_true', Bool.not_eq_false', Int.not_lt, Int.not_le] at hc)
    all_goals try (first | omega | (simp only [n_i64, n_u8]; omega) | (simp only [n_i64, n_u8, List.length_append, List.length_map, List.length_cons, List.length_nil, List.length_take, List.length_drop, List.length_replicate, List.length_set]; omega))
    have hll := scL_len (w := w)
    refine v_loop (fun ms1 S1 => ∃ (i : Nat), S1.e 0 = .p (.sl (.lent m0) (List.map (PV.int .i64) (w))) ∧ S1.e 1 = .p (.int .i64 (N)) ∧ S1.e 5 = .p (.int .i64 (i)) ∧ (i ≤ w.length) ∧ ((w.take i).all (fun x => decide (0 ≤ x) && decide (x ≤ 1000)) = true) ∧ ms1 = w.length - i) ((fun (i : Nat) => w.length - i) (0)) ?init1_0 ?body1_0
    case' init1_0 =>
      refine ⟨0, ?_, ?_, ?_, ?_, ?_, rfl⟩
      all_goals (try simp only [go_sem, ↓reduceIte, reduceCtorEq, Nat.reduceEqDiff, Nat.reduceAdd, Nat.reduceMul, Nat.reduceSub, Nat.reduceLeDiff, Int.reduceLT, Int.reduceLE, Int.reduceEq, Int.reduceSub, Int.reduceAdd, Int.reduceMul, Int.reduceNeg, Int.reduceToNat])
      repeat' refine And.intro ?_ ?_
      all_goals try first | rfl | omega | (simp only [List.length_append, List.length_cons, List.length_nil, List.length_set, List.length_take, List.length_drop, List.length_map, List.length_replicate] <;> omega) | ((first | refine ref_eq ?_ | refine live_eq ?_ | refine int_eq ?_ | refine bool_eq ?_ | refine str_eq ?_ | refine sl_eq ?_ | refine mp_eq ?_) <;> first | rfl | omega | (simp only [List.length_append, List.length_cons, List.length_nil, List.length_set, List.length_take, List.length_drop, List.length_map, List.length_replicate] <;> omega) | (simp only [List.length_append, List.length_cons, List.length_nil, List.length_set, List.length_take, List.length_drop, List.length_map, List.length_replicate, List.append_assoc, List.cons_append, List.nil_append]; done) | skip)
    case' body1_0 =>
      rintro ms1 S1 ⟨i, h1_0, h1_1, h1_5, c1_0, c1_1, hm1⟩
    have fc : True := trivial
    repeat' first
      | with_reducible first | refine v_seq ?_ | refine v_skip ?_ | refine v_exit ?_ | refine v_ret ?_ | refine v_block ?_ | refine q_seq_n ?_ | refine q_seq_e ?_ | refine q_seq_r ?_ | refine q_blk_n ?_ | refine q_blk_r ?_ | refine q_blk_s ?_ | refine q_blk_o rfl ?_ | refine q_lp_e ?_ | refine q_lp_r ?_ | (refine hK _ ?_; clear hK) | (refine hA ?_; clear hA hB) | (refine hB ?_; clear hA hB) | exact v_end0 | exact v_end0' | refine And.intro ?_ ?_
      | (with_reducible refine hK _ _ ?_ ?_; focus (first | exact clearAll_quiet rfl); all_goals (try clear hK))
      | ((with_reducible first | refine v_region rfl rfl (fun K hK => ?_) | refine v_draws rfl rfl (fun K hK => ?_) | refine v_if (fun A B hA hB => ?_) | refine v_end rfl ?_ | refine v_fin (.inl rfl) ?_ | refine v_fin (.inr rfl) ?_ | refine v_callE (spec_l1In_c _ _ _) ?_); simp (config := {contextual := true, maxSteps := 1000000}) (disch := first | (simp only [go_sem]; done) | (simp only [n_i64]; omega)) only [go_sem, ↓reduceIte, reduceCtorEq, Nat.reduceEqDiff, Nat.reduceAdd, Nat.reduceMul, Nat.reduceSub, Nat.reduceLeDiff, Int.reduceLT, Int.reduceLE, Int.reduceEq, Int.reduceSub, Int.reduceAdd, Int.reduceMul, Int.reduceNeg, Int.reduceToNat, h1_0, h1_1, h1_5, fc])
      | ((with_reducible first | refine v_finN (.inl rfl) rfl ?_ ?_ | refine v_finN (.inr rfl) rfl ?_ ?_) <;> (try simp (config := {contextual := true, maxSteps := 1000000}) (disch := first | (simp only [go_sem]; done) | (simp only [n_i64]; omega)) only [go_sem, ↓reduceIte, reduceCtorEq, Nat.reduceEqDiff, Nat.reduceAdd, Nat.reduceMul, Nat.reduceSub, Nat.reduceLeDiff, Int.reduceLT, Int.reduceLE, Int.reduceEq, Int.reduceSub, Int.reduceAdd, Int.reduceMul, Int.reduceNeg, Int.reduceToNat, h1_0, h1_1, h1_5, fc]) <;> (try with_reducible rfl))
      | (with_reducible refine v_apj ?_ (fun j' => ?_)) <;> try simp (config := {contextual := true, maxSteps := 1000000}) (disch := first | (simp only [go_sem]; done) | (simp only [n_i64]; omega)) only [go_sem, ↓reduceIte, reduceCtorEq, Nat.reduceEqDiff, Nat.reduceAdd, Nat.reduceMul, Nat.reduceSub, Nat.reduceLeDiff, Int.reduceLT, Int.reduceLE, Int.reduceEq, Int.reduceSub, Int.reduceAdd, Int.reduceMul, Int.reduceNeg, Int.reduceToNat, h1_0, h1_1, h1_5, fc]
      | (with_reducible refine p_ok ?_; decide)
      | (intro hc; replace fc := And.intro hc fc; try simp only [decide_eq_true_eq, decide_eq_false_iff_not, Bool.and_eq_true, Bool.or_eq_true, Bool.and_eq_false_iff, Bool.or_eq_false_iff, Bool.not_eq_true', Bool.not_eq_false', Int.not_lt, Int.not_le] at hc)
    all_goals try (first | omega | (simp only [n_i64, n_u8]; omega) | (simp only [n_i64, n_u8, List.length_append, List.length_map, List.length_cons, List.length_nil, List.length_take, List.length_drop, List.length_replicate, List.length_set]; omega))
    · have hk : scOk w N = false := by
        rw [scOk, List.all_eq_false.2 ⟨w.getD i 0, memW (by omega), by rcases hc with hc | hc <;> simp only [Bool.and_eq_true, decide_eq_true_eq] <;> omega⟩, Bool.and_false]
      rw [scR, hk]; rfl
    · focus
        refine q_lp_n ((fun (i : Nat) => w.length - i) (i+1)) ?_ ⟨i+1, ?_, ?_, ?_, ?_, ?_, rfl⟩
        all_goals (try simp only [go_sem, ↓reduceIte, reduceCtorEq, Nat.reduceEqDiff, Nat.reduceAdd, Nat.reduceMul, Nat.reduceSub, Nat.reduceLeDiff, Int.reduceLT, Int.reduceLE, Int.reduceEq, Int.reduceSub, Int.reduceAdd, Int.reduceMul, Int.reduceNeg, Int.reduceToNat, h1_0, h1_1, h1_5])
        repeat' refine And.intro ?_ ?_
        all_goals try first | rfl | omega | (simp only [List.length_append, List.length_cons, List.length_nil, List.length_set, List.length_take, List.length_drop, List.length_map, List.length_replicate] <;> omega) | ((first | refine ref_eq ?_ | refine live_eq ?_ | refine int_eq ?_ | refine bool_eq ?_ | refine str_eq ?_ | refine sl_eq ?_ | refine mp_eq ?_) <;> first | rfl | omega | (simp only [List.length_append, List.length_cons, List.length_nil, List.length_set, List.length_take, List.length_drop, List.length_map, List.length_replicate] <;> omega) | (simp only [List.length_append, List.length_cons, List.length_nil, List.length_set, List.length_take, List.length_drop, List.length_map, List.length_replicate, List.append_assoc, List.cons_append, List.nil_append]; done) | skip)
      rw [takeW (by omega), List.all_append, c1_1, List.all_cons, decide_eq_true (by omega), decide_eq_true (by omega)]; rfl
    rw [List.take_of_length_le (by omega)] at c1_1
    have hk : scOk w N = true := by
      rw [scOk, c1_1, decide_eq_true (by omega), decide_eq_true (by omega), decide_eq_true (by omega)]; rfl
    rw [scR, if_pos hk, Int.toNat_natCast]
    refine v_loop (fun ms2 S2 => ∃ (m : Nat), S2.e 0 = .p (.sl (.lent m0) (List.map (PV.int .i64) (w))) ∧ S2.e 1 = .p (.int .i64 (N)) ∧ OwnL (S2.e 6) S2.h S2.n (PV.int .i64) ((scL w m).length) (scL w m) ∧ S2.e 7 = .p (.int .i64 ((m+1))) ∧ (m ≤ N) ∧ S1.n ≤ S2.n ∧ ms2 = N - m) ((fun (m : Nat) => N - m) (0)) ?init2_1 ?body2_1
    case' init2_1 =>
      refine ⟨0, ?_, ?_, ?_, ?_, ?_, ?_, rfl⟩
      all_goals (try simp only [go_sem, ↓reduceIte, reduceCtorEq, Nat.reduceEqDiff, Nat.reduceAdd, Nat.reduceMul, Nat.reduceSub, Nat.reduceLeDiff, Int.reduceLT, Int.reduceLE, Int.reduceEq, Int.reduceSub, Int.reduceAdd, Int.reduceMul, Int.reduceNeg, Int.reduceToNat, h1_0, h1_1, h1_5])
      repeat' refine And.intro ?_ ?_
      all_goals try first | rfl | omega | (simp only [List.length_append, List.length_cons, List.length_nil, List.length_set, List.length_take, List.length_drop, List.length_map, List.length_replicate] <;> omega) | ((first | refine ref_eq ?_ | refine live_eq ?_ | refine int_eq ?_ | refine bool_eq ?_ | refine str_eq ?_ | refine sl_eq ?_ | refine mp_eq ?_) <;> first | rfl | omega | (simp only [List.length_append, List.length_cons, List.length_nil, List.length_set, List.length_take, List.length_drop, List.length_map, List.length_replicate] <;> omega) | (simp only [List.length_append, List.length_cons, List.length_nil, List.length_set, List.length_take, List.length_drop, List.length_map, List.length_replicate, List.append_assoc, List.cons_append, List.nil_append]; done) | skip)
    case' body2_1 =>
      rintro ms2 S2 ⟨m, h2_0, h2_1, o2_6, h2_7, c2_0, u2_0, hm2⟩
      obtain ⟨i2_6, h2_6, b2_6, l2_6⟩ := o2_6.out
      have ni2_6 : ∀ c, (i2_6 = S2.n + c) = False := fun c => eq_false (by omega)
      have pi2_6 : ∀ c, (S2.n + c = i2_6) = False := fun c => eq_false (by omega)
      have qi2_6 : (i2_6 = S2.n) = False := eq_false (by omega)
      have ri2_6 : (S2.n = i2_6) = False := eq_false (by omega)
    have fc : True := trivial
    repeat' first
      | with_reducible first | refine v_seq ?_ | refine v_skip ?_ | refine v_exit ?_ | refine v_ret ?_ | refine v_block ?_ | refine q_seq_n ?_ | refine q_seq_e ?_ | refine q_seq_r ?_ | refine q_blk_n ?_ | refine q_blk_r ?_ | refine q_blk_s ?_ | refine q_blk_o rfl ?_ | refine q_lp_e ?_ | refine q_lp_r ?_ | (refine hK _ ?_; clear hK) | (refine hA ?_; clear hA hB) | (refine hB ?_; clear hA hB) | exact v_end0 | exact v_end0' | refine And.intro ?_ ?_
      | (with_reducible refine hK _ _ ?_ ?_; focus (first | exact clearAll_quiet rfl); all_goals (try clear hK))
      | ((with_reducible first | refine v_region rfl rfl (fun K hK => ?_) | refine v_draws rfl rfl (fun K hK => ?_) | refine v_if (fun A B hA hB => ?_) | refine v_end rfl ?_ | refine v_fin (.inl rfl) ?_ | refine v_fin (.inr rfl) ?_ | refine v_callE (spec_l1In_c _ _ _) ?_); simp (config := {contextual := true, maxSteps := 1000000}) (disch := first | (simp only [go_sem]; done) | (simp only [n_i64]; omega)) only [go_sem, ↓reduceIte, reduceCtorEq, Nat.reduceEqDiff, Nat.reduceAdd, Nat.reduceMul, Nat.reduceSub, Nat.reduceLeDiff, Int.reduceLT, Int.reduceLE, Int.reduceEq, Int.reduceSub, Int.reduceAdd, Int.reduceMul, Int.reduceNeg, Int.reduceToNat, h2_0, h2_1, h2_7, h2_6, b2_6, ni2_6, pi2_6, qi2_6, ri2_6, fc])
      | ((with_reducible first | refine v_finN (.inl rfl) rfl ?_ ?_ | refine v_finN (.inr rfl) rfl ?_ ?_) <;> (try simp (config := {contextual := true, maxSteps := 1000000}) (disch := first | (simp only [go_sem]; done) | (simp only [n_i64]; omega)) only [go_sem, ↓reduceIte, reduceCtorEq, Nat.reduceEqDiff, Nat.reduceAdd, Nat.reduceMul, Nat.reduceSub, Nat.reduceLeDiff, Int.reduceLT, Int.reduceLE, Int.reduceEq, Int.reduceSub, Int.reduceAdd, Int.reduceMul, Int.reduceNeg, Int.reduceToNat, h2_0, h2_1, h2_7, h2_6, b2_6, ni2_6, pi2_6, qi2_6, ri2_6, fc]) <;> (try with_reducible rfl))
      | (with_reducible refine v_apj ?_ (fun j' => ?_)) <;> try simp (config := {contextual := true, maxSteps := 1000000}) (disch := first | (simp only [go_sem]; done) | (simp only [n_i64]; omega)) only [go_sem, ↓reduceIte, reduceCtorEq, Nat.reduceEqDiff, Nat.reduceAdd, Nat.reduceMul, Nat.reduceSub, Nat.reduceLeDiff, Int.reduceLT, Int.reduceLE, Int.reduceEq, Int.reduceSub, Int.reduceAdd, Int.reduceMul, Int.reduceNeg, Int.reduceToNat, h2_0, h2_1, h2_7, h2_6, b2_6, ni2_6, pi2_6, qi2_6, ri2_6, fc]
      | (with_reducible refine p_ok ?_; decide)
      | (intro hc; replace fc := And.intro hc fc; try simp only [decide_eq_true_eq, decide_eq_false_iff_not, Bool.and_eq_true, Bool.or_eq_true, Bool.and_eq_false_iff, Bool.or_eq_false_iff, Bool.not_eq_true', Bool.not_eq_false', Int.not_lt, Int.not_le] at hc)
    all_goals try (first | omega | (simp only [n_i64, n_u8]; omega) | (simp only [n_i64, n_u8, List.length_append, List.length_map, List.length_cons, List.length_nil, List.length_take, List.length_drop, List.length_replicate, List.length_set]; omega))
    · have hlm := hll m
      refine v_loop (fun ms3 S3 => ∃ (k : Nat), S3.e 0 = .p (.sl (.lent m0) (List.map (PV.int .i64) (w))) ∧ S3.e 1 = .p (.int .i64 (N)) ∧ S3.e 6 = .ref i2_6 0 (scL w m).length ∧ S3.h i2_6 = .live false (List.map (PV.int .i64) (scL w m)) ∧ S3.e 7 = .p (.int .i64 ((m+1))) ∧ S3.e 8 = .p (.int .i64 (scSum w (scL w m) (m+1) k)) ∧ S3.e 9 = .p (.int .i64 ((k+1))) ∧ (k ≤ m+1) ∧ (k ≤ w.length - 1) ∧ S2.n ≤ S3.n ∧ ms3 = m+1-k) ((fun (k : Nat) => m+1-k) (0)) ?init3_2 ?body3_2
      case' init3_2 =>
        refine ⟨0, ?_, ?_, ?_, ?_, ?_, ?_, ?_, ?_, ?_, ?_, rfl⟩
        all_goals (try simp only [go_sem, ↓reduceIte, reduceCtorEq, Nat.reduceEqDiff, Nat.reduceAdd, Nat.reduceMul, Nat.reduceSub, Nat.reduceLeDiff, Int.reduceLT, Int.reduceLE, Int.reduceEq, Int.reduceSub, Int.reduceAdd, Int.reduceMul, Int.reduceNeg, Int.reduceToNat, h2_0, h2_1, h2_7, h2_6, b2_6, ni2_6, pi2_6, qi2_6, ri2_6])
        repeat' refine And.intro ?_ ?_
        all_goals try first | rfl | omega | (simp only [List.length_append, List.length_cons, List.length_nil, List.length_set, List.length_take, List.length_drop, List.length_map, List.length_replicate] <;> omega) | ((first | refine ref_eq ?_ | refine live_eq ?_ | refine int_eq ?_ | refine bool_eq ?_ | refine str_eq ?_ | refine sl_eq ?_ | refine mp_eq ?_) <;> first | rfl | omega | (simp only [List.length_append, List.length_cons, List.length_nil, List.length_set, List.length_take, List.length_drop, List.length_map, List.length_replicate] <;> omega) | (simp only [List.length_append, List.length_cons, List.length_nil, List.length_set, List.length_take, List.length_drop, List.length_map, List.length_replicate, List.append_assoc, List.cons_append, List.nil_append]; done) | skip)
      case' body3_2 =>
        rintro ms3 S3 ⟨k, h3_0, h3_1, h3_6, b3_6, h3_7, h3_8, h3_9, c3_0, c3_1, u3_0, hm3⟩
        have ni2_6 : ∀ c, (i2_6 = S3.n + c) = False := fun c => eq_false (by omega)
        have pi2_6 : ∀ c, (S3.n + c = i2_6) = False := fun c => eq_false (by omega)
        have qi2_6 : (i2_6 = S3.n) = False := eq_false (by omega)
        have ri2_6 : (S3.n = i2_6) = False := eq_false (by omega)
      have fc : True := trivial
      repeat' first
        | with_reducible first | refine v_seq ?_ | refine v_skip ?_ | refine v_exit ?_ | refine v_ret ?_ | refine v_block ?_ | refine q_seq_n ?_ | refine q_seq_e ?_ | refine q_seq_r ?_ | refine q_blk_n ?_ | refine q_blk_r ?_ | refine q_blk_s ?_ | refine q_blk_o rfl ?_ | refine q_lp_e ?_ | refine q_lp_r ?_ | (refine hK _ ?_; clear hK) | (refine hA ?_; clear hA hB) | (refine hB ?_; clear hA hB) | exact v_end0 | exact v_end0' | refine And.intro ?_ ?_
        | (with_reducible refine hK _ _ ?_ ?_; focus (first | exact clearAll_quiet rfl); all_goals (try clear hK))
        | ((with_reducible first | refine v_region rfl rfl (fun K hK => ?_) | refine v_draws rfl rfl (fun K hK => ?_) | refine v_if (fun A B hA hB => ?_) | refine v_end rfl ?_ | refine v_fin (.inl rfl) ?_ | refine v_fin (.inr rfl) ?_ | refine v_callE (spec_l1In_c _ _ _) ?_); simp (config := {contextual := true, maxSteps := 1000000}) (disch := first | (simp only [go_sem]; done) | (simp only [n_i64]; omega)) only [go_sem, ↓reduceIte, reduceCtorEq, Nat.reduceEqDiff, Nat.reduceAdd, Nat.reduceMul, Nat.reduceSub, Nat.reduceLeDiff, Int.reduceLT, Int.reduceLE, Int.reduceEq, Int.reduceSub, Int.reduceAdd, Int.reduceMul, Int.reduceNeg, Int.reduceToNat, h3_0, h3_1, h3_6, b3_6, h3_7, h3_8, h3_9, ni2_6, pi2_6, qi2_6, ri2_6, fc])
        | ((with_reducible first | refine v_finN (.inl rfl) rfl ?_ ?_ | refine v_finN (.inr rfl) rfl ?_ ?_) <;> (try simp (config := {contextual := true, maxSteps := 1000000}) (disch := first | (simp only [go_sem]; done) | (simp only [n_i64]; omega)) only [go_sem, ↓reduceIte, reduceCtorEq, Nat.reduceEqDiff, Nat.reduceAdd, Nat.reduceMul, Nat.reduceSub, Nat.reduceLeDiff, Int.reduceLT, Int.reduceLE, Int.reduceEq, Int.reduceSub, Int.reduceAdd, Int.reduceMul, Int.reduceNeg, Int.reduceToNat, h3_0, h3_1, h3_6, b3_6, h3_7, h3_8, h3_9, ni2_6, pi2_6, qi2_6, ri2_6, fc]) <;> (try with_reducible rfl))
        | (with_reducible refine v_apj ?_ (fun j' => ?_)) <;> try simp (config := {contextual := true, maxSteps := 1000000}) (disch := first | (simp only [go_sem]; done) | (simp only [n_i64]; omega)) only [go_sem, ↓reduceIte, reduceCtorEq, Nat.reduceEqDiff, Nat.reduceAdd, Nat.reduceMul, Nat.reduceSub, Nat.reduceLeDiff, Int.reduceLT, Int.reduceLE, Int.reduceEq, Int.reduceSub, Int.reduceAdd, Int.reduceMul, Int.reduceNeg, Int.reduceToNat, h3_0, h3_1, h3_6, b3_6, h3_7, h3_8, h3_9, ni2_6, pi2_6, qi2_6, ri2_6, fc]
        | (with_reducible refine p_ok ?_; decide)
        | (intro hc; replace fc := And.intro hc fc; try simp only [decide_eq_true_eq, decide_eq_false_iff_not, Bool.and_eq_true, Bool.or_eq_true, Bool.and_eq_false_iff, Bool.or_eq_false_iff, Bool.not_eq_true', Bool.not_eq_false', Int.not_lt, Int.not_le] at hc)
      all_goals try (first | omega | (simp only [n_i64, n_u8]; omega) | (simp only [n_i64, n_u8, List.length_append, List.length_map, List.length_cons, List.length_nil, List.length_take, List.length_drop, List.length_replicate, List.length_set]; omega))
      · focus
          refine q_lp_n ((fun (k : Nat) => m+1-k) (k+1)) ?_ ⟨k+1, ?_, ?_, ?_, ?_, ?_, ?_, ?_, ?_, ?_, ?_, rfl⟩
          all_goals (try simp only [go_sem, ↓reduceIte, reduceCtorEq, Nat.reduceEqDiff, Nat.reduceAdd, Nat.reduceMul, Nat.reduceSub, Nat.reduceLeDiff, Int.reduceLT, Int.reduceLE, Int.reduceEq, Int.reduceSub, Int.reduceAdd, Int.reduceMul, Int.reduceNeg, Int.reduceToNat, h3_0, h3_1, h3_6, b3_6, h3_7, h3_8, h3_9, ni2_6, pi2_6, qi2_6, ri2_6])
          repeat' refine And.intro ?_ ?_
          all_goals try first | rfl | omega | (simp only [List.length_append, List.length_cons, List.length_nil, List.length_set, List.length_take, List.length_drop, List.length_map, List.length_replicate] <;> omega) | ((first | refine ref_eq ?_ | refine live_eq ?_ | refine int_eq ?_ | refine bool_eq ?_ | refine str_eq ?_ | refine sl_eq ?_ | refine mp_eq ?_) <;> first | rfl | omega | (simp only [List.length_append, List.length_cons, List.length_nil, List.length_set, List.length_take, List.length_drop, List.length_map, List.length_replicate] <;> omega) | (simp only [List.length_append, List.length_cons, List.length_nil, List.length_set, List.length_take, List.length_drop, List.length_map, List.length_replicate, List.append_assoc, List.cons_append, List.nil_append]; done) | skip)
        rw [scSum, show ((m : Int) + 1 - (k + 1)).toNat = m + 1 - (k + 1) by omega]
      · focus
          refine q_lp_n ((fun (m : Nat) => N - m) (m+1)) ?_ ⟨m+1, ?_, ?_, ?_, ?_, ?_, ?_, rfl⟩
          all_goals (try simp only [go_sem, ↓reduceIte, reduceCtorEq, Nat.reduceEqDiff, Nat.reduceAdd, Nat.reduceMul, Nat.reduceSub, Nat.reduceLeDiff, Int.reduceLT, Int.reduceLE, Int.reduceEq, Int.reduceSub, Int.reduceAdd, Int.reduceMul, Int.reduceNeg, Int.reduceToNat, h3_0, h3_1, h3_6, b3_6, h3_7, h3_8, h3_9, ni2_6, pi2_6, qi2_6, ri2_6])
          repeat' refine And.intro ?_ ?_
          all_goals try first | rfl | omega | (simp only [List.length_append, List.length_cons, List.length_nil, List.length_set, List.length_take, List.length_drop, List.length_map, List.length_replicate] <;> omega) | ((first | refine ref_eq ?_ | refine live_eq ?_ | refine int_eq ?_ | refine bool_eq ?_ | refine str_eq ?_ | refine sl_eq ?_ | refine mp_eq ?_) <;> first | rfl | omega | (simp only [List.length_append, List.length_cons, List.length_nil, List.length_set, List.length_take, List.length_drop, List.length_map, List.length_replicate] <;> omega) | (simp only [List.length_append, List.length_cons, List.length_nil, List.length_set, List.length_take, List.length_drop, List.length_map, List.length_replicate, List.append_assoc, List.cons_append, List.nil_append]; done) | skip)
        · rw [scL_len, scL_len]
        · rw [scL, show min (m + 1) (w.length - 1) = k by omega]
      · focus
          refine q_lp_n ((fun (m : Nat) => N - m) (m+1)) ?_ ⟨m+1, ?_, ?_, ?_, ?_, ?_, ?_, rfl⟩
          all_goals (try simp only [go_sem, ↓reduceIte, reduceCtorEq, Nat.reduceEqDiff, Nat.reduceAdd, Nat.reduceMul, Nat.reduceSub, Nat.reduceLeDiff, Int.reduceLT, Int.reduceLE, Int.reduceEq, Int.reduceSub, Int.reduceAdd, Int.reduceMul, Int.reduceNeg, Int.reduceToNat, h3_0, h3_1, h3_6, b3_6, h3_7, h3_8, h3_9, ni2_6, pi2_6, qi2_6, ri2_6])
          repeat' refine And.intro ?_ ?_
          all_goals try first | rfl | omega | (simp only [List.length_append, List.length_cons, List.length_nil, List.length_set, List.length_take, List.length_drop, List.length_map, List.length_replicate] <;> omega) | ((first | refine ref_eq ?_ | refine live_eq ?_ | refine int_eq ?_ | refine bool_eq ?_ | refine str_eq ?_ | refine sl_eq ?_ | refine mp_eq ?_) <;> first | rfl | omega | (simp only [List.length_append, List.length_cons, List.length_nil, List.length_set, List.length_take, List.length_drop, List.length_map, List.length_replicate] <;> omega) | (simp only [List.length_append, List.length_cons, List.length_nil, List.length_set, List.length_take, List.length_drop, List.length_map, List.length_replicate, List.append_assoc, List.cons_append, List.nil_append]; done) | skip)
        · rw [scL_len, scL_len]
        · rw [scL, show min (m + 1) (w.length - 1) = k by omega]
    · rw [show m = N by omega]
  · have hk : scOk w n = false := by
      rw [scOk]
      by_cases h1 : 0 ≤ n
      · by_cases h2 : n ≤ 10
        · rw [decide_eq_false (by omega : ¬ w.length ≤ 20)]; simp
        · rw [decide_eq_false h2]; simp
      · rw [decide_eq_false h1]; simp
    rw [scR, hk]
    refine Fun.of (sg := sgW) (ts := [4]) mo Try.func28 rfl rfl rfl rfl (by kernel_rfl) (by simp [noRoL, nrA_int, nrA_bool, nrA_str, nrA_own, nrA_lent, nrA_agg, nrL_int, nrL_str, nrL_bool, nrL_u8, nrL_frI, nrL_frS]) rfl ?_
    have fc : True := trivial
    repeat' first
      | with_reducible first | refine v_seq ?_ | refine v_skip ?_ | refine v_exit ?_ | refine v_ret ?_ | refine v_block ?_ | refine q_seq_n ?_ | refine q_seq_e ?_ | refine q_seq_r ?_ | refine q_blk_n ?_ | refine q_blk_r ?_ | refine q_blk_s ?_ | refine q_blk_o rfl ?_ | refine q_lp_e ?_ | refine q_lp_r ?_ | (refine hK _ ?_; clear hK) | (refine hA ?_; clear hA hB) | (refine hB ?_; clear hA hB) | exact v_end0 | exact v_end0' | refine And.intro ?_ ?_
      | (with_reducible refine hK _ _ ?_ ?_; focus (first | exact clearAll_quiet rfl); all_goals (try clear hK))
      | ((with_reducible first | refine v_region rfl rfl (fun K hK => ?_) | refine v_draws rfl rfl (fun K hK => ?_) | refine v_if (fun A B hA hB => ?_) | refine v_end rfl ?_ | refine v_fin (.inl rfl) ?_ | refine v_fin (.inr rfl) ?_ | refine v_callE (spec_l1In_c _ _ _) ?_); simp (config := {contextual := true, maxSteps := 1000000}) (disch := first | (simp only [go_sem]; done) | (simp only [n_i64]; omega)) only [go_sem, ↓reduceIte, reduceCtorEq, Nat.reduceEqDiff, Nat.reduceAdd, Nat.reduceMul, Nat.reduceSub, Nat.reduceLeDiff, Int.reduceLT, Int.reduceLE, Int.reduceEq, Int.reduceSub, Int.reduceAdd, Int.reduceMul, Int.reduceNeg, Int.reduceToNat, fc])
      | ((with_reducible first | refine v_finN (.inl rfl) rfl ?_ ?_ | refine v_finN (.inr rfl) rfl ?_ ?_) <;> (try simp (config := {contextual := true, maxSteps := 1000000}) (disch := first | (simp only [go_sem]; done) | (simp only [n_i64]; omega)) only [go_sem, ↓reduceIte, reduceCtorEq, Nat.reduceEqDiff, Nat.reduceAdd, Nat.reduceMul, Nat.reduceSub, Nat.reduceLeDiff, Int.reduceLT, Int.reduceLE, Int.reduceEq, Int.reduceSub, Int.reduceAdd, Int.reduceMul, Int.reduceNeg, Int.reduceToNat, fc]) <;> (try with_reducible rfl))
      | (with_reducible refine v_apj ?_ (fun j' => ?_)) <;> try simp (config := {contextual := true, maxSteps := 1000000}) (disch := first | (simp only [go_sem]; done) | (simp only [n_i64]; omega)) only [go_sem, ↓reduceIte, reduceCtorEq, Nat.reduceEqDiff, Nat.reduceAdd, Nat.reduceMul, Nat.reduceSub, Nat.reduceLeDiff, Int.reduceLT, Int.reduceLE, Int.reduceEq, Int.reduceSub, Int.reduceAdd, Int.reduceMul, Int.reduceNeg, Int.reduceToNat, fc]
      | (with_reducible refine p_ok ?_; decide)
      | (intro hc; replace fc := And.intro hc fc; try simp only [decide_eq_true_eq, decide_eq_false_iff_not, Bool.and_eq_true, Bool.or_eq_true, Bool.and_eq_false_iff, Bool.or_eq_false_iff, Bool.not_eq_true', Bool.not_eq_false', Int.not_lt, Int.not_le] at hc)
    all_goals try (first | omega | (simp only [n_i64, n_u8]; omega) | (simp only [n_i64, n_u8, List.length_append, List.length_map, List.length_cons, List.length_nil, List.length_take, List.length_drop, List.length_replicate, List.length_set]; omega))
theorem impl_SumCounts_c {m0 : Bool} (w : List Int) (n : Int) (hl : w.length ≤ 1048576) : Fun Try.prog 30 [(.sl (.lent m0) (List.map (PV.int .i64) (w))), (.int .i64 (n))] [(.sl .own (List.map (PV.int .i64) (scR w n)))] := by
  by_cases h : (0 ≤ n ∧ n ≤ 10) ∧ w.length ≤ 20
  · obtain ⟨N, rfl⟩ := Int.eq_ofNat_of_zero_le h.1.1
    refine Fun.of (sg := sgW) (ts := [4]) mo Try.func30 rfl rfl rfl rfl (by kernel_rfl) (by simp [noRoL, nrA_int, nrA_bool, nrA_str, nrA_own, nrA_lent, nrA_agg, nrL_int, nrL_str, nrL_bool, nrL_u8, nrL_frI, nrL_frS]) rfl ?_
    have fc : True := trivial
    repeat' first
      | with_reducible first | refine v_seq ?_ | refine v_skip ?_ | refine v_exit ?_ | refine v_ret ?_ | refine v_block ?_ | refine q_seq_n ?_ | refine q_seq_e ?_ | refine q_seq_r ?_ | refine q_blk_n ?_ | refine q_blk_r ?_ | refine q_blk_s ?_ | refine q_blk_o rfl ?_ | refine q_lp_e ?_ | refine q_lp_r ?_ | (refine hK _ ?_; clear hK) | (refine hA ?_; clear hA hB) | (refine hB ?_; clear hA hB) | exact v_end0 | exact v_end0' | refine And.intro ?_ ?_
      | (with_reducible refine hK _ _ ?_ ?_; focus (first | exact clearAll_quiet rfl); all_goals (try clear hK))
      | ((with_reducible first | refine v_region rfl rfl (fun K hK => ?_) | refine v_draws rfl rfl (fun K hK => ?_) | refine v_if (fun A B hA hB => ?_) | refine v_end rfl ?_ | refine v_fin (.inl rfl) ?_ | refine v_fin (.inr rfl) ?_); simp (config := {contextual := true, maxSteps := 1000000}) (disch := first | (simp only [go_sem]; done) | (simp only [n_i64]; omega)) only [go_sem, ↓reduceIte, reduceCtorEq, Nat.reduceEqDiff, Nat.reduceAdd, Nat.reduceMul, Nat.reduceSub, Nat.reduceLeDiff, Int.reduceLT, Int.reduceLE, Int.reduceEq, Int.reduceSub, Int.reduceAdd, Int.reduceMul, Int.reduceNeg, Int.reduceToNat, fc])
      | ((with_reducible first | refine v_finN (.inl rfl) rfl ?_ ?_ | refine v_finN (.inr rfl) rfl ?_ ?_) <;> (try simp (config := {contextual := true, maxSteps := 1000000}) (disch := first | (simp only [go_sem]; done) | (simp only [n_i64]; omega)) only [go_sem, ↓reduceIte, reduceCtorEq, Nat.reduceEqDiff, Nat.reduceAdd, Nat.reduceMul, Nat.reduceSub, Nat.reduceLeDiff, Int.reduceLT, Int.reduceLE, Int.reduceEq, Int.reduceSub, Int.reduceAdd, Int.reduceMul, Int.reduceNeg, Int.reduceToNat, fc]) <;> (try with_reducible rfl))
      | (with_reducible refine v_apj ?_ (fun j' => ?_)) <;> try simp (config := {contextual := true, maxSteps := 1000000}) (disch := first | (simp only [go_sem]; done) | (simp only [n_i64]; omega)) only [go_sem, ↓reduceIte, reduceCtorEq, Nat.reduceEqDiff, Nat.reduceAdd, Nat.reduceMul, Nat.reduceSub, Nat.reduceLeDiff, Int.reduceLT, Int.reduceLE, Int.reduceEq, Int.reduceSub, Int.reduceAdd, Int.reduceMul, Int.reduceNeg, Int.reduceToNat, fc]
      | (with_reducible refine p_ok ?_; decide)
      | (intro hc; replace fc := And.intro hc fc; try simp only [decide_eq_true_eq, decide_eq_false_iff_not, Bool.and_eq_true, Bool.or_eq_true, Bool.and_eq_false_iff, Bool.or_eq_false_iff, Bool.not_eq_true', Bool.not_eq_false', Int.not_lt, Int.not_le] at hc)
    all_goals try (first | omega | (simp only [n_i64, n_u8]; omega) | (simp only [n_i64, n_u8, List.length_append, List.length_map, List.length_cons, List.length_nil, List.length_take, List.length_drop, List.length_replicate, List.length_set]; omega))
    have hll := scL_len (w := w)
    refine v_loop (fun ms1 S1 => ∃ (i : Nat), S1.e 0 = .p (.sl (.lent m0) (List.map (PV.int .i64) (w))) ∧ S1.e 1 = .p (.int .i64 (N)) ∧ S1.e 22 = .p (.sl (.lent m0) (List.map (PV.int .i64) (w))) ∧ S1.e 23 = .p (.int .i64 (w.length)) ∧ S1.e 24 = .p (.int .i64 (i)) ∧ (i ≤ w.length) ∧ ((w.take i).all (fun x => decide (0 ≤ x) && decide (x ≤ 1000)) = true) ∧ ms1 = w.length - i) ((fun (i : Nat) => w.length - i) (0)) ?init1_3 ?body1_3
    case' init1_3 =>
      refine ⟨0, ?_, ?_, ?_, ?_, ?_, ?_, ?_, rfl⟩
      all_goals (try simp only [go_sem, ↓reduceIte, reduceCtorEq, Nat.reduceEqDiff, Nat.reduceAdd, Nat.reduceMul, Nat.reduceSub, Nat.reduceLeDiff, Int.reduceLT, Int.reduceLE, Int.reduceEq, Int.reduceSub, Int.reduceAdd, Int.reduceMul, Int.reduceNeg, Int.reduceToNat])
      repeat' refine And.intro ?_ ?_
      all_goals try first | rfl | omega | (simp only [List.length_append, List.length_cons, List.length_nil, List.length_set, List.length_take, List.length_drop, List.length_map, List.length_replicate] <;> omega) | ((first | refine ref_eq ?_ | refine live_eq ?_ | refine int_eq ?_ | refine bool_eq ?_ | refine str_eq ?_ | refine sl_eq ?_ | refine mp_eq ?_) <;> first | rfl | omega | (simp only [List.length_append, List.length_cons, List.length_nil, List.length_set, List.length_take, List.length_drop, List.length_map, List.length_replicate] <;> omega) | (simp only [List.length_append, List.length_cons, List.length_nil, List.length_set, List.length_take, List.length_drop, List.length_map, List.length_replicate, List.append_assoc, List.cons_append, List.nil_append]; done) | skip)
    case' body1_3 =>
      rintro ms1 S1 ⟨i, h1_0, h1_1, h1_22, h1_23, h1_24, c1_0, c1_1, hm1⟩
    have fc : True := trivial
    repeat' first
      | with_reducible first | refine v_seq ?_ | refine v_skip ?_ | refine v_exit ?_ | refine v_ret ?_ | refine v_block ?_ | refine q_seq_n ?_ | refine q_seq_e ?_ | refine q_seq_r ?_ | refine q_blk_n ?_ | refine q_blk_r ?_ | refine q_blk_s ?_ | refine q_blk_o rfl ?_ | refine q_lp_e ?_ | refine q_lp_r ?_ | (refine hK _ ?_; clear hK) | (refine hA ?_; clear hA hB) | (refine hB ?_; clear hA hB) | exact v_end0 | exact v_end0' | refine And.intro ?_ ?_
      | (with_reducible refine hK _ _ ?_ ?_; focus (first | exact clearAll_quiet rfl); all_goals (try clear hK))
      | ((with_reducible first | refine v_region rfl rfl (fun K hK => ?_) | refine v_draws rfl rfl (fun K hK => ?_) | refine v_if (fun A B hA hB => ?_) | refine v_end rfl ?_ | refine v_fin (.inl rfl) ?_ | refine v_fin (.inr rfl) ?_); simp (config := {contextual := true, maxSteps := 1000000}) (disch := first | (simp only [go_sem]; done) | (simp only [n_i64]; omega)) only [go_sem, ↓reduceIte, reduceCtorEq, Nat.reduceEqDiff, Nat.reduceAdd, Nat.reduceMul, Nat.reduceSub, Nat.reduceLeDiff, Int.reduceLT, Int.reduceLE, Int.reduceEq, Int.reduceSub, Int.reduceAdd, Int.reduceMul, Int.reduceNeg, Int.reduceToNat, h1_0, h1_1, h1_22, h1_23, h1_24, fc])
      | ((with_reducible first | refine v_finN (.inl rfl) rfl ?_ ?_ | refine v_finN (.inr rfl) rfl ?_ ?_) <;> (try simp (config := {contextual := true, maxSteps := 1000000}) (disch := first | (simp only [go_sem]; done) | (simp only [n_i64]; omega)) only [go_sem, ↓reduceIte, reduceCtorEq, Nat.reduceEqDiff, Nat.reduceAdd, Nat.reduceMul, Nat.reduceSub, Nat.reduceLeDiff, Int.reduceLT, Int.reduceLE, Int.reduceEq, Int.reduceSub, Int.reduceAdd, Int.reduceMul, Int.reduceNeg, Int.reduceToNat, h1_0, h1_1, h1_22, h1_23, h1_24, fc]) <;> (try with_reducible rfl))
      | (with_reducible refine v_apj ?_ (fun j' => ?_)) <;> try simp (config := {contextual := true, maxSteps := 1000000}) (disch := first | (simp only [go_sem]; done) | (simp only [n_i64]; omega)) only [go_sem, ↓reduceIte, reduceCtorEq, Nat.reduceEqDiff, Nat.reduceAdd, Nat.reduceMul, Nat.reduceSub, Nat.reduceLeDiff, Int.reduceLT, Int.reduceLE, Int.reduceEq, Int.reduceSub, Int.reduceAdd, Int.reduceMul, Int.reduceNeg, Int.reduceToNat, h1_0, h1_1, h1_22, h1_23, h1_24, fc]
      | (with_reducible refine p_ok ?_; decide)
      | (intro hc; replace fc := And.intro hc fc; try simp only [decide_eq_true_eq, decide_eq_false_iff_not, Bool.and_eq_true, Bool.or_eq_true, Bool.and_eq_false_iff, Bool.or_eq_false_iff, Bool.not_eq_true', Bool.not_eq_false', Int.not_lt, Int.not_le] at hc)
    all_goals try (first | omega | (simp only [n_i64, n_u8]; omega) | (simp only [n_i64, n_u8, List.length_append, List.length_map, List.length_cons, List.length_nil, List.length_take, List.length_drop, List.length_replicate, List.length_set]; omega))
    · have hk : scOk w N = false := by
        rw [scOk, List.all_eq_false.2 ⟨w.getD i 0, memW (by omega), by simp only [Bool.and_eq_true, decide_eq_true_eq]; omega⟩, Bool.and_false]
      rw [scR, hk]; rfl
    · focus
        refine q_lp_n ((fun (i : Nat) => w.length - i) (i+1)) ?_ ⟨i+1, ?_, ?_, ?_, ?_, ?_, ?_, ?_, rfl⟩
        all_goals (try simp only [go_sem, ↓reduceIte, reduceCtorEq, Nat.reduceEqDiff, Nat.reduceAdd, Nat.reduceMul, Nat.reduceSub, Nat.reduceLeDiff, Int.reduceLT, Int.reduceLE, Int.reduceEq, Int.reduceSub, Int.reduceAdd, Int.reduceMul, Int.reduceNeg, Int.reduceToNat, h1_0, h1_1, h1_22, h1_23, h1_24])
        repeat' refine And.intro ?_ ?_
        all_goals try first | rfl | omega | (simp only [List.length_append, List.length_cons, List.length_nil, List.length_set, List.length_take, List.length_drop, List.length_map, List.length_replicate] <;> omega) | ((first | refine ref_eq ?_ | refine live_eq ?_ | refine int_eq ?_ | refine bool_eq ?_ | refine str_eq ?_ | refine sl_eq ?_ | refine mp_eq ?_) <;> first | rfl | omega | (simp only [List.length_append, List.length_cons, List.length_nil, List.length_set, List.length_take, List.length_drop, List.length_map, List.length_replicate] <;> omega) | (simp only [List.length_append, List.length_cons, List.length_nil, List.length_set, List.length_take, List.length_drop, List.length_map, List.length_replicate, List.append_assoc, List.cons_append, List.nil_append]; done) | skip)
      rw [takeW (by omega), List.all_append, c1_1, List.all_cons, decide_eq_true (by omega), decide_eq_true (by omega)]; rfl
    · have hk : scOk w N = false := by
        rw [scOk, List.all_eq_false.2 ⟨w.getD i 0, memW (by omega), by simp only [Bool.and_eq_true, decide_eq_true_eq]; omega⟩, Bool.and_false]
      rw [scR, hk]; rfl
    rw [List.take_of_length_le (by omega)] at c1_1
    have hk : scOk w N = true := by
      rw [scOk, c1_1, decide_eq_true (by omega), decide_eq_true (by omega), decide_eq_true (by omega)]; rfl
    rw [scR, if_pos hk, Int.toNat_natCast]
    refine v_loop (fun ms2 S2 => ∃ (m : Nat), S2.e 0 = .p (.sl (.lent m0) (List.map (PV.int .i64) (w))) ∧ S2.e 1 = .p (.int .i64 (N)) ∧ OwnL (S2.e 7) S2.h S2.n (PV.int .i64) ((scL w m).length) (scL w m) ∧ S2.e 8 = .p (.int .i64 ((m+1))) ∧ (m ≤ N) ∧ S1.n ≤ S2.n ∧ ms2 = N - m) ((fun (m : Nat) => N - m) (0)) ?init2_4 ?body2_4
    case' init2_4 =>
      refine ⟨0, ?_, ?_, ?_, ?_, ?_, ?_, rfl⟩
      all_goals (try simp only [go_sem, ↓reduceIte, reduceCtorEq, Nat.reduceEqDiff, Nat.reduceAdd, Nat.reduceMul, Nat.reduceSub, Nat.reduceLeDiff, Int.reduceLT, Int.reduceLE, Int.reduceEq, Int.reduceSub, Int.reduceAdd, Int.reduceMul, Int.reduceNeg, Int.reduceToNat, h1_0, h1_1, h1_22, h1_23, h1_24])
      repeat' refine And.intro ?_ ?_
      all_goals try first | rfl | omega | (simp only [List.length_append, List.length_cons, List.length_nil, List.length_set, List.length_take, List.length_drop, List.length_map, List.length_replicate] <;> omega) | ((first | refine ref_eq ?_ | refine live_eq ?_ | refine int_eq ?_ | refine bool_eq ?_ | refine str_eq ?_ | refine sl_eq ?_ | refine mp_eq ?_) <;> first | rfl | omega | (simp only [List.length_append, List.length_cons, List.length_nil, List.length_set, List.length_take, List.length_drop, List.length_map, List.length_replicate] <;> omega) | (simp only [List.length_append, List.length_cons, List.length_nil, List.length_set, List.length_take, List.length_drop, List.length_map, List.length_replicate, List.append_assoc, List.cons_append, List.nil_append]; done) | skip)
    case' body2_4 =>
      rintro ms2 S2 ⟨m, h2_0, h2_1, o2_7, h2_8, c2_0, u2_0, hm2⟩
      obtain ⟨i2_7, h2_7, b2_7, l2_7⟩ := o2_7.out
      have ni2_7 : ∀ c, (i2_7 = S2.n + c) = False := fun c => eq_false (by omega)
      have pi2_7 : ∀ c, (S2.n + c = i2_7) = False := fun c => eq_false (by omega)
      have qi2_7 : (i2_7 = S2.n) = False := eq_false (by omega)
      have ri2_7 : (S2.n = i2_7) = False := eq_false (by omega)
    have fc : True := trivial
    repeat' first
      | with_reducible first | refine v_seq ?_ | refine v_skip ?_ | refine v_exit ?_ | refine v_ret ?_ | refine v_block ?_ | refine q_seq_n ?_ | refine q_seq_e ?_ | refine q_seq_r ?_ | refine q_blk_n ?_ | refine q_blk_r ?_ | refine q_blk_s ?_ | refine q_blk_o rfl ?_ | refine q_lp_e ?_ | refine q_lp_r ?_ | (refine hK _ ?_; clear hK) | (refine hA ?_; clear hA hB) | (refine hB ?_; clear hA hB) | exact v_end0 | exact v_end0' | refine And.intro ?_ ?_
      | (with_reducible refine hK _ _ ?_ ?_; focus (first | exact clearAll_quiet rfl); all_goals (try clear hK))
      | ((with_reducible first | refine v_region rfl rfl (fun K hK => ?_) | refine v_draws rfl rfl (fun K hK => ?_) | refine v_if (fun A B hA hB => ?_) | refine v_end rfl ?_ | refine v_fin (.inl rfl) ?_ | refine v_fin (.inr rfl) ?_); simp (config := {contextual := true, maxSteps := 1000000}) (disch := first | (simp only [go_sem]; done) | (simp only [n_i64]; omega)) only [go_sem, ↓reduceIte, reduceCtorEq, Nat.reduceEqDiff, Nat.reduceAdd, Nat.reduceMul, Nat.reduceSub, Nat.reduceLeDiff, Int.reduceLT, Int.reduceLE, Int.reduceEq, Int.reduceSub, Int.reduceAdd, Int.reduceMul, Int.reduceNeg, Int.reduceToNat, h2_0, h2_1, h2_8, h2_7, b2_7, ni2_7, pi2_7, qi2_7, ri2_7, fc])
      | ((with_reducible first | refine v_finN (.inl rfl) rfl ?_ ?_ | refine v_finN (.inr rfl) rfl ?_ ?_) <;> (try simp (config := {contextual := true, maxSteps := 1000000}) (disch := first | (simp only [go_sem]; done) | (simp only [n_i64]; omega)) only [go_sem, ↓reduceIte, reduceCtorEq, Nat.reduceEqDiff, Nat.reduceAdd, Nat.reduceMul, Nat.reduceSub, Nat.reduceLeDiff, Int.reduceLT, Int.reduceLE, Int.reduceEq, Int.reduceSub, Int.reduceAdd, Int.reduceMul, Int.reduceNeg, Int.reduceToNat, h2_0, h2_1, h2_8, h2_7, b2_7, ni2_7, pi2_7, qi2_7, ri2_7, fc]) <;> (try with_reducible rfl))
      | (with_reducible refine v_apj ?_ (fun j' => ?_)) <;> try simp (config := {contextual := true, maxSteps := 1000000}) (disch := first | (simp only [go_sem]; done) | (simp only [n_i64]; omega)) only [go_sem, ↓reduceIte, reduceCtorEq, Nat.reduceEqDiff, Nat.reduceAdd, Nat.reduceMul, Nat.reduceSub, Nat.reduceLeDiff, Int.reduceLT, Int.reduceLE, Int.reduceEq, Int.reduceSub, Int.reduceAdd, Int.reduceMul, Int.reduceNeg, Int.reduceToNat, h2_0, h2_1, h2_8, h2_7, b2_7, ni2_7, pi2_7, qi2_7, ri2_7, fc]
      | (with_reducible refine p_ok ?_; decide)
      | (intro hc; replace fc := And.intro hc fc; try simp only [decide_eq_true_eq, decide_eq_false_iff_not, Bool.and_eq_true, Bool.or_eq_true, Bool.and_eq_false_iff, Bool.or_eq_false_iff, Bool.not_eq_true', Bool.not_eq_false', Int.not_lt, Int.not_le] at hc)
    all_goals try (first | omega | (simp only [n_i64, n_u8]; omega) | (simp only [n_i64, n_u8, List.length_append, List.length_map, List.length_cons, List.length_nil, List.length_take, List.length_drop, List.length_replicate, List.length_set]; omega))
    · have hlm := hll m
      refine v_loop (fun ms3 S3 => ∃ (k : Nat), S3.e 0 = .p (.sl (.lent m0) (List.map (PV.int .i64) (w))) ∧ S3.e 1 = .p (.int .i64 (N)) ∧ S3.e 7 = .ref i2_7 0 (scL w m).length ∧ S3.h i2_7 = .live false (List.map (PV.int .i64) (scL w m)) ∧ S3.e 8 = .p (.int .i64 ((m+1))) ∧ S3.e 9 = .p (.int .i64 (scSum w (scL w m) (m+1) k)) ∧ S3.e 10 = .p (.int .i64 ((k+1))) ∧ (k ≤ m+1) ∧ (k ≤ w.length - 1) ∧ S2.n ≤ S3.n ∧ ms3 = m+1-k) ((fun (k : Nat) => m+1-k) (0)) ?init3_5 ?body3_5
      case' init3_5 =>
        refine ⟨0, ?_, ?_, ?_, ?_, ?_, ?_, ?_, ?_, ?_, ?_, rfl⟩
        all_goals (try simp only [go_sem, ↓reduceIte, reduceCtorEq, Nat.reduceEqDiff, Nat.reduceAdd, Nat.reduceMul, Nat.reduceSub, Nat.reduceLeDiff, Int.reduceLT, Int.reduceLE, Int.reduceEq, Int.reduceSub, Int.reduceAdd, Int.reduceMul, Int.reduceNeg, Int.reduceToNat, h2_0, h2_1, h2_8, h2_7, b2_7, ni2_7, pi2_7, qi2_7, ri2_7])
        repeat' refine And.intro ?_ ?_
        all_goals try first | rfl | omega | (simp only [List.length_append, List.length_cons, List.length_nil, List.length_set, List.length_take, List.length_drop, List.length_map, List.length_replicate] <;> omega) | ((first | refine ref_eq ?_ | refine live_eq ?_ | refine int_eq ?_ | refine bool_eq ?_ | refine str_eq ?_ | refine sl_eq ?_ | refine mp_eq ?_) <;> first | rfl | omega | (simp only [List.length_append, List.length_cons, List.length_nil, List.length_set, List.length_take, List.length_drop, List.length_map, List.length_replicate] <;> omega) | (simp only [List.length_append, List.length_cons, List.length_nil, List.length_set, List.length_take, List.length_drop, List.length_map, List.length_replicate, List.append_assoc, List.cons_append, List.nil_append]; done) | skip)
      case' body3_5 =>
        rintro ms3 S3 ⟨k, h3_0, h3_1, h3_7, b3_7, h3_8, h3_9, h3_10, c3_0, c3_1, u3_0, hm3⟩
        have ni2_7 : ∀ c, (i2_7 = S3.n + c) = False := fun c => eq_false (by omega)
        have pi2_7 : ∀ c, (S3.n + c = i2_7) = False := fun c => eq_false (by omega)
        have qi2_7 : (i2_7 = S3.n) = False := eq_false (by omega)
        have ri2_7 : (S3.n = i2_7) = False := eq_false (by omega)
      have fc : True := trivial
      repeat' first
        | with_reducible first | refine v_seq ?_ | refine v_skip ?_ | refine v_exit ?_ | refine v_ret ?_ | refine v_block ?_ | refine q_seq_n ?_ | refine q_seq_e ?_ | refine q_seq_r ?_ | refine q_blk_n ?_ | refine q_blk_r ?_ | refine q_blk_s ?_ | refine q_blk_o rfl ?_ | refine q_lp_e ?_ | refine q_lp_r ?_ | (refine hK _ ?_; clear hK) | (refine hA ?_; clear hA hB) | (refine hB ?_; clear hA hB) | exact v_end0 | exact v_end0' | refine And.intro ?_ ?_
        | (with_reducible refine hK _ _ ?_ ?_; focus (first | exact clearAll_quiet rfl); all_goals (try clear hK))
        | ((with_reducible first | refine v_region rfl rfl (fun K hK => ?_) | refine v_draws rfl rfl (fun K hK => ?_) | refine v_if (fun A B hA hB => ?_) | refine v_end rfl ?_ | refine v_fin (.inl rfl) ?_ | refine v_fin (.inr rfl) ?_); simp (config := {contextual := true, maxSteps := 1000000}) (disch := first | (simp only [go_sem]; done) | (simp only [n_i64]; omega)) only [go_sem, ↓reduceIte, reduceCtorEq, Nat.reduceEqDiff, Nat.reduceAdd, Nat.reduceMul, Nat.reduceSub, Nat.reduceLeDiff, Int.reduceLT, Int.reduceLE, Int.reduceEq, Int.reduceSub, Int.reduceAdd, Int.reduceMul, Int.reduceNeg, Int.reduceToNat, h3_0, h3_1, h3_7, b3_7, h3_8, h3_9, h3_10, ni2_7, pi2_7, qi2_7, ri2_7, fc])
        | ((with_reducible first | refine v_finN (.inl rfl) rfl ?_ ?_ | refine v_finN (.inr rfl) rfl ?_ ?_) <;> (try simp (config := {contextual := true, maxSteps := 1000000}) (disch := first | (simp only [go_sem]; done) | (simp only [n_i64]; omega)) only [go_sem, ↓reduceIte, reduceCtorEq, Nat.reduceEqDiff, Nat.reduceAdd, Nat.reduceMul, Nat.reduceSub, Nat.reduceLeDiff, Int.reduceLT, Int.reduceLE, Int.reduceEq, Int.reduceSub, Int.reduceAdd, Int.reduceMul, Int.reduceNeg, Int.reduceToNat, h3_0, h3_1, h3_7, b3_7, h3_8, h3_9, h3_10, ni2_7, pi2_7, qi2_7, ri2_7, fc]) <;> (try with_reducible rfl))
        | (with_reducible refine v_apj ?_ (fun j' => ?_)) <;> try simp (config := {contextual := true, maxSteps := 1000000}) (disch := first | (simp only [go_sem]; done) | (simp only [n_i64]; omega)) only [go_sem, ↓reduceIte, reduceCtorEq, Nat.reduceEqDiff, Nat.reduceAdd, Nat.reduceMul, Nat.reduceSub, Nat.reduceLeDiff, Int.reduceLT, Int.reduceLE, Int.reduceEq, Int.reduceSub, Int.reduceAdd, Int.reduceMul, Int.reduceNeg, Int.reduceToNat, h3_0, h3_1, h3_7, b3_7, h3_8, h3_9, h3_10, ni2_7, pi2_7, qi2_7, ri2_7, fc]
        | (with_reducible refine p_ok ?_; decide)
        | (intro hc; replace fc := And.intro hc fc; try simp only [decide_eq_true_eq, decide_eq_false_iff_not, Bool.and_eq_true, Bool.or_eq_true, Bool.and_eq_false_iff, Bool.or_eq_false_iff, Bool.not_eq_true', Bool.not_eq_false', Int.not_lt, Int.not_le] at hc)
      all_goals try (first | omega | (simp only [n_i64, n_u8]; omega) | (simp only [n_i64, n_u8, List.length_append, List.length_map, List.length_cons, List.length_nil, List.length_take, List.length_drop, List.length_replicate, List.length_set]; omega))
      · focus
          refine q_lp_n ((fun (k : Nat) => m+1-k) (k+1)) ?_ ⟨k+1, ?_, ?_, ?_, ?_, ?_, ?_, ?_, ?_, ?_, ?_, rfl⟩
          all_goals (try simp only [go_sem, ↓reduceIte, reduceCtorEq, Nat.reduceEqDiff, Nat.reduceAdd, Nat.reduceMul, Nat.reduceSub, Nat.reduceLeDiff, Int.reduceLT, Int.reduceLE, Int.reduceEq, Int.reduceSub, Int.reduceAdd, Int.reduceMul, Int.reduceNeg, Int.reduceToNat, h3_0, h3_1, h3_7, b3_7, h3_8, h3_9, h3_10, ni2_7, pi2_7, qi2_7, ri2_7])
          repeat' refine And.intro ?_ ?_
          all_goals try first | rfl | omega | (simp only [List.length_append, List.length_cons, List.length_nil, List.length_set, List.length_take, List.length_drop, List.length_map, List.length_replicate] <;> omega) | ((first | refine ref_eq ?_ | refine live_eq ?_ | refine int_eq ?_ | refine bool_eq ?_ | refine str_eq ?_ | refine sl_eq ?_ | refine mp_eq ?_) <;> first | rfl | omega | (simp only [List.length_append, List.length_cons, List.length_nil, List.length_set, List.length_take, List.length_drop, List.length_map, List.length_replicate] <;> omega) | (simp only [List.length_append, List.length_cons, List.length_nil, List.length_set, List.length_take, List.length_drop, List.length_map, List.length_replicate, List.append_assoc, List.cons_append, List.nil_append]; done) | skip)
        rw [scSum, show ((m : Int) + 1 - (k + 1)).toNat = m + 1 - (k + 1) by omega]
      · focus
          refine q_lp_n ((fun (m : Nat) => N - m) (m+1)) ?_ ⟨m+1, ?_, ?_, ?_, ?_, ?_, ?_, rfl⟩
          all_goals (try simp only [go_sem, ↓reduceIte, reduceCtorEq, Nat.reduceEqDiff, Nat.reduceAdd, Nat.reduceMul, Nat.reduceSub, Nat.reduceLeDiff, Int.reduceLT, Int.reduceLE, Int.reduceEq, Int.reduceSub, Int.reduceAdd, Int.reduceMul, Int.reduceNeg, Int.reduceToNat, h3_0, h3_1, h3_7, b3_7, h3_8, h3_9, h3_10, ni2_7, pi2_7, qi2_7, ri2_7])
          repeat' refine And.intro ?_ ?_
          all_goals try first | rfl | omega | (simp only [List.length_append, List.length_cons, List.length_nil, List.length_set, List.length_take, List.length_drop, List.length_map, List.length_replicate] <;> omega) | ((first | refine ref_eq ?_ | refine live_eq ?_ | refine int_eq ?_ | refine bool_eq ?_ | refine str_eq ?_ | refine sl_eq ?_ | refine mp_eq ?_) <;> first | rfl | omega | (simp only [List.length_append, List.length_cons, List.length_nil, List.length_set, List.length_take, List.length_drop, List.length_map, List.length_replicate] <;> omega) | (simp only [List.length_append, List.length_cons, List.length_nil, List.length_set, List.length_take, List.length_drop, List.length_map, List.length_replicate, List.append_assoc, List.cons_append, List.nil_append]; done) | skip)
        · rw [scL_len, scL_len]
        · rw [scL, show min (m + 1) (w.length - 1) = k by omega]
      · focus
          refine q_lp_n ((fun (m : Nat) => N - m) (m+1)) ?_ ⟨m+1, ?_, ?_, ?_, ?_, ?_, ?_, rfl⟩
          all_goals (try simp only [go_sem, ↓reduceIte, reduceCtorEq, Nat.reduceEqDiff, Nat.reduceAdd, Nat.reduceMul, Nat.reduceSub, Nat.reduceLeDiff, Int.reduceLT, Int.reduceLE, Int.reduceEq, Int.reduceSub, Int.reduceAdd, Int.reduceMul, Int.reduceNeg, Int.reduceToNat, h3_0, h3_1, h3_7, b3_7, h3_8, h3_9, h3_10, ni2_7, pi2_7, qi2_7, ri2_7])
          repeat' refine And.intro ?_ ?_
          all_goals try first | rfl | omega | (simp only [List.length_append, List.length_cons, List.length_nil, List.length_set, List.length_take, List.length_drop, List.length_map, List.length_replicate] <;> omega) | ((first | refine ref_eq ?_ | refine live_eq ?_ | refine int_eq ?_ | refine bool_eq ?_ | refine str_eq ?_ | refine sl_eq ?_ | refine mp_eq ?_) <;> first | rfl | omega | (simp only [List.length_append, List.length_cons, List.length_nil, List.length_set, List.length_take, List.length_drop, List.length_map, List.length_replicate] <;> omega) | (simp only [List.length_append, List.length_cons, List.length_nil, List.length_set, List.length_take, List.length_drop, List.length_map, List.length_replicate, List.append_assoc, List.cons_append, List.nil_append]; done) | skip)
        · rw [scL_len, scL_len]
        · rw [scL, show min (m + 1) (w.length - 1) = k by omega]
    · rw [show m = N by omega]
  · have hk : scOk w n = false := by
      rw [scOk]
      by_cases h1 : 0 ≤ n
      · by_cases h2 : n ≤ 10
        · rw [decide_eq_false (by omega : ¬ w.length ≤ 20)]; simp
        · rw [decide_eq_false h2]; simp
      · rw [decide_eq_false h1]; simp
    rw [scR, hk]
    refine Fun.of (sg := sgW) (ts := [4]) mo Try.func30 rfl rfl rfl rfl (by kernel_rfl) (by simp [noRoL, nrA_int, nrA_bool, nrA_str, nrA_own, nrA_lent, nrA_agg, nrL_int, nrL_str, nrL_bool, nrL_u8, nrL_frI, nrL_frS]) rfl ?_
    have fc : True := trivial
    repeat' first
      | with_reducible first | refine v_seq ?_ | refine v_skip ?_ | refine v_exit ?_ | refine v_ret ?_ | refine v_block ?_ | refine q_seq_n ?_ | refine q_seq_e ?_ | refine q_seq_r ?_ | refine q_blk_n ?_ | refine q_blk_r ?_ | refine q_blk_s ?_ | refine q_blk_o rfl ?_ | refine q_lp_e ?_ | refine q_lp_r ?_ | (refine hK _ ?_; clear hK) | (refine hA ?_; clear hA hB) | (refine hB ?_; clear hA hB) | exact v_end0 | exact v_end0' | refine And.intro ?_ ?_
      | (with_reducible refine hK _ _ ?_ ?_; focus (first | exact clearAll_quiet rfl); all_goals (try clear hK))
      | ((with_reducible first | refine v_region rfl rfl (fun K hK => ?_) | refine v_draws rfl rfl (fun K hK => ?_) | refine v_if (fun A B hA hB => ?_) | refine v_end rfl ?_ | refine v_fin (.inl rfl) ?_ | refine v_fin (.inr rfl) ?_); simp (config := {contextual := true, maxSteps := 1000000}) (disch := first | (simp only [go_sem]; done) | (simp only [n_i64]; omega)) only [go_sem, ↓reduceIte, reduceCtorEq, Nat.reduceEqDiff, Nat.reduceAdd, Nat.reduceMul, Nat.reduceSub, Nat.reduceLeDiff, Int.reduceLT, Int.reduceLE, Int.reduceEq, Int.reduceSub, Int.reduceAdd, Int.reduceMul, Int.reduceNeg, Int.reduceToNat, fc])
      | ((with_reducible first | refine v_finN (.inl rfl) rfl ?_ ?_ | refine v_finN (.inr rfl) rfl ?_ ?_) <;> (try simp (config := {contextual := true, maxSteps := 1000000}) (disch := first | (simp only [go_sem]; done) | (simp only [n_i64]; omega)) only [go_sem, ↓reduceIte, reduceCtorEq, Nat.reduceEqDiff, Nat.reduceAdd, Nat.reduceMul, Nat.reduceSub, Nat.reduceLeDiff, Int.reduceLT, Int.reduceLE, Int.reduceEq, Int.reduceSub, Int.reduceAdd, Int.reduceMul, Int.reduceNeg, Int.reduceToNat, fc]) <;> (try with_reducible rfl))
      | (with_reducible refine v_apj ?_ (fun j' => ?_)) <;> try simp (config := {contextual := true, maxSteps := 1000000}) (disch := first | (simp only [go_sem]; done) | (simp only [n_i64]; omega)) only [go_sem, ↓reduceIte, reduceCtorEq, Nat.reduceEqDiff, Nat.reduceAdd, Nat.reduceMul, Nat.reduceSub, Nat.reduceLeDiff, Int.reduceLT, Int.reduceLE, Int.reduceEq, Int.reduceSub, Int.reduceAdd, Int.reduceMul, Int.reduceNeg, Int.reduceToNat, fc]
      | (with_reducible refine p_ok ?_; decide)
      | (intro hc; replace fc := And.intro hc fc; try simp only [decide_eq_true_eq, decide_eq_false_iff_not, Bool.and_eq_true, Bool.or_eq_true, Bool.and_eq_false_iff, Bool.or_eq_false_iff, Bool.not_eq_true', Bool.not_eq_false', Int.not_lt, Int.not_le] at hc)
    all_goals try (first | omega | (simp only [n_i64, n_u8]; omega) | (simp only [n_i64, n_u8, List.length_append, List.length_map, List.length_cons, List.length_nil, List.length_take, List.length_drop, List.length_replicate, List.length_set]; omega))
end Go.Gl
