/-
  The moves of a stack: what their functions compute. Conditions: none.
-/
import Derived.Test.YtnoedblfedppkaaNum
set_option linter.unusedSimpArgs false
set_option linter.unusedVariables false
set_option maxRecDepth 20000
set_option linter.unusedSectionVars false
namespace Go.Gl
open Go Go.Proofs
variable [Amb]
def trMove (b : UInt8) : UInt8 := if b = 73 then 85 else if b = 79 then 68 else 120
theorem trI {b : UInt8} (h : b.toNat = 73) : trMove b = 85 := by
  have : b = 73 := UInt8.toNat_inj.1 h
  subst this; rfl
theorem trO {b : UInt8} (h : b.toNat = 79) : trMove b = 68 := by
  have : b = 79 := UInt8.toNat_inj.1 h
  subst this; rfl
theorem trX {b : UInt8} (h : b.toNat ≠ 73) (h' : b.toNat ≠ 79) : trMove b = 120 := by
  have e1 : ¬ b = 73 := fun e => h (by rw [e]; rfl)
  have e2 : ¬ b = 79 := fun e => h' (by rw [e]; rfl)
  unfold trMove; rw [if_neg e1, if_neg e2]
theorem take_map_succ {β : Type} {f : UInt8 → β} {s : List UInt8} {k : Nat} (h : k < s.length) : (s.take k).map f ++ [f (s.getD k 0)] = (s.take (k + 1)).map f := by
  rw [List.take_add_one, List.getElem?_eq_getElem h, List.getD_eq_getElem?_getD, List.getElem?_eq_getElem h, List.map_append]
  rfl
theorem spec_l24Path_c (s : List UInt8) (hs : s.length ≤ 16) : Fun Try.prog 139 [(.str (s))] [(.str ((s.map trMove)))] := by
  refine Fun.of (sg := sg0) (ts := [2]) mo Try.func139 rfl rfl rfl rfl (by kernel_rfl) (by simp only [go_sem]) rfl ?_
  have fc : True := trivial
  repeat' first
    | with_reducible first | refine stp ?_ | refine q_blk_o rfl ?_ | (refine hK _ ?_; clear hK) | (refine hA ?_; clear hA hB) | (refine hB ?_; clear hA hB) | exact v_end0 | exact v_end0' | refine v_gb1 ?_ ?_ | refine v_gb0 ?_ ?_ | refine And.intro ?_ ?_
    | (with_reducible refine p_ok ?_; decide)
    | ((first | with_reducible first | refine v_region rfl rfl (fun K hK => ?_) | refine v_draws rfl rfl (fun K hK => ?_) | refine v_if (fun A B hA hB => ?_) | refine v_end rfl ?_ | refine v_fin1 ?_ | refine v_finC1 ?_ | refine v_finR1 ?_ | refine v_finO1 rfl ?_ | refine v_finN1 rfl ?_ ?_ | refine v_apj ?_ (fun j' => ?_) | refine v_stz ?_ ?_ ?_ ?_ ?_ | refine v_stq ?_ | refine v_cv1 ?_ ?_ ?_ | (intro hc; replace fc := And.intro hc fc; try simp only [hcs] at hc)) <;> (try simp (config := { maxSteps := 1000000 }) only [go_sem, ↓reduceIte, reduceCtorEq, Nat.reduceEqDiff, Nat.reduceAdd, Nat.reduceMul, Nat.reduceSub, Nat.reduceLeDiff, Int.reduceLT, Int.reduceLE, Int.reduceEq, Int.reduceSub, Int.reduceAdd, Int.reduceMul, Int.reduceNeg, Int.reduceToNat, fc]) <;> (try with_reducible rfl))
  refine v_loop (fun ms1 S1 => ∃ (k : Nat), S1.e 0 = .p (.str (s)) ∧ S1.e 3 = .p (.str (((s.take k).map trMove))) ∧ S1.e 4 = .p (.int .i64 (k)) ∧ (k ≤ s.length) ∧ ms1 = s.length - k) ((fun (k : Nat) => s.length - k) (0)) ?init1_0 ?body1_0
  case' init1_0 =>
    refine ⟨0, ?_, ?_, ?_, ?_, rfl⟩
    all_goals (try simp only [go_sem, ↓reduceIte, reduceCtorEq, Nat.reduceEqDiff, Nat.reduceAdd, Nat.reduceMul, Nat.reduceSub, Nat.reduceLeDiff, Int.reduceLT, Int.reduceLE, Int.reduceEq, Int.reduceSub, Int.reduceAdd, Int.reduceMul, Int.reduceNeg, Int.reduceToNat])
    repeat' refine And.intro ?_ ?_
    all_goals try first | rfl | omega | (simp only [lnA] <;> omega) | ((first | refine stp ?_ | refine dkz_eq ?_ ?_) <;> first | rfl | omega | (simp only [lnA] <;> omega) | (simp only [lnA, List.append_assoc, List.cons_append, List.nil_append]; done) | skip)
  case' body1_0 =>
    rintro ms1 S1 ⟨k, h1_0, h1_3, h1_4, c1_0, hm1⟩
  have fc : True := trivial
  repeat' first
    | with_reducible first | refine stp ?_ | refine q_blk_o rfl ?_ | (refine hK _ ?_; clear hK) | (refine hA ?_; clear hA hB) | (refine hB ?_; clear hA hB) | exact v_end0 | exact v_end0' | refine v_gb1 ?_ ?_ | refine v_gb0 ?_ ?_ | refine And.intro ?_ ?_
    | (with_reducible refine p_ok ?_; decide)
    | ((first | with_reducible first | refine v_region rfl rfl (fun K hK => ?_) | refine v_draws rfl rfl (fun K hK => ?_) | refine v_if (fun A B hA hB => ?_) | refine v_end rfl ?_ | refine v_fin1 ?_ | refine v_finC1 ?_ | refine v_finR1 ?_ | refine v_finO1 rfl ?_ | refine v_finN1 rfl ?_ ?_ | refine v_apj ?_ (fun j' => ?_) | refine v_stz ?_ ?_ ?_ ?_ ?_ | refine v_stq ?_ | refine v_cv1 ?_ ?_ ?_ | (intro hc; replace fc := And.intro hc fc; try simp only [hcs] at hc)) <;> (try simp (config := { maxSteps := 1000000 }) only [go_sem, ↓reduceIte, reduceCtorEq, Nat.reduceEqDiff, Nat.reduceAdd, Nat.reduceMul, Nat.reduceSub, Nat.reduceLeDiff, Int.reduceLT, Int.reduceLE, Int.reduceEq, Int.reduceSub, Int.reduceAdd, Int.reduceMul, Int.reduceNeg, Int.reduceToNat, h1_0, h1_3, h1_4, fc]) <;> (try with_reducible rfl))
  all_goals try (first | omega | (simp only [n_i64]; omega) | (simp only [List.length_take]; omega))
  · focus
      refine q_lp_n ((fun (k : Nat) => s.length - k) (k+1)) ?_ ⟨k+1, ?_, ?_, ?_, ?_, rfl⟩
      all_goals (try simp only [go_sem, ↓reduceIte, reduceCtorEq, Nat.reduceEqDiff, Nat.reduceAdd, Nat.reduceMul, Nat.reduceSub, Nat.reduceLeDiff, Int.reduceLT, Int.reduceLE, Int.reduceEq, Int.reduceSub, Int.reduceAdd, Int.reduceMul, Int.reduceNeg, Int.reduceToNat, h1_0, h1_3, h1_4])
      repeat' refine And.intro ?_ ?_
      all_goals try first | rfl | omega | (simp only [lnA] <;> omega) | ((first | refine stp ?_ | refine dkz_eq ?_ ?_) <;> first | rfl | omega | (simp only [lnA] <;> omega) | (simp only [lnA, List.append_assoc, List.cons_append, List.nil_append]; done) | skip)
    rw [← take_map_succ (by omega), trI (by omega)]
  · focus
      refine q_lp_n ((fun (k : Nat) => s.length - k) (k+1)) ?_ ⟨k+1, ?_, ?_, ?_, ?_, rfl⟩
      all_goals (try simp only [go_sem, ↓reduceIte, reduceCtorEq, Nat.reduceEqDiff, Nat.reduceAdd, Nat.reduceMul, Nat.reduceSub, Nat.reduceLeDiff, Int.reduceLT, Int.reduceLE, Int.reduceEq, Int.reduceSub, Int.reduceAdd, Int.reduceMul, Int.reduceNeg, Int.reduceToNat, h1_0, h1_3, h1_4])
      repeat' refine And.intro ?_ ?_
      all_goals try first | rfl | omega | (simp only [lnA] <;> omega) | ((first | refine stp ?_ | refine dkz_eq ?_ ?_) <;> first | rfl | omega | (simp only [lnA] <;> omega) | (simp only [lnA, List.append_assoc, List.cons_append, List.nil_append]; done) | skip)
    rw [← take_map_succ (by omega), trO (by omega)]
  · focus
      refine q_lp_n ((fun (k : Nat) => s.length - k) (k+1)) ?_ ⟨k+1, ?_, ?_, ?_, ?_, rfl⟩
      all_goals (try simp only [go_sem, ↓reduceIte, reduceCtorEq, Nat.reduceEqDiff, Nat.reduceAdd, Nat.reduceMul, Nat.reduceSub, Nat.reduceLeDiff, Int.reduceLT, Int.reduceLE, Int.reduceEq, Int.reduceSub, Int.reduceAdd, Int.reduceMul, Int.reduceNeg, Int.reduceToNat, h1_0, h1_3, h1_4])
      repeat' refine And.intro ?_ ?_
      all_goals try first | rfl | omega | (simp only [lnA] <;> omega) | ((first | refine stp ?_ | refine dkz_eq ?_ ?_) <;> first | rfl | omega | (simp only [lnA] <;> omega) | (simp only [lnA, List.append_assoc, List.cons_append, List.nil_append]; done) | skip)
    rw [← take_map_succ (by omega), trX (by omega) (by omega)]
  · rw [List.take_of_length_le (by omega)]
/-- From height h on: the letters of a path. -/
def pathGo : List UInt8 → Int → Bool
  | [], h => decide (h = 0)
  | c :: t, h => if c = 85 then pathGo t (h + 1) else if c = 68 ∧ 1 ≤ h then pathGo t (h - 1) else false
theorem pathGo_U {c : UInt8} {t : List UInt8} {h : Int} (e : c.toNat = 85) : pathGo (c :: t) h = pathGo t (h + 1) := by
  have : c = 85 := UInt8.toNat_inj.1 e
  simp [pathGo, this]
theorem pathGo_D {c : UInt8} {t : List UInt8} {h : Int} (e : c.toNat = 68) (hh : 1 ≤ h) : pathGo (c :: t) h = pathGo t (h - 1) := by
  have : c = 68 := UInt8.toNat_inj.1 e
  simp [pathGo, this, hh]
theorem pathGo_X {c : UInt8} {t : List UInt8} {h : Int} (e : c.toNat ≠ 85) (hh : ¬ (c.toNat = 68 ∧ 1 ≤ h)) : pathGo (c :: t) h = false := by
  have e1 : ¬ c = 85 := fun e' => e (by rw [e']; rfl)
  have e2 : ¬ (c = 68 ∧ 1 ≤ h) := fun e' => hh ⟨by rw [e'.1]; rfl, e'.2⟩
  simp only [pathGo, if_neg e1, if_neg e2]
theorem spec_IsPath_c (s : List UInt8) (hs : s.length ≤ 1048576) : Fun Try.prog 138 [(.str (s))] [(.bool ((pathGo s 0 && decide (s.length ≤ 16))))] := by
  refine Fun.of (sg := sg0) (ts := [2]) mo Try.func138 rfl rfl rfl rfl (by kernel_rfl) (by simp only [go_sem]) rfl ?_
  have fc : True := trivial
  repeat' first
    | with_reducible first | refine stp ?_ | refine q_blk_o rfl ?_ | (refine hK _ ?_; clear hK) | (refine hA ?_; clear hA hB) | (refine hB ?_; clear hA hB) | exact v_end0 | exact v_end0' | refine v_gb1 ?_ ?_ | refine v_gb0 ?_ ?_ | refine And.intro ?_ ?_
    | (with_reducible refine p_ok ?_; decide)
    | ((first | with_reducible first | refine v_region rfl rfl (fun K hK => ?_) | refine v_draws rfl rfl (fun K hK => ?_) | refine v_if (fun A B hA hB => ?_) | refine v_end rfl ?_ | refine v_fin1 ?_ | refine v_finC1 ?_ | refine v_finR1 ?_ | refine v_finO1 rfl ?_ | refine v_finN1 rfl ?_ ?_ | refine v_apj ?_ (fun j' => ?_) | refine v_stz ?_ ?_ ?_ ?_ ?_ | refine v_stq ?_ | refine v_cv1 ?_ ?_ ?_ | (intro hc; replace fc := And.intro hc fc; try simp only [hcs] at hc)) <;> (try simp (config := { maxSteps := 1000000 }) only [go_sem, ↓reduceIte, reduceCtorEq, Nat.reduceEqDiff, Nat.reduceAdd, Nat.reduceMul, Nat.reduceSub, Nat.reduceLeDiff, Int.reduceLT, Int.reduceLE, Int.reduceEq, Int.reduceSub, Int.reduceAdd, Int.reduceMul, Int.reduceNeg, Int.reduceToNat, fc]) <;> (try with_reducible rfl))
  refine v_loop (fun ms1 S1 => ∃ (k : Nat) (h : Int), S1.e 0 = .p (.str (s)) ∧ S1.e 3 = .p (.int .i64 (h)) ∧ S1.e 4 = .p (.int .i64 (k)) ∧ (k ≤ s.length) ∧ (0 ≤ h) ∧ (h ≤ k) ∧ (pathGo s 0 = pathGo (s.drop k) h) ∧ ms1 = s.length - k) ((fun (k : Nat) (h : Int) => s.length - k) (0) (0)) ?init1_1 ?body1_1
  case' init1_1 =>
    refine ⟨0, 0, ?_, ?_, ?_, ?_, ?_, ?_, ?_, rfl⟩
    all_goals (try simp only [go_sem, ↓reduceIte, reduceCtorEq, Nat.reduceEqDiff, Nat.reduceAdd, Nat.reduceMul, Nat.reduceSub, Nat.reduceLeDiff, Int.reduceLT, Int.reduceLE, Int.reduceEq, Int.reduceSub, Int.reduceAdd, Int.reduceMul, Int.reduceNeg, Int.reduceToNat])
    repeat' refine And.intro ?_ ?_
    all_goals try first | rfl | omega | (simp only [lnA] <;> omega) | ((first | refine stp ?_ | refine dkz_eq ?_ ?_) <;> first | rfl | omega | (simp only [lnA] <;> omega) | (simp only [lnA, List.append_assoc, List.cons_append, List.nil_append]; done) | skip)
  case' body1_1 =>
    rintro ms1 S1 ⟨k, h, h1_0, h1_3, h1_4, c1_0, c1_1, c1_2, c1_3, hm1⟩
  have fc : True := trivial
  repeat' first
    | with_reducible first | refine stp ?_ | refine q_blk_o rfl ?_ | (refine hK _ ?_; clear hK) | (refine hA ?_; clear hA hB) | (refine hB ?_; clear hA hB) | exact v_end0 | exact v_end0' | refine v_gb1 ?_ ?_ | refine v_gb0 ?_ ?_ | refine And.intro ?_ ?_
    | (with_reducible refine p_ok ?_; decide)
    | ((first | with_reducible first | refine v_region rfl rfl (fun K hK => ?_) | refine v_draws rfl rfl (fun K hK => ?_) | refine v_if (fun A B hA hB => ?_) | refine v_end rfl ?_ | refine v_fin1 ?_ | refine v_finC1 ?_ | refine v_finR1 ?_ | refine v_finO1 rfl ?_ | refine v_finN1 rfl ?_ ?_ | refine v_apj ?_ (fun j' => ?_) | refine v_stz ?_ ?_ ?_ ?_ ?_ | refine v_stq ?_ | refine v_cv1 ?_ ?_ ?_ | (intro hc; replace fc := And.intro hc fc; try simp only [hcs] at hc)) <;> (try simp (config := { maxSteps := 1000000 }) only [go_sem, ↓reduceIte, reduceCtorEq, Nat.reduceEqDiff, Nat.reduceAdd, Nat.reduceMul, Nat.reduceSub, Nat.reduceLeDiff, Int.reduceLT, Int.reduceLE, Int.reduceEq, Int.reduceSub, Int.reduceAdd, Int.reduceMul, Int.reduceNeg, Int.reduceToNat, h1_0, h1_3, h1_4, fc]) <;> (try with_reducible rfl))
  all_goals try (first | omega | (simp only [n_i64]; omega))
  · focus
      refine q_lp_n ((fun (k : Nat) (h : Int) => s.length - k) (k+1) (h+1)) ?_ ⟨k+1, h+1, ?_, ?_, ?_, ?_, ?_, ?_, ?_, rfl⟩
      all_goals (try simp only [go_sem, ↓reduceIte, reduceCtorEq, Nat.reduceEqDiff, Nat.reduceAdd, Nat.reduceMul, Nat.reduceSub, Nat.reduceLeDiff, Int.reduceLT, Int.reduceLE, Int.reduceEq, Int.reduceSub, Int.reduceAdd, Int.reduceMul, Int.reduceNeg, Int.reduceToNat, h1_0, h1_3, h1_4])
      repeat' refine And.intro ?_ ?_
      all_goals try first | rfl | omega | (simp only [lnA] <;> omega) | ((first | refine stp ?_ | refine dkz_eq ?_ ?_) <;> first | rfl | omega | (simp only [lnA] <;> omega) | (simp only [lnA, List.append_assoc, List.cons_append, List.nil_append]; done) | skip)
    rw [c1_3, drop_at (by omega), pathGo_U (by omega)]
  · rw [c1_3, drop_at (by omega), pathGo_X (by omega) (by omega)]; rfl
  · focus
      refine q_lp_n ((fun (k : Nat) (h : Int) => s.length - k) (k+1) (h-1)) ?_ ⟨k+1, h-1, ?_, ?_, ?_, ?_, ?_, ?_, ?_, rfl⟩
      all_goals (try simp only [go_sem, ↓reduceIte, reduceCtorEq, Nat.reduceEqDiff, Nat.reduceAdd, Nat.reduceMul, Nat.reduceSub, Nat.reduceLeDiff, Int.reduceLT, Int.reduceLE, Int.reduceEq, Int.reduceSub, Int.reduceAdd, Int.reduceMul, Int.reduceNeg, Int.reduceToNat, h1_0, h1_3, h1_4])
      repeat' refine And.intro ?_ ?_
      all_goals try first | rfl | omega | (simp only [lnA] <;> omega) | ((first | refine stp ?_ | refine dkz_eq ?_ ?_) <;> first | rfl | omega | (simp only [lnA] <;> omega) | (simp only [lnA, List.append_assoc, List.cons_append, List.nil_append]; done) | skip)
    rw [c1_3, drop_at (by omega), pathGo_D (by omega) (by omega)]
  · rw [c1_3, drop_at (by omega), pathGo_X (by omega) (by omega)]; rfl
  · rw [c1_3, List.drop_of_length_le (by omega)]; simp [pathGo, hc]; omega
  · rw [c1_3, List.drop_of_length_le (by omega)]; simp [pathGo, hc]
/-- What the moves do from a state on. -/
def runM : List UInt8 → List Int → List Int → Int → Int → Option (List Int × List Int × Int × Int)
  | [], out, st, most, next => some (out, st, most, next)
  | c :: s, out, st, most, next =>
    if c = 73 then runM s out (st ++ [next + 1]) (max most (st.length + 1)) (next + 1)
    else if c = 79 ∧ st ≠ [] then runM s (out ++ [st.getD (st.length - 1) 0]) (st.take (st.length - 1)) most next
    else none
theorem runM_I {c : UInt8} {s : List UInt8} {out st : List Int} {most next : Int} (e : c.toNat = 73) : runM (c :: s) out st most next = runM s out (st ++ [next + 1]) (max most (st.length + 1)) (next + 1) := by
  have : c = 73 := UInt8.toNat_inj.1 e
  simp [runM, this]
theorem runM_O {c : UInt8} {s : List UInt8} {out st : List Int} {most next : Int} (e : c.toNat = 79) (h : 0 < st.length) : runM (c :: s) out st most next = runM s (out ++ [st.getD (st.length - 1) 0]) (st.take (st.length - 1)) most next := by
  have e1 : c = 79 := UInt8.toNat_inj.1 e
  have e2 : st ≠ [] := by intro h'; subst h'; simp at h
  simp only [runM, e1, show ¬ (79 : UInt8) = 73 by decide, if_false, e2, ne_eq, not_false_eq_true, and_self, if_true]
theorem runM_X {c : UInt8} {s : List UInt8} {out st : List Int} {most next : Int} (e : c.toNat ≠ 73) (h : ¬ (c.toNat = 79 ∧ 0 < st.length)) : runM (c :: s) out st most next = none := by
  have e1 : ¬ c = 73 := fun e' => e (by rw [e']; rfl)
  have e2 : ¬ (c = 79 ∧ st ≠ []) := fun e' => h ⟨by rw [e'.1]; rfl, List.length_pos_iff.2 e'.2⟩
  simp only [runM, if_neg e1, if_neg e2]
def runOut (s : List UInt8) : List Int := match runM s [] [] 0 0 with | some (o, _, _, _) => o | none => []
def runMost (s : List UInt8) : Int := match runM s [] [] 0 0 with | some (_, _, m, _) => m | none => 0
def runOk (s : List UInt8) : Bool := match runM s [] [] 0 0 with | some (_, st, _, n) => decide ((st.length : Int) = 0) && decide (n ≤ 8) | none => false
theorem impl_run_c (s : List UInt8) (hs : s.length ≤ 1048576) : Fun Try.prog 133 [(.str (s))] [(.sl .own (List.map (PV.int .i64) (runOut s))), (.int .i64 (runMost s)), (.bool (runOk s))] := by
  refine Fun.of (sg := sg0) (ts := [2, 3, 4]) mo Try.func133 rfl rfl rfl rfl (by kernel_rfl) (by simp only [go_sem]) rfl ?_
  have fc : True := trivial
  repeat' first
    | with_reducible first | refine stp ?_ | refine q_blk_o rfl ?_ | (refine hK _ ?_; clear hK) | (refine hA ?_; clear hA hB) | (refine hB ?_; clear hA hB) | exact v_end0 | exact v_end0' | refine v_gb1 ?_ ?_ | refine v_gb0 ?_ ?_ | refine And.intro ?_ ?_
    | (with_reducible refine hK _ _ ?_ ?_; focus (first | exact clearAll_quiet rfl | (refine clearAll_of [false, false, false, false, false, false, false, true, true, false, false, false, false, false, false, false] [(0, 7), (7, 9), (8, 9), (7, 10), (8, 10), (7, 11), (8, 11), (7, 12), (8, 12), (7, 13), (8, 13)] rfl (by decide +kernel) ?_; try simp only [go_sem, ↓reduceIte, reduceCtorEq, Nat.reduceEqDiff, Nat.reduceAdd, Nat.reduceMul, Nat.reduceSub, Nat.reduceLeDiff, Int.reduceLT, Int.reduceLE, Int.reduceEq, Int.reduceSub, Int.reduceAdd, Int.reduceMul, Int.reduceNeg, Int.reduceToNat])); all_goals (try clear hK))
    | (with_reducible refine p_ok ?_; decide)
    | ((first | with_reducible first | refine v_region rfl rfl (fun K hK => ?_) | refine v_draws rfl rfl (fun K hK => ?_) | refine v_if (fun A B hA hB => ?_) | refine v_end rfl ?_ | refine v_fin1 ?_ | refine v_finC1 ?_ | refine v_finR1 ?_ | refine v_finO1 rfl ?_ | refine v_finN1 rfl ?_ ?_ | refine v_apj ?_ (fun j' => ?_) | refine v_stz ?_ ?_ ?_ ?_ ?_ | refine v_stq ?_ | refine v_cv1 ?_ ?_ ?_ | (intro hc; replace fc := And.intro hc fc; try simp only [hcs] at hc)) <;> (try simp (config := { maxSteps := 1000000 }) only [go_sem, ↓reduceIte, reduceCtorEq, Nat.reduceEqDiff, Nat.reduceAdd, Nat.reduceMul, Nat.reduceSub, Nat.reduceLeDiff, Int.reduceLT, Int.reduceLE, Int.reduceEq, Int.reduceSub, Int.reduceAdd, Int.reduceMul, Int.reduceNeg, Int.reduceToNat, fc]) <;> (try with_reducible rfl))
  refine v_loop (fun ms1 S1 => ∃ (k : Nat) (out : List Int) (st : List Int) (junk : List Int) (most : Int) (next : Int), S1.e 0 = .p (.str (s)) ∧ OwnL (S1.e 5) S1.h S1.n (PV.int .i64) ((out).length) (out) ∧ OwnL (S1.e 6) S1.h S1.n (PV.int .i64) (st.length) (st ++ junk) ∧ S1.e 7 = .p (.int .i64 (most)) ∧ S1.e 8 = .p (.int .i64 (next)) ∧ S1.e 13 = .p (.int .i64 (s.length)) ∧ S1.e 14 = .p (.int .i64 (k)) ∧ (k ≤ s.length) ∧ (runM s [] [] 0 0 = runM (s.drop k) out st most next) ∧ (0 ≤ next) ∧ (next ≤ k) ∧ (out.length ≤ k) ∧ (st.length ≤ k) ∧ (0 ≤ most) ∧ (most ≤ k) ∧ NId (S1.e 6) (S1.e 5) ∧ ms1 = s.length - k) ((fun (k : Nat) (out : List Int) (st : List Int) (junk : List Int) (most : Int) (next : Int) => s.length - k) (0) ([]) ([]) ([]) (0) (0)) ?init1_2 ?body1_2
  case' init1_2 =>
    refine ⟨0, [], [], [], 0, 0, ?_, ?_, ?_, ?_, ?_, ?_, ?_, ?_, ?_, ?_, ?_, ?_, ?_, ?_, ?_, ?_, rfl⟩
    all_goals (try simp only [go_sem, ↓reduceIte, reduceCtorEq, Nat.reduceEqDiff, Nat.reduceAdd, Nat.reduceMul, Nat.reduceSub, Nat.reduceLeDiff, Int.reduceLT, Int.reduceLE, Int.reduceEq, Int.reduceSub, Int.reduceAdd, Int.reduceMul, Int.reduceNeg, Int.reduceToNat])
    repeat' refine And.intro ?_ ?_
    all_goals try first | rfl | omega | (simp only [lnA] <;> omega) | ((first | refine stp ?_ | refine dkz_eq ?_ ?_) <;> first | rfl | omega | (simp only [lnA] <;> omega) | (simp only [lnA, List.append_assoc, List.cons_append, List.nil_append]; done) | skip)
  case' body1_2 =>
    rintro ms1 S1 ⟨k, out, st, junk, most, next, h1_0, o1_5, o1_6, h1_7, h1_8, h1_13, h1_14, c1_0, c1_1, c1_2, c1_3, c1_4, c1_5, c1_6, c1_7, u1_0, hm1⟩
    obtain ⟨i1_5, h1_5, b1_5, l1_5⟩ := o1_5.out
    obtain ⟨i1_6, h1_6, b1_6, l1_6⟩ := o1_6.out
    have k1_0 := (u1_0).out h1_6 h1_5
    have ni1_5 : ∀ c, (i1_5 = S1.n + c) = False := fun c => eq_false (by omega)
    have pi1_5 : ∀ c, (S1.n + c = i1_5) = False := fun c => eq_false (by omega)
    have qi1_5 : (i1_5 = S1.n) = False := eq_false (by omega)
    have ri1_5 : (S1.n = i1_5) = False := eq_false (by omega)
    have ni1_6 : ∀ c, (i1_6 = S1.n + c) = False := fun c => eq_false (by omega)
    have pi1_6 : ∀ c, (S1.n + c = i1_6) = False := fun c => eq_false (by omega)
    have qi1_6 : (i1_6 = S1.n) = False := eq_false (by omega)
    have ri1_6 : (S1.n = i1_6) = False := eq_false (by omega)
    have di1_5i1_6 : (i1_5 = i1_6) = False := eq_false (by omega)
    have di1_6i1_5 : (i1_6 = i1_5) = False := eq_false (by omega)
  have fc : True := trivial
  repeat' first
    | with_reducible first | refine stp ?_ | refine q_blk_o rfl ?_ | (refine hK _ ?_; clear hK) | (refine hA ?_; clear hA hB) | (refine hB ?_; clear hA hB) | exact v_end0 | exact v_end0' | refine v_gb1 ?_ ?_ | refine v_gb0 ?_ ?_ | refine And.intro ?_ ?_
    | (with_reducible refine hK _ _ ?_ ?_; focus (first | exact clearAll_quiet rfl | (refine clearAll_of [false, false, false, false, false, false, false, true, true, false, false, false, false, false, false, false] [(0, 7), (7, 9), (8, 9), (7, 10), (8, 10), (7, 11), (8, 11), (7, 12), (8, 12), (7, 13), (8, 13)] rfl (by decide +kernel) ?_; try simp only [go_sem, ↓reduceIte, reduceCtorEq, Nat.reduceEqDiff, Nat.reduceAdd, Nat.reduceMul, Nat.reduceSub, Nat.reduceLeDiff, Int.reduceLT, Int.reduceLE, Int.reduceEq, Int.reduceSub, Int.reduceAdd, Int.reduceMul, Int.reduceNeg, Int.reduceToNat, h1_0, h1_7, h1_8, h1_13, h1_14, h1_5, b1_5, h1_6, b1_6, ni1_5, pi1_5, qi1_5, ri1_5, ni1_6, pi1_6, qi1_6, ri1_6, di1_5i1_6, di1_6i1_5])); all_goals (try clear hK))
    | (with_reducible refine p_ok ?_; decide)
    | ((first | with_reducible first | refine v_region rfl rfl (fun K hK => ?_) | refine v_draws rfl rfl (fun K hK => ?_) | refine v_if (fun A B hA hB => ?_) | refine v_end rfl ?_ | refine v_fin1 ?_ | refine v_finC1 ?_ | refine v_finR1 ?_ | refine v_finO1 rfl ?_ | refine v_finN1 rfl ?_ ?_ | refine v_apj ?_ (fun j' => ?_) | refine v_stz ?_ ?_ ?_ ?_ ?_ | refine v_stq ?_ | refine v_cv1 ?_ ?_ ?_ | (intro hc; replace fc := And.intro hc fc; try simp only [hcs] at hc)) <;> (try simp (config := { maxSteps := 1000000 }) only [go_sem, ↓reduceIte, reduceCtorEq, Nat.reduceEqDiff, Nat.reduceAdd, Nat.reduceMul, Nat.reduceSub, Nat.reduceLeDiff, Int.reduceLT, Int.reduceLE, Int.reduceEq, Int.reduceSub, Int.reduceAdd, Int.reduceMul, Int.reduceNeg, Int.reduceToNat, h1_0, h1_7, h1_8, h1_13, h1_14, h1_5, b1_5, h1_6, b1_6, ni1_5, pi1_5, qi1_5, ri1_5, ni1_6, pi1_6, qi1_6, ri1_6, di1_5i1_6, di1_6i1_5, fc]) <;> (try with_reducible rfl))
  all_goals try (first | omega | (simp only [n_i64, n_u8]; omega) | (simp only [n_i64, n_u8, lnA]; omega) | (simp only [lnA]; done) | exact List.take_of_length_le (by simp))
  · focus
      refine q_lp_n ((fun (k : Nat) (out : List Int) (st : List Int) (junk : List Int) (most : Int) (next : Int) => s.length - k) (k+1) (out) (st++[next+1]) (j') (max most (st.length+1)) (next+1)) ?_ ⟨k+1, out, st++[next+1], j', max most (st.length+1), next+1, ?_, ?_, ?_, ?_, ?_, ?_, ?_, ?_, ?_, ?_, ?_, ?_, ?_, ?_, ?_, ?_, rfl⟩
      all_goals (try simp only [go_sem, ↓reduceIte, reduceCtorEq, Nat.reduceEqDiff, Nat.reduceAdd, Nat.reduceMul, Nat.reduceSub, Nat.reduceLeDiff, Int.reduceLT, Int.reduceLE, Int.reduceEq, Int.reduceSub, Int.reduceAdd, Int.reduceMul, Int.reduceNeg, Int.reduceToNat, h1_0, h1_7, h1_8, h1_13, h1_14, h1_5, b1_5, h1_6, b1_6, ni1_5, pi1_5, qi1_5, ri1_5, ni1_6, pi1_6, qi1_6, ri1_6, di1_5i1_6, di1_6i1_5])
      repeat' refine And.intro ?_ ?_
      all_goals try first | rfl | omega | (simp only [lnA] <;> omega) | ((first | refine stp ?_ | refine dkz_eq ?_ ?_) <;> first | rfl | omega | (simp only [lnA] <;> omega) | (simp only [lnA, List.append_assoc, List.cons_append, List.nil_append]; done) | skip)
    rw [c1_1, drop_at (by omega), runM_I (by omega)]
  · focus
      refine q_lp_n ((fun (k : Nat) (out : List Int) (st : List Int) (junk : List Int) (most : Int) (next : Int) => s.length - k) (k+1) (out ++ [st.getD (st.length - 1) 0]) (st.take (st.length - 1)) (st.drop (st.length-1) ++ junk) (most) (next)) ?_ ⟨k+1, out ++ [st.getD (st.length - 1) 0], st.take (st.length - 1), st.drop (st.length-1) ++ junk, most, next, ?_, ?_, ?_, ?_, ?_, ?_, ?_, ?_, ?_, ?_, ?_, ?_, ?_, ?_, ?_, ?_, rfl⟩
      all_goals (try simp only [go_sem, ↓reduceIte, reduceCtorEq, Nat.reduceEqDiff, Nat.reduceAdd, Nat.reduceMul, Nat.reduceSub, Nat.reduceLeDiff, Int.reduceLT, Int.reduceLE, Int.reduceEq, Int.reduceSub, Int.reduceAdd, Int.reduceMul, Int.reduceNeg, Int.reduceToNat, h1_0, h1_7, h1_8, h1_13, h1_14, h1_5, b1_5, h1_6, b1_6, ni1_5, pi1_5, qi1_5, ri1_5, ni1_6, pi1_6, qi1_6, ri1_6, di1_5i1_6, di1_6i1_5])
      repeat' refine And.intro ?_ ?_
      all_goals try first | rfl | omega | (simp only [lnA] <;> omega) | ((first | refine stp ?_ | refine dkz_eq ?_ ?_) <;> first | rfl | omega | (simp only [lnA] <;> omega) | (simp only [lnA, List.append_assoc, List.cons_append, List.nil_append]; done) | skip)
    · rw [List.getD_eq_getElem?_getD, List.getElem?_append_left (by omega), ← List.getD_eq_getElem?_getD]; congr 3; omega
    · rw [← List.append_assoc, List.take_append_drop]
    · rw [c1_1, drop_at (by omega), runM_O (by omega) (by omega)]
  all_goals simp only [runOut, runMost, runOk]
  iterate 6 (rw [c1_1, drop_at (by omega), runM_X (by omega) (by omega)]; first | rfl | skip)
  all_goals rw [c1_1, List.drop_of_length_le (by omega)]
  all_goals simp [runM, hc]
  intro h; simp [h] at hc
/-- The moves run to their end just where their letters are a path. -/
theorem runM_path : ∀ (s : List UInt8) (out st : List Int) (most next : Int),
    (pathGo (s.map trMove) st.length = true → ∃ o m n, runM s out st most next = some (o, [], m, n) ∧ 2 * (n - next) + st.length = s.length) ∧
    (pathGo (s.map trMove) st.length = false → runM s out st most next = none ∨ ∃ o st' m n, runM s out st most next = some (o, st', m, n) ∧ st' ≠ [])
  | [], out, st, most, next => by
    simp only [List.map_nil, pathGo, runM, List.length_nil]
    constructor
    · intro h
      have h : (st.length : Int) = 0 := of_decide_eq_true h
      have : st = [] := List.eq_nil_of_length_eq_zero (by omega)
      subst this
      exact ⟨out, most, next, rfl, by simp⟩
    · intro h
      have h : ¬ (st.length : Int) = 0 := of_decide_eq_false h
      exact .inr ⟨out, st, most, next, rfl, by intro e; subst e; simp at h⟩
  | c :: s, out, st, most, next => by
    simp only [List.map_cons]
    by_cases h1 : c.toNat = 73
    · rw [trI h1, runM_I h1, pathGo_U rfl]
      have := runM_path s out (st ++ [next + 1]) (max most (st.length + 1)) (next + 1)
      rw [show (((st ++ [next + 1]).length : Nat) : Int) = (st.length : Int) + 1 by simp] at this
      refine ⟨fun h => ?_, this.2⟩
      obtain ⟨o, m, n, e, he⟩ := this.1 h
      exact ⟨o, m, n, e, by simp only [List.length_cons]; omega⟩
    · by_cases h2 : c.toNat = 79
      · rw [trO h2]
        by_cases h3 : 0 < st.length
        · rw [runM_O h2 h3, pathGo_D rfl (by omega)]
          have := runM_path s (out ++ [st.getD (st.length - 1) 0]) (st.take (st.length - 1)) most next
          rw [show (((st.take (st.length - 1)).length : Nat) : Int) = (st.length : Int) - 1 by rw [List.length_take]; omega] at this
          refine ⟨fun h => ?_, this.2⟩
          obtain ⟨o, m, n, e, he⟩ := this.1 h
          exact ⟨o, m, n, e, by simp only [List.length_cons]; omega⟩
        · rw [runM_X (by omega) (by omega), pathGo_X (by decide) (by omega)]
          exact ⟨fun h => (by cases h), fun _ => .inl rfl⟩
      · rw [trX h1 h2, runM_X h1 (by omega), pathGo_X (by decide) (by intro h; exact absurd h.1 (by decide))]
        exact ⟨fun h => (by cases h), fun _ => .inl rfl⟩
/-- A text of moves. -/
def movesOk (s : List UInt8) : Bool := decide (s.length ≤ 16) && pathGo (s.map trMove) 0
theorem runOk_eq (s : List UInt8) : runOk s = movesOk s := by
  have h := runM_path s [] [] 0 0
  simp only [List.length_nil] at h
  unfold runOk movesOk
  cases hp : pathGo (s.map trMove) 0 with
  | true =>
    obtain ⟨o, m, n, e, he⟩ := h.1 hp
    rw [e]
    have : decide (n ≤ 8) = decide (s.length ≤ 16) := by
      have : (n ≤ 8) ↔ (s.length ≤ 16) := by simp at he; omega
      simp [this]
    simp [this]
  | false =>
    rw [Bool.and_false]
    rcases h.2 hp with e | ⟨o, st', m, n, e, hs⟩
    · rw [e]
    · rw [e]
      have : ¬ ((st'.length : Int) = 0) := by
        intro h0; exact hs (List.eq_nil_of_length_eq_zero (by omega))
      simp only [decide_eq_false this, Bool.false_and]
theorem spec_AreMoves_c (s : List UInt8) : Fun Try.prog 36 [(.str (s))] [(.bool (movesOk s))] := by
  refine Fun.of (sg := sg0) (ts := [2]) mo Try.func36 rfl rfl rfl rfl (by kernel_rfl) (by simp only [go_sem]) rfl ?_
  by_cases h : s.length ≤ 16
  · have hf := spec_l24Path_c s h
    have hg := spec_IsPath_c (s.map trMove) (by simp; omega)
    have fc : True := trivial
    repeat' first
      | with_reducible first | refine stp ?_ | refine q_blk_o rfl ?_ | (refine hK _ ?_; clear hK) | (refine hA ?_; clear hA hB) | (refine hB ?_; clear hA hB) | exact v_end0 | exact v_end0' | refine v_gb1 ?_ ?_ | refine v_gb0 ?_ ?_ | refine And.intro ?_ ?_
      | (with_reducible refine p_ok ?_; decide)
      | ((first | with_reducible first | refine v_region rfl rfl (fun K hK => ?_) | refine v_draws rfl rfl (fun K hK => ?_) | refine v_if (fun A B hA hB => ?_) | refine v_end rfl ?_ | refine v_fin1 ?_ | refine v_finC1 ?_ | refine v_finR1 ?_ | refine v_callE (hf) ?_ | refine v_callE (hg) ?_ | refine v_finO1 rfl ?_ | refine v_finN1 rfl ?_ ?_ | refine v_apj ?_ (fun j' => ?_) | refine v_stz ?_ ?_ ?_ ?_ ?_ | refine v_stq ?_ | refine v_cv1 ?_ ?_ ?_ | (intro hc; replace fc := And.intro hc fc; try simp only [hcs] at hc)) <;> (try simp (config := { maxSteps := 1000000 }) only [go_sem, ↓reduceIte, reduceCtorEq, Nat.reduceEqDiff, Nat.reduceAdd, Nat.reduceMul, Nat.reduceSub, Nat.reduceLeDiff, Int.reduceLT, Int.reduceLE, Int.reduceEq, Int.reduceSub, Int.reduceAdd, Int.reduceMul, Int.reduceNeg, Int.reduceToNat, fc]) <;> (try with_reducible rfl))
    · simp [movesOk, Bool.and_comm]
    · omega
  · have c1 : decide ((s.length : Int) ≤ 16) = false := decide_eq_false (by omega)
    have fc : True := trivial
    repeat' first
      | with_reducible first | refine stp ?_ | refine q_blk_o rfl ?_ | (refine hK _ ?_; clear hK) | (refine hA ?_; clear hA hB) | (refine hB ?_; clear hA hB) | exact v_end0 | exact v_end0' | refine v_gb1 ?_ ?_ | refine v_gb0 ?_ ?_ | refine And.intro ?_ ?_
      | (with_reducible refine p_ok ?_; decide)
      | ((first | with_reducible first | refine v_region rfl rfl (fun K hK => ?_) | refine v_draws rfl rfl (fun K hK => ?_) | refine v_if (fun A B hA hB => ?_) | refine v_end rfl ?_ | refine v_fin1 ?_ | refine v_finC1 ?_ | refine v_finR1 ?_ | refine v_callE (spec_l24Path_c _ ?_) ?_ | refine v_callE (spec_IsPath_c _ ?_) ?_ | refine v_finO1 rfl ?_ | refine v_finN1 rfl ?_ ?_ | refine v_apj ?_ (fun j' => ?_) | refine v_stz ?_ ?_ ?_ ?_ ?_ | refine v_stq ?_ | refine v_cv1 ?_ ?_ ?_ | (intro hc; replace fc := And.intro hc fc; try simp only [hcs] at hc)) <;> (try simp (config := { maxSteps := 1000000 }) only [go_sem, ↓reduceIte, reduceCtorEq, Nat.reduceEqDiff, Nat.reduceAdd, Nat.reduceMul, Nat.reduceSub, Nat.reduceLeDiff, Int.reduceLT, Int.reduceLE, Int.reduceEq, Int.reduceSub, Int.reduceAdd, Int.reduceMul, Int.reduceNeg, Int.reduceToNat, c1, fc]) <;> (try with_reducible rfl))
    simp [movesOk]; omega
theorem impl_AreMoves_c (s : List UInt8) (hs : s.length ≤ 1048576) : Fun Try.prog 35 [(.str (s))] [(.bool (movesOk s))] := by
  refine Fun.of (sg := sg0) (ts := [2]) mo Try.func35 rfl rfl rfl rfl (by kernel_rfl) (by simp only [go_sem]) rfl ?_
  have fc : True := trivial
  repeat' first
    | with_reducible first | refine stp ?_ | refine q_blk_o rfl ?_ | (refine hK _ ?_; clear hK) | (refine hA ?_; clear hA hB) | (refine hB ?_; clear hA hB) | exact v_end0 | exact v_end0' | refine v_gb1 ?_ ?_ | refine v_gb0 ?_ ?_ | refine And.intro ?_ ?_
    | (with_reducible refine p_ok ?_; decide)
    | ((first | with_reducible first | refine v_region rfl rfl (fun K hK => ?_) | refine v_draws rfl rfl (fun K hK => ?_) | refine v_if (fun A B hA hB => ?_) | refine v_end rfl ?_ | refine v_fin1 ?_ | refine v_finC1 ?_ | refine v_finR1 ?_ | refine v_callE (impl_run_c _ ?_) ?_ | refine v_finO1 rfl ?_ | refine v_finN1 rfl ?_ ?_ | refine v_apj ?_ (fun j' => ?_) | refine v_stz ?_ ?_ ?_ ?_ ?_ | refine v_stq ?_ | refine v_cv1 ?_ ?_ ?_ | (intro hc; replace fc := And.intro hc fc; try simp only [hcs] at hc)) <;> (try simp (config := { maxSteps := 1000000 }) only [go_sem, ↓reduceIte, reduceCtorEq, Nat.reduceEqDiff, Nat.reduceAdd, Nat.reduceMul, Nat.reduceSub, Nat.reduceLeDiff, Int.reduceLT, Int.reduceLE, Int.reduceEq, Int.reduceSub, Int.reduceAdd, Int.reduceMul, Int.reduceNeg, Int.reduceToNat, fc]) <;> (try with_reducible rfl))
  all_goals try (first | omega | (simp only [n_i64, n_u8]; omega) | (simp only [n_i64, n_u8, lnA]; omega) | (simp only [lnA]; done) | exact List.take_of_length_le (by simp))
  rw [runOk_eq]
def hts : List UInt8 → Int → List Int
  | [], _ => []
  | c :: t, h => (h + 2 * bitI (decide ((c.toNat : Int) = 85)) - 1) :: hts t (h + 2 * bitI (decide ((c.toNat : Int) = 85)) - 1)
theorem hts_length : ∀ (t : List UInt8) (h : Int), (hts t h).length = t.length
  | [], _ => rfl
  | _ :: t, _ => by simp [hts, hts_length t]
theorem spec_l18Heights_c (s : List UInt8) (hs : s.length ≤ 16) : Fun Try.prog 216 [(.str (s))] [(.sl .own (List.map (PV.int .i64) (hts s 0)))] := by
  refine Fun.of (sg := sg0) (ts := [2]) mo Try.func216 rfl rfl rfl rfl (by kernel_rfl) (by simp only [go_sem]) rfl ?_
  have fc : True := trivial
  repeat' first
    | with_reducible first | refine stp ?_ | refine q_blk_o rfl ?_ | (refine hK _ ?_; clear hK) | (refine hA ?_; clear hA hB) | (refine hB ?_; clear hA hB) | exact v_end0 | exact v_end0' | refine v_gb1 ?_ ?_ | refine v_gb0 ?_ ?_ | refine And.intro ?_ ?_
    | (with_reducible refine p_ok ?_; decide)
    | ((first | with_reducible first | refine v_region rfl rfl (fun K hK => ?_) | refine v_draws rfl rfl (fun K hK => ?_) | refine v_if (fun A B hA hB => ?_) | refine v_end rfl ?_ | refine v_fin1 ?_ | refine v_finC1 ?_ | refine v_finR1 ?_ | refine v_callE (spec_l1Bit_c _) ?_ | refine v_finO1 rfl ?_ | refine v_finN1 rfl ?_ ?_ | refine v_apj ?_ (fun j' => ?_) | refine v_stz ?_ ?_ ?_ ?_ ?_ | refine v_stq ?_ | refine v_cv1 ?_ ?_ ?_ | (intro hc; replace fc := And.intro hc fc; try simp only [hcs] at hc)) <;> (try simp (config := { maxSteps := 1000000 }) only [go_sem, ↓reduceIte, reduceCtorEq, Nat.reduceEqDiff, Nat.reduceAdd, Nat.reduceMul, Nat.reduceSub, Nat.reduceLeDiff, Int.reduceLT, Int.reduceLE, Int.reduceEq, Int.reduceSub, Int.reduceAdd, Int.reduceMul, Int.reduceNeg, Int.reduceToNat, fc]) <;> (try with_reducible rfl))
  refine v_loop (fun ms1 S1 => ∃ (k : Nat) (h : Int) (out : List Int), S1.e 0 = .p (.str (s)) ∧ OwnL (S1.e 3) S1.h S1.n (PV.int .i64) ((out).length) (out) ∧ S1.e 4 = .p (.int .i64 (h)) ∧ S1.e 5 = .p (.int .i64 (k)) ∧ (k ≤ s.length) ∧ (-k ≤ h) ∧ (h ≤ k) ∧ (out.length = k) ∧ (hts s 0 = out ++ hts (s.drop k) h) ∧ ms1 = s.length - k) ((fun (k : Nat) (h : Int) (out : List Int) => s.length - k) (0) (0) ([])) ?init1_3 ?body1_3
  case' init1_3 =>
    refine ⟨0, 0, [], ?_, ?_, ?_, ?_, ?_, ?_, ?_, ?_, ?_, rfl⟩
    all_goals (try simp only [go_sem, ↓reduceIte, reduceCtorEq, Nat.reduceEqDiff, Nat.reduceAdd, Nat.reduceMul, Nat.reduceSub, Nat.reduceLeDiff, Int.reduceLT, Int.reduceLE, Int.reduceEq, Int.reduceSub, Int.reduceAdd, Int.reduceMul, Int.reduceNeg, Int.reduceToNat])
    repeat' refine And.intro ?_ ?_
    all_goals try first | rfl | omega | (simp only [lnA] <;> omega) | ((first | refine stp ?_ | refine dkz_eq ?_ ?_) <;> first | rfl | omega | (simp only [lnA] <;> omega) | (simp only [lnA, List.append_assoc, List.cons_append, List.nil_append]; done) | skip)
  case' body1_3 =>
    rintro ms1 S1 ⟨k, h, out, h1_0, o1_3, h1_4, h1_5, c1_0, c1_1, c1_2, c1_3, c1_4, hm1⟩
    obtain ⟨i1_3, h1_3, b1_3, l1_3⟩ := o1_3.out
    have ni1_3 : ∀ c, (i1_3 = S1.n + c) = False := fun c => eq_false (by omega)
    have pi1_3 : ∀ c, (S1.n + c = i1_3) = False := fun c => eq_false (by omega)
    have qi1_3 : (i1_3 = S1.n) = False := eq_false (by omega)
    have ri1_3 : (S1.n = i1_3) = False := eq_false (by omega)
  have fc : True := trivial
  repeat' first
    | with_reducible first | refine stp ?_ | refine q_blk_o rfl ?_ | (refine hK _ ?_; clear hK) | (refine hA ?_; clear hA hB) | (refine hB ?_; clear hA hB) | exact v_end0 | exact v_end0' | refine v_gb1 ?_ ?_ | refine v_gb0 ?_ ?_ | refine And.intro ?_ ?_
    | (with_reducible refine p_ok ?_; decide)
    | ((first | with_reducible first | refine v_region rfl rfl (fun K hK => ?_) | refine v_draws rfl rfl (fun K hK => ?_) | refine v_if (fun A B hA hB => ?_) | refine v_end rfl ?_ | refine v_fin1 ?_ | refine v_finC1 ?_ | refine v_finR1 ?_ | refine v_callE (spec_l1Bit_c _) ?_ | refine v_finO1 rfl ?_ | refine v_finN1 rfl ?_ ?_ | refine v_apj ?_ (fun j' => ?_) | refine v_stz ?_ ?_ ?_ ?_ ?_ | refine v_stq ?_ | refine v_cv1 ?_ ?_ ?_ | (intro hc; replace fc := And.intro hc fc; try simp only [hcs] at hc)) <;> (try simp (config := { maxSteps := 1000000 }) only [go_sem, ↓reduceIte, reduceCtorEq, Nat.reduceEqDiff, Nat.reduceAdd, Nat.reduceMul, Nat.reduceSub, Nat.reduceLeDiff, Int.reduceLT, Int.reduceLE, Int.reduceEq, Int.reduceSub, Int.reduceAdd, Int.reduceMul, Int.reduceNeg, Int.reduceToNat, h1_0, h1_4, h1_5, h1_3, b1_3, ni1_3, pi1_3, qi1_3, ri1_3, fc]) <;> (try with_reducible rfl))
  all_goals have hb := bitI_r (decide (((s.getD k 0).toNat : Int) = 85))
  all_goals try (first | omega | (simp only [n_i64, n_u8]; omega) | (simp only [n_i64, n_u8, lnA]; omega) | (simp only [lnA]; done) | exact List.take_of_length_le (by simp))
  · focus
      refine q_lp_n ((fun (k : Nat) (h : Int) (out : List Int) => s.length - k) (k+1) (h + 2 * bitI (decide (((s.getD k 0).toNat : Int) = 85)) - 1) (out ++ [h + 2 * bitI (decide (((s.getD k 0).toNat : Int) = 85)) - 1])) ?_ ⟨k+1, h + 2 * bitI (decide (((s.getD k 0).toNat : Int) = 85)) - 1, out ++ [h + 2 * bitI (decide (((s.getD k 0).toNat : Int) = 85)) - 1], ?_, ?_, ?_, ?_, ?_, ?_, ?_, ?_, ?_, rfl⟩
      all_goals (try simp only [go_sem, ↓reduceIte, reduceCtorEq, Nat.reduceEqDiff, Nat.reduceAdd, Nat.reduceMul, Nat.reduceSub, Nat.reduceLeDiff, Int.reduceLT, Int.reduceLE, Int.reduceEq, Int.reduceSub, Int.reduceAdd, Int.reduceMul, Int.reduceNeg, Int.reduceToNat, h1_0, h1_4, h1_5, h1_3, b1_3, ni1_3, pi1_3, qi1_3, ri1_3])
      repeat' refine And.intro ?_ ?_
      all_goals try first | rfl | omega | (simp only [lnA] <;> omega) | ((first | refine stp ?_ | refine dkz_eq ?_ ?_) <;> first | rfl | omega | (simp only [lnA] <;> omega) | (simp only [lnA, List.append_assoc, List.cons_append, List.nil_append]; done) | skip)
    rw [c1_4, drop_at (by omega), hts]
  · rw [c1_4, List.drop_of_length_le (by omega), hts, List.append_nil]
theorem spec_PathHeight_c (s : List UInt8) (hs : s.length ≤ 16) : Fun Try.prog 140 [(.str (s))] [(.int .i64 ((if pathGo s 0 then (hts s 0).foldl max 0 else -1)))] := by
  refine Fun.of (sg := sg0) (ts := [2]) mo Try.func140 rfl rfl rfl rfl (by kernel_rfl) (by simp only [go_sem]) rfl ?_
  have fc : True := trivial
  repeat' first
    | with_reducible first | refine stp ?_ | refine q_blk_o rfl ?_ | (refine hK _ ?_; clear hK) | (refine hA ?_; clear hA hB) | (refine hB ?_; clear hA hB) | exact v_end0 | exact v_end0' | refine v_gb1 ?_ ?_ | refine v_gb0 ?_ ?_ | refine And.intro ?_ ?_
    | (with_reducible refine p_ok ?_; decide)
    | ((first | with_reducible first | refine v_region rfl rfl (fun K hK => ?_) | refine v_draws rfl rfl (fun K hK => ?_) | refine v_if (fun A B hA hB => ?_) | refine v_end rfl ?_ | refine v_fin1 ?_ | refine v_finC1 ?_ | refine v_finR1 ?_ | refine v_callE (spec_l1Max_c _ _) ?_ | refine v_callE (spec_IsPath_c _ ?_) ?_ | refine v_callE (spec_l18Heights_c _ ?_) ?_ | refine v_finO1 rfl ?_ | refine v_finN1 rfl ?_ ?_ | refine v_apj ?_ (fun j' => ?_) | refine v_stz ?_ ?_ ?_ ?_ ?_ | refine v_stq ?_ | refine v_cv1 ?_ ?_ ?_ | (intro hc; replace fc := And.intro hc fc; try simp only [hcs] at hc)) <;> (try simp (config := { maxSteps := 1000000 }) only [go_sem, ↓reduceIte, reduceCtorEq, Nat.reduceEqDiff, Nat.reduceAdd, Nat.reduceMul, Nat.reduceSub, Nat.reduceLeDiff, Int.reduceLT, Int.reduceLE, Int.reduceEq, Int.reduceSub, Int.reduceAdd, Int.reduceMul, Int.reduceNeg, Int.reduceToNat, fc]) <;> (try with_reducible rfl))
  all_goals try (first | omega | (simp only [n_i64, n_u8]; omega) | (simp only [n_i64, n_u8, lnA]; omega) | (simp only [lnA]; done) | exact List.take_of_length_le (by simp))
  · rcases hc with h | h
    · simp [h]
    · omega
  obtain ⟨hp, hp2⟩ := hc
  have hl := hts_length s 0
  refine v_loop (fun ms1 S1 => ∃ (k : Nat) (h : Int), S1.e 0 = .p (.str (s)) ∧ S1.e 3 = .p (.int .i64 (h)) ∧ OwnL (S1.e 4) S1.h S1.n (PV.int .i64) ((hts s 0).length) (hts s 0) ∧ S1.e 5 = .p (.int .i64 (k)) ∧ (k ≤ s.length) ∧ ((hts s 0).foldl max 0 = ((hts s 0).drop k).foldl max h) ∧ ms1 = s.length - k) ((fun (k : Nat) (h : Int) => s.length - k) (0) (0)) ?init1_4 ?body1_4
  case' init1_4 =>
    refine ⟨0, 0, ?_, ?_, ?_, ?_, ?_, ?_, rfl⟩
    all_goals (try simp only [go_sem, ↓reduceIte, reduceCtorEq, Nat.reduceEqDiff, Nat.reduceAdd, Nat.reduceMul, Nat.reduceSub, Nat.reduceLeDiff, Int.reduceLT, Int.reduceLE, Int.reduceEq, Int.reduceSub, Int.reduceAdd, Int.reduceMul, Int.reduceNeg, Int.reduceToNat])
    repeat' refine And.intro ?_ ?_
    all_goals try first | rfl | omega | (simp only [lnA] <;> omega) | ((first | refine stp ?_ | refine dkz_eq ?_ ?_) <;> first | rfl | omega | (simp only [lnA] <;> omega) | (simp only [lnA, List.append_assoc, List.cons_append, List.nil_append]; done) | skip)
  case' body1_4 =>
    rintro ms1 S1 ⟨k, h, h1_0, h1_3, o1_4, h1_5, c1_0, c1_1, hm1⟩
    obtain ⟨i1_4, h1_4, b1_4, l1_4⟩ := o1_4.out
    have ni1_4 : ∀ c, (i1_4 = S1.n + c) = False := fun c => eq_false (by omega)
    have pi1_4 : ∀ c, (S1.n + c = i1_4) = False := fun c => eq_false (by omega)
    have qi1_4 : (i1_4 = S1.n) = False := eq_false (by omega)
    have ri1_4 : (S1.n = i1_4) = False := eq_false (by omega)
  have fc : True := trivial
  repeat' first
    | with_reducible first | refine stp ?_ | refine q_blk_o rfl ?_ | (refine hK _ ?_; clear hK) | (refine hA ?_; clear hA hB) | (refine hB ?_; clear hA hB) | exact v_end0 | exact v_end0' | refine v_gb1 ?_ ?_ | refine v_gb0 ?_ ?_ | refine And.intro ?_ ?_
    | (with_reducible refine p_ok ?_; decide)
    | ((first | with_reducible first | refine v_region rfl rfl (fun K hK => ?_) | refine v_draws rfl rfl (fun K hK => ?_) | refine v_if (fun A B hA hB => ?_) | refine v_end rfl ?_ | refine v_fin1 ?_ | refine v_finC1 ?_ | refine v_finR1 ?_ | refine v_callE (spec_l1Max_c _ _) ?_ | refine v_callE (spec_IsPath_c _ ?_) ?_ | refine v_callE (spec_l18Heights_c _ ?_) ?_ | refine v_finO1 rfl ?_ | refine v_finN1 rfl ?_ ?_ | refine v_apj ?_ (fun j' => ?_) | refine v_stz ?_ ?_ ?_ ?_ ?_ | refine v_stq ?_ | refine v_cv1 ?_ ?_ ?_ | (intro hc; replace fc := And.intro hc fc; try simp only [hcs] at hc)) <;> (try simp (config := { maxSteps := 1000000 }) only [go_sem, ↓reduceIte, reduceCtorEq, Nat.reduceEqDiff, Nat.reduceAdd, Nat.reduceMul, Nat.reduceSub, Nat.reduceLeDiff, Int.reduceLT, Int.reduceLE, Int.reduceEq, Int.reduceSub, Int.reduceAdd, Int.reduceMul, Int.reduceNeg, Int.reduceToNat, h1_0, h1_3, h1_5, h1_4, b1_4, ni1_4, pi1_4, qi1_4, ri1_4, fc]) <;> (try with_reducible rfl))
  all_goals try (first | omega | (simp only [n_i64, n_u8]; omega) | (simp only [n_i64, n_u8, lnA]; omega) | (simp only [lnA]; done) | exact List.take_of_length_le (by simp))
  · focus
      refine q_lp_n ((fun (k : Nat) (h : Int) => s.length - k) (k+1) (max h ((hts s 0).getD k 0))) ?_ ⟨k+1, max h ((hts s 0).getD k 0), ?_, ?_, ?_, ?_, ?_, ?_, rfl⟩
      all_goals (try simp only [go_sem, ↓reduceIte, reduceCtorEq, Nat.reduceEqDiff, Nat.reduceAdd, Nat.reduceMul, Nat.reduceSub, Nat.reduceLeDiff, Int.reduceLT, Int.reduceLE, Int.reduceEq, Int.reduceSub, Int.reduceAdd, Int.reduceMul, Int.reduceNeg, Int.reduceToNat, h1_0, h1_3, h1_5, h1_4, b1_4, ni1_4, pi1_4, qi1_4, ri1_4])
      repeat' refine And.intro ?_ ?_
      all_goals try first | rfl | omega | (simp only [lnA] <;> omega) | ((first | refine stp ?_ | refine dkz_eq ?_ ?_) <;> first | rfl | omega | (simp only [lnA] <;> omega) | (simp only [lnA, List.append_assoc, List.cons_append, List.nil_append]; done) | skip)
    rw [c1_1, dropI_at (by omega), List.foldl_cons]
  · rw [c1_1, List.drop_of_length_le (by omega), if_pos hp]; rfl
theorem spec_GreatestStack_c (s : List UInt8) : Fun Try.prog 38 [(.str (s))] [(.int .i64 ((if movesOk s then (hts (s.map trMove) 0).foldl max 0 else -1)))] := by
  refine Fun.of (sg := sg0) (ts := [2]) mo Try.func38 rfl rfl rfl rfl (by kernel_rfl) (by simp only [go_sem]) rfl ?_
  by_cases h : movesOk s = true
  · have h' := h
    simp only [movesOk, Bool.and_eq_true, decide_eq_true_eq] at h'
    obtain ⟨h1, h2⟩ := h'
    have hf := spec_l24Path_c s h1
    have hg := spec_PathHeight_c (s.map trMove) (by simp; omega)
    have fc : True := trivial
    repeat' first
      | with_reducible first | refine stp ?_ | refine q_blk_o rfl ?_ | (refine hK _ ?_; clear hK) | (refine hA ?_; clear hA hB) | (refine hB ?_; clear hA hB) | exact v_end0 | exact v_end0' | refine v_gb1 ?_ ?_ | refine v_gb0 ?_ ?_ | refine And.intro ?_ ?_
      | (with_reducible refine p_ok ?_; decide)
      | ((first | with_reducible first | refine v_region rfl rfl (fun K hK => ?_) | refine v_draws rfl rfl (fun K hK => ?_) | refine v_if (fun A B hA hB => ?_) | refine v_end rfl ?_ | refine v_fin1 ?_ | refine v_finC1 ?_ | refine v_finR1 ?_ | refine v_callE (hf) ?_ | refine v_callE (hg) ?_ | refine v_callE (spec_AreMoves_c _) ?_ | refine v_finO1 rfl ?_ | refine v_finN1 rfl ?_ ?_ | refine v_apj ?_ (fun j' => ?_) | refine v_stz ?_ ?_ ?_ ?_ ?_ | refine v_stq ?_ | refine v_cv1 ?_ ?_ ?_ | (intro hc; replace fc := And.intro hc fc; try simp only [hcs] at hc)) <;> (try simp (config := { maxSteps := 1000000 }) only [go_sem, ↓reduceIte, reduceCtorEq, Nat.reduceEqDiff, Nat.reduceAdd, Nat.reduceMul, Nat.reduceSub, Nat.reduceLeDiff, Int.reduceLT, Int.reduceLE, Int.reduceEq, Int.reduceSub, Int.reduceAdd, Int.reduceMul, Int.reduceNeg, Int.reduceToNat, h, fc]) <;> (try with_reducible rfl))
    rw [if_pos h2]
  · have h1 : movesOk s = false := by simpa using h
    have fc : True := trivial
    repeat' first
      | with_reducible first | refine stp ?_ | refine q_blk_o rfl ?_ | (refine hK _ ?_; clear hK) | (refine hA ?_; clear hA hB) | (refine hB ?_; clear hA hB) | exact v_end0 | exact v_end0' | refine v_gb1 ?_ ?_ | refine v_gb0 ?_ ?_ | refine And.intro ?_ ?_
      | (with_reducible refine p_ok ?_; decide)
      | ((first | with_reducible first | refine v_region rfl rfl (fun K hK => ?_) | refine v_draws rfl rfl (fun K hK => ?_) | refine v_if (fun A B hA hB => ?_) | refine v_end rfl ?_ | refine v_fin1 ?_ | refine v_finC1 ?_ | refine v_finR1 ?_ | refine v_callE (spec_AreMoves_c _) ?_ | refine v_callE (spec_l24Path_c _ ?_) ?_ | refine v_callE (spec_PathHeight_c _ ?_) ?_ | refine v_finO1 rfl ?_ | refine v_finN1 rfl ?_ ?_ | refine v_apj ?_ (fun j' => ?_) | refine v_stz ?_ ?_ ?_ ?_ ?_ | refine v_stq ?_ | refine v_cv1 ?_ ?_ ?_ | (intro hc; replace fc := And.intro hc fc; try simp only [hcs] at hc)) <;> (try simp (config := { maxSteps := 1000000 }) only [go_sem, ↓reduceIte, reduceCtorEq, Nat.reduceEqDiff, Nat.reduceAdd, Nat.reduceMul, Nat.reduceSub, Nat.reduceLeDiff, Int.reduceLT, Int.reduceLE, Int.reduceEq, Int.reduceSub, Int.reduceAdd, Int.reduceMul, Int.reduceNeg, Int.reduceToNat, h1, fc]) <;> (try with_reducible rfl))
theorem runM_most : ∀ (s : List UInt8) (out st : List Int) (most next : Int), (st.length : Int) ≤ most → pathGo (s.map trMove) st.length = true →
    ∃ o st' n, runM s out st most next = some (o, st', (hts (s.map trMove) st.length).foldl max most, n)
  | [], out, st, most, next, _, _ => ⟨out, st, next, rfl⟩
  | c :: s, out, st, most, next, hm, hp => by
    simp only [List.map_cons] at hp ⊢
    by_cases h1 : c.toNat = 73
    · rw [trI h1, pathGo_U rfl] at hp
      rw [trI h1, runM_I h1]
      have e : (((st ++ [next + 1]).length : Nat) : Int) = (st.length : Int) + 1 := by simp
      obtain ⟨o, st', n, e'⟩ := runM_most s out (st ++ [next + 1]) (max most (st.length + 1)) (next + 1) (by rw [e]; omega) (by rw [e]; exact hp)
      rw [e] at e'
      refine ⟨o, st', n, ?_⟩
      rw [e', hts, List.foldl_cons]
      simp only [bitI, show (((85 : UInt8).toNat : Nat) : Int) = 85 from rfl, decide_true, if_true, show (st.length : Int) + 2 * 1 - 1 = st.length + 1 by omega]
    · by_cases h2 : c.toNat = 79
      · by_cases h3 : 0 < st.length
        · rw [trO h2, pathGo_D rfl (by omega)] at hp
          rw [trO h2, runM_O h2 h3]
          have e : (((st.take (st.length - 1)).length : Nat) : Int) = (st.length : Int) - 1 := by rw [List.length_take]; omega
          obtain ⟨o, st', n, e'⟩ := runM_most s (out ++ [st.getD (st.length - 1) 0]) (st.take (st.length - 1)) most next (by rw [e]; omega) (by rw [e]; exact hp)
          rw [e] at e'
          refine ⟨o, st', n, ?_⟩
          rw [e', hts, List.foldl_cons]
          simp only [bitI, show (((68 : UInt8).toNat : Nat) : Int) = 68 from rfl, show decide ((68 : Int) = 85) = false from rfl, Bool.false_eq_true, if_false, show (st.length : Int) + 2 * 0 - 1 = st.length - 1 by omega, show max most ((st.length : Int) - 1) = most by omega]
        · rw [trO h2, pathGo_X (by decide) (by omega)] at hp; cases hp
      · rw [trX h1 h2, pathGo_X (by decide) (by intro h; exact absurd h.1 (by decide))] at hp; cases hp
theorem runMost_eq {s : List UInt8} (h : movesOk s = true) : runMost s = (hts (s.map trMove) 0).foldl max 0 := by
  simp only [movesOk, Bool.and_eq_true] at h
  obtain ⟨o, st', n, e⟩ := runM_most s [] [] 0 0 (by simp) h.2
  unfold runMost
  rw [e]; rfl
theorem impl_GreatestStack_c (s : List UInt8) (hs : s.length ≤ 1048576) : Fun Try.prog 37 [(.str (s))] [(.int .i64 ((if movesOk s then (hts (s.map trMove) 0).foldl max 0 else -1)))] := by
  rw [← runOk_eq]
  refine Fun.of (sg := sg0) (ts := [2]) mo Try.func37 rfl rfl rfl rfl (by kernel_rfl) (by simp only [go_sem]) rfl ?_
  have fc : True := trivial
  repeat' first
    | with_reducible first | refine stp ?_ | refine q_blk_o rfl ?_ | (refine hK _ ?_; clear hK) | (refine hA ?_; clear hA hB) | (refine hB ?_; clear hA hB) | exact v_end0 | exact v_end0' | refine v_gb1 ?_ ?_ | refine v_gb0 ?_ ?_ | refine And.intro ?_ ?_
    | (with_reducible refine p_ok ?_; decide)
    | ((first | with_reducible first | refine v_region rfl rfl (fun K hK => ?_) | refine v_draws rfl rfl (fun K hK => ?_) | refine v_if (fun A B hA hB => ?_) | refine v_end rfl ?_ | refine v_fin1 ?_ | refine v_finC1 ?_ | refine v_finR1 ?_ | refine v_callE (impl_run_c _ ?_) ?_ | refine v_finO1 rfl ?_ | refine v_finN1 rfl ?_ ?_ | refine v_apj ?_ (fun j' => ?_) | refine v_stz ?_ ?_ ?_ ?_ ?_ | refine v_stq ?_ | refine v_cv1 ?_ ?_ ?_ | (intro hc; replace fc := And.intro hc fc; try simp only [hcs] at hc)) <;> (try simp (config := { maxSteps := 1000000 }) only [go_sem, ↓reduceIte, reduceCtorEq, Nat.reduceEqDiff, Nat.reduceAdd, Nat.reduceMul, Nat.reduceSub, Nat.reduceLeDiff, Int.reduceLT, Int.reduceLE, Int.reduceEq, Int.reduceSub, Int.reduceAdd, Int.reduceMul, Int.reduceNeg, Int.reduceToNat, fc]) <;> (try with_reducible rfl))
  all_goals try (first | omega | (simp only [n_i64, n_u8]; omega) | (simp only [n_i64, n_u8, lnA]; omega) | (simp only [lnA]; done) | exact List.take_of_length_le (by simp))
  · rw [hc]; rfl
  · rw [hc, if_pos rfl]; rw [runOk_eq] at hc; exact runMost_eq hc
theorem impl_RunMoves_c (s : List UInt8) (hs : s.length ≤ 1048576) : Fun Try.prog 26 [(.str (s))] [(.sl .own (List.map (PV.int .i64) ((if movesOk s then runOut s else [])))), (.bool (movesOk s))] := by
  rw [← runOk_eq]
  refine Fun.of (sg := sg0) (ts := [2, 3]) mo Try.func26 rfl rfl rfl rfl (by kernel_rfl) (by simp only [go_sem]) rfl ?_
  have fc : True := trivial
  repeat' first
    | with_reducible first | refine stp ?_ | refine q_blk_o rfl ?_ | (refine hK _ ?_; clear hK) | (refine hA ?_; clear hA hB) | (refine hB ?_; clear hA hB) | exact v_end0 | exact v_end0' | refine v_gb1 ?_ ?_ | refine v_gb0 ?_ ?_ | refine And.intro ?_ ?_
    | (with_reducible refine p_ok ?_; decide)
    | ((first | with_reducible first | refine v_region rfl rfl (fun K hK => ?_) | refine v_draws rfl rfl (fun K hK => ?_) | refine v_if (fun A B hA hB => ?_) | refine v_end rfl ?_ | refine v_fin1 ?_ | refine v_finC1 ?_ | refine v_finR1 ?_ | refine v_callE (impl_run_c _ ?_) ?_ | refine v_finO1 rfl ?_ | refine v_finN1 rfl ?_ ?_ | refine v_apj ?_ (fun j' => ?_) | refine v_stz ?_ ?_ ?_ ?_ ?_ | refine v_stq ?_ | refine v_cv1 ?_ ?_ ?_ | (intro hc; replace fc := And.intro hc fc; try simp only [hcs] at hc)) <;> (try simp (config := { maxSteps := 1000000 }) only [go_sem, ↓reduceIte, reduceCtorEq, Nat.reduceEqDiff, Nat.reduceAdd, Nat.reduceMul, Nat.reduceSub, Nat.reduceLeDiff, Int.reduceLT, Int.reduceLE, Int.reduceEq, Int.reduceSub, Int.reduceAdd, Int.reduceMul, Int.reduceNeg, Int.reduceToNat, fc]) <;> (try with_reducible rfl))
  all_goals try (first | omega | (simp only [n_i64, n_u8]; omega) | (simp only [n_i64, n_u8, lnA]; omega) | (simp only [lnA]; done) | exact List.take_of_length_le (by simp))
  all_goals simp [hc]
theorem runM_O' {c : UInt8} {s : List UInt8} {out st : List Int} {most next : Int} {x : List Int × List Int × Int × Int} (e : c.toNat ≠ 73) (h : runM (c :: s) out st most next = some x) : c.toNat = 79 ∧ 0 < st.length := by
  by_cases h2 : c.toNat = 79 ∧ 0 < st.length
  · exact h2
  · rw [runM_X e h2] at h; cases h
theorem spec_RunMoves_c (s : List UInt8) : Fun Try.prog 27 [(.str (s))] [(.sl .own (List.map (PV.int .i64) ((if movesOk s then runOut s else [])))), (.bool (movesOk s))] := by
  by_cases h : movesOk s = true
  · rw [if_pos h]
    have h' := h
    simp only [movesOk, Bool.and_eq_true, decide_eq_true_eq] at h'
    obtain ⟨h1, h2⟩ := h'
    obtain ⟨O, M, N, ht, hN⟩ := (runM_path s [] [] 0 0).1 h2
    refine Fun.of (sg := sg0) (ts := [2, 3]) mo Try.func27 rfl rfl rfl rfl (by kernel_rfl) (by simp only [go_sem]) rfl ?_
    have fc : True := trivial
    repeat' first
      | with_reducible first | refine stp ?_ | refine q_blk_o rfl ?_ | (refine hK _ ?_; clear hK) | (refine hA ?_; clear hA hB) | (refine hB ?_; clear hA hB) | exact v_end0 | exact v_end0' | refine v_gb1 ?_ ?_ | refine v_gb0 ?_ ?_ | refine And.intro ?_ ?_
      | (with_reducible refine p_ok ?_; decide)
      | ((first | with_reducible first | refine v_region rfl rfl (fun K hK => ?_) | refine v_draws rfl rfl (fun K hK => ?_) | refine v_if (fun A B hA hB => ?_) | refine v_end rfl ?_ | refine v_fin1 ?_ | refine v_finC1 ?_ | refine v_finR1 ?_ | refine v_callE (spec_AreMoves_c _) ?_ | refine v_finO1 rfl ?_ | refine v_finN1 rfl ?_ ?_ | refine v_apj ?_ (fun j' => ?_) | refine v_stz ?_ ?_ ?_ ?_ ?_ | refine v_stq ?_ | refine v_cv1 ?_ ?_ ?_ | (intro hc; replace fc := And.intro hc fc; try simp only [hcs] at hc)) <;> (try simp (config := { maxSteps := 1000000 }) only [go_sem, ↓reduceIte, reduceCtorEq, Nat.reduceEqDiff, Nat.reduceAdd, Nat.reduceMul, Nat.reduceSub, Nat.reduceLeDiff, Int.reduceLT, Int.reduceLE, Int.reduceEq, Int.reduceSub, Int.reduceAdd, Int.reduceMul, Int.reduceNeg, Int.reduceToNat, h, fc]) <;> (try with_reducible rfl))
    refine v_loop (fun ms1 S1 => ∃ (k : Nat) (out : List Int) (st : List Int) (junk : List Int) (most : Int) (next : Int), S1.e 0 = .p (.str (s)) ∧ OwnL (S1.e 4) S1.h S1.n (PV.int .i64) ((out).length) (out) ∧ OwnL (S1.e 5) S1.h S1.n (PV.int .i64) (st.length) (st ++ junk) ∧ S1.e 6 = .p (.int .i64 (next)) ∧ S1.e 7 = .p (.int .i64 (k)) ∧ (k ≤ s.length) ∧ (runM (s.drop k) out st most (next - 1) = some (O, [], M, N)) ∧ (1 ≤ next) ∧ (next ≤ k+1) ∧ (out.length ≤ k) ∧ (st.length ≤ k) ∧ NId (S1.e 5) (S1.e 4) ∧ ms1 = s.length - k) ((fun (k : Nat) (out : List Int) (st : List Int) (junk : List Int) (most : Int) (next : Int) => s.length - k) (0) ([]) ([]) ([]) (0) (1)) ?init1_5 ?body1_5
    case' init1_5 =>
      refine ⟨0, [], [], [], 0, 1, ?_, ?_, ?_, ?_, ?_, ?_, ?_, ?_, ?_, ?_, ?_, ?_, rfl⟩
      all_goals (try simp only [go_sem, ↓reduceIte, reduceCtorEq, Nat.reduceEqDiff, Nat.reduceAdd, Nat.reduceMul, Nat.reduceSub, Nat.reduceLeDiff, Int.reduceLT, Int.reduceLE, Int.reduceEq, Int.reduceSub, Int.reduceAdd, Int.reduceMul, Int.reduceNeg, Int.reduceToNat])
      repeat' refine And.intro ?_ ?_
      all_goals try first | rfl | omega | (simp only [lnA] <;> omega) | ((first | refine stp ?_ | refine dkz_eq ?_ ?_) <;> first | rfl | omega | (simp only [lnA] <;> omega) | (simp only [lnA, List.append_assoc, List.cons_append, List.nil_append]; done) | skip)
    case' body1_5 =>
      rintro ms1 S1 ⟨k, out, st, junk, most, next, h1_0, o1_4, o1_5, h1_6, h1_7, c1_0, c1_1, c1_2, c1_3, c1_4, c1_5, u1_0, hm1⟩
      obtain ⟨i1_4, h1_4, b1_4, l1_4⟩ := o1_4.out
      obtain ⟨i1_5, h1_5, b1_5, l1_5⟩ := o1_5.out
      have k1_0 := (u1_0).out h1_5 h1_4
      have ni1_4 : ∀ c, (i1_4 = S1.n + c) = False := fun c => eq_false (by omega)
      have pi1_4 : ∀ c, (S1.n + c = i1_4) = False := fun c => eq_false (by omega)
      have qi1_4 : (i1_4 = S1.n) = False := eq_false (by omega)
      have ri1_4 : (S1.n = i1_4) = False := eq_false (by omega)
      have ni1_5 : ∀ c, (i1_5 = S1.n + c) = False := fun c => eq_false (by omega)
      have pi1_5 : ∀ c, (S1.n + c = i1_5) = False := fun c => eq_false (by omega)
      have qi1_5 : (i1_5 = S1.n) = False := eq_false (by omega)
      have ri1_5 : (S1.n = i1_5) = False := eq_false (by omega)
      have di1_4i1_5 : (i1_4 = i1_5) = False := eq_false (by omega)
      have di1_5i1_4 : (i1_5 = i1_4) = False := eq_false (by omega)
    have fc : True := trivial
    repeat' first
      | with_reducible first | refine stp ?_ | refine q_blk_o rfl ?_ | (refine hK _ ?_; clear hK) | (refine hA ?_; clear hA hB) | (refine hB ?_; clear hA hB) | exact v_end0 | exact v_end0' | refine v_gb1 ?_ ?_ | refine v_gb0 ?_ ?_ | refine And.intro ?_ ?_
      | (with_reducible refine p_ok ?_; decide)
      | ((first | with_reducible first | refine v_region rfl rfl (fun K hK => ?_) | refine v_draws rfl rfl (fun K hK => ?_) | refine v_if (fun A B hA hB => ?_) | refine v_end rfl ?_ | refine v_fin1 ?_ | refine v_finC1 ?_ | refine v_finR1 ?_ | refine v_callE (spec_AreMoves_c _) ?_ | refine v_finO1 rfl ?_ | refine v_finN1 rfl ?_ ?_ | refine v_apj ?_ (fun j' => ?_) | refine v_stz ?_ ?_ ?_ ?_ ?_ | refine v_stq ?_ | refine v_cv1 ?_ ?_ ?_ | (intro hc; replace fc := And.intro hc fc; try simp only [hcs] at hc)) <;> (try simp (config := { maxSteps := 1000000 }) only [go_sem, ↓reduceIte, reduceCtorEq, Nat.reduceEqDiff, Nat.reduceAdd, Nat.reduceMul, Nat.reduceSub, Nat.reduceLeDiff, Int.reduceLT, Int.reduceLE, Int.reduceEq, Int.reduceSub, Int.reduceAdd, Int.reduceMul, Int.reduceNeg, Int.reduceToNat, h1_0, h1_6, h1_7, h1_4, b1_4, h1_5, b1_5, ni1_4, pi1_4, qi1_4, ri1_4, ni1_5, pi1_5, qi1_5, ri1_5, di1_4i1_5, di1_5i1_4, fc]) <;> (try with_reducible rfl))
    all_goals try (have hx := c1_1; rw [drop_at (by omega)] at hx)
    all_goals try (have hy := runM_O' (by omega) hx)
    all_goals try (first | omega | (simp only [n_i64, n_u8]; omega) | (simp only [n_i64, n_u8, lnA]; omega) | (simp only [lnA]; done) | exact List.take_of_length_le (by simp))
    · focus
        refine q_lp_n ((fun (k : Nat) (out : List Int) (st : List Int) (junk : List Int) (most : Int) (next : Int) => s.length - k) (k+1) (out) (st++[next]) (j') (max most (st.length+1)) (next+1)) ?_ ⟨k+1, out, st++[next], j', max most (st.length+1), next+1, ?_, ?_, ?_, ?_, ?_, ?_, ?_, ?_, ?_, ?_, ?_, ?_, rfl⟩
        all_goals (try simp only [go_sem, ↓reduceIte, reduceCtorEq, Nat.reduceEqDiff, Nat.reduceAdd, Nat.reduceMul, Nat.reduceSub, Nat.reduceLeDiff, Int.reduceLT, Int.reduceLE, Int.reduceEq, Int.reduceSub, Int.reduceAdd, Int.reduceMul, Int.reduceNeg, Int.reduceToNat, h1_0, h1_6, h1_7, h1_4, b1_4, h1_5, b1_5, ni1_4, pi1_4, qi1_4, ri1_4, ni1_5, pi1_5, qi1_5, ri1_5, di1_4i1_5, di1_5i1_4])
        repeat' refine And.intro ?_ ?_
        all_goals try first | rfl | omega | (simp only [lnA] <;> omega) | ((first | refine stp ?_ | refine dkz_eq ?_ ?_) <;> first | rfl | omega | (simp only [lnA] <;> omega) | (simp only [lnA, List.append_assoc, List.cons_append, List.nil_append]; done) | skip)
      rw [runM_I (by omega)] at hx
      rw [← hx]; congr 2 <;> first | omega | (congr 2; omega)
    · focus
        refine q_lp_n ((fun (k : Nat) (out : List Int) (st : List Int) (junk : List Int) (most : Int) (next : Int) => s.length - k) (k+1) (out ++ [st.getD (st.length - 1) 0]) (st.take (st.length - 1)) (st.drop (st.length-1) ++ junk) (most) (next)) ?_ ⟨k+1, out ++ [st.getD (st.length - 1) 0], st.take (st.length - 1), st.drop (st.length-1) ++ junk, most, next, ?_, ?_, ?_, ?_, ?_, ?_, ?_, ?_, ?_, ?_, ?_, ?_, rfl⟩
        all_goals (try simp only [go_sem, ↓reduceIte, reduceCtorEq, Nat.reduceEqDiff, Nat.reduceAdd, Nat.reduceMul, Nat.reduceSub, Nat.reduceLeDiff, Int.reduceLT, Int.reduceLE, Int.reduceEq, Int.reduceSub, Int.reduceAdd, Int.reduceMul, Int.reduceNeg, Int.reduceToNat, h1_0, h1_6, h1_7, h1_4, b1_4, h1_5, b1_5, ni1_4, pi1_4, qi1_4, ri1_4, ni1_5, pi1_5, qi1_5, ri1_5, di1_4i1_5, di1_5i1_4])
        repeat' refine And.intro ?_ ?_
        all_goals try first | rfl | omega | (simp only [lnA] <;> omega) | ((first | refine stp ?_ | refine dkz_eq ?_ ?_) <;> first | rfl | omega | (simp only [lnA] <;> omega) | (simp only [lnA, List.append_assoc, List.cons_append, List.nil_append]; done) | skip)
      · rw [List.getD_eq_getElem?_getD, List.getElem?_append_left (by omega), ← List.getD_eq_getElem?_getD]; congr 3; omega
      · rw [← List.append_assoc, List.take_append_drop]
      · rw [runM_O (by omega) (by omega)] at hx
        exact hx
    · first | refine mp_eq ?_ | skip
      rw [List.drop_of_length_le (by omega)] at c1_1
      simp only [runM, Option.some.injEq, Prod.mk.injEq] at c1_1
      unfold runOut; rw [ht]; exact c1_1.1
    · exact h.symm
  · have h1 : movesOk s = false := by simpa using h
    rw [if_neg h, h1]
    refine Fun.of (sg := sg0) (ts := [2, 3]) mo Try.func27 rfl rfl rfl rfl (by kernel_rfl) (by simp only [go_sem]) rfl ?_
    have fc : True := trivial
    repeat' first
      | with_reducible first | refine stp ?_ | refine q_blk_o rfl ?_ | (refine hK _ ?_; clear hK) | (refine hA ?_; clear hA hB) | (refine hB ?_; clear hA hB) | exact v_end0 | exact v_end0' | refine v_gb1 ?_ ?_ | refine v_gb0 ?_ ?_ | refine And.intro ?_ ?_
      | (with_reducible refine p_ok ?_; decide)
      | ((first | with_reducible first | refine v_region rfl rfl (fun K hK => ?_) | refine v_draws rfl rfl (fun K hK => ?_) | refine v_if (fun A B hA hB => ?_) | refine v_end rfl ?_ | refine v_fin1 ?_ | refine v_finC1 ?_ | refine v_finR1 ?_ | refine v_callE (spec_AreMoves_c _) ?_ | refine v_finO1 rfl ?_ | refine v_finN1 rfl ?_ ?_ | refine v_apj ?_ (fun j' => ?_) | refine v_stz ?_ ?_ ?_ ?_ ?_ | refine v_stq ?_ | refine v_cv1 ?_ ?_ ?_ | (intro hc; replace fc := And.intro hc fc; try simp only [hcs] at hc)) <;> (try simp (config := { maxSteps := 1000000 }) only [go_sem, ↓reduceIte, reduceCtorEq, Nat.reduceEqDiff, Nat.reduceAdd, Nat.reduceMul, Nat.reduceSub, Nat.reduceLeDiff, Int.reduceLT, Int.reduceLE, Int.reduceEq, Int.reduceSub, Int.reduceAdd, Int.reduceMul, Int.reduceNeg, Int.reduceToNat, h1, fc]) <;> (try with_reducible rfl))
end Go.Gl
