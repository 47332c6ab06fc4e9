/-
  Permutations: what is told of them. Conditions: none.
-/
import Derived.Test.YtnoedblfedppkaaDoorNum
set_option linter.unusedSimpArgs false
set_option linter.unusedVariables false
set_option maxRecDepth 20000
set_option linter.unusedSectionVars false
namespace Go.Gl
open Go Go.Proofs
variable [Amb]
/-- Each of the numbers 1 to the length once, from place k on, those in 'seen' seen. -/
def permGo (n : Int) : List Int → List Int → Bool
  | _, [] => true
  | seen, v :: p => decide (1 ≤ v) && decide (v ≤ n) && !(seen.contains v) && permGo n (seen ++ [v]) p
def permB (p : List Int) : Bool := permGo p.length [] p
def isPermB (p : List Int) : Bool := decide (p.length ≤ 8) && permB p
theorem contains_take {l : List Int} {k : Nat} {x : Int} (h : k < l.length) : (l.take (k + 1)).contains x = ((l.take k).contains x || decide (x = l.getD k 0)) := by
  rw [List.take_add_one, List.getD_eq_getElem?_getD, List.getElem?_eq_getElem h]
  simp only [Option.toList_some, Option.getD_some, List.contains_append]
  congr 1
  simp [List.contains_cons]
theorem contains_at {l : List Int} {k : Nat} (h : k < l.length) : l.contains (l.getD k 0) = true := by
  rw [List.getD_eq_getElem?_getD, List.getElem?_eq_getElem h]; simp
theorem permGo_step {n : Int} {p : List Int} {k : Nat} (h : k < p.length) : permGo n (p.take k) (p.drop k) = (decide (1 ≤ p.getD k 0) && decide (p.getD k 0 ≤ n) && !((p.take k).contains (p.getD k 0)) && permGo n (p.take (k + 1)) (p.drop (k + 1))) := by
  rw [dropI_at h, permGo]
  congr 2
  rw [List.take_add_one, List.getD_eq_getElem?_getD, List.getElem?_eq_getElem h]; rfl
theorem spec_l2Has_c {m0 : Bool} (l : List Int) (x : Int) (hl : l.length ≤ 1099511627776) : Fun Tryd.prog 53 [(.sl (.lent m0) (List.map (PV.int .i64) (l))), (.int .i64 (x))] [(.bool (l.contains x))] := by
  refine Fun.of (sg := sg0) (ts := [4]) mo Tryd.func53 rfl rfl rfl rfl (by kernel_rfl) (by simp only [go_sem]) rfl ?_
  have fc : True := trivial
  repeat' first
    | with_reducible first | refine stp ?_ | refine q_blk_o rfl ?_ | (refine hK _ ?_; clear hK) | (refine hA ?_; clear hA hB) | (refine hB ?_; clear hA hB) | exact v_end0 | exact v_end0' | refine v_gb1 ?_ ?_ | refine v_gb0 ?_ ?_ | refine And.intro ?_ ?_
    | (with_reducible refine p_ok ?_; decide)
    | ((first | with_reducible first | refine v_region rfl rfl (fun K hK => ?_) | refine v_draws rfl rfl (fun K hK => ?_) | refine v_if (fun A B hA hB => ?_) | refine v_end rfl ?_ | refine v_fin1 ?_ | refine v_finC1 ?_ | refine v_finR1 ?_ | refine v_finO1 rfl ?_ | refine v_finN1 rfl ?_ ?_ | refine v_apj ?_ (fun j' => ?_) | refine v_stz ?_ ?_ ?_ ?_ ?_ | refine v_stq ?_ | refine v_cv1 ?_ ?_ ?_ | (intro hc; replace fc := And.intro hc fc; try simp only [hcs] at hc)) <;> (try simp (config := { maxSteps := 1000000 }) only [go_sem, ↓reduceIte, reduceCtorEq, Nat.reduceEqDiff, Nat.reduceAdd, Nat.reduceMul, Nat.reduceSub, Nat.reduceLeDiff, Int.reduceLT, Int.reduceLE, Int.reduceEq, Int.reduceSub, Int.reduceAdd, Int.reduceMul, Int.reduceNeg, Int.reduceToNat, fc]) <;> (try with_reducible rfl))
  refine v_loop (fun ms1 S1 => ∃ (k : Nat), S1.e 0 = .p (.sl (.lent m0) (List.map (PV.int .i64) (l))) ∧ S1.e 1 = .p (.int .i64 (x)) ∧ S1.e 5 = .p (.int .i64 (k)) ∧ (k ≤ l.length) ∧ ((l.take k).contains x = false) ∧ ms1 = l.length - k) ((fun (k : Nat) => l.length - k) (0)) ?init1_0 ?body1_0
  case' init1_0 =>
    refine ⟨0, ?_, ?_, ?_, ?_, ?_, rfl⟩
    all_goals (try simp only [go_sem, ↓reduceIte, reduceCtorEq, Nat.reduceEqDiff, Nat.reduceAdd, Nat.reduceMul, Nat.reduceSub, Nat.reduceLeDiff, Int.reduceLT, Int.reduceLE, Int.reduceEq, Int.reduceSub, Int.reduceAdd, Int.reduceMul, Int.reduceNeg, Int.reduceToNat])
    repeat' refine And.intro ?_ ?_
    all_goals try first | rfl | omega | (simp only [lnA] <;> omega) | ((first | refine stp ?_ | refine dkz_eq ?_ ?_) <;> first | rfl | omega | (simp only [lnA] <;> omega) | (simp only [lnA, List.append_assoc, List.cons_append, List.nil_append]; done) | skip)
  case' body1_0 =>
    rintro ms1 S1 ⟨k, h1_0, h1_1, h1_5, c1_0, c1_1, hm1⟩
  have fc : True := trivial
  repeat' first
    | with_reducible first | refine stp ?_ | refine q_blk_o rfl ?_ | (refine hK _ ?_; clear hK) | (refine hA ?_; clear hA hB) | (refine hB ?_; clear hA hB) | exact v_end0 | exact v_end0' | refine v_gb1 ?_ ?_ | refine v_gb0 ?_ ?_ | refine And.intro ?_ ?_
    | (with_reducible refine p_ok ?_; decide)
    | ((first | with_reducible first | refine v_region rfl rfl (fun K hK => ?_) | refine v_draws rfl rfl (fun K hK => ?_) | refine v_if (fun A B hA hB => ?_) | refine v_end rfl ?_ | refine v_fin1 ?_ | refine v_finC1 ?_ | refine v_finR1 ?_ | refine v_finO1 rfl ?_ | refine v_finN1 rfl ?_ ?_ | refine v_apj ?_ (fun j' => ?_) | refine v_stz ?_ ?_ ?_ ?_ ?_ | refine v_stq ?_ | refine v_cv1 ?_ ?_ ?_ | (intro hc; replace fc := And.intro hc fc; try simp only [hcs] at hc)) <;> (try simp (config := { maxSteps := 1000000 }) only [go_sem, ↓reduceIte, reduceCtorEq, Nat.reduceEqDiff, Nat.reduceAdd, Nat.reduceMul, Nat.reduceSub, Nat.reduceLeDiff, Int.reduceLT, Int.reduceLE, Int.reduceEq, Int.reduceSub, Int.reduceAdd, Int.reduceMul, Int.reduceNeg, Int.reduceToNat, h1_0, h1_1, h1_5, fc]) <;> (try with_reducible rfl))
  all_goals try (first | omega | (simp only [n_i64, n_u8]; omega) | (simp only [n_i64, n_u8, lnA]; omega) | (simp only [lnA]; done) | exact List.take_of_length_le (by simp))
  · rw [← hc, contains_at (by omega)]
  · focus
      refine q_lp_n ((fun (k : Nat) => l.length - k) (k+1)) ?_ ⟨k+1, ?_, ?_, ?_, ?_, ?_, rfl⟩
      all_goals (try simp only [go_sem, ↓reduceIte, reduceCtorEq, Nat.reduceEqDiff, Nat.reduceAdd, Nat.reduceMul, Nat.reduceSub, Nat.reduceLeDiff, Int.reduceLT, Int.reduceLE, Int.reduceEq, Int.reduceSub, Int.reduceAdd, Int.reduceMul, Int.reduceNeg, Int.reduceToNat, h1_0, h1_1, h1_5])
      repeat' refine And.intro ?_ ?_
      all_goals try first | rfl | omega | (simp only [lnA] <;> omega) | ((first | refine stp ?_ | refine dkz_eq ?_ ?_) <;> first | rfl | omega | (simp only [lnA] <;> omega) | (simp only [lnA, List.append_assoc, List.cons_append, List.nil_append]; done) | skip)
    rw [contains_take (by omega), c1_1, Bool.false_or]; exact decide_eq_false (fun e => hc e.symm)
  · rw [← c1_1, List.take_of_length_le (by omega)]
theorem spec_IsPerm_c {m0 : Bool} (p : List Int) (hl : p.length ≤ 1048576) : Fun Tryd.prog 31 [(.sl (.lent m0) (List.map (PV.int .i64) (p)))] [(.bool (isPermB p))] := by
  refine Fun.of (sg := sg0) (ts := [2]) mo Tryd.func31 rfl rfl rfl rfl (by kernel_rfl) (by simp only [go_sem]) rfl ?_
  have fc : True := trivial
  repeat' first
    | with_reducible first | refine stp ?_ | refine q_blk_o rfl ?_ | (refine hK _ ?_; clear hK) | (refine hA ?_; clear hA hB) | (refine hB ?_; clear hA hB) | exact v_end0 | exact v_end0' | refine v_gb1 ?_ ?_ | refine v_gb0 ?_ ?_ | refine And.intro ?_ ?_
    | (with_reducible refine hK _ _ ?_ ?_; focus (first | exact clearAll_quiet rfl | (refine clearAll_of [false, false, false, false, false, false, true, false, false, false, false, false, false, false, false, false, true, false] [] rfl (by decide +kernel) ?_; try simp only [go_sem, ↓reduceIte, reduceCtorEq, Nat.reduceEqDiff, Nat.reduceAdd, Nat.reduceMul, Nat.reduceSub, Nat.reduceLeDiff, Int.reduceLT, Int.reduceLE, Int.reduceEq, Int.reduceSub, Int.reduceAdd, Int.reduceMul, Int.reduceNeg, Int.reduceToNat])); all_goals (try clear hK))
    | (with_reducible refine p_ok ?_; decide)
    | ((first | with_reducible first | refine v_region rfl rfl (fun K hK => ?_) | refine v_draws rfl rfl (fun K hK => ?_) | refine v_if (fun A B hA hB => ?_) | refine v_end rfl ?_ | refine v_fin1 ?_ | refine v_finC1 ?_ | refine v_finR1 ?_ | refine v_callE (spec_l1In_c _ _ _) ?_ | refine v_callE (spec_l2Has_c _ _ ?_) ?_ | refine v_finO1 rfl ?_ | refine v_finN1 rfl ?_ ?_ | refine v_apj ?_ (fun j' => ?_) | refine v_stz ?_ ?_ ?_ ?_ ?_ | refine v_stq ?_ | refine v_cv1 ?_ ?_ ?_ | (intro hc; replace fc := And.intro hc fc; try simp only [hcs] at hc)) <;> (try simp (config := { maxSteps := 1000000 }) only [go_sem, ↓reduceIte, reduceCtorEq, Nat.reduceEqDiff, Nat.reduceAdd, Nat.reduceMul, Nat.reduceSub, Nat.reduceLeDiff, Int.reduceLT, Int.reduceLE, Int.reduceEq, Int.reduceSub, Int.reduceAdd, Int.reduceMul, Int.reduceNeg, Int.reduceToNat, fc]) <;> (try with_reducible rfl))
  refine v_loop (fun ms1 S1 => ∃ (k : Nat), S1.e 0 = .p (.sl (.lent m0) (List.map (PV.int .i64) (p))) ∧ S1.e 3 = .p (.int .i64 (k)) ∧ (k ≤ p.length) ∧ (p.length ≤ 8 → permB p = permGo p.length (p.take k) (p.drop k)) ∧ ms1 = p.length - k) ((fun (k : Nat) => p.length - k) (0)) ?init1_1 ?body1_1
  case' init1_1 =>
    refine ⟨0, ?_, ?_, ?_, ?_, rfl⟩
    all_goals (try simp only [go_sem, ↓reduceIte, reduceCtorEq, Nat.reduceEqDiff, Nat.reduceAdd, Nat.reduceMul, Nat.reduceSub, Nat.reduceLeDiff, Int.reduceLT, Int.reduceLE, Int.reduceEq, Int.reduceSub, Int.reduceAdd, Int.reduceMul, Int.reduceNeg, Int.reduceToNat])
    repeat' refine And.intro ?_ ?_
    all_goals try first | rfl | omega | (simp only [lnA] <;> omega) | ((first | refine stp ?_ | refine dkz_eq ?_ ?_) <;> first | rfl | omega | (simp only [lnA] <;> omega) | (simp only [lnA, List.append_assoc, List.cons_append, List.nil_append]; done) | skip)
  case' body1_1 =>
    rintro ms1 S1 ⟨k, h1_0, h1_3, c1_0, c1_1, hm1⟩
  have fc : True := trivial
  repeat' first
    | with_reducible first | refine stp ?_ | refine q_blk_o rfl ?_ | (refine hK _ ?_; clear hK) | (refine hA ?_; clear hA hB) | (refine hB ?_; clear hA hB) | exact v_end0 | exact v_end0' | refine v_gb1 ?_ ?_ | refine v_gb0 ?_ ?_ | refine And.intro ?_ ?_
    | (with_reducible refine hK _ _ ?_ ?_; focus (first | exact clearAll_quiet rfl | (refine clearAll_of [false, false, false, false, false, false, true, false, false, false, false, false, false, false, false, false, true, false] [] rfl (by decide +kernel) ?_; try simp only [go_sem, ↓reduceIte, reduceCtorEq, Nat.reduceEqDiff, Nat.reduceAdd, Nat.reduceMul, Nat.reduceSub, Nat.reduceLeDiff, Int.reduceLT, Int.reduceLE, Int.reduceEq, Int.reduceSub, Int.reduceAdd, Int.reduceMul, Int.reduceNeg, Int.reduceToNat, h1_0, h1_3])); all_goals (try clear hK))
    | (with_reducible refine p_ok ?_; decide)
    | ((first | with_reducible first | refine v_region rfl rfl (fun K hK => ?_) | refine v_draws rfl rfl (fun K hK => ?_) | refine v_if (fun A B hA hB => ?_) | refine v_end rfl ?_ | refine v_fin1 ?_ | refine v_finC1 ?_ | refine v_finR1 ?_ | refine v_callE (spec_l1In_c _ _ _) ?_ | refine v_callE (spec_l2Has_c _ _ ?_) ?_ | refine v_finO1 rfl ?_ | refine v_finN1 rfl ?_ ?_ | refine v_apj ?_ (fun j' => ?_) | refine v_stz ?_ ?_ ?_ ?_ ?_ | refine v_stq ?_ | refine v_cv1 ?_ ?_ ?_ | (intro hc; replace fc := And.intro hc fc; try simp only [hcs] at hc)) <;> (try simp (config := { maxSteps := 1000000 }) only [go_sem, ↓reduceIte, reduceCtorEq, Nat.reduceEqDiff, Nat.reduceAdd, Nat.reduceMul, Nat.reduceSub, Nat.reduceLeDiff, Int.reduceLT, Int.reduceLE, Int.reduceEq, Int.reduceSub, Int.reduceAdd, Int.reduceMul, Int.reduceNeg, Int.reduceToNat, h1_0, h1_3, fc]) <;> (try with_reducible rfl))
  all_goals try (first | omega | (simp only [n_i64, n_u8]; omega) | (simp only [n_i64, n_u8, lnA]; omega) | (simp only [lnA]; done) | exact List.take_of_length_le (by simp))
  all_goals try (have c2 := c1_1 (by omega); rw [permGo_step (by omega)] at c2)
  · simp only [isPermB, c2, hc]; simp
  · focus
      refine q_lp_n ((fun (k : Nat) => p.length - k) (k+1)) ?_ ⟨k+1, ?_, ?_, ?_, ?_, rfl⟩
      all_goals (try simp only [go_sem, ↓reduceIte, reduceCtorEq, Nat.reduceEqDiff, Nat.reduceAdd, Nat.reduceMul, Nat.reduceSub, Nat.reduceLeDiff, Int.reduceLT, Int.reduceLE, Int.reduceEq, Int.reduceSub, Int.reduceAdd, Int.reduceMul, Int.reduceNeg, Int.reduceToNat, h1_0, h1_3])
      repeat' refine And.intro ?_ ?_
      all_goals try first | rfl | omega | (simp only [lnA] <;> omega) | ((first | refine stp ?_ | refine dkz_eq ?_ ?_) <;> first | rfl | omega | (simp only [lnA] <;> omega) | (simp only [lnA, List.append_assoc, List.cons_append, List.nil_append]; done) | skip)
    intro h; rw [c2, hc, decide_eq_true (by omega), decide_eq_true (by omega)]; rfl
  · simp only [isPermB, c2]
    rcases hc with hc | hc
    · rw [decide_eq_false (by omega : ¬ 1 ≤ p.getD k 0)]; simp
    · rw [decide_eq_false (by omega : ¬ p.getD k 0 ≤ (p.length : Int))]; simp
  · rw [isPermB, decide_eq_false (by omega)]; rfl
  · by_cases h8 : p.length ≤ 8
    · rw [isPermB, c1_1 h8, List.drop_of_length_le (by omega), permGo, Bool.and_true]; congr 1; simp only [eq_iff_iff]; omega
    · rw [isPermB, decide_eq_false h8, decide_eq_false (by omega)]; rfl
  · rfl
theorem impl_isPerm_c {m0 : Bool} (p : List Int) (hl : p.length ≤ 1048576) : Fun Tryd.prog 79 [(.sl (.lent m0) (List.map (PV.int .i64) (p)))] [(.bool (permB p))] := by
  refine Fun.of (sg := sg0) (ts := [2]) mo Tryd.func79 rfl rfl rfl rfl (by kernel_rfl) (by simp only [go_sem]) rfl ?_
  have fc : True := trivial
  repeat' first
    | with_reducible first | refine stp ?_ | refine q_blk_o rfl ?_ | (refine hK _ ?_; clear hK) | (refine hA ?_; clear hA hB) | (refine hB ?_; clear hA hB) | exact v_end0 | exact v_end0' | refine v_gb1 ?_ ?_ | refine v_gb0 ?_ ?_ | refine And.intro ?_ ?_
    | (with_reducible refine p_ok ?_; decide)
    | ((first | with_reducible first | refine v_region rfl rfl (fun K hK => ?_) | refine v_draws rfl rfl (fun K hK => ?_) | refine v_if (fun A B hA hB => ?_) | refine v_end rfl ?_ | refine v_fin1 ?_ | refine v_finC1 ?_ | refine v_finR1 ?_ | refine v_finO1 rfl ?_ | refine v_finN1 rfl ?_ ?_ | refine v_apj ?_ (fun j' => ?_) | refine v_stz ?_ ?_ ?_ ?_ ?_ | refine v_stq ?_ | refine v_cv1 ?_ ?_ ?_ | (intro hc; replace fc := And.intro hc fc; try simp only [hcs] at hc)) <;> (try simp (config := { maxSteps := 1000000 }) only [go_sem, ↓reduceIte, reduceCtorEq, Nat.reduceEqDiff, Nat.reduceAdd, Nat.reduceMul, Nat.reduceSub, Nat.reduceLeDiff, Int.reduceLT, Int.reduceLE, Int.reduceEq, Int.reduceSub, Int.reduceAdd, Int.reduceMul, Int.reduceNeg, Int.reduceToNat, fc]) <;> (try with_reducible rfl))
  all_goals try (first | omega | (simp only [n_i64, n_u8]; omega) | (simp only [n_i64, n_u8, lnA]; omega) | (simp only [lnA]; done) | exact List.take_of_length_le (by simp))
  refine v_loop (fun ms1 S1 => ∃ (k : Nat) (seen : List Bool), S1.e 0 = .p (.sl (.lent m0) (List.map (PV.int .i64) (p))) ∧ S1.e 10 = .p (.sl (.lent m0) (List.map (PV.int .i64) (p))) ∧ OwnL (S1.e 3) S1.h S1.n PV.bool ((seen).length) (seen) ∧ S1.e 11 = .p (.int .i64 (p.length)) ∧ S1.e 12 = .p (.int .i64 (k)) ∧ (k ≤ p.length) ∧ (seen.length = p.length + 1) ∧ (permB p = permGo p.length (p.take k) (p.drop k)) ∧ (∀ v : Nat, 1 ≤ v → v ≤ p.length → seen.getD v false = (p.take k).contains (v : Int)) ∧ ms1 = p.length - k) ((fun (k : Nat) (seen : List Bool) => p.length - k) (0) (List.replicate (p.length+1) false)) ?init1_2 ?body1_2
  case' init1_2 =>
    refine ⟨0, List.replicate (p.length+1) false, ?_, ?_, ?_, ?_, ?_, ?_, ?_, ?_, ?_, rfl⟩
    all_goals (try simp only [go_sem, ↓reduceIte, reduceCtorEq, Nat.reduceEqDiff, Nat.reduceAdd, Nat.reduceMul, Nat.reduceSub, Nat.reduceLeDiff, Int.reduceLT, Int.reduceLE, Int.reduceEq, Int.reduceSub, Int.reduceAdd, Int.reduceMul, Int.reduceNeg, Int.reduceToNat])
    repeat' refine And.intro ?_ ?_
    all_goals try first | rfl | omega | (simp only [lnA] <;> omega) | ((first | refine stp ?_ | refine dkz_eq ?_ ?_) <;> first | rfl | omega | (simp only [lnA] <;> omega) | (simp only [lnA, List.append_assoc, List.cons_append, List.nil_append]; done) | skip)
  case' body1_2 =>
    rintro ms1 S1 ⟨k, seen, h1_0, h1_10, o1_3, h1_11, h1_12, c1_0, c1_1, c1_2, c1_3, hm1⟩
    obtain ⟨i1_3, h1_3, b1_3, l1_3⟩ := o1_3.out
    have ni1_3 : ∀ c, (i1_3 = S1.n + c) = False := fun c => eq_false (by omega)
    have pi1_3 : ∀ c, (S1.n + c = i1_3) = False := fun c => eq_false (by omega)
    have qi1_3 : (i1_3 = S1.n) = False := eq_false (by omega)
    have ri1_3 : (S1.n = i1_3) = False := eq_false (by omega)
  have fc : True := trivial
  repeat' first
    | with_reducible first | refine stp ?_ | refine q_blk_o rfl ?_ | (refine hK _ ?_; clear hK) | (refine hA ?_; clear hA hB) | (refine hB ?_; clear hA hB) | exact v_end0 | exact v_end0' | refine v_gb1 ?_ ?_ | refine v_gb0 ?_ ?_ | refine And.intro ?_ ?_
    | (with_reducible refine p_ok ?_; decide)
    | ((first | with_reducible first | refine v_region rfl rfl (fun K hK => ?_) | refine v_draws rfl rfl (fun K hK => ?_) | refine v_if (fun A B hA hB => ?_) | refine v_end rfl ?_ | refine v_fin1 ?_ | refine v_finC1 ?_ | refine v_finR1 ?_ | refine v_finO1 rfl ?_ | refine v_finN1 rfl ?_ ?_ | refine v_apj ?_ (fun j' => ?_) | refine v_stz ?_ ?_ ?_ ?_ ?_ | refine v_stq ?_ | refine v_cv1 ?_ ?_ ?_ | (intro hc; replace fc := And.intro hc fc; try simp only [hcs] at hc)) <;> (try simp (config := { maxSteps := 1000000 }) only [go_sem, ↓reduceIte, reduceCtorEq, Nat.reduceEqDiff, Nat.reduceAdd, Nat.reduceMul, Nat.reduceSub, Nat.reduceLeDiff, Int.reduceLT, Int.reduceLE, Int.reduceEq, Int.reduceSub, Int.reduceAdd, Int.reduceMul, Int.reduceNeg, Int.reduceToNat, h1_0, h1_10, h1_11, h1_12, h1_3, b1_3, ni1_3, pi1_3, qi1_3, ri1_3, fc]) <;> (try with_reducible rfl))
  all_goals try rw [permGo_step (by omega)] at c1_2
  all_goals try (first | omega | (simp only [n_i64, n_u8]; omega) | (simp only [n_i64, n_u8, lnA]; omega) | (simp only [lnA]; done) | exact List.take_of_length_le (by simp))
  · rw [c1_2, ← show ((p.getD k 0).toNat : Int) = p.getD k 0 by omega, ← c1_3 _ (by omega) (by omega), hc]; simp
  · focus
      refine q_lp_n ((fun (k : Nat) (seen : List Bool) => p.length - k) (k+1) (seen.set (p.getD k 0).toNat true)) ?_ ⟨k+1, seen.set (p.getD k 0).toNat true, ?_, ?_, ?_, ?_, ?_, ?_, ?_, ?_, ?_, rfl⟩
      all_goals (try simp only [go_sem, ↓reduceIte, reduceCtorEq, Nat.reduceEqDiff, Nat.reduceAdd, Nat.reduceMul, Nat.reduceSub, Nat.reduceLeDiff, Int.reduceLT, Int.reduceLE, Int.reduceEq, Int.reduceSub, Int.reduceAdd, Int.reduceMul, Int.reduceNeg, Int.reduceToNat, h1_0, h1_10, h1_11, h1_12, h1_3, b1_3, ni1_3, pi1_3, qi1_3, ri1_3])
      repeat' refine And.intro ?_ ?_
      all_goals try first | rfl | omega | (simp only [lnA] <;> omega) | ((first | refine stp ?_ | refine dkz_eq ?_ ?_) <;> first | rfl | omega | (simp only [lnA] <;> omega) | (simp only [lnA, List.append_assoc, List.cons_append, List.nil_append]; done) | skip)
    · rw [c1_2, decide_eq_true (by omega), decide_eq_true (by omega), ← show ((p.getD k 0).toNat : Int) = p.getD k 0 by omega, ← c1_3 _ (by omega) (by omega), hc]; rfl
    · intro v h1 h2
      rw [contains_take (by omega), ← c1_3 v h1 h2, List.getD_eq_getElem?_getD, List.getElem?_set]
      by_cases e : (p.getD k 0).toNat = v
      · rw [if_pos e, if_pos (by omega), decide_eq_true (by omega)]; simp
      · rw [if_neg e, decide_eq_false (by omega), Bool.or_false, List.getD_eq_getElem?_getD]
  · rw [c1_2, decide_eq_false (by omega : ¬ p.getD k 0 ≤ (p.length : Int))]; simp
  · rw [c1_2, decide_eq_false (by omega : ¬ 1 ≤ p.getD k 0)]; simp
  · rw [c1_2, List.drop_of_length_le (by omega)]; rfl
  · intro v h1 h2; rw [List.getD_eq_getElem?_getD, List.getElem?_replicate]; split <;> rfl
theorem impl_IsPerm_c {m0 : Bool} (p : List Int) (hl : p.length ≤ 1048576) : Fun Tryd.prog 45 [(.sl (.lent m0) (List.map (PV.int .i64) (p)))] [(.bool (isPermB p))] := by
  refine Fun.of (sg := sg0) (ts := [2]) mo Tryd.func45 rfl rfl rfl rfl (by kernel_rfl) (by simp only [go_sem]) rfl ?_
  have fc : True := trivial
  repeat' first
    | with_reducible first | refine stp ?_ | refine q_blk_o rfl ?_ | (refine hK _ ?_; clear hK) | (refine hA ?_; clear hA hB) | (refine hB ?_; clear hA hB) | exact v_end0 | exact v_end0' | refine v_gb1 ?_ ?_ | refine v_gb0 ?_ ?_ | refine And.intro ?_ ?_
    | (with_reducible refine p_ok ?_; decide)
    | ((first | with_reducible first | refine v_region rfl rfl (fun K hK => ?_) | refine v_draws rfl rfl (fun K hK => ?_) | refine v_if (fun A B hA hB => ?_) | refine v_end rfl ?_ | refine v_fin1 ?_ | refine v_finC1 ?_ | refine v_finR1 ?_ | refine v_callE (impl_isPerm_c _ ?_) ?_ | refine v_finO1 rfl ?_ | refine v_finN1 rfl ?_ ?_ | refine v_apj ?_ (fun j' => ?_) | refine v_stz ?_ ?_ ?_ ?_ ?_ | refine v_stq ?_ | refine v_cv1 ?_ ?_ ?_ | (intro hc; replace fc := And.intro hc fc; try simp only [hcs] at hc)) <;> (try simp (config := { maxSteps := 1000000 }) only [go_sem, ↓reduceIte, reduceCtorEq, Nat.reduceEqDiff, Nat.reduceAdd, Nat.reduceMul, Nat.reduceSub, Nat.reduceLeDiff, Int.reduceLT, Int.reduceLE, Int.reduceEq, Int.reduceSub, Int.reduceAdd, Int.reduceMul, Int.reduceNeg, Int.reduceToNat, fc]) <;> (try with_reducible rfl))
  all_goals try (first | omega | (simp only [n_i64, n_u8]; omega) | (simp only [n_i64, n_u8, lnA]; omega) | (simp only [lnA]; done) | exact List.take_of_length_le (by simp))
  · rw [isPermB, decide_eq_true (by omega), Bool.true_and]
  · rw [isPermB, decide_eq_false (by omega)]; rfl
end Go.Gl
