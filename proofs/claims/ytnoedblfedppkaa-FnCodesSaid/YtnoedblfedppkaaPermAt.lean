/-
  Permutations by their codes: what their functions compute. Conditions: none.
-/
import Derived.Test.YtnoedblfedppkaaCode
import Derived.Test.YtnoedblfedppkaaDel
set_option linter.unusedSimpArgs false
set_option linter.unusedVariables false
set_option maxRecDepth 20000
set_option linter.unusedSectionVars false
namespace Go.Gl
open Go Go.Proofs
variable [Amb]
def sgD : FuncId → List Bool := fun f => if f = 228 then [true] else []
theorem sgD_eq {f : FuncId} : sgD f = if f = 228 then [true] else [] := _root_.id rfl
theorem wayE_sgD : wayE sgD = false := _root_.id rfl
theorem wayN_sgD : wayN sgD = false := _root_.id rfl
theorem wayS_sgD : wayS sgD = false := _root_.id rfl
theorem wayZ_sgD : wayZ sgD = false := _root_.id rfl
attribute [local go_sem] wayN_sgD wayS_sgD wayZ_sgD
attribute [local go_sem] sgD_eq wayE_sgD
def idL (n : Nat) : List Int := (List.range n).map fun i : Nat => (i : Int) + 1
theorem idL_succ {n : Nat} : idL (n + 1) = idL n ++ [(n : Int) + 1] := by simp [idL, List.range_succ]
theorem idL_len {n : Nat} : (idL n).length = n := by simp [idL]
theorem impl_identity_c (n : Int) (h0 : 0 ≤ n) (h1 : n ≤ 1099511627776) : Fun Try.prog 227 [(.int .i64 (n))] [(.sl .own (List.map (PV.int .i64) (idL n.toNat)))] := by
  refine Fun.of (sg := sg0) (ts := [2]) mo Try.func227 rfl rfl rfl rfl (by kernel_rfl) (by simp only [go_sem]) rfl ?_
  have fc : True := trivial
  repeat' first
    | with_reducible first | refine stp ?_ | refine q_blk_o rfl ?_ | (refine hK _ ?_; clear hK) | (refine hA ?_; clear hA hB) | (refine hB ?_; clear hA hB) | exact v_end0 | exact v_end0' | refine v_gb1 ?_ ?_ | refine v_gb0 ?_ ?_ | refine And.intro ?_ ?_
    | (with_reducible refine p_ok ?_; decide)
    | ((first | with_reducible first | refine v_region rfl rfl (fun K hK => ?_) | refine v_draws rfl rfl (fun K hK => ?_) | refine v_if (fun A B hA hB => ?_) | refine v_end rfl ?_ | refine v_fin1 ?_ | refine v_finC1 ?_ | refine v_finR1 ?_ | refine v_finO1 rfl ?_ | refine v_finN1 rfl ?_ ?_ | refine v_apj ?_ (fun j' => ?_) | refine v_stz ?_ ?_ ?_ ?_ ?_ | refine v_stq ?_ | refine v_cv1 ?_ ?_ ?_ | (intro hc; replace fc := And.intro hc fc; try simp only [hcs] at hc)) <;> (try simp (config := { maxSteps := 1000000 }) only [go_sem, ↓reduceIte, reduceCtorEq, Nat.reduceEqDiff, Nat.reduceAdd, Nat.reduceMul, Nat.reduceSub, Nat.reduceLeDiff, Int.reduceLT, Int.reduceLE, Int.reduceEq, Int.reduceSub, Int.reduceAdd, Int.reduceMul, Int.reduceNeg, Int.reduceToNat, fc]) <;> (try with_reducible rfl))
  refine v_loop (fun ms1 S1 => ∃ (k : Nat), S1.e 0 = .p (.int .i64 (n)) ∧ OwnL (S1.e 3) S1.h S1.n (PV.int .i64) ((idL k).length) (idL k) ∧ S1.e 6 = .p (.int .i64 (n)) ∧ S1.e 7 = .p (.int .i64 (k)) ∧ ((k : Int) ≤ n) ∧ ms1 = n.toNat - k) ((fun (k : Nat) => n.toNat - k) (0)) ?init1_0 ?body1_0
  case' init1_0 =>
    refine ⟨0, ?_, ?_, ?_, ?_, ?_, rfl⟩
    all_goals (try simp only [go_sem, ↓reduceIte, reduceCtorEq, Nat.reduceEqDiff, Nat.reduceAdd, Nat.reduceMul, Nat.reduceSub, Nat.reduceLeDiff, Int.reduceLT, Int.reduceLE, Int.reduceEq, Int.reduceSub, Int.reduceAdd, Int.reduceMul, Int.reduceNeg, Int.reduceToNat])
    repeat' refine And.intro ?_ ?_
    all_goals try first | rfl | omega | (simp only [lnA] <;> omega) | ((first | refine stp ?_ | refine dkz_eq ?_ ?_) <;> first | rfl | omega | (simp only [lnA] <;> omega) | (simp only [lnA, List.append_assoc, List.cons_append, List.nil_append]; done) | skip)
  case' body1_0 =>
    rintro ms1 S1 ⟨k, h1_0, o1_3, h1_6, h1_7, c1_0, hm1⟩
    obtain ⟨i1_3, h1_3, b1_3, l1_3⟩ := o1_3.out
    have ni1_3 : ∀ c, (i1_3 = S1.n + c) = False := fun c => eq_false (by omega)
    have pi1_3 : ∀ c, (S1.n + c = i1_3) = False := fun c => eq_false (by omega)
    have qi1_3 : (i1_3 = S1.n) = False := eq_false (by omega)
    have ri1_3 : (S1.n = i1_3) = False := eq_false (by omega)
  have fc : True := trivial
  repeat' first
    | with_reducible first | refine stp ?_ | refine q_blk_o rfl ?_ | (refine hK _ ?_; clear hK) | (refine hA ?_; clear hA hB) | (refine hB ?_; clear hA hB) | exact v_end0 | exact v_end0' | refine v_gb1 ?_ ?_ | refine v_gb0 ?_ ?_ | refine And.intro ?_ ?_
    | (with_reducible refine p_ok ?_; decide)
    | ((first | with_reducible first | refine v_region rfl rfl (fun K hK => ?_) | refine v_draws rfl rfl (fun K hK => ?_) | refine v_if (fun A B hA hB => ?_) | refine v_end rfl ?_ | refine v_fin1 ?_ | refine v_finC1 ?_ | refine v_finR1 ?_ | refine v_finO1 rfl ?_ | refine v_finN1 rfl ?_ ?_ | refine v_apj ?_ (fun j' => ?_) | refine v_stz ?_ ?_ ?_ ?_ ?_ | refine v_stq ?_ | refine v_cv1 ?_ ?_ ?_ | (intro hc; replace fc := And.intro hc fc; try simp only [hcs] at hc)) <;> (try simp (config := { maxSteps := 1000000 }) only [go_sem, ↓reduceIte, reduceCtorEq, Nat.reduceEqDiff, Nat.reduceAdd, Nat.reduceMul, Nat.reduceSub, Nat.reduceLeDiff, Int.reduceLT, Int.reduceLE, Int.reduceEq, Int.reduceSub, Int.reduceAdd, Int.reduceMul, Int.reduceNeg, Int.reduceToNat, h1_0, h1_6, h1_7, h1_3, b1_3, ni1_3, pi1_3, qi1_3, ri1_3, fc]) <;> (try with_reducible rfl))
  all_goals have hl := idL_len (n := k)
  all_goals try (first | omega | (simp only [n_i64, n_u8]; omega) | (simp only [n_i64, n_u8, lnA]; omega) | (simp only [lnA]; done))
  · focus
      refine q_lp_n ((fun (k : Nat) => n.toNat - k) (k+1)) ?_ ⟨k+1, ?_, ?_, ?_, ?_, ?_, rfl⟩
      all_goals (try simp only [go_sem, ↓reduceIte, reduceCtorEq, Nat.reduceEqDiff, Nat.reduceAdd, Nat.reduceMul, Nat.reduceSub, Nat.reduceLeDiff, Int.reduceLT, Int.reduceLE, Int.reduceEq, Int.reduceSub, Int.reduceAdd, Int.reduceMul, Int.reduceNeg, Int.reduceToNat, h1_0, h1_6, h1_7, h1_3, b1_3, ni1_3, pi1_3, qi1_3, ri1_3])
      repeat' refine And.intro ?_ ?_
      all_goals try first | rfl | omega | (simp only [lnA] <;> omega) | ((first | refine stp ?_ | refine dkz_eq ?_ ?_) <;> first | rfl | omega | (simp only [lnA] <;> omega) | (simp only [lnA, List.append_assoc, List.cons_append, List.nil_append]; done) | skip)
    all_goals simp [idL_succ, idL_len]
  · rw [show k = n.toNat by omega]
theorem spec_IdentityPerm_c (n : Int) (h0 : 0 ≤ n) (h1 : n ≤ 8) : Fun Try.prog 160 [(.int .i64 (n))] [(.sl .own (List.map (PV.int .i64) (idL n.toNat)))] := by
  refine Fun.of (sg := sg0) (ts := [2]) mo Try.func160 rfl rfl rfl rfl (by kernel_rfl) (by simp only [go_sem]) rfl ?_
  have fc : True := trivial
  repeat' first
    | with_reducible first | refine stp ?_ | refine q_blk_o rfl ?_ | (refine hK _ ?_; clear hK) | (refine hA ?_; clear hA hB) | (refine hB ?_; clear hA hB) | exact v_end0 | exact v_end0' | refine v_gb1 ?_ ?_ | refine v_gb0 ?_ ?_ | refine And.intro ?_ ?_
    | (with_reducible refine p_ok ?_; decide)
    | ((first | with_reducible first | refine v_region rfl rfl (fun K hK => ?_) | refine v_draws rfl rfl (fun K hK => ?_) | refine v_if (fun A B hA hB => ?_) | refine v_end rfl ?_ | refine v_fin1 ?_ | refine v_finC1 ?_ | refine v_finR1 ?_ | refine v_finO1 rfl ?_ | refine v_finN1 rfl ?_ ?_ | refine v_apj ?_ (fun j' => ?_) | refine v_stz ?_ ?_ ?_ ?_ ?_ | refine v_stq ?_ | refine v_cv1 ?_ ?_ ?_ | (intro hc; replace fc := And.intro hc fc; try simp only [hcs] at hc)) <;> (try simp (config := { maxSteps := 1000000 }) only [go_sem, ↓reduceIte, reduceCtorEq, Nat.reduceEqDiff, Nat.reduceAdd, Nat.reduceMul, Nat.reduceSub, Nat.reduceLeDiff, Int.reduceLT, Int.reduceLE, Int.reduceEq, Int.reduceSub, Int.reduceAdd, Int.reduceMul, Int.reduceNeg, Int.reduceToNat, fc]) <;> (try with_reducible rfl))
  refine v_loop (fun ms1 S1 => ∃ (k : Nat), S1.e 0 = .p (.int .i64 (n)) ∧ OwnL (S1.e 3) S1.h S1.n (PV.int .i64) ((idL k).length) (idL k) ∧ S1.e 4 = .p (.int .i64 ((k+1))) ∧ ((k : Int) ≤ n) ∧ ms1 = n.toNat - k) ((fun (k : Nat) => n.toNat - k) (0)) ?init1_1 ?body1_1
  case' init1_1 =>
    refine ⟨0, ?_, ?_, ?_, ?_, rfl⟩
    all_goals (try simp only [go_sem, ↓reduceIte, reduceCtorEq, Nat.reduceEqDiff, Nat.reduceAdd, Nat.reduceMul, Nat.reduceSub, Nat.reduceLeDiff, Int.reduceLT, Int.reduceLE, Int.reduceEq, Int.reduceSub, Int.reduceAdd, Int.reduceMul, Int.reduceNeg, Int.reduceToNat])
    repeat' refine And.intro ?_ ?_
    all_goals try first | rfl | omega | (simp only [lnA] <;> omega) | ((first | refine stp ?_ | refine dkz_eq ?_ ?_) <;> first | rfl | omega | (simp only [lnA] <;> omega) | (simp only [lnA, List.append_assoc, List.cons_append, List.nil_append]; done) | skip)
  case' body1_1 =>
    rintro ms1 S1 ⟨k, h1_0, o1_3, h1_4, c1_0, hm1⟩
    obtain ⟨i1_3, h1_3, b1_3, l1_3⟩ := o1_3.out
    have ni1_3 : ∀ c, (i1_3 = S1.n + c) = False := fun c => eq_false (by omega)
    have pi1_3 : ∀ c, (S1.n + c = i1_3) = False := fun c => eq_false (by omega)
    have qi1_3 : (i1_3 = S1.n) = False := eq_false (by omega)
    have ri1_3 : (S1.n = i1_3) = False := eq_false (by omega)
  have fc : True := trivial
  repeat' first
    | with_reducible first | refine stp ?_ | refine q_blk_o rfl ?_ | (refine hK _ ?_; clear hK) | (refine hA ?_; clear hA hB) | (refine hB ?_; clear hA hB) | exact v_end0 | exact v_end0' | refine v_gb1 ?_ ?_ | refine v_gb0 ?_ ?_ | refine And.intro ?_ ?_
    | (with_reducible refine p_ok ?_; decide)
    | ((first | with_reducible first | refine v_region rfl rfl (fun K hK => ?_) | refine v_draws rfl rfl (fun K hK => ?_) | refine v_if (fun A B hA hB => ?_) | refine v_end rfl ?_ | refine v_fin1 ?_ | refine v_finC1 ?_ | refine v_finR1 ?_ | refine v_finO1 rfl ?_ | refine v_finN1 rfl ?_ ?_ | refine v_apj ?_ (fun j' => ?_) | refine v_stz ?_ ?_ ?_ ?_ ?_ | refine v_stq ?_ | refine v_cv1 ?_ ?_ ?_ | (intro hc; replace fc := And.intro hc fc; try simp only [hcs] at hc)) <;> (try simp (config := { maxSteps := 1000000 }) only [go_sem, ↓reduceIte, reduceCtorEq, Nat.reduceEqDiff, Nat.reduceAdd, Nat.reduceMul, Nat.reduceSub, Nat.reduceLeDiff, Int.reduceLT, Int.reduceLE, Int.reduceEq, Int.reduceSub, Int.reduceAdd, Int.reduceMul, Int.reduceNeg, Int.reduceToNat, h1_0, h1_4, h1_3, b1_3, ni1_3, pi1_3, qi1_3, ri1_3, fc]) <;> (try with_reducible rfl))
  all_goals have hl := idL_len (n := k)
  all_goals try (first | omega | (simp only [n_i64, n_u8]; omega) | (simp only [n_i64, n_u8, lnA]; omega) | (simp only [lnA]; done))
  · focus
      refine q_lp_n ((fun (k : Nat) => n.toNat - k) (k+1)) ?_ ⟨k+1, ?_, ?_, ?_, ?_, rfl⟩
      all_goals (try simp only [go_sem, ↓reduceIte, reduceCtorEq, Nat.reduceEqDiff, Nat.reduceAdd, Nat.reduceMul, Nat.reduceSub, Nat.reduceLeDiff, Int.reduceLT, Int.reduceLE, Int.reduceEq, Int.reduceSub, Int.reduceAdd, Int.reduceMul, Int.reduceNeg, Int.reduceToNat, h1_0, h1_4, h1_3, b1_3, ni1_3, pi1_3, qi1_3, ri1_3])
      repeat' refine And.intro ?_ ?_
      all_goals try first | rfl | omega | (simp only [lnA] <;> omega) | ((first | refine stp ?_ | refine dkz_eq ?_ ?_) <;> first | rfl | omega | (simp only [lnA] <;> omega) | (simp only [lnA, List.append_assoc, List.cons_append, List.nil_append]; done) | skip)
    all_goals simp [idL_succ, idL_len]
  · rw [show k = n.toNat by omega]
/-- What is left and taken, code by code. -/
def pocGo : List Int → List Int → List Int
  | [], _ => []
  | c :: cs, left => left.getD c.toNat 0 :: pocGo cs (left.take c.toNat ++ left.drop (c.toNat + 1))
/-- Each entry is within what is left. -/
def codeIn : List Int → Bool
  | [] => true
  | c :: cs => decide (0 ≤ c) && decide (c ≤ cs.length) && codeIn cs
theorem codeIn_at {cs : List Int} {k : Nat} (h : codeIn (cs.drop k) = true) (hk : k < cs.length) : 0 ≤ cs.getD k 0 ∧ cs.getD k 0 + k < cs.length ∧ codeIn (cs.drop (k + 1)) = true := by
  rw [dropI_at hk, codeIn] at h
  simp only [Bool.and_eq_true, decide_eq_true_eq, List.length_drop] at h
  exact ⟨h.1.1, by omega, h.2⟩
theorem cut_len {l : List Int} {c : Nat} (h : c < l.length) : (l.take c ++ l.drop (c + 1)).length = l.length - 1 := by simp; omega
theorem impl_permOfCode_c {m0 : Bool} (cs : List Int) (hl : cs.length ≤ 8) (hc : codeIn cs = true) : Fun Try.prog 159 [(.sl (.lent m0) (List.map (PV.int .i64) (cs)))] [(.sl .own (List.map (PV.int .i64) (pocGo cs (idL cs.length))))] := by
  have hid := idL_len (n := cs.length)
  refine Fun.of (sg := sgD) (ts := [2]) mo Try.func159 rfl rfl rfl rfl (by kernel_rfl) (by simp only [go_sem]) rfl ?_
  have fc : True := trivial
  repeat' first
    | with_reducible first | refine stp ?_ | refine q_blk_o rfl ?_ | (refine hK _ ?_; clear hK) | (refine hA ?_; clear hA hB) | (refine hB ?_; clear hA hB) | exact v_end0 | exact v_end0' | refine v_gb1 ?_ ?_ | refine v_gb0 ?_ ?_ | refine And.intro ?_ ?_
    | (with_reducible refine p_ok ?_; decide)
    | ((first | with_reducible first | refine v_region rfl rfl (fun K hK => ?_) | refine v_draws rfl rfl (fun K hK => ?_) | refine v_if (fun A B hA hB => ?_) | refine v_end rfl ?_ | refine v_fin1 ?_ | refine v_finC1 ?_ | refine v_finR1 ?_ | refine v_callE (impl_identity_c _ ?_ ?_) ?_ | refine v_finO1 rfl ?_ | refine v_finN1 rfl ?_ ?_ | refine v_apj ?_ (fun j' => ?_) | refine v_stz ?_ ?_ ?_ ?_ ?_ | refine v_stq ?_ | refine v_cv1 ?_ ?_ ?_ | (intro hc; replace fc := And.intro hc fc; try simp only [hcs] at hc)) <;> (try simp (config := { maxSteps := 1000000 }) only [go_sem, ↓reduceIte, reduceCtorEq, Nat.reduceEqDiff, Nat.reduceAdd, Nat.reduceMul, Nat.reduceSub, Nat.reduceLeDiff, Int.reduceLT, Int.reduceLE, Int.reduceEq, Int.reduceSub, Int.reduceAdd, Int.reduceMul, Int.reduceNeg, Int.reduceToNat, fc]) <;> (try with_reducible rfl))
  all_goals try (first | omega | (simp only [n_i64, n_u8]; omega) | (simp only [n_i64, n_u8, lnA]; omega) | (simp only [lnA]; done))
  refine v_loop (fun ms1 S1 => ∃ (k : Nat) (out : List Int) (left : List Int), S1.e 0 = .p (.sl (.lent m0) (List.map (PV.int .i64) (cs))) ∧ S1.e 11 = .p (.sl (.lent m0) (List.map (PV.int .i64) (cs))) ∧ S1.e 12 = .p (.int .i64 (cs.length)) ∧ OwnM (S1.e 3) S1.h S1.n (PV.int .i64) ((left).length) (left) ∧ OwnL (S1.e 4) S1.h S1.n (PV.int .i64) ((out).length) (out) ∧ S1.e 13 = .p (.int .i64 (k)) ∧ (k ≤ cs.length) ∧ (out.length = k) ∧ (left.length = cs.length - k) ∧ (codeIn (cs.drop k) = true) ∧ (pocGo cs (idL cs.length) = out ++ pocGo (cs.drop k) left) ∧ NId (S1.e 4) (S1.e 3) ∧ ms1 = cs.length - k) ((fun (k : Nat) (out : List Int) (left : List Int) => cs.length - k) (0) ([]) (idL cs.length)) ?init1_2 ?body1_2
  case' init1_2 =>
    refine ⟨0, [], idL cs.length, ?_, ?_, ?_, ?_, ?_, ?_, ?_, ?_, ?_, ?_, ?_, ?_, rfl⟩
    all_goals (try simp only [go_sem, ↓reduceIte, reduceCtorEq, Nat.reduceEqDiff, Nat.reduceAdd, Nat.reduceMul, Nat.reduceSub, Nat.reduceLeDiff, Int.reduceLT, Int.reduceLE, Int.reduceEq, Int.reduceSub, Int.reduceAdd, Int.reduceMul, Int.reduceNeg, Int.reduceToNat])
    repeat' refine And.intro ?_ ?_
    all_goals try first | rfl | omega | (simp only [lnA] <;> omega) | ((first | refine stp ?_ | refine dkz_eq ?_ ?_) <;> first | rfl | omega | (simp only [lnA] <;> omega) | (simp only [lnA, List.append_assoc, List.cons_append, List.nil_append]; done) | skip)
  case' body1_2 =>
    rintro ms1 S1 ⟨k, out, left, h1_0, h1_11, h1_12, o1_3, o1_4, h1_13, c1_0, c1_1, c1_2, c1_3, c1_4, u1_0, hm1⟩
    obtain ⟨i1_3, mm1_3, h1_3, b1_3, l1_3⟩ := o1_3.out
    obtain ⟨i1_4, h1_4, b1_4, l1_4⟩ := o1_4.out
    have k1_0 := (u1_0).out h1_4 h1_3
    have ni1_3 : ∀ c, (i1_3 = S1.n + c) = False := fun c => eq_false (by omega)
    have pi1_3 : ∀ c, (S1.n + c = i1_3) = False := fun c => eq_false (by omega)
    have qi1_3 : (i1_3 = S1.n) = False := eq_false (by omega)
    have ri1_3 : (S1.n = i1_3) = False := eq_false (by omega)
    have ni1_4 : ∀ c, (i1_4 = S1.n + c) = False := fun c => eq_false (by omega)
    have pi1_4 : ∀ c, (S1.n + c = i1_4) = False := fun c => eq_false (by omega)
    have qi1_4 : (i1_4 = S1.n) = False := eq_false (by omega)
    have ri1_4 : (S1.n = i1_4) = False := eq_false (by omega)
    have di1_3i1_4 : (i1_3 = i1_4) = False := eq_false (by omega)
    have di1_4i1_3 : (i1_4 = i1_3) = False := eq_false (by omega)
  have fc : True := trivial
  repeat' first
    | with_reducible first | refine stp ?_ | refine q_blk_o rfl ?_ | (refine hK _ ?_; clear hK) | (refine hA ?_; clear hA hB) | (refine hB ?_; clear hA hB) | exact v_end0 | exact v_end0' | refine v_gb1 ?_ ?_ | refine v_gb0 ?_ ?_ | refine And.intro ?_ ?_
    | (with_reducible refine p_ok ?_; decide)
    | ((first | with_reducible first | refine v_region rfl rfl (fun K hK => ?_) | refine v_draws rfl rfl (fun K hK => ?_) | refine v_if (fun A B hA hB => ?_) | refine v_end rfl ?_ | refine v_fin1 ?_ | refine v_finC1 ?_ | refine v_finR1 ?_ | refine v_callE (impl_identity_c _ ?_ ?_) ?_ | refine v_callN (slices_Delete_c _ _ _ ?_ ?_ ?_ ?_) rfl ?_ ?_ | refine v_callT (slices_Delete_c _ _ _ ?_ ?_ ?_ ?_) rfl ?_ ?_ | refine v_callTd (slices_Delete_c _ _ _ ?_ ?_ ?_ ?_) rfl ?_ ?_ | refine v_callR (slices_Delete_c _ _ _ ?_ ?_ ?_ ?_) rfl ?_ ?_ | refine v_callT3 (slices_Delete_c _ _ _ ?_ ?_ ?_ ?_) ?_ ?_ | refine v_callT4 (slices_Delete_c _ _ _ ?_ ?_ ?_ ?_) ?_ ?_ | refine v_finO1 rfl ?_ | refine v_finN1 rfl ?_ ?_ | refine v_apj ?_ (fun j' => ?_) | refine v_stz ?_ ?_ ?_ ?_ ?_ | refine v_stq ?_ | refine v_cv1 ?_ ?_ ?_ | (intro hc; replace fc := And.intro hc fc; try simp only [hcs] at hc)) <;> (try simp (config := { maxSteps := 1000000 }) only [go_sem, ↓reduceIte, reduceCtorEq, Nat.reduceEqDiff, Nat.reduceAdd, Nat.reduceMul, Nat.reduceSub, Nat.reduceLeDiff, Int.reduceLT, Int.reduceLE, Int.reduceEq, Int.reduceSub, Int.reduceAdd, Int.reduceMul, Int.reduceNeg, Int.reduceToNat, h1_0, h1_11, h1_12, h1_13, h1_3, b1_3, h1_4, b1_4, ni1_3, pi1_3, qi1_3, ri1_3, ni1_4, pi1_4, qi1_4, ri1_4, di1_3i1_4, di1_4i1_3, fc]) <;> (try with_reducible rfl))
  all_goals rcases Nat.lt_or_ge k cs.length with hk | hk
  all_goals try (have q0 := codeIn_at c1_3 hk; obtain ⟨q1, q2, q3⟩ := q0)
  all_goals try (first | omega | (simp only [n_i64, n_u8]; omega) | (simp only [n_i64, n_u8, lnA]; omega) | (simp only [lnA]; done))
  · focus
      refine q_lp_n ((fun (k : Nat) (out : List Int) (left : List Int) => cs.length - k) (k+1) (out ++ [left.getD (cs.getD k 0).toNat 0]) (left.take (cs.getD k 0).toNat ++ left.drop ((cs.getD k 0).toNat + 1))) ?_ ⟨k+1, out ++ [left.getD (cs.getD k 0).toNat 0], left.take (cs.getD k 0).toNat ++ left.drop ((cs.getD k 0).toNat + 1), ?_, ?_, ?_, ?_, ?_, ?_, ?_, ?_, ?_, ?_, ?_, ?_, rfl⟩
      all_goals (try simp only [go_sem, ↓reduceIte, reduceCtorEq, Nat.reduceEqDiff, Nat.reduceAdd, Nat.reduceMul, Nat.reduceSub, Nat.reduceLeDiff, Int.reduceLT, Int.reduceLE, Int.reduceEq, Int.reduceSub, Int.reduceAdd, Int.reduceMul, Int.reduceNeg, Int.reduceToNat, h1_0, h1_11, h1_12, h1_13, h1_3, b1_3, h1_4, b1_4, ni1_3, pi1_3, qi1_3, ri1_3, ni1_4, pi1_4, qi1_4, ri1_4, di1_3i1_4, di1_4i1_3])
      repeat' refine And.intro ?_ ?_
      all_goals try first | rfl | omega | (simp only [lnA] <;> omega) | ((first | refine stp ?_ | refine dkz_eq ?_ ?_) <;> first | rfl | omega | (simp only [lnA] <;> omega) | (simp only [lnA, List.append_assoc, List.cons_append, List.nil_append]; done) | skip)
    · rw [show (cs.getD k 0 + 1).toNat = (cs.getD k 0).toNat + 1 by omega]
    · rw [c1_4, dropI_at (by omega : k < cs.length), pocGo]
  · rw [c1_4, List.drop_of_length_le (by omega : cs.length ≤ k), pocGo, List.append_nil]
theorem spec_PermOfCode_c {m0 : Bool} (cs : List Int) (hl : cs.length ≤ 8) (hc : codeIn cs = true) : Fun Try.prog 65 [(.sl (.lent m0) (List.map (PV.int .i64) (cs)))] [(.sl .own (List.map (PV.int .i64) (pocGo cs (idL cs.length)))), (.bool (true))] := by
  have hid := idL_len (n := cs.length)
  refine Fun.of (sg := sg0) (ts := [2, 3]) mo Try.func65 rfl rfl rfl rfl (by kernel_rfl) (by simp only [go_sem]) rfl ?_
  have fc : True := trivial
  repeat' first
    | with_reducible first | refine stp ?_ | refine q_blk_o rfl ?_ | (refine hK _ ?_; clear hK) | (refine hA ?_; clear hA hB) | (refine hB ?_; clear hA hB) | exact v_end0 | exact v_end0' | refine v_gb1 ?_ ?_ | refine v_gb0 ?_ ?_ | refine And.intro ?_ ?_
    | (with_reducible refine hK _ _ ?_ ?_; focus (first | exact clearAll_quiet rfl | (refine clearAll_of [true, false, false, false, false, false, false, true, false, false, false, false, false, false, false, true, false] [(0, 1), (0, 2), (0, 3), (0, 4), (0, 5), (0, 6), (0, 8), (7, 8), (0, 9), (7, 9), (0, 10), (7, 10), (0, 11), (7, 11), (0, 12), (7, 12), (0, 13), (7, 13), (0, 14), (7, 14)] rfl (by decide +kernel) ?_; try simp only [go_sem, ↓reduceIte, reduceCtorEq, Nat.reduceEqDiff, Nat.reduceAdd, Nat.reduceMul, Nat.reduceSub, Nat.reduceLeDiff, Int.reduceLT, Int.reduceLE, Int.reduceEq, Int.reduceSub, Int.reduceAdd, Int.reduceMul, Int.reduceNeg, Int.reduceToNat])); all_goals (try clear hK))
    | (with_reducible refine p_ok ?_; decide)
    | ((first | with_reducible first | refine v_region rfl rfl (fun K hK => ?_) | refine v_draws rfl rfl (fun K hK => ?_) | refine v_if (fun A B hA hB => ?_) | refine v_end rfl ?_ | refine v_fin1 ?_ | refine v_finC1 ?_ | refine v_finR1 ?_ | refine v_callE (spec_l1In_c _ _ _) ?_ | refine v_callE (spec_IdentityPerm_c _ ?_ ?_) ?_ | refine v_finO1 rfl ?_ | refine v_finN1 rfl ?_ ?_ | refine v_apj ?_ (fun j' => ?_) | refine v_stz ?_ ?_ ?_ ?_ ?_ | refine v_stq ?_ | refine v_cv1 ?_ ?_ ?_ | (intro hc; replace fc := And.intro hc fc; try simp only [hcs] at hc)) <;> (try simp (config := { maxSteps := 1000000 }) only [go_sem, ↓reduceIte, reduceCtorEq, Nat.reduceEqDiff, Nat.reduceAdd, Nat.reduceMul, Nat.reduceSub, Nat.reduceLeDiff, Int.reduceLT, Int.reduceLE, Int.reduceEq, Int.reduceSub, Int.reduceAdd, Int.reduceMul, Int.reduceNeg, Int.reduceToNat, fc]) <;> (try with_reducible rfl))
  all_goals try (first | omega | (simp only [n_i64, n_u8]; omega) | (simp only [n_i64, n_u8, lnA]; omega) | (simp only [lnA]; done))
  refine v_loop (fun ms1 S1 => ∃ (k : Nat) (out : List Int) (left : List Int), S1.e 0 = .p (.sl (.lent m0) (List.map (PV.int .i64) (cs))) ∧ OwnL (S1.e 4) S1.h S1.n (PV.int .i64) ((left).length) (left) ∧ OwnL (S1.e 5) S1.h S1.n (PV.int .i64) ((out).length) (out) ∧ S1.e 6 = .p (.int .i64 (k)) ∧ (k ≤ cs.length) ∧ (out.length = k) ∧ (left.length = cs.length - k) ∧ (codeIn (cs.drop k) = true) ∧ (pocGo cs (idL cs.length) = out ++ pocGo (cs.drop k) left) ∧ NId (S1.e 5) (S1.e 4) ∧ ms1 = cs.length - k) ((fun (k : Nat) (out : List Int) (left : List Int) => cs.length - k) (0) ([]) (idL cs.length)) ?init1_3 ?body1_3
  case' init1_3 =>
    refine ⟨0, [], idL cs.length, ?_, ?_, ?_, ?_, ?_, ?_, ?_, ?_, ?_, ?_, rfl⟩
    all_goals (try simp only [go_sem, ↓reduceIte, reduceCtorEq, Nat.reduceEqDiff, Nat.reduceAdd, Nat.reduceMul, Nat.reduceSub, Nat.reduceLeDiff, Int.reduceLT, Int.reduceLE, Int.reduceEq, Int.reduceSub, Int.reduceAdd, Int.reduceMul, Int.reduceNeg, Int.reduceToNat])
    repeat' refine And.intro ?_ ?_
    all_goals try first | rfl | omega | (simp only [lnA] <;> omega) | ((first | refine stp ?_ | refine dkz_eq ?_ ?_) <;> first | rfl | omega | (simp only [lnA] <;> omega) | (simp only [lnA, List.append_assoc, List.cons_append, List.nil_append]; done) | skip)
  case' body1_3 =>
    rintro ms1 S1 ⟨k, out, left, h1_0, o1_4, o1_5, h1_6, c1_0, c1_1, c1_2, c1_3, c1_4, u1_0, hm1⟩
    obtain ⟨i1_4, h1_4, b1_4, l1_4⟩ := o1_4.out
    obtain ⟨i1_5, h1_5, b1_5, l1_5⟩ := o1_5.out
    have k1_0 := (u1_0).out h1_5 h1_4
    have ni1_4 : ∀ c, (i1_4 = S1.n + c) = False := fun c => eq_false (by omega)
    have pi1_4 : ∀ c, (S1.n + c = i1_4) = False := fun c => eq_false (by omega)
    have qi1_4 : (i1_4 = S1.n) = False := eq_false (by omega)
    have ri1_4 : (S1.n = i1_4) = False := eq_false (by omega)
    have ni1_5 : ∀ c, (i1_5 = S1.n + c) = False := fun c => eq_false (by omega)
    have pi1_5 : ∀ c, (S1.n + c = i1_5) = False := fun c => eq_false (by omega)
    have qi1_5 : (i1_5 = S1.n) = False := eq_false (by omega)
    have ri1_5 : (S1.n = i1_5) = False := eq_false (by omega)
    have di1_4i1_5 : (i1_4 = i1_5) = False := eq_false (by omega)
    have di1_5i1_4 : (i1_5 = i1_4) = False := eq_false (by omega)
  have fc : True := trivial
  repeat' first
    | with_reducible first | refine stp ?_ | refine q_blk_o rfl ?_ | (refine hK _ ?_; clear hK) | (refine hA ?_; clear hA hB) | (refine hB ?_; clear hA hB) | exact v_end0 | exact v_end0' | refine v_gb1 ?_ ?_ | refine v_gb0 ?_ ?_ | refine And.intro ?_ ?_
    | (with_reducible refine hK _ _ ?_ ?_; focus (first | exact clearAll_quiet rfl | (refine clearAll_of [true, false, false, false, false, false, false, true, false, false, false, false, false, false, false, true, false] [(0, 1), (0, 2), (0, 3), (0, 4), (0, 5), (0, 6), (0, 8), (7, 8), (0, 9), (7, 9), (0, 10), (7, 10), (0, 11), (7, 11), (0, 12), (7, 12), (0, 13), (7, 13), (0, 14), (7, 14)] rfl (by decide +kernel) ?_; try simp only [go_sem, ↓reduceIte, reduceCtorEq, Nat.reduceEqDiff, Nat.reduceAdd, Nat.reduceMul, Nat.reduceSub, Nat.reduceLeDiff, Int.reduceLT, Int.reduceLE, Int.reduceEq, Int.reduceSub, Int.reduceAdd, Int.reduceMul, Int.reduceNeg, Int.reduceToNat, h1_0, h1_6, h1_4, b1_4, h1_5, b1_5, ni1_4, pi1_4, qi1_4, ri1_4, ni1_5, pi1_5, qi1_5, ri1_5, di1_4i1_5, di1_5i1_4])); all_goals (try clear hK))
    | (with_reducible refine p_ok ?_; decide)
    | ((first | with_reducible first | refine v_region rfl rfl (fun K hK => ?_) | refine v_draws rfl rfl (fun K hK => ?_) | refine v_if (fun A B hA hB => ?_) | refine v_end rfl ?_ | refine v_fin1 ?_ | refine v_finC1 ?_ | refine v_finR1 ?_ | refine v_callE (spec_l1In_c _ _ _) ?_ | refine v_callE (spec_IdentityPerm_c _ ?_ ?_) ?_ | refine v_finO1 rfl ?_ | refine v_finN1 rfl ?_ ?_ | refine v_apj ?_ (fun j' => ?_) | refine v_stz ?_ ?_ ?_ ?_ ?_ | refine v_stq ?_ | refine v_cv1 ?_ ?_ ?_ | (intro hc; replace fc := And.intro hc fc; try simp only [hcs] at hc)) <;> (try simp (config := { maxSteps := 1000000 }) only [go_sem, ↓reduceIte, reduceCtorEq, Nat.reduceEqDiff, Nat.reduceAdd, Nat.reduceMul, Nat.reduceSub, Nat.reduceLeDiff, Int.reduceLT, Int.reduceLE, Int.reduceEq, Int.reduceSub, Int.reduceAdd, Int.reduceMul, Int.reduceNeg, Int.reduceToNat, h1_0, h1_6, h1_4, b1_4, h1_5, b1_5, ni1_4, pi1_4, qi1_4, ri1_4, ni1_5, pi1_5, qi1_5, ri1_5, di1_4i1_5, di1_5i1_4, fc]) <;> (try with_reducible rfl))
  all_goals rcases Nat.lt_or_ge k cs.length with hk | hk
  all_goals try (have q0 := codeIn_at c1_3 hk; obtain ⟨q1, q2, q3⟩ := q0)
  all_goals try (first | omega | (simp only [n_i64, n_u8]; omega) | (simp only [n_i64, n_u8, lnA]; omega) | (simp only [lnA]; done))
  · focus
      refine q_lp_n ((fun (k : Nat) (out : List Int) (left : List Int) => cs.length - k) (k+1) (out ++ [left.getD (cs.getD k 0).toNat 0]) (left.take (cs.getD k 0).toNat ++ left.drop ((cs.getD k 0).toNat + 1))) ?_ ⟨k+1, out ++ [left.getD (cs.getD k 0).toNat 0], left.take (cs.getD k 0).toNat ++ left.drop ((cs.getD k 0).toNat + 1), ?_, ?_, ?_, ?_, ?_, ?_, ?_, ?_, ?_, ?_, rfl⟩
      all_goals (try simp only [go_sem, ↓reduceIte, reduceCtorEq, Nat.reduceEqDiff, Nat.reduceAdd, Nat.reduceMul, Nat.reduceSub, Nat.reduceLeDiff, Int.reduceLT, Int.reduceLE, Int.reduceEq, Int.reduceSub, Int.reduceAdd, Int.reduceMul, Int.reduceNeg, Int.reduceToNat, h1_0, h1_6, h1_4, b1_4, h1_5, b1_5, ni1_4, pi1_4, qi1_4, ri1_4, ni1_5, pi1_5, qi1_5, ri1_5, di1_4i1_5, di1_5i1_4])
      repeat' refine And.intro ?_ ?_
      all_goals try first | rfl | omega | (simp only [lnA] <;> omega) | ((first | refine stp ?_ | refine dkz_eq ?_ ?_) <;> first | rfl | omega | (simp only [lnA] <;> omega) | (simp only [lnA, List.append_assoc, List.cons_append, List.nil_append]; done) | skip)
    · rw [show (cs.getD k 0 + 1).toNat = (cs.getD k 0).toNat + 1 by omega]
      congr 1
      exact List.take_of_length_le (by simp)
    · rw [c1_4, dropI_at (by omega : k < cs.length), pocGo]
  · rw [c1_4, List.drop_of_length_le (by omega : cs.length ≤ k), pocGo, List.append_nil]
def facn : Nat → Nat
  | 0 => 1
  | n + 1 => (n + 1) * facn n
theorem facn_pos : ∀ n, 0 < facn n
  | 0 => by decide
  | n + 1 => Nat.mul_pos (by omega) (facn_pos n)
theorem facN_n : ∀ n, facN n = (facn n : Int)
  | 0 => rfl
  | n + 1 => by rw [facN, facn, facN_n n]; simp
/-- The k-th digit of a rank. -/
def cdAt (n r k : Nat) : Nat := (r / facn (n - 1 - k)) % (n - k)
def cdL (n r : Nat) : List Int := (List.range n).map fun k => (cdAt n r k : Int)
theorem cdL_len {n r : Nat} : (cdL n r).length = n := by simp [cdL]
theorem cdL_at {n r k : Nat} (h : k < n) : (cdL n r).getD k 0 = cdAt n r k := by
  rw [List.getD_eq_getElem?_getD]; simp [cdL, h]
theorem cdL_in {n r : Nat} : codeIn (cdL n r) = true := by
  have key : ∀ m, m ≤ n → codeIn ((cdL n r).drop (n - m)) = true := by
    intro m
    induction m with
    | zero => intro _; rw [Nat.sub_zero, List.drop_of_length_le (by rw [cdL_len]; exact Nat.le_refl n)]; rfl
    | succ m ih =>
      intro hm
      have hlt : n - (m + 1) < n := by omega
      rw [dropI_at (by rw [cdL_len]; exact hlt), codeIn, show n - (m + 1) + 1 = n - m by omega, ih (by omega), cdL_at hlt]
      simp only [List.length_drop, cdL_len, Bool.and_true, Bool.and_eq_true, decide_eq_true_eq]
      have : cdAt n r (n - (m + 1)) < n - (n - (m + 1)) := Nat.mod_lt _ (by omega)
      omega
  have := key n (Nat.le_refl n)
  rwa [Nat.sub_self, List.drop_zero] at this
theorem facn_split {n k : Nat} (h : k < n) : facn (n - k) = (n - k) * facn (n - 1 - k) := by
  rw [show n - k = (n - 1 - k) + 1 by omega, facn]
def paOk (n r : Int) : Bool := decide (0 ≤ n) && decide (n ≤ 8) && decide (0 ≤ r) && decide (r < facN n.toNat)
def paL (n r : Int) : List Int := if paOk n r then pocGo (cdL n.toNat r.toNat) (idL n.toNat) else []
theorem impl_PermAt_c (n r : Int) (hr : r ≤ 9223372036854775807) : Fun Try.prog 67 [(.int .i64 (n)), (.int .i64 (r))] [(.sl .own (List.map (PV.int .i64) (paL n r))), (.bool (paOk n r))] := by
  by_cases hn : 0 ≤ n ∧ n ≤ 8
  · obtain ⟨N, rfl⟩ := Int.eq_ofNat_of_zero_le hn.1
    have hf8 := facN_8 (n := N) (by omega)
    have hfp := facN_pos N
    by_cases h : 0 ≤ r ∧ r < facN N
    · obtain ⟨Rr, rfl⟩ := Int.eq_ofNat_of_zero_le h.1
      have hok : paOk N Rr = true := by simp [paOk]; omega
      have hcl := cdL_len (n := N) (r := Rr)
      have hci := cdL_in (n := N) (r := Rr)
      rw [paL, if_pos hok, hok]
      simp only [Int.toNat_natCast]
      refine Fun.of (sg := sg0) (ts := [4, 5]) mo Try.func67 rfl rfl rfl rfl (by kernel_rfl) (by simp only [go_sem]) rfl ?_
      have fc : True := trivial
      repeat' first
        | with_reducible first | refine stp ?_ | refine q_blk_o rfl ?_ | (refine hK _ ?_; clear hK) | (refine hA ?_; clear hA hB) | (refine hB ?_; clear hA hB) | exact v_end0 | exact v_end0' | refine v_gb1 ?_ ?_ | refine v_gb0 ?_ ?_ | refine And.intro ?_ ?_
        | (with_reducible refine p_ok ?_; decide)
        | ((first | with_reducible first | refine v_region rfl rfl (fun K hK => ?_) | refine v_draws rfl rfl (fun K hK => ?_) | refine v_if (fun A B hA hB => ?_) | refine v_end rfl ?_ | refine v_fin1 ?_ | refine v_finC1 ?_ | refine v_finR1 ?_ | refine v_callE (impl_factorial_c _ ?_) ?_ | refine v_callE (impl_permOfCode_c _ ?_ ?_) ?_ | refine v_finO1 rfl ?_ | refine v_finN1 rfl ?_ ?_ | refine v_apj ?_ (fun j' => ?_) | refine v_stz ?_ ?_ ?_ ?_ ?_ | refine v_stq ?_ | refine v_cv1 ?_ ?_ ?_ | (intro hc; replace fc := And.intro hc fc; try simp only [hcs] at hc)) <;> (try simp (config := { maxSteps := 1000000 }) only [go_sem, ↓reduceIte, reduceCtorEq, Nat.reduceEqDiff, Nat.reduceAdd, Nat.reduceMul, Nat.reduceSub, Nat.reduceLeDiff, Int.reduceLT, Int.reduceLE, Int.reduceEq, Int.reduceSub, Int.reduceAdd, Int.reduceMul, Int.reduceNeg, Int.reduceToNat, fc]) <;> (try with_reducible rfl))
      all_goals try simp only [facI, Int.toNat_natCast] at hc
      all_goals try (first | omega | (simp only [n_i64, n_u8]; omega) | (simp only [n_i64, n_u8, lnA]; omega) | (simp only [lnA]; done))
      refine v_loop (fun ms1 S1 => ∃ (k : Nat) (rk : Nat) (out : List Int), S1.e 0 = .p (.int .i64 (N)) ∧ S1.e 1 = .p (.int .i64 (rk)) ∧ OwnL (S1.e 6) S1.h S1.n (PV.int .i64) ((out).length) (out) ∧ S1.e 26 = .p (.int .i64 (N)) ∧ S1.e 27 = .p (.int .i64 (k)) ∧ (k ≤ N) ∧ (out = (cdL N Rr).take k) ∧ (rk = Rr % facn (N - k)) ∧ ms1 = N - k) ((fun (k : Nat) (rk : Nat) (out : List Int) => N - k) (0) (Rr) ([])) ?init1_4 ?body1_4
      case' init1_4 =>
        refine ⟨0, Rr, [], ?_, ?_, ?_, ?_, ?_, ?_, ?_, ?_, rfl⟩
        all_goals (try simp only [go_sem, ↓reduceIte, reduceCtorEq, Nat.reduceEqDiff, Nat.reduceAdd, Nat.reduceMul, Nat.reduceSub, Nat.reduceLeDiff, Int.reduceLT, Int.reduceLE, Int.reduceEq, Int.reduceSub, Int.reduceAdd, Int.reduceMul, Int.reduceNeg, Int.reduceToNat])
        repeat' refine And.intro ?_ ?_
        all_goals try first | rfl | omega | (simp only [lnA] <;> omega) | ((first | refine stp ?_ | refine dkz_eq ?_ ?_) <;> first | rfl | omega | (simp only [lnA] <;> omega) | (simp only [lnA, List.append_assoc, List.cons_append, List.nil_append]; done) | skip)
      case' body1_4 =>
        rintro ms1 S1 ⟨k, rk, out, h1_0, h1_1, o1_6, h1_26, h1_27, c1_0, c1_1, c1_2, hm1⟩
        obtain ⟨i1_6, h1_6, b1_6, l1_6⟩ := o1_6.out
        have ni1_6 : ∀ c, (i1_6 = S1.n + c) = False := fun c => eq_false (by omega)
        have pi1_6 : ∀ c, (S1.n + c = i1_6) = False := fun c => eq_false (by omega)
        have qi1_6 : (i1_6 = S1.n) = False := eq_false (by omega)
        have ri1_6 : (S1.n = i1_6) = False := eq_false (by omega)
      have fc : True := trivial
      repeat' first
        | with_reducible first | refine stp ?_ | refine q_blk_o rfl ?_ | (refine hK _ ?_; clear hK) | (refine hA ?_; clear hA hB) | (refine hB ?_; clear hA hB) | exact v_end0 | exact v_end0' | refine v_gb1 ?_ ?_ | refine v_gb0 ?_ ?_ | refine And.intro ?_ ?_
        | (with_reducible refine p_ok ?_; decide)
        | ((first | with_reducible first | refine v_region rfl rfl (fun K hK => ?_) | refine v_draws rfl rfl (fun K hK => ?_) | refine v_if (fun A B hA hB => ?_) | refine v_end rfl ?_ | refine v_fin1 ?_ | refine v_finC1 ?_ | refine v_finR1 ?_ | refine v_callE (impl_factorial_c _ ?_) ?_ | refine v_callE (impl_permOfCode_c _ ?_ ?_) ?_ | refine v_finO1 rfl ?_ | refine v_finN1 rfl ?_ ?_ | refine v_apj ?_ (fun j' => ?_) | refine v_stz ?_ ?_ ?_ ?_ ?_ | refine v_stq ?_ | refine v_cv1 ?_ ?_ ?_ | (intro hc; replace fc := And.intro hc fc; try simp only [hcs] at hc)) <;> (try simp (config := { maxSteps := 1000000 }) only [go_sem, ↓reduceIte, reduceCtorEq, Nat.reduceEqDiff, Nat.reduceAdd, Nat.reduceMul, Nat.reduceSub, Nat.reduceLeDiff, Int.reduceLT, Int.reduceLE, Int.reduceEq, Int.reduceSub, Int.reduceAdd, Int.reduceMul, Int.reduceNeg, Int.reduceToNat, h1_0, h1_1, h1_26, h1_27, h1_6, b1_6, ni1_6, pi1_6, qi1_6, ri1_6, fc]) <;> (try with_reducible rfl))
      all_goals try (have hkk : k < N ∨ N ≤ k := Nat.lt_or_ge k N; rcases hkk with hk | hk)
      all_goals try (have e9 : out.length = k := by rw [c1_1, List.length_take]; omega)
      all_goals try
        have hkk := hk
        have e0 : facI ((N : Int) - 1 - k) = (facn (N - 1 - k) : Int) := by rw [facI, facN_n]; congr 2; omega
        have e1 := facn_pos (N - 1 - k)
        have e2 : facn (N - k) = (N - k) * facn (N - 1 - k) := facn_split (Nat.lt_of_not_le (fun h' => absurd hk (Nat.not_lt.2 h')))
        have e3 : facn (N - k) ≤ facn (N - k) * 1 := by omega
        have e5 : rk / facn (N - 1 - k) ≤ rk := Nat.div_le_self _ _
        have e6 : rk ≤ Rr := by rw [c1_2]; exact Nat.mod_le _ _
        have e7 : ((rk : Int)).tdiv (facn (N - 1 - k) : Int) = ((rk / facn (N - 1 - k) : Nat) : Int) := (Int.ofNat_tdiv _ _).symm
        have e8 : ((rk : Int)).tmod (facn (N - 1 - k) : Int) = ((rk % facn (N - 1 - k) : Nat) : Int) := (Int.ofNat_tmod _ _).symm
        have e10 : (0 : Int) ≤ ((rk / facn (N - 1 - k) : Nat) : Int) := Int.natCast_nonneg _
        have e11 : ((rk / facn (N - 1 - k) : Nat) : Int) ≤ 40320 := by
          have : rk / facn (N - 1 - k) ≤ Rr := Nat.le_trans e5 e6
          have : ((rk / facn (N - 1 - k) : Nat) : Int) ≤ (Rr : Int) := Int.ofNat_le.2 this
          omega
      all_goals try rw [e0] at hc
      all_goals try rw [e0, e7]
      all_goals try (first | omega | (simp only [n_i64, n_u8]; omega) | (simp only [n_i64, n_u8, lnA]; omega) | (simp only [lnA]; done))
      · focus
          refine q_lp_n ((fun (k : Nat) (rk : Nat) (out : List Int) => N - k) (k+1) (rk % facn (N - 1 - k)) (out ++ [((rk / facn (N - 1 - k) : Nat) : Int)])) ?_ ⟨k+1, rk % facn (N - 1 - k), out ++ [((rk / facn (N - 1 - k) : Nat) : Int)], ?_, ?_, ?_, ?_, ?_, ?_, ?_, ?_, rfl⟩
          all_goals (try simp only [go_sem, ↓reduceIte, reduceCtorEq, Nat.reduceEqDiff, Nat.reduceAdd, Nat.reduceMul, Nat.reduceSub, Nat.reduceLeDiff, Int.reduceLT, Int.reduceLE, Int.reduceEq, Int.reduceSub, Int.reduceAdd, Int.reduceMul, Int.reduceNeg, Int.reduceToNat, h1_0, h1_1, h1_26, h1_27, h1_6, b1_6, ni1_6, pi1_6, qi1_6, ri1_6])
          repeat' refine And.intro ?_ ?_
          all_goals try first | rfl | omega | (simp only [lnA] <;> omega) | ((first | refine stp ?_ | refine dkz_eq ?_ ?_) <;> first | rfl | omega | (simp only [lnA] <;> omega) | (simp only [lnA, List.append_assoc, List.cons_append, List.nil_append]; done) | skip)
        · rw [List.take_add_one, ← c1_1]
          congr 1
          have := cdL_at (r := Rr) hk
          rw [List.getD_eq_getElem?_getD, List.getElem?_eq_getElem (by rw [hcl]; exact hk), Option.getD_some] at this
          rw [List.getElem?_eq_getElem (by rw [hcl]; exact hk), Option.toList_some, this, cdAt, c1_2, e2, Nat.mul_comm, Nat.mod_mul_right_div_self]
        · rw [c1_2, e2, show N - (k + 1) = N - 1 - k by omega, Nat.mod_mul_left_mod]
      · rw [c1_1, List.take_of_length_le (by omega)]; exact hci
      · rw [c1_1, List.take_of_length_le (by omega), hcl]
      · rw [Nat.mod_eq_of_lt]; have := facN_n N; omega
    · have hok : paOk N r = false := by simp [paOk]; omega
      rw [paL, hok]
      refine Fun.of (sg := sg0) (ts := [4, 5]) mo Try.func67 rfl rfl rfl rfl (by kernel_rfl) (by simp only [go_sem]) rfl ?_
      have fc : True := trivial
      repeat' first
        | with_reducible first | refine stp ?_ | refine q_blk_o rfl ?_ | (refine hK _ ?_; clear hK) | (refine hA ?_; clear hA hB) | (refine hB ?_; clear hA hB) | exact v_end0 | exact v_end0' | refine v_gb1 ?_ ?_ | refine v_gb0 ?_ ?_ | refine And.intro ?_ ?_
        | (with_reducible refine p_ok ?_; decide)
        | ((first | with_reducible first | refine v_region rfl rfl (fun K hK => ?_) | refine v_draws rfl rfl (fun K hK => ?_) | refine v_if (fun A B hA hB => ?_) | refine v_end rfl ?_ | refine v_fin1 ?_ | refine v_finC1 ?_ | refine v_finR1 ?_ | refine v_callE (impl_factorial_c _ ?_) ?_ | refine v_callE (impl_permOfCode_c _ ?_ ?_) ?_ | refine v_finO1 rfl ?_ | refine v_finN1 rfl ?_ ?_ | refine v_apj ?_ (fun j' => ?_) | refine v_stz ?_ ?_ ?_ ?_ ?_ | refine v_stq ?_ | refine v_cv1 ?_ ?_ ?_ | (intro hc; replace fc := And.intro hc fc; try simp only [hcs] at hc)) <;> (try simp (config := { maxSteps := 1000000 }) only [go_sem, ↓reduceIte, reduceCtorEq, Nat.reduceEqDiff, Nat.reduceAdd, Nat.reduceMul, Nat.reduceSub, Nat.reduceLeDiff, Int.reduceLT, Int.reduceLE, Int.reduceEq, Int.reduceSub, Int.reduceAdd, Int.reduceMul, Int.reduceNeg, Int.reduceToNat, fc]) <;> (try with_reducible rfl))
      all_goals try simp only [facI, Int.toNat_natCast] at hc
      all_goals try (first | omega | (simp only [n_i64, n_u8]; omega) | (simp only [n_i64, n_u8, lnA]; omega) | (simp only [lnA]; done))
  · have hok : paOk n r = false := by simp [paOk]; omega
    rw [paL, hok]
    refine Fun.of (sg := sg0) (ts := [4, 5]) mo Try.func67 rfl rfl rfl rfl (by kernel_rfl) (by simp only [go_sem]) rfl ?_
    have fc : True := trivial
    repeat' first
      | with_reducible first | refine stp ?_ | refine q_blk_o rfl ?_ | (refine hK _ ?_; clear hK) | (refine hA ?_; clear hA hB) | (refine hB ?_; clear hA hB) | exact v_end0 | exact v_end0' | refine v_gb1 ?_ ?_ | refine v_gb0 ?_ ?_ | refine And.intro ?_ ?_
      | (with_reducible refine p_ok ?_; decide)
      | ((first | with_reducible first | refine v_region rfl rfl (fun K hK => ?_) | refine v_draws rfl rfl (fun K hK => ?_) | refine v_if (fun A B hA hB => ?_) | refine v_end rfl ?_ | refine v_fin1 ?_ | refine v_finC1 ?_ | refine v_finR1 ?_ | refine v_callE (impl_factorial_c _ ?_) ?_ | refine v_callE (impl_permOfCode_c _ ?_ ?_) ?_ | refine v_finO1 rfl ?_ | refine v_finN1 rfl ?_ ?_ | refine v_apj ?_ (fun j' => ?_) | refine v_stz ?_ ?_ ?_ ?_ ?_ | refine v_stq ?_ | refine v_cv1 ?_ ?_ ?_ | (intro hc; replace fc := And.intro hc fc; try simp only [hcs] at hc)) <;> (try simp (config := { maxSteps := 1000000 }) only [go_sem, ↓reduceIte, reduceCtorEq, Nat.reduceEqDiff, Nat.reduceAdd, Nat.reduceMul, Nat.reduceSub, Nat.reduceLeDiff, Int.reduceLT, Int.reduceLE, Int.reduceEq, Int.reduceSub, Int.reduceAdd, Int.reduceMul, Int.reduceNeg, Int.reduceToNat, fc]) <;> (try with_reducible rfl))
    all_goals try simp only [facI, Int.toNat_natCast] at hc
    all_goals try (first | omega | (simp only [n_i64, n_u8]; omega) | (simp only [n_i64, n_u8, lnA]; omega) | (simp only [lnA]; done))
theorem spec_PermAt_c (n r : Int) (hr : r ≤ 9223372036854775807) : Fun Try.prog 68 [(.int .i64 (n)), (.int .i64 (r))] [(.sl .own (List.map (PV.int .i64) (paL n r))), (.bool (paOk n r))] := by
  by_cases hn : 0 ≤ n ∧ n ≤ 8
  · obtain ⟨N, rfl⟩ := Int.eq_ofNat_of_zero_le hn.1
    by_cases h : 0 ≤ r
    · obtain ⟨Rr, rfl⟩ := Int.eq_ofNat_of_zero_le h
      have hcl := cdL_len (n := N) (r := Rr)
      have hci := cdL_in (n := N) (r := Rr)
      refine Fun.of (sg := sg0) (ts := [4, 5]) mo Try.func68 rfl rfl rfl rfl (by kernel_rfl) (by simp only [go_sem]) rfl ?_
      have fc : True := trivial
      repeat' first
        | with_reducible first | refine stp ?_ | refine q_blk_o rfl ?_ | (refine hK _ ?_; clear hK) | (refine hA ?_; clear hA hB) | (refine hB ?_; clear hA hB) | exact v_end0 | exact v_end0' | refine v_gb1 ?_ ?_ | refine v_gb0 ?_ ?_ | refine And.intro ?_ ?_
        | (with_reducible refine p_ok ?_; decide)
        | ((first | with_reducible first | refine v_region rfl rfl (fun K hK => ?_) | refine v_draws rfl rfl (fun K hK => ?_) | refine v_if (fun A B hA hB => ?_) | refine v_end rfl ?_ | refine v_fin1 ?_ | refine v_finC1 ?_ | refine v_finR1 ?_ | refine v_callE (spec_l1In_c _ _ _) ?_ | refine v_callE (spec_PermOfCode_c _ ?_ ?_) ?_ | refine v_finO1 rfl ?_ | refine v_finN1 rfl ?_ ?_ | refine v_apj ?_ (fun j' => ?_) | refine v_stz ?_ ?_ ?_ ?_ ?_ | refine v_stq ?_ | refine v_cv1 ?_ ?_ ?_ | (intro hc; replace fc := And.intro hc fc; try simp only [hcs] at hc)) <;> (try simp (config := { maxSteps := 1000000 }) only [go_sem, ↓reduceIte, reduceCtorEq, Nat.reduceEqDiff, Nat.reduceAdd, Nat.reduceMul, Nat.reduceSub, Nat.reduceLeDiff, Int.reduceLT, Int.reduceLE, Int.reduceEq, Int.reduceSub, Int.reduceAdd, Int.reduceMul, Int.reduceNeg, Int.reduceToNat, fc]) <;> (try with_reducible rfl))
      all_goals try (first | omega | (simp only [n_i64, n_u8]; omega) | (simp only [n_i64, n_u8, lnA]; omega) | (simp only [lnA]; done))
      refine v_loop (fun ms1 S1 => ∃ (j : Nat) (rk : Nat) (c : List Int), S1.e 0 = .p (.int .i64 (N)) ∧ S1.e 1 = .p (.int .i64 (rk)) ∧ OwnL (S1.e 6) S1.h S1.n (PV.int .i64) ((c).length) (c) ∧ S1.e 7 = .p (.int .i64 ((j - 1))) ∧ (j ≤ N) ∧ (c.length = N) ∧ (c.drop j = (cdL N Rr).drop j) ∧ (rk = Rr / facn (N - j)) ∧ ((rk : Int) ≤ Rr) ∧ ms1 = j) ((fun (j : Nat) (rk : Nat) (c : List Int) => j) (N) (Rr) (List.replicate N 0)) ?init1_5 ?body1_5
      case' init1_5 =>
        refine ⟨N, Rr, List.replicate N 0, ?_, ?_, ?_, ?_, ?_, ?_, ?_, ?_, ?_, rfl⟩
        all_goals (try simp only [go_sem, ↓reduceIte, reduceCtorEq, Nat.reduceEqDiff, Nat.reduceAdd, Nat.reduceMul, Nat.reduceSub, Nat.reduceLeDiff, Int.reduceLT, Int.reduceLE, Int.reduceEq, Int.reduceSub, Int.reduceAdd, Int.reduceMul, Int.reduceNeg, Int.reduceToNat])
        repeat' refine And.intro ?_ ?_
        all_goals try first | rfl | omega | (simp only [lnA] <;> omega) | ((first | refine stp ?_ | refine dkz_eq ?_ ?_) <;> first | rfl | omega | (simp only [lnA] <;> omega) | (simp only [lnA, List.append_assoc, List.cons_append, List.nil_append]; done) | skip)
      case' body1_5 =>
        rintro ms1 S1 ⟨j, rk, c, h1_0, h1_1, o1_6, h1_7, c1_0, c1_1, c1_2, c1_3, c1_4, hm1⟩
        obtain ⟨i1_6, h1_6, b1_6, l1_6⟩ := o1_6.out
        have ni1_6 : ∀ c, (i1_6 = S1.n + c) = False := fun c => eq_false (by omega)
        have pi1_6 : ∀ c, (S1.n + c = i1_6) = False := fun c => eq_false (by omega)
        have qi1_6 : (i1_6 = S1.n) = False := eq_false (by omega)
        have ri1_6 : (S1.n = i1_6) = False := eq_false (by omega)
      have fc : True := trivial
      repeat' first
        | with_reducible first | refine stp ?_ | refine q_blk_o rfl ?_ | (refine hK _ ?_; clear hK) | (refine hA ?_; clear hA hB) | (refine hB ?_; clear hA hB) | exact v_end0 | exact v_end0' | refine v_gb1 ?_ ?_ | refine v_gb0 ?_ ?_ | refine And.intro ?_ ?_
        | (with_reducible refine p_ok ?_; decide)
        | ((first | with_reducible first | refine v_region rfl rfl (fun K hK => ?_) | refine v_draws rfl rfl (fun K hK => ?_) | refine v_if (fun A B hA hB => ?_) | refine v_end rfl ?_ | refine v_fin1 ?_ | refine v_finC1 ?_ | refine v_finR1 ?_ | refine v_callE (spec_l1In_c _ _ _) ?_ | refine v_callE (spec_PermOfCode_c _ ?_ ?_) ?_ | refine v_finO1 rfl ?_ | refine v_finN1 rfl ?_ ?_ | refine v_apj ?_ (fun j' => ?_) | refine v_stz ?_ ?_ ?_ ?_ ?_ | refine v_stq ?_ | refine v_cv1 ?_ ?_ ?_ | (intro hc; replace fc := And.intro hc fc; try simp only [hcs] at hc)) <;> (try simp (config := { maxSteps := 1000000 }) only [go_sem, ↓reduceIte, reduceCtorEq, Nat.reduceEqDiff, Nat.reduceAdd, Nat.reduceMul, Nat.reduceSub, Nat.reduceLeDiff, Int.reduceLT, Int.reduceLE, Int.reduceEq, Int.reduceSub, Int.reduceAdd, Int.reduceMul, Int.reduceNeg, Int.reduceToNat, h1_0, h1_1, h1_7, h1_6, b1_6, ni1_6, pi1_6, qi1_6, ri1_6, fc]) <;> (try with_reducible rfl))
      all_goals try (have hjj : j = 0 ∨ ∃ J, j = J + 1 := (by cases j with | zero => exact .inl rfl | succ J => exact .inr ⟨J, rfl⟩); rcases hjj with hj | ⟨J, hj⟩)
      all_goals try subst hj
      all_goals try
        have e0 : ((N : Int) - (((J + 1 : Nat) : Int) - 1)) = ((N - J : Nat) : Int) := by omega
        have e7 : ((rk : Int)).tdiv ((N - J : Nat) : Int) = ((rk / (N - J) : Nat) : Int) := (Int.ofNat_tdiv _ _).symm
        have e8 : ((rk : Int)).tmod ((N - J : Nat) : Int) = ((rk % (N - J) : Nat) : Int) := (Int.ofNat_tmod _ _).symm
        have e5 : rk / (N - J) ≤ rk := Nat.div_le_self _ _
        have e10 : (0 : Int) ≤ ((rk / (N - J) : Nat) : Int) := Int.natCast_nonneg _
        have e11 : ((rk / (N - J) : Nat) : Int) ≤ Rr := Int.le_trans (Int.ofNat_le.2 e5) c1_4
      all_goals try rw [e0, e7]
      all_goals try (first | omega | (simp only [n_i64, n_u8]; omega) | (simp only [n_i64, n_u8, lnA]; omega) | (simp only [lnA]; done))
      · focus
          refine q_lp_n ((fun (j : Nat) (rk : Nat) (c : List Int) => j) (J) (rk / (N - J)) (c.set J ((rk % (N - J) : Nat) : Int))) ?_ ⟨J, rk / (N - J), c.set J ((rk % (N - J) : Nat) : Int), ?_, ?_, ?_, ?_, ?_, ?_, ?_, ?_, ?_, rfl⟩
          all_goals (try simp only [go_sem, ↓reduceIte, reduceCtorEq, Nat.reduceEqDiff, Nat.reduceAdd, Nat.reduceMul, Nat.reduceSub, Nat.reduceLeDiff, Int.reduceLT, Int.reduceLE, Int.reduceEq, Int.reduceSub, Int.reduceAdd, Int.reduceMul, Int.reduceNeg, Int.reduceToNat, h1_0, h1_1, h1_7, h1_6, b1_6, ni1_6, pi1_6, qi1_6, ri1_6])
          repeat' refine And.intro ?_ ?_
          all_goals try first | rfl | omega | (simp only [lnA] <;> omega) | ((first | refine stp ?_ | refine dkz_eq ?_ ?_) <;> first | rfl | omega | (simp only [lnA] <;> omega) | (simp only [lnA, List.append_assoc, List.cons_append, List.nil_append]; done) | skip)
        · rw [e8]; congr 1; omega
        · have hJ : J < N := by omega
          have hx : (c.set J ((rk % (N - J) : Nat) : Int)).getD J 0 = ((rk % (N - J) : Nat) : Int) := by
            rw [List.getD_eq_getElem?_getD, List.getElem?_set_self (by omega)]; rfl
          rw [dropI_at (by simp; omega), hx, dropI_at (s := cdL N Rr) (by omega), cdL_at hJ, List.drop_set, if_pos (by omega), c1_2, cdAt, c1_3, show N - (J + 1) = N - 1 - J by omega]
        · rw [c1_3, Nat.div_div_eq_div_mul, facn_split (by omega : J < N), show N - (J + 1) = N - 1 - J by omega, Nat.mul_comm]
      · have hok : paOk N Rr = false := by
          have h1 : ¬ Rr < facn N := fun h' => by rw [Nat.sub_zero, Nat.div_eq_of_lt h'] at c1_3; omega
          have := facN_n N
          simp [paOk]; omega
        rw [paL, hok]; rfl
      · have hok : paOk N Rr = false := by
          have h1 : ¬ Rr < facn N := fun h' => by rw [Nat.sub_zero, Nat.div_eq_of_lt h'] at c1_3; omega
          have := facN_n N
          simp [paOk]; omega
        rw [hok]
      · rw [List.drop_zero, List.drop_zero] at c1_2; rw [c1_2]; exact hci
      · have hok : paOk N Rr = true := by
          have h1 : Rr < facn N := by
            rcases Nat.lt_or_ge Rr (facn N) with h' | h'
            · exact h'
            · have := Nat.div_pos h' (facn_pos N); rw [Nat.sub_zero] at c1_3; omega
          have := facN_n N
          simp [paOk]; omega
        rw [List.drop_zero, List.drop_zero] at c1_2
        rw [paL, hok, c1_2, hcl]; rfl
      · have hok : paOk N Rr = true := by
          have h1 : Rr < facn N := by
            rcases Nat.lt_or_ge Rr (facn N) with h' | h'
            · exact h'
            · have := Nat.div_pos h' (facn_pos N); rw [Nat.sub_zero] at c1_3; omega
          have := facN_n N
          simp [paOk]; omega
        rw [hok]
      · rw [List.drop_of_length_le (by simp), List.drop_of_length_le (by omega)]
      · rw [Nat.sub_self, facn, Nat.div_one]
    · have hok : paOk N r = false := by simp [paOk]; omega
      rw [paL, hok]
      refine Fun.of (sg := sg0) (ts := [4, 5]) mo Try.func68 rfl rfl rfl rfl (by kernel_rfl) (by simp only [go_sem]) rfl ?_
      have fc : True := trivial
      repeat' first
        | with_reducible first | refine stp ?_ | refine q_blk_o rfl ?_ | (refine hK _ ?_; clear hK) | (refine hA ?_; clear hA hB) | (refine hB ?_; clear hA hB) | exact v_end0 | exact v_end0' | refine v_gb1 ?_ ?_ | refine v_gb0 ?_ ?_ | refine And.intro ?_ ?_
        | (with_reducible refine p_ok ?_; decide)
        | ((first | with_reducible first | refine v_region rfl rfl (fun K hK => ?_) | refine v_draws rfl rfl (fun K hK => ?_) | refine v_if (fun A B hA hB => ?_) | refine v_end rfl ?_ | refine v_fin1 ?_ | refine v_finC1 ?_ | refine v_finR1 ?_ | refine v_callE (spec_l1In_c _ _ _) ?_ | refine v_callE (spec_PermOfCode_c _ ?_ ?_) ?_ | refine v_finO1 rfl ?_ | refine v_finN1 rfl ?_ ?_ | refine v_apj ?_ (fun j' => ?_) | refine v_stz ?_ ?_ ?_ ?_ ?_ | refine v_stq ?_ | refine v_cv1 ?_ ?_ ?_ | (intro hc; replace fc := And.intro hc fc; try simp only [hcs] at hc)) <;> (try simp (config := { maxSteps := 1000000 }) only [go_sem, ↓reduceIte, reduceCtorEq, Nat.reduceEqDiff, Nat.reduceAdd, Nat.reduceMul, Nat.reduceSub, Nat.reduceLeDiff, Int.reduceLT, Int.reduceLE, Int.reduceEq, Int.reduceSub, Int.reduceAdd, Int.reduceMul, Int.reduceNeg, Int.reduceToNat, fc]) <;> (try with_reducible rfl))
      all_goals try (first | omega | (simp only [n_i64, n_u8]; omega) | (simp only [n_i64, n_u8, lnA]; omega) | (simp only [lnA]; done))
  · have hok : paOk n r = false := by simp [paOk]; omega
    rw [paL, hok]
    refine Fun.of (sg := sg0) (ts := [4, 5]) mo Try.func68 rfl rfl rfl rfl (by kernel_rfl) (by simp only [go_sem]) rfl ?_
    have fc : True := trivial
    repeat' first
      | with_reducible first | refine stp ?_ | refine q_blk_o rfl ?_ | (refine hK _ ?_; clear hK) | (refine hA ?_; clear hA hB) | (refine hB ?_; clear hA hB) | exact v_end0 | exact v_end0' | refine v_gb1 ?_ ?_ | refine v_gb0 ?_ ?_ | refine And.intro ?_ ?_
      | (with_reducible refine p_ok ?_; decide)
      | ((first | with_reducible first | refine v_region rfl rfl (fun K hK => ?_) | refine v_draws rfl rfl (fun K hK => ?_) | refine v_if (fun A B hA hB => ?_) | refine v_end rfl ?_ | refine v_fin1 ?_ | refine v_finC1 ?_ | refine v_finR1 ?_ | refine v_callE (spec_l1In_c _ _ _) ?_ | refine v_callE (spec_PermOfCode_c _ ?_ ?_) ?_ | refine v_finO1 rfl ?_ | refine v_finN1 rfl ?_ ?_ | refine v_apj ?_ (fun j' => ?_) | refine v_stz ?_ ?_ ?_ ?_ ?_ | refine v_stq ?_ | refine v_cv1 ?_ ?_ ?_ | (intro hc; replace fc := And.intro hc fc; try simp only [hcs] at hc)) <;> (try simp (config := { maxSteps := 1000000 }) only [go_sem, ↓reduceIte, reduceCtorEq, Nat.reduceEqDiff, Nat.reduceAdd, Nat.reduceMul, Nat.reduceSub, Nat.reduceLeDiff, Int.reduceLT, Int.reduceLE, Int.reduceEq, Int.reduceSub, Int.reduceAdd, Int.reduceMul, Int.reduceNeg, Int.reduceToNat, fc]) <;> (try with_reducible rfl))
    all_goals try (first | omega | (simp only [n_i64, n_u8]; omega) | (simp only [n_i64, n_u8, lnA]; omega) | (simp only [lnA]; done))
end Go.Gl
