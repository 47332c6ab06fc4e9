/-
  The symmetries of a permutation, written. Conditions: none.
-/
import Derived.Test.YtdpahkppdakenaaOrd
import Derived.Test.YtdpahkppdakenaaPat
set_option linter.unusedSimpArgs false
set_option linter.unusedVariables false
set_option maxRecDepth 20000
set_option linter.unusedSectionVars false
namespace Go.Gl
open Go Go.Proofs
variable [Amb]
/-- The first and last i are turned round. -/
def revK (L : List Int) (i : Nat) : List Int := (List.range L.length).map fun q => if q < i ∨ L.length ≤ q + i then L.getD (L.length - 1 - q) 0 else L.getD q 0
theorem revK_len {L : List Int} {i : Nat} : (revK L i).length = L.length := by simp [revK]
theorem revK_get {L : List Int} {i q : Nat} : (revK L i)[q]? = if q < L.length then some (if q < i ∨ L.length ≤ q + i then L.getD (L.length - 1 - q) 0 else L.getD q 0) else none := by
  unfold revK
  rw [List.getElem?_map]
  by_cases h : q < L.length
  · rw [if_pos h, List.getElem?_range h]; rfl
  · rw [if_neg h, List.getElem?_eq_none (by simp; omega)]; rfl
theorem getI_some {L : List Int} {i : Nat} (h : i < L.length) : L[i]? = some (L.getD i 0) := by
  rw [List.getD_eq_getElem?_getD, List.getElem?_eq_getElem h]; rfl
theorem revK_0 {L : List Int} : revK L 0 = L := by
  apply List.ext_getElem?; intro q
  rw [revK_get]
  by_cases h : q < L.length
  · rw [if_pos h, if_neg (by omega), getI_some h]
  · rw [if_neg h, List.getElem?_eq_none (by omega)]
theorem revK_end {L : List Int} {i : Nat} (h1 : 2 * i ≤ L.length) (h2 : L.length ≤ 2 * i + 1) : revK L i = L.reverse := by
  apply List.ext_getElem?; intro q
  rw [revK_get]
  by_cases h : q < L.length
  · rw [if_pos h, List.getElem?_reverse h, getI_some (by omega)]
    by_cases e : q < i ∨ L.length ≤ q + i
    · rw [if_pos e]
    · rw [if_neg e, show L.length - 1 - q = q by omega]
  · rw [if_neg h, List.getElem?_eq_none (by simp; omega)]
theorem revK_lo {L : List Int} {i : Nat} (h : 2 * i + 1 < L.length) : (revK L i).getD i 0 = L.getD i 0 ∧ (revK L i).getD (L.length - 1 - i) 0 = L.getD (L.length - 1 - i) 0 := by
  constructor
  · rw [List.getD_eq_getElem?_getD, revK_get, if_pos (by omega), if_neg (by omega)]; rfl
  · rw [List.getD_eq_getElem?_getD, revK_get, if_pos (by omega), if_neg (by omega)]; rfl
theorem revK_step {L : List Int} {i : Nat} (h : 2 * i + 1 < L.length) : ((revK L i).set i (L.getD (L.length - 1 - i) 0)).set (L.length - 1 - i) (L.getD i 0) = revK L (i + 1) := by
  apply List.ext_getElem?; intro q
  rw [List.getElem?_set, List.getElem?_set, List.length_set, revK_len, revK_get, revK_get]
  by_cases e1 : L.length - 1 - i = q
  · rw [if_pos e1, if_pos (by omega), if_pos (by omega), if_pos (by omega), ← e1, show L.length - 1 - (L.length - 1 - i) = i by omega]
  · rw [if_neg e1]
    by_cases e2 : i = q
    · subst e2; rw [if_pos rfl, if_pos (by omega), if_pos (by omega), if_pos (by omega)]
    · rw [if_neg e2]
      by_cases hq : q < L.length
      · rw [if_pos hq, if_pos hq]
        by_cases e3 : q < i ∨ L.length ≤ q + i
        · rw [if_pos e3, if_pos (by omega)]
        · rw [if_neg e3, if_neg (by omega)]
      · rw [if_neg hq, if_neg hq]
theorem slices_Reverse_int_int_c (L : List Int) (hL : L.length ≤ 1048576) : CallT Try.prog false 150 [.mu false (List.map (PV.int .i64) (L))] [some (List.map (PV.int .i64) (L.reverse))] [] := by
  refine CallT.of (sg := sg0) (ts := []) mo Try.func150 rfl rfl rfl rfl (by kernel_rfl) (by simp only [go_sem]) rfl (by simp only [go_sem]) ?_
  have fc : True := trivial
  repeat' first
    | with_reducible first | refine stp ?_ | refine q_blk_o rfl ?_ | (refine hK _ ?_; clear hK) | (refine hA ?_; clear hA hB) | (refine hB ?_; clear hA hB) | exact v_end0 | exact v_end0' | refine v_gb1 ?_ ?_ | refine v_gb0 ?_ ?_ | refine And.intro ?_ ?_
    | (with_reducible refine hK _ _ ?_ ?_; focus (first | exact clearAll_quiet rfl | (refine clearAll_of [false, false, false, false, false, false, false, false, false, false, false, false, false, true, false, true] [(2, 13), (3, 13)] rfl (by decide +kernel) ?_; try simp only [go_sem, ↓reduceIte, reduceCtorEq, Nat.reduceEqDiff, Nat.reduceAdd, Nat.reduceMul, Nat.reduceSub, Nat.reduceLeDiff, Int.reduceLT, Int.reduceLE, Int.reduceEq, Int.reduceSub, Int.reduceAdd, Int.reduceMul, Int.reduceNeg, Int.reduceToNat])); all_goals (try clear hK))
    | (with_reducible refine p_ok ?_; decide)
    | ((first | with_reducible first | refine v_region rfl rfl (fun K hK => ?_) | refine v_draws rfl rfl (fun K hK => ?_) | refine v_if (fun A B hA hB => ?_) | refine v_end rfl ?_ | refine v_fin1 ?_ | refine v_finC1 ?_ | refine v_finR1 ?_ | refine v_finO1 rfl ?_ | refine v_finN1 rfl ?_ ?_ | refine v_apj ?_ (fun j' => ?_) | refine v_stz ?_ ?_ ?_ ?_ ?_ | refine v_stq ?_ | refine v_cv1 ?_ ?_ ?_ | (intro hc; replace fc := And.intro hc fc; try simp only [hcs] at hc)) <;> (try simp (config := { maxSteps := 1000000 }) only [go_sem, ↓reduceIte, reduceCtorEq, Nat.reduceEqDiff, Nat.reduceAdd, Nat.reduceMul, Nat.reduceSub, Nat.reduceLeDiff, Int.reduceLT, Int.reduceLE, Int.reduceEq, Int.reduceSub, Int.reduceAdd, Int.reduceMul, Int.reduceNeg, Int.reduceToNat, fc]) <;> (try with_reducible rfl))
  all_goals try (first | omega | (simp only [n_i64, n_u8]; omega) | (simp only [n_i64, n_u8, lnA]; omega) | (simp only [lnA]; done))
  refine v_loop (fun ms1 S1 => ∃ (i : Nat), S1.e 0 = .ref 0 0 (revK L i).length ∧ S1.h 0 = .live true (List.map (PV.int .i64) (revK L i)) ∧ 0 < S1.n ∧ S1.e 2 = .p (.int .i64 (i)) ∧ S1.e 3 = .p (.int .i64 (((L.length : Int) - 1 - i))) ∧ (2 * i ≤ L.length) ∧ ms1 = L.length - i) ((fun (i : Nat) => L.length - i) (0)) ?init1_0 ?body1_0
  case' init1_0 =>
    refine ⟨0, ?_, ?_, ?_, ?_, ?_, ?_, rfl⟩
    all_goals (try simp only [go_sem, ↓reduceIte, reduceCtorEq, Nat.reduceEqDiff, Nat.reduceAdd, Nat.reduceMul, Nat.reduceSub, Nat.reduceLeDiff, Int.reduceLT, Int.reduceLE, Int.reduceEq, Int.reduceSub, Int.reduceAdd, Int.reduceMul, Int.reduceNeg, Int.reduceToNat])
    repeat' refine And.intro ?_ ?_
    all_goals try first | rfl | omega | (simp only [lnA] <;> omega) | ((first | refine stp ?_ | refine dkz_eq ?_ ?_) <;> first | rfl | omega | (simp only [lnA] <;> omega) | (simp only [lnA, List.append_assoc, List.cons_append, List.nil_append]; done) | skip)
  case' body1_0 =>
    rintro ms1 S1 ⟨i, h1_0, b1_0, l1_0, h1_2, h1_3, c1_0, hm1⟩
    have n0 : ∀ c, (0 = S1.n + c) = False := fun c => eq_false (by omega)
    have p0 : ∀ c, (S1.n + c = 0) = False := fun c => eq_false (by omega)
    have q0 : (0 = S1.n) = False := eq_false (by omega)
    have r0 : (S1.n = 0) = False := eq_false (by omega)
  · have e0 := revK_len (L := L) (i := i)
    by_cases hi : 2 * i + 1 < L.length
    · have e1 := revK_lo hi
      have e2 := revK_step hi
      have e3 : ((L.length : Int) - 1 - i).toNat = L.length - 1 - i := by omega
      have fc : True := trivial
      repeat' first
        | with_reducible first | refine stp ?_ | refine q_blk_o rfl ?_ | (refine hK _ ?_; clear hK) | (refine hA ?_; clear hA hB) | (refine hB ?_; clear hA hB) | exact v_end0 | exact v_end0' | refine v_gb1 ?_ ?_ | refine v_gb0 ?_ ?_ | refine And.intro ?_ ?_
        | (with_reducible refine hK _ _ ?_ ?_; focus (first | exact clearAll_quiet rfl | (refine clearAll_of [false, false, false, false, false, false, false, false, false, false, false, false, false, true, false, true] [(2, 13), (3, 13)] rfl (by decide +kernel) ?_; try simp only [go_sem, ↓reduceIte, reduceCtorEq, Nat.reduceEqDiff, Nat.reduceAdd, Nat.reduceMul, Nat.reduceSub, Nat.reduceLeDiff, Int.reduceLT, Int.reduceLE, Int.reduceEq, Int.reduceSub, Int.reduceAdd, Int.reduceMul, Int.reduceNeg, Int.reduceToNat, h1_0, b1_0, h1_2, h1_3, n0, p0, q0, r0, e0, e1.1, e1.2, e2, e3])); all_goals (try clear hK))
        | (with_reducible refine p_ok ?_; decide)
        | ((first | with_reducible first | refine v_region rfl rfl (fun K hK => ?_) | refine v_draws rfl rfl (fun K hK => ?_) | refine v_if (fun A B hA hB => ?_) | refine v_end rfl ?_ | refine v_fin1 ?_ | refine v_finC1 ?_ | refine v_finR1 ?_ | refine v_finO1 rfl ?_ | refine v_finN1 rfl ?_ ?_ | refine v_apj ?_ (fun j' => ?_) | refine v_stz ?_ ?_ ?_ ?_ ?_ | refine v_stq ?_ | refine v_cv1 ?_ ?_ ?_ | (intro hc; replace fc := And.intro hc fc; try simp only [hcs] at hc)) <;> (try simp (config := { maxSteps := 1000000 }) only [go_sem, ↓reduceIte, reduceCtorEq, Nat.reduceEqDiff, Nat.reduceAdd, Nat.reduceMul, Nat.reduceSub, Nat.reduceLeDiff, Int.reduceLT, Int.reduceLE, Int.reduceEq, Int.reduceSub, Int.reduceAdd, Int.reduceMul, Int.reduceNeg, Int.reduceToNat, h1_0, b1_0, h1_2, h1_3, n0, p0, q0, r0, e0, e1.1, e1.2, e2, e3, fc]) <;> (try with_reducible rfl))
      all_goals try (first | omega | (simp only [n_i64, n_u8]; omega) | (simp only [n_i64, n_u8, lnA]; omega) | (simp only [lnA]; done))
      focus
        refine q_lp_n ((fun (i : Nat) => L.length - i) (i+1)) ?_ ⟨i+1, ?_, ?_, ?_, ?_, ?_, ?_, rfl⟩
        all_goals (try simp only [go_sem, ↓reduceIte, reduceCtorEq, Nat.reduceEqDiff, Nat.reduceAdd, Nat.reduceMul, Nat.reduceSub, Nat.reduceLeDiff, Int.reduceLT, Int.reduceLE, Int.reduceEq, Int.reduceSub, Int.reduceAdd, Int.reduceMul, Int.reduceNeg, Int.reduceToNat, h1_0, b1_0, h1_2, h1_3, n0, p0, q0, r0])
        repeat' refine And.intro ?_ ?_
        all_goals try first | rfl | omega | (simp only [lnA] <;> omega) | ((first | refine stp ?_ | refine dkz_eq ?_ ?_) <;> first | rfl | omega | (simp only [lnA] <;> omega) | (simp only [lnA, List.append_assoc, List.cons_append, List.nil_append]; done) | skip)
      all_goals first | omega | (rw [e0, revK_len]; done)
    · have e2 := revK_end c1_0 (by omega)
      have fc : True := trivial
      repeat' first
        | with_reducible first | refine stp ?_ | refine q_blk_o rfl ?_ | (refine hK _ ?_; clear hK) | (refine hA ?_; clear hA hB) | (refine hB ?_; clear hA hB) | exact v_end0 | exact v_end0' | refine v_gb1 ?_ ?_ | refine v_gb0 ?_ ?_ | refine And.intro ?_ ?_
        | (with_reducible refine hK _ _ ?_ ?_; focus (first | exact clearAll_quiet rfl | (refine clearAll_of [false, false, false, false, false, false, false, false, false, false, false, false, false, true, false, true] [(2, 13), (3, 13)] rfl (by decide +kernel) ?_; try simp only [go_sem, ↓reduceIte, reduceCtorEq, Nat.reduceEqDiff, Nat.reduceAdd, Nat.reduceMul, Nat.reduceSub, Nat.reduceLeDiff, Int.reduceLT, Int.reduceLE, Int.reduceEq, Int.reduceSub, Int.reduceAdd, Int.reduceMul, Int.reduceNeg, Int.reduceToNat, h1_0, b1_0, h1_2, h1_3, n0, p0, q0, r0, e0, e2])); all_goals (try clear hK))
        | (with_reducible refine p_ok ?_; decide)
        | ((first | with_reducible first | refine v_region rfl rfl (fun K hK => ?_) | refine v_draws rfl rfl (fun K hK => ?_) | refine v_if (fun A B hA hB => ?_) | refine v_end rfl ?_ | refine v_fin1 ?_ | refine v_finC1 ?_ | refine v_finR1 ?_ | refine v_finO1 rfl ?_ | refine v_finN1 rfl ?_ ?_ | refine v_apj ?_ (fun j' => ?_) | refine v_stz ?_ ?_ ?_ ?_ ?_ | refine v_stq ?_ | refine v_cv1 ?_ ?_ ?_ | (intro hc; replace fc := And.intro hc fc; try simp only [hcs] at hc)) <;> (try simp (config := { maxSteps := 1000000 }) only [go_sem, ↓reduceIte, reduceCtorEq, Nat.reduceEqDiff, Nat.reduceAdd, Nat.reduceMul, Nat.reduceSub, Nat.reduceLeDiff, Int.reduceLT, Int.reduceLE, Int.reduceEq, Int.reduceSub, Int.reduceAdd, Int.reduceMul, Int.reduceNeg, Int.reduceToNat, h1_0, b1_0, h1_2, h1_3, n0, p0, q0, r0, e0, e2, fc]) <;> (try with_reducible rfl))
      all_goals try (first | omega | (simp only [n_i64, n_u8]; omega) | (simp only [n_i64, n_u8, lnA]; omega) | (simp only [lnA]; done))
  · exact revK_len.symm
  · exact revK_0.symm
def sgRev : FuncId → List Bool := fun f => if f = 150 then [true] else []
theorem sgRev_eq {f : FuncId} : sgRev f = if f = 150 then [true] else [] := _root_.id rfl
theorem wayE_sgRev : wayE sgRev = false := _root_.id rfl
theorem wayN_sgRev : wayN sgRev = false := _root_.id rfl
theorem wayS_sgRev : wayS sgRev = false := _root_.id rfl
theorem wayZ_sgRev : wayZ sgRev = false := _root_.id rfl
attribute [go_sem] sgRev_eq wayE_sgRev wayN_sgRev wayS_sgRev wayZ_sgRev
theorem impl_reverse_c {m0 : Bool} (p : List Int) (hl : p.length ≤ 1048576) : Fun Try.prog 196 [(.sl (.lent m0) (List.map (PV.int .i64) (p)))] [(.sl .own (List.map (PV.int .i64) (p.reverse)))] := by
  refine Fun.of (sg := sgRev) (ts := [2]) mo Try.func196 rfl rfl rfl rfl (by kernel_rfl) (by simp only [go_sem]) rfl ?_
  have e1 : p.reverse.length = p.length := List.length_reverse
  have e2 : List.take p.length p.reverse = p.reverse := List.take_of_length_le (by omega)
  have fc : True := trivial
  repeat' first
    | with_reducible first | refine stp ?_ | refine q_blk_o rfl ?_ | (refine hK _ ?_; clear hK) | (refine hA ?_; clear hA hB) | (refine hB ?_; clear hA hB) | exact v_end0 | exact v_end0' | refine v_gb1 ?_ ?_ | refine v_gb0 ?_ ?_ | refine And.intro ?_ ?_
    | (with_reducible refine p_ok ?_; decide)
    | ((first | with_reducible first | refine v_region rfl rfl (fun K hK => ?_) | refine v_draws rfl rfl (fun K hK => ?_) | refine v_if (fun A B hA hB => ?_) | refine v_end rfl ?_ | refine v_fin1 ?_ | refine v_finC1 ?_ | refine v_finR1 ?_ | refine v_callE (slices_Clone_c _ ?_) ?_ | refine v_callN (slices_Reverse_int_int_c _ ?_) rfl ?_ ?_ | refine v_callT (slices_Reverse_int_int_c _ ?_) rfl ?_ ?_ | refine v_callTd (slices_Reverse_int_int_c _ ?_) rfl ?_ ?_ | refine v_callR (slices_Reverse_int_int_c _ ?_) rfl ?_ ?_ | refine v_callT3 (slices_Reverse_int_int_c _ ?_) ?_ ?_ | refine v_callT4 (slices_Reverse_int_int_c _ ?_) ?_ ?_ | refine v_finO1 rfl ?_ | refine v_finN1 rfl ?_ ?_ | refine v_apj ?_ (fun j' => ?_) | refine v_stz ?_ ?_ ?_ ?_ ?_ | refine v_stq ?_ | refine v_cv1 ?_ ?_ ?_ | (intro hc; replace fc := And.intro hc fc; try simp only [hcs] at hc)) <;> (try simp (config := { maxSteps := 1000000 }) only [go_sem, ↓reduceIte, reduceCtorEq, Nat.reduceEqDiff, Nat.reduceAdd, Nat.reduceMul, Nat.reduceSub, Nat.reduceLeDiff, Int.reduceLT, Int.reduceLE, Int.reduceEq, Int.reduceSub, Int.reduceAdd, Int.reduceMul, Int.reduceNeg, Int.reduceToNat, e1, e2, fc]) <;> (try with_reducible rfl))
  all_goals try (first | omega | (simp only [n_i64, n_u8]; omega) | (simp only [n_i64, n_u8, lnA]; omega) | (simp only [lnA]; done))
theorem spec_l3Reverse_c {m0 : Bool} (p : List Int) (hl : p.length ≤ 1048576) : Fun Try.prog 116 [(.sl (.lent m0) (List.map (PV.int .i64) (p)))] [(.sl .own (List.map (PV.int .i64) (p.reverse)))] := by
  refine Fun.of (sg := sg0) (ts := [2]) mo Try.func116 rfl rfl rfl rfl (by kernel_rfl) (by simp only [go_sem]) rfl ?_
  have fc : True := trivial
  repeat' first
    | with_reducible first | refine stp ?_ | refine q_blk_o rfl ?_ | (refine hK _ ?_; clear hK) | (refine hA ?_; clear hA hB) | (refine hB ?_; clear hA hB) | exact v_end0 | exact v_end0' | refine v_gb1 ?_ ?_ | refine v_gb0 ?_ ?_ | refine And.intro ?_ ?_
    | (with_reducible refine p_ok ?_; decide)
    | ((first | with_reducible first | refine v_region rfl rfl (fun K hK => ?_) | refine v_draws rfl rfl (fun K hK => ?_) | refine v_if (fun A B hA hB => ?_) | refine v_end rfl ?_ | refine v_fin1 ?_ | refine v_finC1 ?_ | refine v_finR1 ?_ | refine v_finO1 rfl ?_ | refine v_finN1 rfl ?_ ?_ | refine v_apj ?_ (fun j' => ?_) | refine v_stz ?_ ?_ ?_ ?_ ?_ | refine v_stq ?_ | refine v_cv1 ?_ ?_ ?_ | (intro hc; replace fc := And.intro hc fc; try simp only [hcs] at hc)) <;> (try simp (config := { maxSteps := 1000000 }) only [go_sem, ↓reduceIte, reduceCtorEq, Nat.reduceEqDiff, Nat.reduceAdd, Nat.reduceMul, Nat.reduceSub, Nat.reduceLeDiff, Int.reduceLT, Int.reduceLE, Int.reduceEq, Int.reduceSub, Int.reduceAdd, Int.reduceMul, Int.reduceNeg, Int.reduceToNat, fc]) <;> (try with_reducible rfl))
  all_goals try (first | omega | (simp only [n_i64, n_u8]; omega) | (simp only [n_i64, n_u8, lnA]; omega) | (simp only [lnA]; done))
  refine v_loop (fun ms1 S1 => ∃ (k : Nat), S1.e 0 = .p (.sl (.lent m0) (List.map (PV.int .i64) (p))) ∧ OwnL (S1.e 3) S1.h S1.n (PV.int .i64) (((p.drop k).reverse).length) ((p.drop k).reverse) ∧ S1.e 4 = .p (.int .i64 (((k : Int) - 1))) ∧ (k ≤ p.length) ∧ ms1 = k) ((fun (k : Nat) => k) (p.length)) ?init1_1 ?body1_1
  case' init1_1 =>
    refine ⟨p.length, ?_, ?_, ?_, ?_, rfl⟩
    all_goals (try simp only [go_sem, ↓reduceIte, reduceCtorEq, Nat.reduceEqDiff, Nat.reduceAdd, Nat.reduceMul, Nat.reduceSub, Nat.reduceLeDiff, Int.reduceLT, Int.reduceLE, Int.reduceEq, Int.reduceSub, Int.reduceAdd, Int.reduceMul, Int.reduceNeg, Int.reduceToNat])
    repeat' refine And.intro ?_ ?_
    all_goals try first | rfl | omega | (simp only [lnA] <;> omega) | ((first | refine stp ?_ | refine dkz_eq ?_ ?_) <;> first | rfl | omega | (simp only [lnA] <;> omega) | (simp only [lnA, List.append_assoc, List.cons_append, List.nil_append]; done) | skip)
  case' body1_1 =>
    rintro ms1 S1 ⟨k, h1_0, o1_3, h1_4, c1_0, hm1⟩
    obtain ⟨i1_3, h1_3, b1_3, l1_3⟩ := o1_3.out
    have ni1_3 : ∀ c, (i1_3 = S1.n + c) = False := fun c => eq_false (by omega)
    have pi1_3 : ∀ c, (S1.n + c = i1_3) = False := fun c => eq_false (by omega)
    have qi1_3 : (i1_3 = S1.n) = False := eq_false (by omega)
    have ri1_3 : (S1.n = i1_3) = False := eq_false (by omega)
  · have e1 : ((k : Int) - 1).toNat = k - 1 := by omega
    have e2 : (p.drop k).reverse.length = p.length - k := by simp
    have fc : True := trivial
    repeat' first
      | with_reducible first | refine stp ?_ | refine q_blk_o rfl ?_ | (refine hK _ ?_; clear hK) | (refine hA ?_; clear hA hB) | (refine hB ?_; clear hA hB) | exact v_end0 | exact v_end0' | refine v_gb1 ?_ ?_ | refine v_gb0 ?_ ?_ | refine And.intro ?_ ?_
      | (with_reducible refine p_ok ?_; decide)
      | ((first | with_reducible first | refine v_region rfl rfl (fun K hK => ?_) | refine v_draws rfl rfl (fun K hK => ?_) | refine v_if (fun A B hA hB => ?_) | refine v_end rfl ?_ | refine v_fin1 ?_ | refine v_finC1 ?_ | refine v_finR1 ?_ | refine v_finO1 rfl ?_ | refine v_finN1 rfl ?_ ?_ | refine v_apj ?_ (fun j' => ?_) | refine v_stz ?_ ?_ ?_ ?_ ?_ | refine v_stq ?_ | refine v_cv1 ?_ ?_ ?_ | (intro hc; replace fc := And.intro hc fc; try simp only [hcs] at hc)) <;> (try simp (config := { maxSteps := 1000000 }) only [go_sem, ↓reduceIte, reduceCtorEq, Nat.reduceEqDiff, Nat.reduceAdd, Nat.reduceMul, Nat.reduceSub, Nat.reduceLeDiff, Int.reduceLT, Int.reduceLE, Int.reduceEq, Int.reduceSub, Int.reduceAdd, Int.reduceMul, Int.reduceNeg, Int.reduceToNat, h1_0, h1_4, h1_3, b1_3, ni1_3, pi1_3, qi1_3, ri1_3, e1, e2, fc]) <;> (try with_reducible rfl))
    all_goals try (first | omega | (simp only [n_i64, n_u8]; omega) | (simp only [n_i64, n_u8, lnA]; omega) | (simp only [lnA]; done))
    · focus
        refine q_lp_n ((fun (k : Nat) => k) (k-1)) ?_ ⟨k-1, ?_, ?_, ?_, ?_, rfl⟩
        all_goals (try simp only [go_sem, ↓reduceIte, reduceCtorEq, Nat.reduceEqDiff, Nat.reduceAdd, Nat.reduceMul, Nat.reduceSub, Nat.reduceLeDiff, Int.reduceLT, Int.reduceLE, Int.reduceEq, Int.reduceSub, Int.reduceAdd, Int.reduceMul, Int.reduceNeg, Int.reduceToNat, h1_0, h1_4, h1_3, b1_3, ni1_3, pi1_3, qi1_3, ri1_3])
        repeat' refine And.intro ?_ ?_
        all_goals try first | rfl | omega | (simp only [lnA] <;> omega) | ((first | refine stp ?_ | refine dkz_eq ?_ ?_) <;> first | rfl | omega | (simp only [lnA] <;> omega) | (simp only [lnA, List.append_assoc, List.cons_append, List.nil_append]; done) | skip)
      · simp; omega
      · obtain ⟨j, rfl⟩ : ∃ j, k = j + 1 := ⟨k - 1, by omega⟩
        rw [Nat.add_sub_cancel, dropI_at (k := j) (by omega), List.reverse_cons]
    · obtain rfl : k = 0 := by omega
      rw [List.drop_zero, List.take_of_length_le (by simp)]
  · simp
  · rw [List.drop_length]; rfl
theorem spec_l2Inverse_c {m0 : Bool} (p : List Int) (h8 : p.length ≤ 8) (hp : permB p = true) : Fun Try.prog 121 [(.sl (.lent m0) (List.map (PV.int .i64) (p)))] [(.sl .own (List.map (PV.int .i64) (inv p)))] := by
  refine Fun.of (sg := sg0) (ts := [2]) mo Try.func121 rfl rfl rfl rfl (by kernel_rfl) (by simp only [go_sem]) rfl ?_
  have fc : True := trivial
  repeat' first
    | with_reducible first | refine stp ?_ | refine q_blk_o rfl ?_ | (refine hK _ ?_; clear hK) | (refine hA ?_; clear hA hB) | (refine hB ?_; clear hA hB) | exact v_end0 | exact v_end0' | refine v_gb1 ?_ ?_ | refine v_gb0 ?_ ?_ | refine And.intro ?_ ?_
    | (with_reducible refine p_ok ?_; decide)
    | ((first | with_reducible first | refine v_region rfl rfl (fun K hK => ?_) | refine v_draws rfl rfl (fun K hK => ?_) | refine v_if (fun A B hA hB => ?_) | refine v_end rfl ?_ | refine v_fin1 ?_ | refine v_finC1 ?_ | refine v_finR1 ?_ | refine v_finO1 rfl ?_ | refine v_finN1 rfl ?_ ?_ | refine v_apj ?_ (fun j' => ?_) | refine v_stz ?_ ?_ ?_ ?_ ?_ | refine v_stq ?_ | refine v_cv1 ?_ ?_ ?_ | (intro hc; replace fc := And.intro hc fc; try simp only [hcs] at hc)) <;> (try simp (config := { maxSteps := 1000000 }) only [go_sem, ↓reduceIte, reduceCtorEq, Nat.reduceEqDiff, Nat.reduceAdd, Nat.reduceMul, Nat.reduceSub, Nat.reduceLeDiff, Int.reduceLT, Int.reduceLE, Int.reduceEq, Int.reduceSub, Int.reduceAdd, Int.reduceMul, Int.reduceNeg, Int.reduceToNat, fc]) <;> (try with_reducible rfl))
  all_goals try (first | omega | (simp only [n_i64, n_u8]; omega) | (simp only [n_i64, n_u8, lnA]; omega) | (simp only [lnA]; done))
  refine v_loop (fun ms1 S1 => ∃ (k : Nat), S1.e 0 = .p (.sl (.lent m0) (List.map (PV.int .i64) (p))) ∧ OwnL (S1.e 3) S1.h S1.n (PV.int .i64) ((invL p k).length) (invL p k) ∧ S1.e 4 = .p (.int .i64 (k)) ∧ (k ≤ p.length) ∧ ms1 = p.length - k) ((fun (k : Nat) => p.length - k) (0)) ?init1_2 ?body1_2
  case' init1_2 =>
    refine ⟨0, ?_, ?_, ?_, ?_, rfl⟩
    all_goals (try simp only [go_sem, ↓reduceIte, reduceCtorEq, Nat.reduceEqDiff, Nat.reduceAdd, Nat.reduceMul, Nat.reduceSub, Nat.reduceLeDiff, Int.reduceLT, Int.reduceLE, Int.reduceEq, Int.reduceSub, Int.reduceAdd, Int.reduceMul, Int.reduceNeg, Int.reduceToNat])
    repeat' refine And.intro ?_ ?_
    all_goals try first | rfl | omega | (simp only [lnA] <;> omega) | ((first | refine stp ?_ | refine dkz_eq ?_ ?_) <;> first | rfl | omega | (simp only [lnA] <;> omega) | (simp only [lnA, List.append_assoc, List.cons_append, List.nil_append]; done) | skip)
  case' body1_2 =>
    rintro ms1 S1 ⟨k, h1_0, o1_3, h1_4, c1_0, hm1⟩
    obtain ⟨i1_3, h1_3, b1_3, l1_3⟩ := o1_3.out
    have ni1_3 : ∀ c, (i1_3 = S1.n + c) = False := fun c => eq_false (by omega)
    have pi1_3 : ∀ c, (S1.n + c = i1_3) = False := fun c => eq_false (by omega)
    have qi1_3 : (i1_3 = S1.n) = False := eq_false (by omega)
    have ri1_3 : (S1.n = i1_3) = False := eq_false (by omega)
  have b1 : (invL p k).length = p.length := invL_len
  have b2 := fun h => perm_at hp (i := k) h
  have fc : True := trivial
  repeat' first
    | with_reducible first | refine stp ?_ | refine q_blk_o rfl ?_ | (refine hK _ ?_; clear hK) | (refine hA ?_; clear hA hB) | (refine hB ?_; clear hA hB) | exact v_end0 | exact v_end0' | refine v_gb1 ?_ ?_ | refine v_gb0 ?_ ?_ | refine And.intro ?_ ?_
    | (with_reducible refine p_ok ?_; decide)
    | ((first | with_reducible first | refine v_region rfl rfl (fun K hK => ?_) | refine v_draws rfl rfl (fun K hK => ?_) | refine v_if (fun A B hA hB => ?_) | refine v_end rfl ?_ | refine v_fin1 ?_ | refine v_finC1 ?_ | refine v_finR1 ?_ | refine v_finO1 rfl ?_ | refine v_finN1 rfl ?_ ?_ | refine v_apj ?_ (fun j' => ?_) | refine v_stz ?_ ?_ ?_ ?_ ?_ | refine v_stq ?_ | refine v_cv1 ?_ ?_ ?_ | (intro hc; replace fc := And.intro hc fc; try simp only [hcs] at hc)) <;> (try simp (config := { maxSteps := 1000000 }) only [go_sem, ↓reduceIte, reduceCtorEq, Nat.reduceEqDiff, Nat.reduceAdd, Nat.reduceMul, Nat.reduceSub, Nat.reduceLeDiff, Int.reduceLT, Int.reduceLE, Int.reduceEq, Int.reduceSub, Int.reduceAdd, Int.reduceMul, Int.reduceNeg, Int.reduceToNat, h1_0, h1_4, h1_3, b1_3, ni1_3, pi1_3, qi1_3, ri1_3, fc]) <;> (try with_reducible rfl))
  all_goals try (first | omega | (simp only [n_i64, n_u8]; omega) | (simp only [n_i64, n_u8, lnA]; omega) | (simp only [lnA]; done))
  · focus
      refine q_lp_n ((fun (k : Nat) => p.length - k) (k+1)) ?_ ⟨k+1, ?_, ?_, ?_, ?_, rfl⟩
      all_goals (try simp only [go_sem, ↓reduceIte, reduceCtorEq, Nat.reduceEqDiff, Nat.reduceAdd, Nat.reduceMul, Nat.reduceSub, Nat.reduceLeDiff, Int.reduceLT, Int.reduceLE, Int.reduceEq, Int.reduceSub, Int.reduceAdd, Int.reduceMul, Int.reduceNeg, Int.reduceToNat, h1_0, h1_4, h1_3, b1_3, ni1_3, pi1_3, qi1_3, ri1_3])
      repeat' refine And.intro ?_ ?_
      all_goals try first | rfl | omega | (simp only [lnA] <;> omega) | ((first | refine stp ?_ | refine dkz_eq ?_ ?_) <;> first | rfl | omega | (simp only [lnA] <;> omega) | (simp only [lnA, List.append_assoc, List.cons_append, List.nil_append]; done) | skip)
    all_goals first | (rw [invL_len, invL_len]; done) | skip
  · obtain rfl : k = p.length := by omega
    rfl
  · exact invL_len.symm
/-- The k-th symmetry. -/
def s1L (p : List Int) (k : Nat) : List Int := if k % 2 = 1 then inv p else p
def s2L (p : List Int) (k : Nat) : List Int := if k / 2 % 2 = 1 then (s1L p k).reverse else s1L p k
def symL (p : List Int) (k : Nat) : List Int := if 4 ≤ k then cplL (s2L p k) else s2L p k
theorem inv_b {p : List Int} : ∀ {k : Nat}, k ≤ p.length → ∀ x ∈ invL p k, 0 ≤ x ∧ x ≤ p.length
  | 0, _, x, h => by have := List.eq_of_mem_replicate h; subst this; omega
  | k + 1, hk, x, h => by
    rw [invL] at h
    rcases List.mem_or_eq_of_mem_set h with h | rfl
    · exact inv_b (by omega) x h
    · omega
theorem s2L_b {p : List Int} {k : Nat} (h8 : p.length ≤ 8) (hp : permB p = true) : ∀ x ∈ s2L p k, 0 ≤ x ∧ x ≤ 1048576 := by
  have h1 : ∀ x ∈ s1L p k, 0 ≤ x ∧ x ≤ 1048576 := fun x hx => by
    unfold s1L at hx
    split at hx
    · have := inv_b (Nat.le_refl _) x hx; omega
    · have := (permB_iff.1 hp).1 x hx; omega
  intro x hx
  unfold s2L at hx
  split at hx
  · exact h1 x (List.mem_reverse.1 hx)
  · exact h1 x hx
theorem s1L_len {p : List Int} {k : Nat} : (s1L p k).length = p.length := by unfold s1L; split; exact inv_len; rfl
theorem s2L_len {p : List Int} {k : Nat} : (s2L p k).length = p.length := by unfold s2L; split; rw [List.length_reverse, s1L_len]; exact s1L_len
theorem symL_len {p : List Int} {k : Nat} : (symL p k).length = p.length := by unfold symL; split; rw [cplL_len, s2L_len]; exact s2L_len
theorem bits8 : ∀ k, k < 8 → ((k &&& 1 = 0 ↔ ¬ k % 2 = 1) ∧ (k &&& 2 = 0 ↔ ¬ k / 2 % 2 = 1) ∧ (k &&& 4 = 0 ↔ ¬ 4 ≤ k)) := by decide
theorem s2L_b' {p : List Int} {k : Nat} (h8 : p.length ≤ 8) (hp : permB p = true) {q : List Int} (h : q = s2L p k) : ∀ x ∈ q, 0 ≤ x ∧ x ≤ 1048576 := by subst h; exact s2L_b h8 hp
theorem impl_symmetry_c {m0 : Bool} (p : List Int) (k : Nat) (hk : k < 8) (h8 : p.length ≤ 8) (hp : permB p = true) : Fun Try.prog 158 [(.sl (.lent m0) (List.map (PV.int .i64) (p))), (.int .i64 (k))] [(.sl .own (List.map (PV.int .i64) (symL p k)))] := by
  refine Fun.of (sg := sg0) (ts := [4]) mo Try.func158 rfl rfl rfl rfl (by kernel_rfl) (by simp only [go_sem]) rfl ?_
  obtain ⟨k1, k2, k3⟩ := bits8 k hk
  have i1 : (inv p).length = p.length := inv_len
  have i2 : List.take p.length (inv p) = inv p := List.take_of_length_le (by omega)
  by_cases a1 : k % 2 = 1
  · have f1 : (((k &&& 1 : Nat) : Int) = 0) = False := eq_false (by omega)
    by_cases a2 : k / 2 % 2 = 1
    · have f2 : (((k &&& 2 : Nat) : Int) = 0) = False := eq_false (by omega)
      by_cases a3 : 4 ≤ k
      · have f3 : (((k &&& 4 : Nat) : Int) = 0) = False := eq_false (by omega)
        have q2 : s2L p k = s2L p k := rfl
        conv at q2 => lhs; simp only [s2L, s1L, a1, a2, if_true, if_false]
        have fc : True := trivial
        repeat' first
          | with_reducible first | refine stp ?_ | refine q_blk_o rfl ?_ | (refine hK _ ?_; clear hK) | (refine hA ?_; clear hA hB) | (refine hB ?_; clear hA hB) | exact v_end0 | exact v_end0' | refine v_gb1 ?_ ?_ | refine v_gb0 ?_ ?_ | refine And.intro ?_ ?_
          | (with_reducible refine p_ok ?_; decide)
          | ((first | with_reducible first | refine v_region rfl rfl (fun K hK => ?_) | refine v_draws rfl rfl (fun K hK => ?_) | refine v_if (fun A B hA hB => ?_) | refine v_end rfl ?_ | refine v_fin1 ?_ | refine v_finC1 ?_ | refine v_finR1 ?_ | refine v_callE (slices_Clone_c _ ?_) ?_ | refine v_callE (impl_inverse_c _ ?_ ?_) ?_ | refine v_callE (impl_reverse_c _ ?_) ?_ | refine v_callE (impl_complement_c _ ?_ ?_) ?_ | refine v_finO1 rfl ?_ | refine v_finN1 rfl ?_ ?_ | refine v_apj ?_ (fun j' => ?_) | refine v_stz ?_ ?_ ?_ ?_ ?_ | refine v_stq ?_ | refine v_cv1 ?_ ?_ ?_ | (intro hc; replace fc := And.intro hc fc; try simp only [hcs] at hc)) <;> (try simp (config := { maxSteps := 1000000 }) only [go_sem, ↓reduceIte, reduceCtorEq, Nat.reduceEqDiff, Nat.reduceAdd, Nat.reduceMul, Nat.reduceSub, Nat.reduceLeDiff, Int.reduceLT, Int.reduceLE, Int.reduceEq, Int.reduceSub, Int.reduceAdd, Int.reduceMul, Int.reduceNeg, Int.reduceToNat, f1, f2, f3, i1, i2, fc]) <;> (try with_reducible rfl))
        all_goals try (first | omega | (simp only [n_i64, n_u8]; omega) | (simp only [n_i64, n_u8, lnA]; omega) | (simp only [lnA]; done))
        all_goals first | exact s2L_b' h8 hp q2 | (simp only [List.length_reverse, i1]; omega) | (simp only [symL, s2L, s1L, a1, a2, a3, if_true, if_false]; done) | exact hp | skip
      · have f3 : (((k &&& 4 : Nat) : Int) = 0) = True := eq_true (by omega)
        have q2 : s2L p k = s2L p k := rfl
        conv at q2 => lhs; simp only [s2L, s1L, a1, a2, if_true, if_false]
        have fc : True := trivial
        repeat' first
          | with_reducible first | refine stp ?_ | refine q_blk_o rfl ?_ | (refine hK _ ?_; clear hK) | (refine hA ?_; clear hA hB) | (refine hB ?_; clear hA hB) | exact v_end0 | exact v_end0' | refine v_gb1 ?_ ?_ | refine v_gb0 ?_ ?_ | refine And.intro ?_ ?_
          | (with_reducible refine p_ok ?_; decide)
          | ((first | with_reducible first | refine v_region rfl rfl (fun K hK => ?_) | refine v_draws rfl rfl (fun K hK => ?_) | refine v_if (fun A B hA hB => ?_) | refine v_end rfl ?_ | refine v_fin1 ?_ | refine v_finC1 ?_ | refine v_finR1 ?_ | refine v_callE (slices_Clone_c _ ?_) ?_ | refine v_callE (impl_inverse_c _ ?_ ?_) ?_ | refine v_callE (impl_reverse_c _ ?_) ?_ | refine v_callE (impl_complement_c _ ?_ ?_) ?_ | refine v_finO1 rfl ?_ | refine v_finN1 rfl ?_ ?_ | refine v_apj ?_ (fun j' => ?_) | refine v_stz ?_ ?_ ?_ ?_ ?_ | refine v_stq ?_ | refine v_cv1 ?_ ?_ ?_ | (intro hc; replace fc := And.intro hc fc; try simp only [hcs] at hc)) <;> (try simp (config := { maxSteps := 1000000 }) only [go_sem, ↓reduceIte, reduceCtorEq, Nat.reduceEqDiff, Nat.reduceAdd, Nat.reduceMul, Nat.reduceSub, Nat.reduceLeDiff, Int.reduceLT, Int.reduceLE, Int.reduceEq, Int.reduceSub, Int.reduceAdd, Int.reduceMul, Int.reduceNeg, Int.reduceToNat, f1, f2, f3, i1, i2, fc]) <;> (try with_reducible rfl))
        all_goals try (first | omega | (simp only [n_i64, n_u8]; omega) | (simp only [n_i64, n_u8, lnA]; omega) | (simp only [lnA]; done))
        all_goals first | exact s2L_b' h8 hp q2 | (simp only [List.length_reverse, i1]; omega) | (simp only [symL, s2L, s1L, a1, a2, a3, if_true, if_false]; done) | exact hp | skip
    · have f2 : (((k &&& 2 : Nat) : Int) = 0) = True := eq_true (by omega)
      by_cases a3 : 4 ≤ k
      · have f3 : (((k &&& 4 : Nat) : Int) = 0) = False := eq_false (by omega)
        have q2 : s2L p k = s2L p k := rfl
        conv at q2 => lhs; simp only [s2L, s1L, a1, a2, if_true, if_false]
        have fc : True := trivial
        repeat' first
          | with_reducible first | refine stp ?_ | refine q_blk_o rfl ?_ | (refine hK _ ?_; clear hK) | (refine hA ?_; clear hA hB) | (refine hB ?_; clear hA hB) | exact v_end0 | exact v_end0' | refine v_gb1 ?_ ?_ | refine v_gb0 ?_ ?_ | refine And.intro ?_ ?_
          | (with_reducible refine p_ok ?_; decide)
          | ((first | with_reducible first | refine v_region rfl rfl (fun K hK => ?_) | refine v_draws rfl rfl (fun K hK => ?_) | refine v_if (fun A B hA hB => ?_) | refine v_end rfl ?_ | refine v_fin1 ?_ | refine v_finC1 ?_ | refine v_finR1 ?_ | refine v_callE (slices_Clone_c _ ?_) ?_ | refine v_callE (impl_inverse_c _ ?_ ?_) ?_ | refine v_callE (impl_reverse_c _ ?_) ?_ | refine v_callE (impl_complement_c _ ?_ ?_) ?_ | refine v_finO1 rfl ?_ | refine v_finN1 rfl ?_ ?_ | refine v_apj ?_ (fun j' => ?_) | refine v_stz ?_ ?_ ?_ ?_ ?_ | refine v_stq ?_ | refine v_cv1 ?_ ?_ ?_ | (intro hc; replace fc := And.intro hc fc; try simp only [hcs] at hc)) <;> (try simp (config := { maxSteps := 1000000 }) only [go_sem, ↓reduceIte, reduceCtorEq, Nat.reduceEqDiff, Nat.reduceAdd, Nat.reduceMul, Nat.reduceSub, Nat.reduceLeDiff, Int.reduceLT, Int.reduceLE, Int.reduceEq, Int.reduceSub, Int.reduceAdd, Int.reduceMul, Int.reduceNeg, Int.reduceToNat, f1, f2, f3, i1, i2, fc]) <;> (try with_reducible rfl))
        all_goals try (first | omega | (simp only [n_i64, n_u8]; omega) | (simp only [n_i64, n_u8, lnA]; omega) | (simp only [lnA]; done))
        all_goals first | exact s2L_b' h8 hp q2 | (simp only [List.length_reverse, i1]; omega) | (simp only [symL, s2L, s1L, a1, a2, a3, if_true, if_false]; done) | exact hp | skip
      · have f3 : (((k &&& 4 : Nat) : Int) = 0) = True := eq_true (by omega)
        have q2 : s2L p k = s2L p k := rfl
        conv at q2 => lhs; simp only [s2L, s1L, a1, a2, if_true, if_false]
        have fc : True := trivial
        repeat' first
          | with_reducible first | refine stp ?_ | refine q_blk_o rfl ?_ | (refine hK _ ?_; clear hK) | (refine hA ?_; clear hA hB) | (refine hB ?_; clear hA hB) | exact v_end0 | exact v_end0' | refine v_gb1 ?_ ?_ | refine v_gb0 ?_ ?_ | refine And.intro ?_ ?_
          | (with_reducible refine p_ok ?_; decide)
          | ((first | with_reducible first | refine v_region rfl rfl (fun K hK => ?_) | refine v_draws rfl rfl (fun K hK => ?_) | refine v_if (fun A B hA hB => ?_) | refine v_end rfl ?_ | refine v_fin1 ?_ | refine v_finC1 ?_ | refine v_finR1 ?_ | refine v_callE (slices_Clone_c _ ?_) ?_ | refine v_callE (impl_inverse_c _ ?_ ?_) ?_ | refine v_callE (impl_reverse_c _ ?_) ?_ | refine v_callE (impl_complement_c _ ?_ ?_) ?_ | refine v_finO1 rfl ?_ | refine v_finN1 rfl ?_ ?_ | refine v_apj ?_ (fun j' => ?_) | refine v_stz ?_ ?_ ?_ ?_ ?_ | refine v_stq ?_ | refine v_cv1 ?_ ?_ ?_ | (intro hc; replace fc := And.intro hc fc; try simp only [hcs] at hc)) <;> (try simp (config := { maxSteps := 1000000 }) only [go_sem, ↓reduceIte, reduceCtorEq, Nat.reduceEqDiff, Nat.reduceAdd, Nat.reduceMul, Nat.reduceSub, Nat.reduceLeDiff, Int.reduceLT, Int.reduceLE, Int.reduceEq, Int.reduceSub, Int.reduceAdd, Int.reduceMul, Int.reduceNeg, Int.reduceToNat, f1, f2, f3, i1, i2, fc]) <;> (try with_reducible rfl))
        all_goals try (first | omega | (simp only [n_i64, n_u8]; omega) | (simp only [n_i64, n_u8, lnA]; omega) | (simp only [lnA]; done))
        all_goals first | exact s2L_b' h8 hp q2 | (simp only [List.length_reverse, i1]; omega) | (simp only [symL, s2L, s1L, a1, a2, a3, if_true, if_false]; done) | exact hp | skip
  · have f1 : (((k &&& 1 : Nat) : Int) = 0) = True := eq_true (by omega)
    by_cases a2 : k / 2 % 2 = 1
    · have f2 : (((k &&& 2 : Nat) : Int) = 0) = False := eq_false (by omega)
      by_cases a3 : 4 ≤ k
      · have f3 : (((k &&& 4 : Nat) : Int) = 0) = False := eq_false (by omega)
        have q2 : s2L p k = s2L p k := rfl
        conv at q2 => lhs; simp only [s2L, s1L, a1, a2, if_true, if_false]
        have fc : True := trivial
        repeat' first
          | with_reducible first | refine stp ?_ | refine q_blk_o rfl ?_ | (refine hK _ ?_; clear hK) | (refine hA ?_; clear hA hB) | (refine hB ?_; clear hA hB) | exact v_end0 | exact v_end0' | refine v_gb1 ?_ ?_ | refine v_gb0 ?_ ?_ | refine And.intro ?_ ?_
          | (with_reducible refine p_ok ?_; decide)
          | ((first | with_reducible first | refine v_region rfl rfl (fun K hK => ?_) | refine v_draws rfl rfl (fun K hK => ?_) | refine v_if (fun A B hA hB => ?_) | refine v_end rfl ?_ | refine v_fin1 ?_ | refine v_finC1 ?_ | refine v_finR1 ?_ | refine v_callE (slices_Clone_c _ ?_) ?_ | refine v_callE (impl_inverse_c _ ?_ ?_) ?_ | refine v_callE (impl_reverse_c _ ?_) ?_ | refine v_callE (impl_complement_c _ ?_ ?_) ?_ | refine v_finO1 rfl ?_ | refine v_finN1 rfl ?_ ?_ | refine v_apj ?_ (fun j' => ?_) | refine v_stz ?_ ?_ ?_ ?_ ?_ | refine v_stq ?_ | refine v_cv1 ?_ ?_ ?_ | (intro hc; replace fc := And.intro hc fc; try simp only [hcs] at hc)) <;> (try simp (config := { maxSteps := 1000000 }) only [go_sem, ↓reduceIte, reduceCtorEq, Nat.reduceEqDiff, Nat.reduceAdd, Nat.reduceMul, Nat.reduceSub, Nat.reduceLeDiff, Int.reduceLT, Int.reduceLE, Int.reduceEq, Int.reduceSub, Int.reduceAdd, Int.reduceMul, Int.reduceNeg, Int.reduceToNat, f1, f2, f3, i1, i2, fc]) <;> (try with_reducible rfl))
        all_goals try (first | omega | (simp only [n_i64, n_u8]; omega) | (simp only [n_i64, n_u8, lnA]; omega) | (simp only [lnA]; done))
        all_goals first | exact s2L_b' h8 hp q2 | (simp only [List.length_reverse, i1]; omega) | (simp only [symL, s2L, s1L, a1, a2, a3, if_true, if_false]; done) | exact hp | skip
      · have f3 : (((k &&& 4 : Nat) : Int) = 0) = True := eq_true (by omega)
        have q2 : s2L p k = s2L p k := rfl
        conv at q2 => lhs; simp only [s2L, s1L, a1, a2, if_true, if_false]
        have fc : True := trivial
        repeat' first
          | with_reducible first | refine stp ?_ | refine q_blk_o rfl ?_ | (refine hK _ ?_; clear hK) | (refine hA ?_; clear hA hB) | (refine hB ?_; clear hA hB) | exact v_end0 | exact v_end0' | refine v_gb1 ?_ ?_ | refine v_gb0 ?_ ?_ | refine And.intro ?_ ?_
          | (with_reducible refine p_ok ?_; decide)
          | ((first | with_reducible first | refine v_region rfl rfl (fun K hK => ?_) | refine v_draws rfl rfl (fun K hK => ?_) | refine v_if (fun A B hA hB => ?_) | refine v_end rfl ?_ | refine v_fin1 ?_ | refine v_finC1 ?_ | refine v_finR1 ?_ | refine v_callE (slices_Clone_c _ ?_) ?_ | refine v_callE (impl_inverse_c _ ?_ ?_) ?_ | refine v_callE (impl_reverse_c _ ?_) ?_ | refine v_callE (impl_complement_c _ ?_ ?_) ?_ | refine v_finO1 rfl ?_ | refine v_finN1 rfl ?_ ?_ | refine v_apj ?_ (fun j' => ?_) | refine v_stz ?_ ?_ ?_ ?_ ?_ | refine v_stq ?_ | refine v_cv1 ?_ ?_ ?_ | (intro hc; replace fc := And.intro hc fc; try simp only [hcs] at hc)) <;> (try simp (config := { maxSteps := 1000000 }) only [go_sem, ↓reduceIte, reduceCtorEq, Nat.reduceEqDiff, Nat.reduceAdd, Nat.reduceMul, Nat.reduceSub, Nat.reduceLeDiff, Int.reduceLT, Int.reduceLE, Int.reduceEq, Int.reduceSub, Int.reduceAdd, Int.reduceMul, Int.reduceNeg, Int.reduceToNat, f1, f2, f3, i1, i2, fc]) <;> (try with_reducible rfl))
        all_goals try (first | omega | (simp only [n_i64, n_u8]; omega) | (simp only [n_i64, n_u8, lnA]; omega) | (simp only [lnA]; done))
        all_goals first | exact s2L_b' h8 hp q2 | (simp only [List.length_reverse, i1]; omega) | (simp only [symL, s2L, s1L, a1, a2, a3, if_true, if_false]; done) | exact hp | skip
    · have f2 : (((k &&& 2 : Nat) : Int) = 0) = True := eq_true (by omega)
      by_cases a3 : 4 ≤ k
      · have f3 : (((k &&& 4 : Nat) : Int) = 0) = False := eq_false (by omega)
        have q2 : s2L p k = s2L p k := rfl
        conv at q2 => lhs; simp only [s2L, s1L, a1, a2, if_true, if_false]
        have fc : True := trivial
        repeat' first
          | with_reducible first | refine stp ?_ | refine q_blk_o rfl ?_ | (refine hK _ ?_; clear hK) | (refine hA ?_; clear hA hB) | (refine hB ?_; clear hA hB) | exact v_end0 | exact v_end0' | refine v_gb1 ?_ ?_ | refine v_gb0 ?_ ?_ | refine And.intro ?_ ?_
          | (with_reducible refine p_ok ?_; decide)
          | ((first | with_reducible first | refine v_region rfl rfl (fun K hK => ?_) | refine v_draws rfl rfl (fun K hK => ?_) | refine v_if (fun A B hA hB => ?_) | refine v_end rfl ?_ | refine v_fin1 ?_ | refine v_finC1 ?_ | refine v_finR1 ?_ | refine v_callE (slices_Clone_c _ ?_) ?_ | refine v_callE (impl_inverse_c _ ?_ ?_) ?_ | refine v_callE (impl_reverse_c _ ?_) ?_ | refine v_callE (impl_complement_c _ ?_ ?_) ?_ | refine v_finO1 rfl ?_ | refine v_finN1 rfl ?_ ?_ | refine v_apj ?_ (fun j' => ?_) | refine v_stz ?_ ?_ ?_ ?_ ?_ | refine v_stq ?_ | refine v_cv1 ?_ ?_ ?_ | (intro hc; replace fc := And.intro hc fc; try simp only [hcs] at hc)) <;> (try simp (config := { maxSteps := 1000000 }) only [go_sem, ↓reduceIte, reduceCtorEq, Nat.reduceEqDiff, Nat.reduceAdd, Nat.reduceMul, Nat.reduceSub, Nat.reduceLeDiff, Int.reduceLT, Int.reduceLE, Int.reduceEq, Int.reduceSub, Int.reduceAdd, Int.reduceMul, Int.reduceNeg, Int.reduceToNat, f1, f2, f3, i1, i2, fc]) <;> (try with_reducible rfl))
        all_goals try (first | omega | (simp only [n_i64, n_u8]; omega) | (simp only [n_i64, n_u8, lnA]; omega) | (simp only [lnA]; done))
        all_goals first | exact s2L_b' h8 hp q2 | (simp only [List.length_reverse, i1]; omega) | (simp only [symL, s2L, s1L, a1, a2, a3, if_true, if_false]; done) | exact hp | skip
      · have f3 : (((k &&& 4 : Nat) : Int) = 0) = True := eq_true (by omega)
        have q2 : s2L p k = s2L p k := rfl
        conv at q2 => lhs; simp only [s2L, s1L, a1, a2, if_true, if_false]
        have fc : True := trivial
        repeat' first
          | with_reducible first | refine stp ?_ | refine q_blk_o rfl ?_ | (refine hK _ ?_; clear hK) | (refine hA ?_; clear hA hB) | (refine hB ?_; clear hA hB) | exact v_end0 | exact v_end0' | refine v_gb1 ?_ ?_ | refine v_gb0 ?_ ?_ | refine And.intro ?_ ?_
          | (with_reducible refine p_ok ?_; decide)
          | ((first | with_reducible first | refine v_region rfl rfl (fun K hK => ?_) | refine v_draws rfl rfl (fun K hK => ?_) | refine v_if (fun A B hA hB => ?_) | refine v_end rfl ?_ | refine v_fin1 ?_ | refine v_finC1 ?_ | refine v_finR1 ?_ | refine v_callE (slices_Clone_c _ ?_) ?_ | refine v_callE (impl_inverse_c _ ?_ ?_) ?_ | refine v_callE (impl_reverse_c _ ?_) ?_ | refine v_callE (impl_complement_c _ ?_ ?_) ?_ | refine v_finO1 rfl ?_ | refine v_finN1 rfl ?_ ?_ | refine v_apj ?_ (fun j' => ?_) | refine v_stz ?_ ?_ ?_ ?_ ?_ | refine v_stq ?_ | refine v_cv1 ?_ ?_ ?_ | (intro hc; replace fc := And.intro hc fc; try simp only [hcs] at hc)) <;> (try simp (config := { maxSteps := 1000000 }) only [go_sem, ↓reduceIte, reduceCtorEq, Nat.reduceEqDiff, Nat.reduceAdd, Nat.reduceMul, Nat.reduceSub, Nat.reduceLeDiff, Int.reduceLT, Int.reduceLE, Int.reduceEq, Int.reduceSub, Int.reduceAdd, Int.reduceMul, Int.reduceNeg, Int.reduceToNat, f1, f2, f3, i1, i2, fc]) <;> (try with_reducible rfl))
        all_goals try (first | omega | (simp only [n_i64, n_u8]; omega) | (simp only [n_i64, n_u8, lnA]; omega) | (simp only [lnA]; done))
        all_goals first | exact s2L_b' h8 hp q2 | (simp only [List.length_reverse, i1]; omega) | (simp only [symL, s2L, s1L, a1, a2, a3, if_true, if_false]; done) | exact hp | skip
theorem inR_td {k : Nat} (h : k < 8) : inR .i64 ((k : Int).tdiv 2) := by
  show (-9223372036854775808 : Int) ≤ _ ∧ _ ≤ (9223372036854775807 : Int)
  rw [Int.tdiv_eq_ediv_of_nonneg (by omega)]; omega
theorem spec_l3Symmetry_c {m0 : Bool} (p : List Int) (k : Nat) (hk : k < 8) (h8 : p.length ≤ 8) (hp : permB p = true) : Fun Try.prog 155 [(.sl (.lent m0) (List.map (PV.int .i64) (p))), (.int .i64 (k))] [(.sl .own (List.map (PV.int .i64) (symL p k)))] := by
  refine Fun.of (sg := sg0) (ts := [4]) mo Try.func155 rfl rfl rfl rfl (by kernel_rfl) (by simp only [go_sem]) rfl ?_
  have i1 : (inv p).length = p.length := inv_len
  have i2 : List.take p.length (inv p) = inv p := List.take_of_length_le (by omega)
  by_cases a1 : k % 2 = 1
  · have f1 : ((k : Int).tmod 2 = 1) = True := eq_true (by rw [Int.tmod_eq_emod_of_nonneg (by omega)]; omega)
    by_cases a2 : k / 2 % 2 = 1
    · have f2 : (((k : Int).tdiv 2).tmod 2 = 1) = True := eq_true (by rw [Int.tdiv_eq_ediv_of_nonneg (by omega), Int.tmod_eq_emod_of_nonneg (by omega)]; omega)
      by_cases a3 : 4 ≤ k
      · have f3 : (4 ≤ (k : Int)) = True := eq_true (by omega)
        have q2 : s2L p k = s2L p k := rfl
        conv at q2 => lhs; simp only [s2L, s1L, a1, a2, if_true, if_false]
        have fc : True := trivial
        repeat' first
          | with_reducible first | refine stp ?_ | refine q_blk_o rfl ?_ | (refine hK _ ?_; clear hK) | (refine hA ?_; clear hA hB) | (refine hB ?_; clear hA hB) | exact v_end0 | exact v_end0' | refine v_gb1 ?_ ?_ | refine v_gb0 ?_ ?_ | refine And.intro ?_ ?_
          | (with_reducible refine p_ok ?_; decide)
          | ((first | with_reducible first | refine v_region rfl rfl (fun K hK => ?_) | refine v_draws rfl rfl (fun K hK => ?_) | refine v_if (fun A B hA hB => ?_) | refine v_end rfl ?_ | refine v_fin1 ?_ | refine v_finC1 ?_ | refine v_finR1 ?_ | refine v_callE (spec_l2Inverse_c _ ?_ ?_) ?_ | refine v_callE (spec_l3Reverse_c _ ?_) ?_ | refine v_callE (spec_l3Complement_c _ ?_ ?_) ?_ | refine v_finO1 rfl ?_ | refine v_finN1 rfl ?_ ?_ | refine v_apj ?_ (fun j' => ?_) | refine v_stz ?_ ?_ ?_ ?_ ?_ | refine v_stq ?_ | refine v_cv1 ?_ ?_ ?_ | (intro hc; replace fc := And.intro hc fc; try simp only [hcs] at hc)) <;> (try simp (config := { maxSteps := 1000000 }) only [go_sem, ↓reduceIte, reduceCtorEq, Nat.reduceEqDiff, Nat.reduceAdd, Nat.reduceMul, Nat.reduceSub, Nat.reduceLeDiff, Int.reduceLT, Int.reduceLE, Int.reduceEq, Int.reduceSub, Int.reduceAdd, Int.reduceMul, Int.reduceNeg, Int.reduceToNat, f1, f2, f3, i1, i2, fc]) <;> (try with_reducible rfl))
        all_goals try (first | omega | (simp only [n_i64, n_u8]; omega) | (simp only [n_i64, n_u8, lnA]; omega) | (simp only [lnA]; done))
        all_goals first | exact s2L_b' h8 hp q2 | (simp only [List.length_reverse, i1]; omega) | (simp only [symL, s2L, s1L, a1, a2, a3, if_true, if_false]; done) | exact hp | exact inR_td hk | skip
      · have f3 : (4 ≤ (k : Int)) = False := eq_false (by omega)
        have q2 : s2L p k = s2L p k := rfl
        conv at q2 => lhs; simp only [s2L, s1L, a1, a2, if_true, if_false]
        have fc : True := trivial
        repeat' first
          | with_reducible first | refine stp ?_ | refine q_blk_o rfl ?_ | (refine hK _ ?_; clear hK) | (refine hA ?_; clear hA hB) | (refine hB ?_; clear hA hB) | exact v_end0 | exact v_end0' | refine v_gb1 ?_ ?_ | refine v_gb0 ?_ ?_ | refine And.intro ?_ ?_
          | (with_reducible refine p_ok ?_; decide)
          | ((first | with_reducible first | refine v_region rfl rfl (fun K hK => ?_) | refine v_draws rfl rfl (fun K hK => ?_) | refine v_if (fun A B hA hB => ?_) | refine v_end rfl ?_ | refine v_fin1 ?_ | refine v_finC1 ?_ | refine v_finR1 ?_ | refine v_callE (spec_l2Inverse_c _ ?_ ?_) ?_ | refine v_callE (spec_l3Reverse_c _ ?_) ?_ | refine v_callE (spec_l3Complement_c _ ?_ ?_) ?_ | refine v_finO1 rfl ?_ | refine v_finN1 rfl ?_ ?_ | refine v_apj ?_ (fun j' => ?_) | refine v_stz ?_ ?_ ?_ ?_ ?_ | refine v_stq ?_ | refine v_cv1 ?_ ?_ ?_ | (intro hc; replace fc := And.intro hc fc; try simp only [hcs] at hc)) <;> (try simp (config := { maxSteps := 1000000 }) only [go_sem, ↓reduceIte, reduceCtorEq, Nat.reduceEqDiff, Nat.reduceAdd, Nat.reduceMul, Nat.reduceSub, Nat.reduceLeDiff, Int.reduceLT, Int.reduceLE, Int.reduceEq, Int.reduceSub, Int.reduceAdd, Int.reduceMul, Int.reduceNeg, Int.reduceToNat, f1, f2, f3, i1, i2, fc]) <;> (try with_reducible rfl))
        all_goals try (first | omega | (simp only [n_i64, n_u8]; omega) | (simp only [n_i64, n_u8, lnA]; omega) | (simp only [lnA]; done))
        all_goals first | exact s2L_b' h8 hp q2 | (simp only [List.length_reverse, i1]; omega) | (simp only [symL, s2L, s1L, a1, a2, a3, if_true, if_false]; done) | exact hp | exact inR_td hk | skip
    · have f2 : (((k : Int).tdiv 2).tmod 2 = 1) = False := eq_false (by rw [Int.tdiv_eq_ediv_of_nonneg (by omega), Int.tmod_eq_emod_of_nonneg (by omega)]; omega)
      by_cases a3 : 4 ≤ k
      · have f3 : (4 ≤ (k : Int)) = True := eq_true (by omega)
        have q2 : s2L p k = s2L p k := rfl
        conv at q2 => lhs; simp only [s2L, s1L, a1, a2, if_true, if_false]
        have fc : True := trivial
        repeat' first
          | with_reducible first | refine stp ?_ | refine q_blk_o rfl ?_ | (refine hK _ ?_; clear hK) | (refine hA ?_; clear hA hB) | (refine hB ?_; clear hA hB) | exact v_end0 | exact v_end0' | refine v_gb1 ?_ ?_ | refine v_gb0 ?_ ?_ | refine And.intro ?_ ?_
          | (with_reducible refine p_ok ?_; decide)
          | ((first | with_reducible first | refine v_region rfl rfl (fun K hK => ?_) | refine v_draws rfl rfl (fun K hK => ?_) | refine v_if (fun A B hA hB => ?_) | refine v_end rfl ?_ | refine v_fin1 ?_ | refine v_finC1 ?_ | refine v_finR1 ?_ | refine v_callE (spec_l2Inverse_c _ ?_ ?_) ?_ | refine v_callE (spec_l3Reverse_c _ ?_) ?_ | refine v_callE (spec_l3Complement_c _ ?_ ?_) ?_ | refine v_finO1 rfl ?_ | refine v_finN1 rfl ?_ ?_ | refine v_apj ?_ (fun j' => ?_) | refine v_stz ?_ ?_ ?_ ?_ ?_ | refine v_stq ?_ | refine v_cv1 ?_ ?_ ?_ | (intro hc; replace fc := And.intro hc fc; try simp only [hcs] at hc)) <;> (try simp (config := { maxSteps := 1000000 }) only [go_sem, ↓reduceIte, reduceCtorEq, Nat.reduceEqDiff, Nat.reduceAdd, Nat.reduceMul, Nat.reduceSub, Nat.reduceLeDiff, Int.reduceLT, Int.reduceLE, Int.reduceEq, Int.reduceSub, Int.reduceAdd, Int.reduceMul, Int.reduceNeg, Int.reduceToNat, f1, f2, f3, i1, i2, fc]) <;> (try with_reducible rfl))
        all_goals try (first | omega | (simp only [n_i64, n_u8]; omega) | (simp only [n_i64, n_u8, lnA]; omega) | (simp only [lnA]; done))
        all_goals first | exact s2L_b' h8 hp q2 | (simp only [List.length_reverse, i1]; omega) | (simp only [symL, s2L, s1L, a1, a2, a3, if_true, if_false]; done) | exact hp | exact inR_td hk | skip
      · have f3 : (4 ≤ (k : Int)) = False := eq_false (by omega)
        have q2 : s2L p k = s2L p k := rfl
        conv at q2 => lhs; simp only [s2L, s1L, a1, a2, if_true, if_false]
        have fc : True := trivial
        repeat' first
          | with_reducible first | refine stp ?_ | refine q_blk_o rfl ?_ | (refine hK _ ?_; clear hK) | (refine hA ?_; clear hA hB) | (refine hB ?_; clear hA hB) | exact v_end0 | exact v_end0' | refine v_gb1 ?_ ?_ | refine v_gb0 ?_ ?_ | refine And.intro ?_ ?_
          | (with_reducible refine p_ok ?_; decide)
          | ((first | with_reducible first | refine v_region rfl rfl (fun K hK => ?_) | refine v_draws rfl rfl (fun K hK => ?_) | refine v_if (fun A B hA hB => ?_) | refine v_end rfl ?_ | refine v_fin1 ?_ | refine v_finC1 ?_ | refine v_finR1 ?_ | refine v_callE (spec_l2Inverse_c _ ?_ ?_) ?_ | refine v_callE (spec_l3Reverse_c _ ?_) ?_ | refine v_callE (spec_l3Complement_c _ ?_ ?_) ?_ | refine v_finO1 rfl ?_ | refine v_finN1 rfl ?_ ?_ | refine v_apj ?_ (fun j' => ?_) | refine v_stz ?_ ?_ ?_ ?_ ?_ | refine v_stq ?_ | refine v_cv1 ?_ ?_ ?_ | (intro hc; replace fc := And.intro hc fc; try simp only [hcs] at hc)) <;> (try simp (config := { maxSteps := 1000000 }) only [go_sem, ↓reduceIte, reduceCtorEq, Nat.reduceEqDiff, Nat.reduceAdd, Nat.reduceMul, Nat.reduceSub, Nat.reduceLeDiff, Int.reduceLT, Int.reduceLE, Int.reduceEq, Int.reduceSub, Int.reduceAdd, Int.reduceMul, Int.reduceNeg, Int.reduceToNat, f1, f2, f3, i1, i2, fc]) <;> (try with_reducible rfl))
        all_goals try (first | omega | (simp only [n_i64, n_u8]; omega) | (simp only [n_i64, n_u8, lnA]; omega) | (simp only [lnA]; done))
        all_goals first | exact s2L_b' h8 hp q2 | (simp only [List.length_reverse, i1]; omega) | (simp only [symL, s2L, s1L, a1, a2, a3, if_true, if_false]; done) | exact hp | exact inR_td hk | skip
  · have f1 : ((k : Int).tmod 2 = 1) = False := eq_false (by rw [Int.tmod_eq_emod_of_nonneg (by omega)]; omega)
    by_cases a2 : k / 2 % 2 = 1
    · have f2 : (((k : Int).tdiv 2).tmod 2 = 1) = True := eq_true (by rw [Int.tdiv_eq_ediv_of_nonneg (by omega), Int.tmod_eq_emod_of_nonneg (by omega)]; omega)
      by_cases a3 : 4 ≤ k
      · have f3 : (4 ≤ (k : Int)) = True := eq_true (by omega)
        have q2 : s2L p k = s2L p k := rfl
        conv at q2 => lhs; simp only [s2L, s1L, a1, a2, if_true, if_false]
        have fc : True := trivial
        repeat' first
          | with_reducible first | refine stp ?_ | refine q_blk_o rfl ?_ | (refine hK _ ?_; clear hK) | (refine hA ?_; clear hA hB) | (refine hB ?_; clear hA hB) | exact v_end0 | exact v_end0' | refine v_gb1 ?_ ?_ | refine v_gb0 ?_ ?_ | refine And.intro ?_ ?_
          | (with_reducible refine p_ok ?_; decide)
          | ((first | with_reducible first | refine v_region rfl rfl (fun K hK => ?_) | refine v_draws rfl rfl (fun K hK => ?_) | refine v_if (fun A B hA hB => ?_) | refine v_end rfl ?_ | refine v_fin1 ?_ | refine v_finC1 ?_ | refine v_finR1 ?_ | refine v_callE (spec_l2Inverse_c _ ?_ ?_) ?_ | refine v_callE (spec_l3Reverse_c _ ?_) ?_ | refine v_callE (spec_l3Complement_c _ ?_ ?_) ?_ | refine v_finO1 rfl ?_ | refine v_finN1 rfl ?_ ?_ | refine v_apj ?_ (fun j' => ?_) | refine v_stz ?_ ?_ ?_ ?_ ?_ | refine v_stq ?_ | refine v_cv1 ?_ ?_ ?_ | (intro hc; replace fc := And.intro hc fc; try simp only [hcs] at hc)) <;> (try simp (config := { maxSteps := 1000000 }) only [go_sem, ↓reduceIte, reduceCtorEq, Nat.reduceEqDiff, Nat.reduceAdd, Nat.reduceMul, Nat.reduceSub, Nat.reduceLeDiff, Int.reduceLT, Int.reduceLE, Int.reduceEq, Int.reduceSub, Int.reduceAdd, Int.reduceMul, Int.reduceNeg, Int.reduceToNat, f1, f2, f3, i1, i2, fc]) <;> (try with_reducible rfl))
        all_goals try (first | omega | (simp only [n_i64, n_u8]; omega) | (simp only [n_i64, n_u8, lnA]; omega) | (simp only [lnA]; done))
        all_goals first | exact s2L_b' h8 hp q2 | (simp only [List.length_reverse, i1]; omega) | (simp only [symL, s2L, s1L, a1, a2, a3, if_true, if_false]; done) | exact hp | exact inR_td hk | skip
      · have f3 : (4 ≤ (k : Int)) = False := eq_false (by omega)
        have q2 : s2L p k = s2L p k := rfl
        conv at q2 => lhs; simp only [s2L, s1L, a1, a2, if_true, if_false]
        have fc : True := trivial
        repeat' first
          | with_reducible first | refine stp ?_ | refine q_blk_o rfl ?_ | (refine hK _ ?_; clear hK) | (refine hA ?_; clear hA hB) | (refine hB ?_; clear hA hB) | exact v_end0 | exact v_end0' | refine v_gb1 ?_ ?_ | refine v_gb0 ?_ ?_ | refine And.intro ?_ ?_
          | (with_reducible refine p_ok ?_; decide)
          | ((first | with_reducible first | refine v_region rfl rfl (fun K hK => ?_) | refine v_draws rfl rfl (fun K hK => ?_) | refine v_if (fun A B hA hB => ?_) | refine v_end rfl ?_ | refine v_fin1 ?_ | refine v_finC1 ?_ | refine v_finR1 ?_ | refine v_callE (spec_l2Inverse_c _ ?_ ?_) ?_ | refine v_callE (spec_l3Reverse_c _ ?_) ?_ | refine v_callE (spec_l3Complement_c _ ?_ ?_) ?_ | refine v_finO1 rfl ?_ | refine v_finN1 rfl ?_ ?_ | refine v_apj ?_ (fun j' => ?_) | refine v_stz ?_ ?_ ?_ ?_ ?_ | refine v_stq ?_ | refine v_cv1 ?_ ?_ ?_ | (intro hc; replace fc := And.intro hc fc; try simp only [hcs] at hc)) <;> (try simp (config := { maxSteps := 1000000 }) only [go_sem, ↓reduceIte, reduceCtorEq, Nat.reduceEqDiff, Nat.reduceAdd, Nat.reduceMul, Nat.reduceSub, Nat.reduceLeDiff, Int.reduceLT, Int.reduceLE, Int.reduceEq, Int.reduceSub, Int.reduceAdd, Int.reduceMul, Int.reduceNeg, Int.reduceToNat, f1, f2, f3, i1, i2, fc]) <;> (try with_reducible rfl))
        all_goals try (first | omega | (simp only [n_i64, n_u8]; omega) | (simp only [n_i64, n_u8, lnA]; omega) | (simp only [lnA]; done))
        all_goals first | exact s2L_b' h8 hp q2 | (simp only [List.length_reverse, i1]; omega) | (simp only [symL, s2L, s1L, a1, a2, a3, if_true, if_false]; done) | exact hp | exact inR_td hk | skip
    · have f2 : (((k : Int).tdiv 2).tmod 2 = 1) = False := eq_false (by rw [Int.tdiv_eq_ediv_of_nonneg (by omega), Int.tmod_eq_emod_of_nonneg (by omega)]; omega)
      by_cases a3 : 4 ≤ k
      · have f3 : (4 ≤ (k : Int)) = True := eq_true (by omega)
        have q2 : s2L p k = s2L p k := rfl
        conv at q2 => lhs; simp only [s2L, s1L, a1, a2, if_true, if_false]
        have fc : True := trivial
        repeat' first
          | with_reducible first | refine stp ?_ | refine q_blk_o rfl ?_ | (refine hK _ ?_; clear hK) | (refine hA ?_; clear hA hB) | (refine hB ?_; clear hA hB) | exact v_end0 | exact v_end0' | refine v_gb1 ?_ ?_ | refine v_gb0 ?_ ?_ | refine And.intro ?_ ?_
          | (with_reducible refine p_ok ?_; decide)
          | ((first | with_reducible first | refine v_region rfl rfl (fun K hK => ?_) | refine v_draws rfl rfl (fun K hK => ?_) | refine v_if (fun A B hA hB => ?_) | refine v_end rfl ?_ | refine v_fin1 ?_ | refine v_finC1 ?_ | refine v_finR1 ?_ | refine v_callE (spec_l2Inverse_c _ ?_ ?_) ?_ | refine v_callE (spec_l3Reverse_c _ ?_) ?_ | refine v_callE (spec_l3Complement_c _ ?_ ?_) ?_ | refine v_finO1 rfl ?_ | refine v_finN1 rfl ?_ ?_ | refine v_apj ?_ (fun j' => ?_) | refine v_stz ?_ ?_ ?_ ?_ ?_ | refine v_stq ?_ | refine v_cv1 ?_ ?_ ?_ | (intro hc; replace fc := And.intro hc fc; try simp only [hcs] at hc)) <;> (try simp (config := { maxSteps := 1000000 }) only [go_sem, ↓reduceIte, reduceCtorEq, Nat.reduceEqDiff, Nat.reduceAdd, Nat.reduceMul, Nat.reduceSub, Nat.reduceLeDiff, Int.reduceLT, Int.reduceLE, Int.reduceEq, Int.reduceSub, Int.reduceAdd, Int.reduceMul, Int.reduceNeg, Int.reduceToNat, f1, f2, f3, i1, i2, fc]) <;> (try with_reducible rfl))
        all_goals try (first | omega | (simp only [n_i64, n_u8]; omega) | (simp only [n_i64, n_u8, lnA]; omega) | (simp only [lnA]; done))
        all_goals first | exact s2L_b' h8 hp q2 | (simp only [List.length_reverse, i1]; omega) | (simp only [symL, s2L, s1L, a1, a2, a3, if_true, if_false]; done) | exact hp | exact inR_td hk | skip
      · have f3 : (4 ≤ (k : Int)) = False := eq_false (by omega)
        have q2 : s2L p k = s2L p k := rfl
        conv at q2 => lhs; simp only [s2L, s1L, a1, a2, if_true, if_false]
        have fc : True := trivial
        repeat' first
          | with_reducible first | refine stp ?_ | refine q_blk_o rfl ?_ | (refine hK _ ?_; clear hK) | (refine hA ?_; clear hA hB) | (refine hB ?_; clear hA hB) | exact v_end0 | exact v_end0' | refine v_gb1 ?_ ?_ | refine v_gb0 ?_ ?_ | refine And.intro ?_ ?_
          | (with_reducible refine p_ok ?_; decide)
          | ((first | with_reducible first | refine v_region rfl rfl (fun K hK => ?_) | refine v_draws rfl rfl (fun K hK => ?_) | refine v_if (fun A B hA hB => ?_) | refine v_end rfl ?_ | refine v_fin1 ?_ | refine v_finC1 ?_ | refine v_finR1 ?_ | refine v_callE (spec_l2Inverse_c _ ?_ ?_) ?_ | refine v_callE (spec_l3Reverse_c _ ?_) ?_ | refine v_callE (spec_l3Complement_c _ ?_ ?_) ?_ | refine v_finO1 rfl ?_ | refine v_finN1 rfl ?_ ?_ | refine v_apj ?_ (fun j' => ?_) | refine v_stz ?_ ?_ ?_ ?_ ?_ | refine v_stq ?_ | refine v_cv1 ?_ ?_ ?_ | (intro hc; replace fc := And.intro hc fc; try simp only [hcs] at hc)) <;> (try simp (config := { maxSteps := 1000000 }) only [go_sem, ↓reduceIte, reduceCtorEq, Nat.reduceEqDiff, Nat.reduceAdd, Nat.reduceMul, Nat.reduceSub, Nat.reduceLeDiff, Int.reduceLT, Int.reduceLE, Int.reduceEq, Int.reduceSub, Int.reduceAdd, Int.reduceMul, Int.reduceNeg, Int.reduceToNat, f1, f2, f3, i1, i2, fc]) <;> (try with_reducible rfl))
        all_goals try (first | omega | (simp only [n_i64, n_u8]; omega) | (simp only [n_i64, n_u8, lnA]; omega) | (simp only [lnA]; done))
        all_goals first | exact s2L_b' h8 hp q2 | (simp only [List.length_reverse, i1]; omega) | (simp only [symL, s2L, s1L, a1, a2, a3, if_true, if_false]; done) | exact hp | exact inR_td hk | skip
def clsL (p : List Int) : List (List Int) := if isPermB p then putL ((List.range 8).map (symL p)) else []
theorem clsL_len {p : List Int} : (clsL p).length ≤ 8 := by
  unfold clsL; split
  · have := putL_len (L := (List.range 8).map (symL p)); rw [List.length_map, List.length_range] at this; exact this
  · simp
theorem clsL_lens {p : List Int} (hp : p.length ≤ 1048576) : ∀ l ∈ clsL p, l.length ≤ 1048576 := by
  unfold clsL; split
  · refine put_lens fun l hl => ?_
    obtain ⟨k, _, rfl⟩ := List.mem_map.1 hl
    rw [symL_len]; exact hp
  · intro l hl; cases hl
theorem impl_SymmetryClass_c {m0 : Bool} (p : List Int) (hl : p.length ≤ 1048576) (hp : isPermB p = true) : Fun Try.prog 101 [(.sl (.lent m0) (List.map (PV.int .i64) (p)))] [(.sl .own (List.map (elI false) (clsL p)))] := by
  refine Fun.of (sg := sg0) (ts := [2]) mo Try.func101 rfl rfl rfl rfl (by kernel_rfl) (by simp only [go_sem]) rfl ?_
  obtain ⟨h8, hq⟩ := isP_8 hp
  have fc : True := trivial
  repeat' first
    | with_reducible first | refine stp ?_ | refine q_blk_o rfl ?_ | (refine hK _ ?_; clear hK) | (refine hA ?_; clear hA hB) | (refine hB ?_; clear hA hB) | exact v_end0 | exact v_end0' | refine v_gb1 ?_ ?_ | refine v_gb0 ?_ ?_ | refine And.intro ?_ ?_
    | (with_reducible refine p_ok ?_; decide)
    | ((first | with_reducible first | refine v_region rfl rfl (fun K hK => ?_) | refine v_draws rfl rfl (fun K hK => ?_) | refine v_if (fun A B hA hB => ?_) | refine v_end rfl ?_ | refine v_fin1 ?_ | refine v_finC1 ?_ | refine v_finR1 ?_ | refine v_callE (impl_IsPerm_c _ ?_) ?_ | refine v_callE (impl_symmetry_c _ _ ?_ ?_ ?_) ?_ | refine v_callE (impl_ordered_c _ ?_ ?_) ?_ | refine v_finO1 rfl ?_ | refine v_finN1 rfl ?_ ?_ | refine v_apj ?_ (fun j' => ?_) | refine v_stz ?_ ?_ ?_ ?_ ?_ | refine v_stq ?_ | refine v_cv1 ?_ ?_ ?_ | (intro hc; replace fc := And.intro hc fc; try simp only [hcs] at hc)) <;> (try simp (config := { maxSteps := 1000000 }) only [go_sem, ↓reduceIte, reduceCtorEq, Nat.reduceEqDiff, Nat.reduceAdd, Nat.reduceMul, Nat.reduceSub, Nat.reduceLeDiff, Int.reduceLT, Int.reduceLE, Int.reduceEq, Int.reduceSub, Int.reduceAdd, Int.reduceMul, Int.reduceNeg, Int.reduceToNat, hp, fc]) <;> (try with_reducible rfl))
  all_goals try (first | omega | (simp only [n_i64, n_u8]; omega) | (simp only [n_i64, n_u8, lnA]; omega) | (simp only [lnA]; done))
  refine v_loop (fun ms1 S1 => ∃ (k : Nat), S1.e 0 = .p (.sl (.lent m0) (List.map (PV.int .i64) (p))) ∧ OwnL (S1.e 3) S1.h S1.n (elI false) (((List.range k).map (symL p)).length) ((List.range k).map (symL p)) ∧ S1.e 9 = .p (.int .i64 (k)) ∧ (k ≤ 8) ∧ ms1 = 8 - k) ((fun (k : Nat) => 8 - k) (0)) ?init1_3 ?body1_3
  case' init1_3 =>
    refine ⟨0, ?_, ?_, ?_, ?_, rfl⟩
    all_goals (try simp only [go_sem, ↓reduceIte, reduceCtorEq, Nat.reduceEqDiff, Nat.reduceAdd, Nat.reduceMul, Nat.reduceSub, Nat.reduceLeDiff, Int.reduceLT, Int.reduceLE, Int.reduceEq, Int.reduceSub, Int.reduceAdd, Int.reduceMul, Int.reduceNeg, Int.reduceToNat])
    repeat' refine And.intro ?_ ?_
    all_goals try first | rfl | omega | (simp only [lnA] <;> omega) | ((first | refine stp ?_ | refine dkz_eq ?_ ?_) <;> first | rfl | omega | (simp only [lnA] <;> omega) | (simp only [lnA, List.append_assoc, List.cons_append, List.nil_append]; done) | skip)
  case' body1_3 =>
    rintro ms1 S1 ⟨k, h1_0, o1_3, h1_9, c1_0, hm1⟩
    obtain ⟨i1_3, h1_3, b1_3, l1_3⟩ := o1_3.out
    have ni1_3 : ∀ c, (i1_3 = S1.n + c) = False := fun c => eq_false (by omega)
    have pi1_3 : ∀ c, (S1.n + c = i1_3) = False := fun c => eq_false (by omega)
    have qi1_3 : (i1_3 = S1.n) = False := eq_false (by omega)
    have ri1_3 : (S1.n = i1_3) = False := eq_false (by omega)
  · have b1 : ((List.range k).map (symL p)).length = k := by simp
    have fc : True := trivial
    repeat' first
      | with_reducible first | refine stp ?_ | refine q_blk_o rfl ?_ | (refine hK _ ?_; clear hK) | (refine hA ?_; clear hA hB) | (refine hB ?_; clear hA hB) | exact v_end0 | exact v_end0' | refine v_gb1 ?_ ?_ | refine v_gb0 ?_ ?_ | refine And.intro ?_ ?_
      | (with_reducible refine p_ok ?_; decide)
      | ((first | with_reducible first | refine v_region rfl rfl (fun K hK => ?_) | refine v_draws rfl rfl (fun K hK => ?_) | refine v_if (fun A B hA hB => ?_) | refine v_end rfl ?_ | refine v_fin1 ?_ | refine v_finC1 ?_ | refine v_finR1 ?_ | refine v_callE (impl_IsPerm_c _ ?_) ?_ | refine v_callE (impl_symmetry_c _ _ ?_ ?_ ?_) ?_ | refine v_callE (impl_ordered_c _ ?_ ?_) ?_ | refine v_finO1 rfl ?_ | refine v_finN1 rfl ?_ ?_ | refine v_apj ?_ (fun j' => ?_) | refine v_stz ?_ ?_ ?_ ?_ ?_ | refine v_stq ?_ | refine v_cv1 ?_ ?_ ?_ | (intro hc; replace fc := And.intro hc fc; try simp only [hcs] at hc)) <;> (try simp (config := { maxSteps := 1000000 }) only [go_sem, ↓reduceIte, reduceCtorEq, Nat.reduceEqDiff, Nat.reduceAdd, Nat.reduceMul, Nat.reduceSub, Nat.reduceLeDiff, Int.reduceLT, Int.reduceLE, Int.reduceEq, Int.reduceSub, Int.reduceAdd, Int.reduceMul, Int.reduceNeg, Int.reduceToNat, h1_0, h1_9, h1_3, b1_3, ni1_3, pi1_3, qi1_3, ri1_3, hp, fc]) <;> (try with_reducible rfl))
    all_goals try (first | omega | (simp only [n_i64, n_u8]; omega) | (simp only [n_i64, n_u8, lnA]; omega) | (simp only [lnA]; done))
    · focus
        refine q_lp_n ((fun (k : Nat) => 8 - k) (k+1)) ?_ ⟨k+1, ?_, ?_, ?_, ?_, rfl⟩
        all_goals (try simp only [go_sem, ↓reduceIte, reduceCtorEq, Nat.reduceEqDiff, Nat.reduceAdd, Nat.reduceMul, Nat.reduceSub, Nat.reduceLeDiff, Int.reduceLT, Int.reduceLE, Int.reduceEq, Int.reduceSub, Int.reduceAdd, Int.reduceMul, Int.reduceNeg, Int.reduceToNat, h1_0, h1_9, h1_3, b1_3, ni1_3, pi1_3, qi1_3, ri1_3])
        repeat' refine And.intro ?_ ?_
        all_goals try first | rfl | omega | (simp only [lnA] <;> omega) | ((first | refine stp ?_ | refine dkz_eq ?_ ?_) <;> first | rfl | omega | (simp only [lnA] <;> omega) | (simp only [lnA, List.append_assoc, List.cons_append, List.nil_append]; done) | skip)
      · simp
      · rw [List.map_append]; rfl
    · obtain rfl : k = 8 := by omega
      intro l h
      obtain ⟨k, _, rfl⟩ := List.mem_map.1 h
      rw [symL_len]; exact hl
    · obtain rfl : k = 8 := by omega
      rw [clsL, if_pos hp]; rfl
def sgSyC : FuncId → List Bool := fun f => if f = 154 then [true] else []
theorem sgSyC_eq {f : FuncId} : sgSyC f = if f = 154 then [true] else [] := _root_.id rfl
theorem wayE_sgSyC : wayE sgSyC = false := _root_.id rfl
theorem wayN_sgSyC : wayN sgSyC = false := _root_.id rfl
theorem wayS_sgSyC : wayS sgSyC = false := _root_.id rfl
theorem wayZ_sgSyC : wayZ sgSyC = false := _root_.id rfl
attribute [go_sem] sgSyC_eq wayE_sgSyC wayN_sgSyC wayS_sgSyC wayZ_sgSyC
theorem spec_SymmetryClass_c {m0 : Bool} (p : List Int) (hl : p.length ≤ 1048576) (hp : isPermB p = true) : Fun Try.prog 99 [(.sl (.lent m0) (List.map (PV.int .i64) (p)))] [(.sl .own (List.map (elI false) (clsL p)))] := by
  refine Fun.of (sg := sgSyC) (ts := [2]) mo Try.func99 rfl rfl rfl rfl (by kernel_rfl) (by simp only [go_sem]) rfl ?_
  obtain ⟨h8, hq⟩ := isP_8 hp
  have fc : True := trivial
  repeat' first
    | with_reducible first | refine stp ?_ | refine q_blk_o rfl ?_ | (refine hK _ ?_; clear hK) | (refine hA ?_; clear hA hB) | (refine hB ?_; clear hA hB) | exact v_end0 | exact v_end0' | refine v_gb1 ?_ ?_ | refine v_gb0 ?_ ?_ | refine And.intro ?_ ?_
    | (with_reducible refine p_ok ?_; decide)
    | ((first | with_reducible first | refine v_region rfl rfl (fun K hK => ?_) | refine v_draws rfl rfl (fun K hK => ?_) | refine v_if (fun A B hA hB => ?_) | refine v_end rfl ?_ | refine v_fin1 ?_ | refine v_finC1 ?_ | refine v_finR1 ?_ | refine v_callE (spec_IsPerm_c _ ?_) ?_ | refine v_callE (spec_l3Symmetry_c _ _ ?_ ?_ ?_) ?_ | refine v_callN (spec_l3Put_c _ _ ?_ ?_ ?_) rfl ?_ ?_ | refine v_callT (spec_l3Put_c _ _ ?_ ?_ ?_) rfl ?_ ?_ | refine v_callTd (spec_l3Put_c _ _ ?_ ?_ ?_) rfl ?_ ?_ | refine v_callR (spec_l3Put_c _ _ ?_ ?_ ?_) rfl ?_ ?_ | refine v_callT3 (spec_l3Put_c _ _ ?_ ?_ ?_) ?_ ?_ | refine v_callT4 (spec_l3Put_c _ _ ?_ ?_ ?_) ?_ ?_ | refine v_finO1 rfl ?_ | refine v_finN1 rfl ?_ ?_ | refine v_apj ?_ (fun j' => ?_) | refine v_stz ?_ ?_ ?_ ?_ ?_ | refine v_stq ?_ | refine v_cv1 ?_ ?_ ?_ | (intro hc; replace fc := And.intro hc fc; try simp only [hcs] at hc)) <;> (try simp (config := { maxSteps := 1000000 }) only [go_sem, ↓reduceIte, reduceCtorEq, Nat.reduceEqDiff, Nat.reduceAdd, Nat.reduceMul, Nat.reduceSub, Nat.reduceLeDiff, Int.reduceLT, Int.reduceLE, Int.reduceEq, Int.reduceSub, Int.reduceAdd, Int.reduceMul, Int.reduceNeg, Int.reduceToNat, hp, fc]) <;> (try with_reducible rfl))
  all_goals try (first | omega | (simp only [n_i64, n_u8]; omega) | (simp only [n_i64, n_u8, lnA]; omega) | (simp only [lnA]; done))
  refine v_loop (fun ms1 S1 => ∃ (k : Nat), S1.e 0 = .p (.sl (.lent m0) (List.map (PV.int .i64) (p))) ∧ OwnL (S1.e 3) S1.h S1.n (elI false) ((putL ((List.range k).map (symL p))).length) (putL ((List.range k).map (symL p))) ∧ S1.e 4 = .p (.int .i64 (k)) ∧ (k ≤ 8) ∧ ms1 = 8 - k) ((fun (k : Nat) => 8 - k) (0)) ?init1_4 ?body1_4
  case' init1_4 =>
    refine ⟨0, ?_, ?_, ?_, ?_, rfl⟩
    all_goals (try simp only [go_sem, ↓reduceIte, reduceCtorEq, Nat.reduceEqDiff, Nat.reduceAdd, Nat.reduceMul, Nat.reduceSub, Nat.reduceLeDiff, Int.reduceLT, Int.reduceLE, Int.reduceEq, Int.reduceSub, Int.reduceAdd, Int.reduceMul, Int.reduceNeg, Int.reduceToNat])
    repeat' refine And.intro ?_ ?_
    all_goals try first | rfl | omega | (simp only [lnA] <;> omega) | ((first | refine stp ?_ | refine dkz_eq ?_ ?_) <;> first | rfl | omega | (simp only [lnA] <;> omega) | (simp only [lnA, List.append_assoc, List.cons_append, List.nil_append]; done) | skip)
  case' body1_4 =>
    rintro ms1 S1 ⟨k, h1_0, o1_3, h1_4, c1_0, hm1⟩
    obtain ⟨i1_3, h1_3, b1_3, l1_3⟩ := o1_3.out
    have ni1_3 : ∀ c, (i1_3 = S1.n + c) = False := fun c => eq_false (by omega)
    have pi1_3 : ∀ c, (S1.n + c = i1_3) = False := fun c => eq_false (by omega)
    have qi1_3 : (i1_3 = S1.n) = False := eq_false (by omega)
    have ri1_3 : (S1.n = i1_3) = False := eq_false (by omega)
  · have b1 := putL_len (L := (List.range k).map (symL p))
    rw [List.length_map, List.length_range] at b1
    have fc : True := trivial
    repeat' first
      | with_reducible first | refine stp ?_ | refine q_blk_o rfl ?_ | (refine hK _ ?_; clear hK) | (refine hA ?_; clear hA hB) | (refine hB ?_; clear hA hB) | exact v_end0 | exact v_end0' | refine v_gb1 ?_ ?_ | refine v_gb0 ?_ ?_ | refine And.intro ?_ ?_
      | (with_reducible refine p_ok ?_; decide)
      | ((first | with_reducible first | refine v_region rfl rfl (fun K hK => ?_) | refine v_draws rfl rfl (fun K hK => ?_) | refine v_if (fun A B hA hB => ?_) | refine v_end rfl ?_ | refine v_fin1 ?_ | refine v_finC1 ?_ | refine v_finR1 ?_ | refine v_callE (spec_IsPerm_c _ ?_) ?_ | refine v_callE (spec_l3Symmetry_c _ _ ?_ ?_ ?_) ?_ | refine v_callN (spec_l3Put_c _ _ ?_ ?_ ?_) rfl ?_ ?_ | refine v_callT (spec_l3Put_c _ _ ?_ ?_ ?_) rfl ?_ ?_ | refine v_callTd (spec_l3Put_c _ _ ?_ ?_ ?_) rfl ?_ ?_ | refine v_callR (spec_l3Put_c _ _ ?_ ?_ ?_) rfl ?_ ?_ | refine v_callT3 (spec_l3Put_c _ _ ?_ ?_ ?_) ?_ ?_ | refine v_callT4 (spec_l3Put_c _ _ ?_ ?_ ?_) ?_ ?_ | refine v_finO1 rfl ?_ | refine v_finN1 rfl ?_ ?_ | refine v_apj ?_ (fun j' => ?_) | refine v_stz ?_ ?_ ?_ ?_ ?_ | refine v_stq ?_ | refine v_cv1 ?_ ?_ ?_ | (intro hc; replace fc := And.intro hc fc; try simp only [hcs] at hc)) <;> (try simp (config := { maxSteps := 1000000 }) only [go_sem, ↓reduceIte, reduceCtorEq, Nat.reduceEqDiff, Nat.reduceAdd, Nat.reduceMul, Nat.reduceSub, Nat.reduceLeDiff, Int.reduceLT, Int.reduceLE, Int.reduceEq, Int.reduceSub, Int.reduceAdd, Int.reduceMul, Int.reduceNeg, Int.reduceToNat, h1_0, h1_4, h1_3, b1_3, ni1_3, pi1_3, qi1_3, ri1_3, hp, fc]) <;> (try with_reducible rfl))
    all_goals try (first | omega | (simp only [n_i64, n_u8]; omega) | (simp only [n_i64, n_u8, lnA]; omega) | (simp only [lnA]; done))
    · refine put_lens fun l h => ?_
      obtain ⟨k, _, rfl⟩ := List.mem_map.1 h
      rw [symL_len]; exact hl
    · rw [symL_len]; exact hl
    · focus
        refine q_lp_n ((fun (k : Nat) => 8 - k) (k+1)) ?_ ⟨k+1, ?_, ?_, ?_, ?_, rfl⟩
        all_goals (try simp only [go_sem, ↓reduceIte, reduceCtorEq, Nat.reduceEqDiff, Nat.reduceAdd, Nat.reduceMul, Nat.reduceSub, Nat.reduceLeDiff, Int.reduceLT, Int.reduceLE, Int.reduceEq, Int.reduceSub, Int.reduceAdd, Int.reduceMul, Int.reduceNeg, Int.reduceToNat, h1_0, h1_4, h1_3, b1_3, ni1_3, pi1_3, qi1_3, ri1_3])
        repeat' refine And.intro ?_ ?_
        all_goals try first | rfl | omega | (simp only [lnA] <;> omega) | ((first | refine stp ?_ | refine dkz_eq ?_ ?_) <;> first | rfl | omega | (simp only [lnA] <;> omega) | (simp only [lnA, List.append_assoc, List.cons_append, List.nil_append]; done) | skip)
      all_goals rw [← List.range_succ, putL_snoc]
    · obtain rfl : k = 8 := by omega
      rw [clsL, if_pos hp]
def symT (p : List Int) : List UInt8 := if isPermB p then txtL (clsL p) else []
theorem impl_SymmetryText_c {m0 : Bool} (p : List Int) (hl : p.length ≤ 1048576) : Fun Try.prog 21 [(.sl (.lent m0) (List.map (PV.int .i64) (p)))] [(.str (symT p))] := by
  refine Fun.of (sg := sg0) (ts := [2]) mo Try.func21 rfl rfl rfl rfl (by kernel_rfl) (by simp only [go_sem]) rfl ?_
  have b1 := clsL_len (p := p)
  have b2 := clsL_lens hl
  have fc : True := trivial
  repeat' first
    | with_reducible first | refine stp ?_ | refine q_blk_o rfl ?_ | (refine hK _ ?_; clear hK) | (refine hA ?_; clear hA hB) | (refine hB ?_; clear hA hB) | exact v_end0 | exact v_end0' | refine v_gb1 ?_ ?_ | refine v_gb0 ?_ ?_ | refine And.intro ?_ ?_
    | (with_reducible refine p_ok ?_; decide)
    | ((first | with_reducible first | refine v_region rfl rfl (fun K hK => ?_) | refine v_draws rfl rfl (fun K hK => ?_) | refine v_if (fun A B hA hB => ?_) | refine v_end rfl ?_ | refine v_fin1 ?_ | refine v_finC1 ?_ | refine v_finR1 ?_ | refine v_callE (impl_IsPerm_c _ ?_) ?_ | refine v_callE (impl_SymmetryClass_c _ ?_ ?_) ?_ | refine v_callE (impl_PermsText_c _ ?_ ?_) ?_ | refine v_finO1 rfl ?_ | refine v_finN1 rfl ?_ ?_ | refine v_apj ?_ (fun j' => ?_) | refine v_stz ?_ ?_ ?_ ?_ ?_ | refine v_stq ?_ | refine v_cv1 ?_ ?_ ?_ | (intro hc; replace fc := And.intro hc fc; try simp only [hcs] at hc)) <;> (try simp (config := { maxSteps := 1000000 }) only [go_sem, ↓reduceIte, reduceCtorEq, Nat.reduceEqDiff, Nat.reduceAdd, Nat.reduceMul, Nat.reduceSub, Nat.reduceLeDiff, Int.reduceLT, Int.reduceLE, Int.reduceEq, Int.reduceSub, Int.reduceAdd, Int.reduceMul, Int.reduceNeg, Int.reduceToNat, fc]) <;> (try with_reducible rfl))
  all_goals try (first | omega | (simp only [n_i64, n_u8]; omega) | (simp only [n_i64, n_u8, lnA]; omega) | (simp only [lnA]; done))
  all_goals (rw [symT, hc]; rfl)
theorem spec_SymmetryText_c {m0 : Bool} (p : List Int) (hl : p.length ≤ 1048576) : Fun Try.prog 20 [(.sl (.lent m0) (List.map (PV.int .i64) (p)))] [(.str (symT p))] := by
  refine Fun.of (sg := sg0) (ts := [2]) mo Try.func20 rfl rfl rfl rfl (by kernel_rfl) (by simp only [go_sem]) rfl ?_
  have b1 := clsL_len (p := p)
  have b2 := clsL_lens hl
  have fc : True := trivial
  repeat' first
    | with_reducible first | refine stp ?_ | refine q_blk_o rfl ?_ | (refine hK _ ?_; clear hK) | (refine hA ?_; clear hA hB) | (refine hB ?_; clear hA hB) | exact v_end0 | exact v_end0' | refine v_gb1 ?_ ?_ | refine v_gb0 ?_ ?_ | refine And.intro ?_ ?_
    | (with_reducible refine p_ok ?_; decide)
    | ((first | with_reducible first | refine v_region rfl rfl (fun K hK => ?_) | refine v_draws rfl rfl (fun K hK => ?_) | refine v_if (fun A B hA hB => ?_) | refine v_end rfl ?_ | refine v_fin1 ?_ | refine v_finC1 ?_ | refine v_finR1 ?_ | refine v_callE (spec_IsPerm_c _ ?_) ?_ | refine v_callE (spec_SymmetryClass_c _ ?_ ?_) ?_ | refine v_callE (spec_PermsText_c _ ?_ ?_) ?_ | refine v_finO1 rfl ?_ | refine v_finN1 rfl ?_ ?_ | refine v_apj ?_ (fun j' => ?_) | refine v_stz ?_ ?_ ?_ ?_ ?_ | refine v_stq ?_ | refine v_cv1 ?_ ?_ ?_ | (intro hc; replace fc := And.intro hc fc; try simp only [hcs] at hc)) <;> (try simp (config := { maxSteps := 1000000 }) only [go_sem, ↓reduceIte, reduceCtorEq, Nat.reduceEqDiff, Nat.reduceAdd, Nat.reduceMul, Nat.reduceSub, Nat.reduceLeDiff, Int.reduceLT, Int.reduceLE, Int.reduceEq, Int.reduceSub, Int.reduceAdd, Int.reduceMul, Int.reduceNeg, Int.reduceToNat, fc]) <;> (try with_reducible rfl))
  all_goals try (first | omega | (simp only [n_i64, n_u8]; omega) | (simp only [n_i64, n_u8, lnA]; omega) | (simp only [lnA]; done))
  all_goals (rw [symT, hc]; rfl)
end Go.Gl
