/-
  The symmetries of a permutation, written. Conditions: none.
-/
import Derived.Test.YtnoedblfedppkaaOrd
import Derived.Test.YtnoedblfedppkaaPermF
import Derived.Test.YtnoedblfedppkaaPText
import Derived.Test.YtnoedblfedppkaaLib
import Derived.Test.YtnoedblfedppkaaShelf
set_option linter.unusedSimpArgs false
set_option linter.unusedVariables false
set_option maxRecDepth 20000
set_option linter.unusedSectionVars false
namespace Go.Gl
open Go Go.Proofs
variable [Amb]
/-- The first and last i are turned round. -/
def revK (L : List Int) (i : Nat) : List Int := (List.range L.length).map fun q => if q < i ∨ L.length ≤ q + i then L.getD (L.length - 1 - q) 0 else L.getD q 0
theorem revK_len {L : List Int} {i : Nat} : (revK L i).length = L.length := by simp [revK]
theorem revK_get {L : List Int} {i q : Nat} : (revK L i)[q]? = if q < L.length then some (if q < i ∨ L.length ≤ q + i then L.getD (L.length - 1 - q) 0 else L.getD q 0) else none := by
  unfold revK
  rw [List.getElem?_map]
  by_cases h : q < L.length
  · rw [if_pos h, List.getElem?_range h]; rfl
  · rw [if_neg h, List.getElem?_eq_none (by simp; omega)]; rfl
theorem getI_some {L : List Int} {i : Nat} (h : i < L.length) : L[i]? = some (L.getD i 0) := by
  rw [List.getD_eq_getElem?_getD, List.getElem?_eq_getElem h]; rfl
theorem revK_0 {L : List Int} : revK L 0 = L := by
  apply List.ext_getElem?; intro q
  rw [revK_get]
  by_cases h : q < L.length
  · rw [if_pos h, if_neg (by omega), getI_some h]
  · rw [if_neg h, List.getElem?_eq_none (by omega)]
theorem revK_end {L : List Int} {i : Nat} (h1 : 2 * i ≤ L.length) (h2 : L.length ≤ 2 * i + 1) : revK L i = L.reverse := by
  apply List.ext_getElem?; intro q
  rw [revK_get]
  by_cases h : q < L.length
  · rw [if_pos h, List.getElem?_reverse h, getI_some (by omega)]
    by_cases e : q < i ∨ L.length ≤ q + i
    · rw [if_pos e]
    · rw [if_neg e, show L.length - 1 - q = q by omega]
  · rw [if_neg h, List.getElem?_eq_none (by simp; omega)]
theorem revK_lo {L : List Int} {i : Nat} (h : 2 * i + 1 < L.length) : (revK L i).getD i 0 = L.getD i 0 ∧ (revK L i).getD (L.length - 1 - i) 0 = L.getD (L.length - 1 - i) 0 := by
  constructor
  · rw [List.getD_eq_getElem?_getD, revK_get, if_pos (by omega), if_neg (by omega)]; rfl
  · rw [List.getD_eq_getElem?_getD, revK_get, if_pos (by omega), if_neg (by omega)]; rfl
theorem revK_step {L : List Int} {i : Nat} (h : 2 * i + 1 < L.length) : ((revK L i).set i (L.getD (L.length - 1 - i) 0)).set (L.length - 1 - i) (L.getD i 0) = revK L (i + 1) := by
  apply List.ext_getElem?; intro q
  rw [List.getElem?_set, List.getElem?_set, List.length_set, revK_len, revK_get, revK_get]
  by_cases e1 : L.length - 1 - i = q
  · rw [if_pos e1, if_pos (by omega), if_pos (by omega), if_pos (by omega), ← e1, show L.length - 1 - (L.length - 1 - i) = i by omega]
  · rw [if_neg e1]
    by_cases e2 : i = q
    · subst e2; rw [if_pos rfl, if_pos (by omega), if_pos (by omega), if_pos (by omega)]
    · rw [if_neg e2]
      by_cases hq : q < L.length
      · rw [if_pos hq, if_pos hq]
        by_cases e3 : q < i ∨ L.length ≤ q + i
        · rw [if_pos e3, if_pos (by omega)]
        · rw [if_neg e3, if_neg (by omega)]
      · rw [if_neg hq, if_neg hq]
theorem slices_Reverse_int_int_c (L : List Int) (hL : L.length ≤ 1048576) : CallT Try.prog false 231 [.mu false (List.map (PV.int .i64) (L))] [some (List.map (PV.int .i64) (L.reverse))] [] := by
  refine CallT.of (sg := sg0) (ts := []) mo Try.func231 rfl rfl rfl rfl (by kernel_rfl) (by simp only [go_sem]) rfl (by simp only [go_sem]) ?_
  have fc : True := trivial
  repeat' first
    | with_reducible first | refine stp ?_ | refine q_blk_o rfl ?_ | (refine hK _ ?_; clear hK) | (refine hA ?_; clear hA hB) | (refine hB ?_; clear hA hB) | exact v_end0 | exact v_end0' | refine v_gb1 ?_ ?_ | refine v_gb0 ?_ ?_ | refine And.intro ?_ ?_
    | (with_reducible refine hK _ _ ?_ ?_; focus (first | exact clearAll_quiet rfl | (refine clearAll_of [false, false, false, false, false, false, false, false, false, false, false, false, false, true, false, true] [(2, 13), (3, 13)] rfl (by decide +kernel) ?_; try simp only [go_sem, ↓reduceIte, reduceCtorEq, Nat.reduceEqDiff, Nat.reduceAdd, Nat.reduceMul, Nat.reduceSub, Nat.reduceLeDiff, Int.reduceLT, Int.reduceLE, Int.reduceEq, Int.reduceSub, Int.reduceAdd, Int.reduceMul, Int.reduceNeg, Int.reduceToNat])); all_goals (try clear hK))
    | (with_reducible refine p_ok ?_; decide)
    | ((first | with_reducible first | refine v_region rfl rfl (fun K hK => ?_) | refine v_draws rfl rfl (fun K hK => ?_) | refine v_if (fun A B hA hB => ?_) | refine v_end rfl ?_ | refine v_fin1 ?_ | refine v_finC1 ?_ | refine v_finR1 ?_ | refine v_finO1 rfl ?_ | refine v_finN1 rfl ?_ ?_ | refine v_apj ?_ (fun j' => ?_) | refine v_stz ?_ ?_ ?_ ?_ ?_ | refine v_stq ?_ | refine v_cv1 ?_ ?_ ?_ | (intro hc; replace fc := And.intro hc fc; try simp only [hcs] at hc)) <;> (try simp (config := { maxSteps := 1000000 }) only [go_sem, ↓reduceIte, reduceCtorEq, Nat.reduceEqDiff, Nat.reduceAdd, Nat.reduceMul, Nat.reduceSub, Nat.reduceLeDiff, Int.reduceLT, Int.reduceLE, Int.reduceEq, Int.reduceSub, Int.reduceAdd, Int.reduceMul, Int.reduceNeg, Int.reduceToNat, fc]) <;> (try with_reducible rfl))
  all_goals try (first | omega | (simp only [n_i64, n_u8]; omega) | (simp only [n_i64, n_u8, lnA]; omega) | (simp only [lnA]; done))
  refine v_loop (fun ms1 S1 => ∃ (i : Nat), S1.e 0 = .ref 0 0 (revK L i).length ∧ S1.h 0 = .live true (List.map (PV.int .i64) (revK L i)) ∧ 0 < S1.n ∧ S1.e 2 = .p (.int .i64 (i)) ∧ S1.e 3 = .p (.int .i64 (((L.length : Int) - 1 - i))) ∧ (2 * i ≤ L.length) ∧ ms1 = L.length - i) ((fun (i : Nat) => L.length - i) (0)) ?init1_0 ?body1_0
  case' init1_0 =>
    refine ⟨0, ?_, ?_, ?_, ?_, ?_, ?_, rfl⟩
    all_goals (try simp only [go_sem, ↓reduceIte, reduceCtorEq, Nat.reduceEqDiff, Nat.reduceAdd, Nat.reduceMul, Nat.reduceSub, Nat.reduceLeDiff, Int.reduceLT, Int.reduceLE, Int.reduceEq, Int.reduceSub, Int.reduceAdd, Int.reduceMul, Int.reduceNeg, Int.reduceToNat])
    repeat' refine And.intro ?_ ?_
    all_goals try first | rfl | omega | (simp only [lnA] <;> omega) | ((first | refine stp ?_ | refine dkz_eq ?_ ?_) <;> first | rfl | omega | (simp only [lnA] <;> omega) | (simp only [lnA, List.append_assoc, List.cons_append, List.nil_append]; done) | skip)
  case' body1_0 =>
    rintro ms1 S1 ⟨i, h1_0, b1_0, l1_0, h1_2, h1_3, c1_0, hm1⟩
    have n0 : ∀ c, (0 = S1.n + c) = False := fun c => eq_false (by omega)
    have p0 : ∀ c, (S1.n + c = 0) = False := fun c => eq_false (by omega)
    have q0 : (0 = S1.n) = False := eq_false (by omega)
    have r0 : (S1.n = 0) = False := eq_false (by omega)
  · have e0 := revK_len (L := L) (i := i)
    by_cases hi : 2 * i + 1 < L.length
    · have e1 := revK_lo hi
      have e2 := revK_step hi
      have e3 : ((L.length : Int) - 1 - i).toNat = L.length - 1 - i := by omega
      have fc : True := trivial
      repeat' first
        | with_reducible first | refine stp ?_ | refine q_blk_o rfl ?_ | (refine hK _ ?_; clear hK) | (refine hA ?_; clear hA hB) | (refine hB ?_; clear hA hB) | exact v_end0 | exact v_end0' | refine v_gb1 ?_ ?_ | refine v_gb0 ?_ ?_ | refine And.intro ?_ ?_
        | (with_reducible refine hK _ _ ?_ ?_; focus (first | exact clearAll_quiet rfl | (refine clearAll_of [false, false, false, false, false, false, false, false, false, false, false, false, false, true, false, true] [(2, 13), (3, 13)] rfl (by decide +kernel) ?_; try simp only [go_sem, ↓reduceIte, reduceCtorEq, Nat.reduceEqDiff, Nat.reduceAdd, Nat.reduceMul, Nat.reduceSub, Nat.reduceLeDiff, Int.reduceLT, Int.reduceLE, Int.reduceEq, Int.reduceSub, Int.reduceAdd, Int.reduceMul, Int.reduceNeg, Int.reduceToNat, h1_0, b1_0, h1_2, h1_3, n0, p0, q0, r0, e0, e1.1, e1.2, e2, e3])); all_goals (try clear hK))
        | (with_reducible refine p_ok ?_; decide)
        | ((first | with_reducible first | refine v_region rfl rfl (fun K hK => ?_) | refine v_draws rfl rfl (fun K hK => ?_) | refine v_if (fun A B hA hB => ?_) | refine v_end rfl ?_ | refine v_fin1 ?_ | refine v_finC1 ?_ | refine v_finR1 ?_ | refine v_finO1 rfl ?_ | refine v_finN1 rfl ?_ ?_ | refine v_apj ?_ (fun j' => ?_) | refine v_stz ?_ ?_ ?_ ?_ ?_ | refine v_stq ?_ | refine v_cv1 ?_ ?_ ?_ | (intro hc; replace fc := And.intro hc fc; try simp only [hcs] at hc)) <;> (try simp (config := { maxSteps := 1000000 }) only [go_sem, ↓reduceIte, reduceCtorEq, Nat.reduceEqDiff, Nat.reduceAdd, Nat.reduceMul, Nat.reduceSub, Nat.reduceLeDiff, Int.reduceLT, Int.reduceLE, Int.reduceEq, Int.reduceSub, Int.reduceAdd, Int.reduceMul, Int.reduceNeg, Int.reduceToNat, h1_0, b1_0, h1_2, h1_3, n0, p0, q0, r0, e0, e1.1, e1.2, e2, e3, fc]) <;> (try with_reducible rfl))
      all_goals try (first | omega | (simp only [n_i64, n_u8]; omega) | (simp only [n_i64, n_u8, lnA]; omega) | (simp only [lnA]; done))
      focus
        refine q_lp_n ((fun (i : Nat) => L.length - i) (i+1)) ?_ ⟨i+1, ?_, ?_, ?_, ?_, ?_, ?_, rfl⟩
        all_goals (try simp only [go_sem, ↓reduceIte, reduceCtorEq, Nat.reduceEqDiff, Nat.reduceAdd, Nat.reduceMul, Nat.reduceSub, Nat.reduceLeDiff, Int.reduceLT, Int.reduceLE, Int.reduceEq, Int.reduceSub, Int.reduceAdd, Int.reduceMul, Int.reduceNeg, Int.reduceToNat, h1_0, b1_0, h1_2, h1_3, n0, p0, q0, r0])
        repeat' refine And.intro ?_ ?_
        all_goals try first | rfl | omega | (simp only [lnA] <;> omega) | ((first | refine stp ?_ | refine dkz_eq ?_ ?_) <;> first | rfl | omega | (simp only [lnA] <;> omega) | (simp only [lnA, List.append_assoc, List.cons_append, List.nil_append]; done) | skip)
      all_goals first | omega | (rw [e0, revK_len]; done)
    · have e2 := revK_end c1_0 (by omega)
      have fc : True := trivial
      repeat' first
        | with_reducible first | refine stp ?_ | refine q_blk_o rfl ?_ | (refine hK _ ?_; clear hK) | (refine hA ?_; clear hA hB) | (refine hB ?_; clear hA hB) | exact v_end0 | exact v_end0' | refine v_gb1 ?_ ?_ | refine v_gb0 ?_ ?_ | refine And.intro ?_ ?_
        | (with_reducible refine hK _ _ ?_ ?_; focus (first | exact clearAll_quiet rfl | (refine clearAll_of [false, false, false, false, false, false, false, false, false, false, false, false, false, true, false, true] [(2, 13), (3, 13)] rfl (by decide +kernel) ?_; try simp only [go_sem, ↓reduceIte, reduceCtorEq, Nat.reduceEqDiff, Nat.reduceAdd, Nat.reduceMul, Nat.reduceSub, Nat.reduceLeDiff, Int.reduceLT, Int.reduceLE, Int.reduceEq, Int.reduceSub, Int.reduceAdd, Int.reduceMul, Int.reduceNeg, Int.reduceToNat, h1_0, b1_0, h1_2, h1_3, n0, p0, q0, r0, e0, e2])); all_goals (try clear hK))
        | (with_reducible refine p_ok ?_; decide)
        | ((first | with_reducible first | refine v_region rfl rfl (fun K hK => ?_) | refine v_draws rfl rfl (fun K hK => ?_) | refine v_if (fun A B hA hB => ?_) | refine v_end rfl ?_ | refine v_fin1 ?_ | refine v_finC1 ?_ | refine v_finR1 ?_ | refine v_finO1 rfl ?_ | refine v_finN1 rfl ?_ ?_ | refine v_apj ?_ (fun j' => ?_) | refine v_stz ?_ ?_ ?_ ?_ ?_ | refine v_stq ?_ | refine v_cv1 ?_ ?_ ?_ | (intro hc; replace fc := And.intro hc fc; try simp only [hcs] at hc)) <;> (try simp (config := { maxSteps := 1000000 }) only [go_sem, ↓reduceIte, reduceCtorEq, Nat.reduceEqDiff, Nat.reduceAdd, Nat.reduceMul, Nat.reduceSub, Nat.reduceLeDiff, Int.reduceLT, Int.reduceLE, Int.reduceEq, Int.reduceSub, Int.reduceAdd, Int.reduceMul, Int.reduceNeg, Int.reduceToNat, h1_0, b1_0, h1_2, h1_3, n0, p0, q0, r0, e0, e2, fc]) <;> (try with_reducible rfl))
      all_goals try (first | omega | (simp only [n_i64, n_u8]; omega) | (simp only [n_i64, n_u8, lnA]; omega) | (simp only [lnA]; done))
  · exact revK_len.symm
  · exact revK_0.symm
end Go.Gl
