/-
  The factorial: what its functions compute. Conditions: none.
-/
import Derived.Test.YtnoedblfedppkaaNum
set_option linter.unusedSimpArgs false
set_option linter.unusedVariables false
set_option maxRecDepth 20000
set_option linter.unusedSectionVars false
namespace Go.Gl
open Go Go.Proofs
variable [Amb]
def facN : Nat → Int
  | 0 => 1
  | n + 1 => (n + 1) * facN n
theorem facN_pos : ∀ n, 0 < facN n
  | 0 => by decide
  | n + 1 => Int.mul_pos (by omega) (facN_pos n)
theorem facN_mono {m n : Nat} (h : m ≤ n) : facN m ≤ facN n := by
  induction h with
  | refl => exact Int.le_refl _
  | step h ih =>
    rename_i k
    refine Int.le_trans ih ?_
    have := facN_pos k
    have e : facN (k + 1) = (k : Int) * facN k + facN k := by simp only [facN]; rw [Int.add_mul]; omega
    rw [e]
    have := Int.mul_nonneg (Int.natCast_nonneg k) (Int.le_of_lt this)
    omega
theorem facN_le {n : Nat} (h : n ≤ 20) : facN n ≤ 2432902008176640000 := Int.le_trans (facN_mono h) (by decide)
theorem facN_8 {n : Nat} (h : n ≤ 8) : facN n ≤ 40320 := Int.le_trans (facN_mono h) (by decide)
def facI (n : Int) : Int := facN n.toNat
theorem impl_factorial_c (n : Int) (hn : n ≤ 20) : Fun Try.prog 153 [(.int .i64 (n))] [(.int .i64 (facI n))] := by
  refine Fun.of (sg := sg0) (ts := [2]) mo Try.func153 rfl rfl rfl rfl (by kernel_rfl) (by simp only [go_sem]) rfl ?_
  have fc : True := trivial
  repeat' first
    | with_reducible first | refine stp ?_ | refine q_blk_o rfl ?_ | (refine hK _ ?_; clear hK) | (refine hA ?_; clear hA hB) | (refine hB ?_; clear hA hB) | exact v_end0 | exact v_end0' | refine v_gb1 ?_ ?_ | refine v_gb0 ?_ ?_ | refine And.intro ?_ ?_
    | (with_reducible refine p_ok ?_; decide)
    | ((first | with_reducible first | refine v_region rfl rfl (fun K hK => ?_) | refine v_draws rfl rfl (fun K hK => ?_) | refine v_if (fun A B hA hB => ?_) | refine v_end rfl ?_ | refine v_fin1 ?_ | refine v_finC1 ?_ | refine v_finR1 ?_ | refine v_finO1 rfl ?_ | refine v_finN1 rfl ?_ ?_ | refine v_apj ?_ (fun j' => ?_) | refine v_stz ?_ ?_ ?_ ?_ ?_ | refine v_stq ?_ | refine v_cv1 ?_ ?_ ?_ | (intro hc; replace fc := And.intro hc fc; try simp only [hcs] at hc)) <;> (try simp (config := { maxSteps := 1000000 }) only [go_sem, ↓reduceIte, reduceCtorEq, Nat.reduceEqDiff, Nat.reduceAdd, Nat.reduceMul, Nat.reduceSub, Nat.reduceLeDiff, Int.reduceLT, Int.reduceLE, Int.reduceEq, Int.reduceSub, Int.reduceAdd, Int.reduceMul, Int.reduceNeg, Int.reduceToNat, fc]) <;> (try with_reducible rfl))
  refine v_loop (fun ms1 S1 => ∃ (i : Nat), S1.e 3 = .p (.int .i64 (facN i)) ∧ S1.e 5 = .p (.int .i64 (n)) ∧ S1.e 6 = .p (.int .i64 (i)) ∧ ((i : Int) ≤ max n 0) ∧ ms1 = n.toNat - i) ((fun (i : Nat) => n.toNat - i) (0)) ?init1_0 ?body1_0
  case' init1_0 =>
    refine ⟨0, ?_, ?_, ?_, ?_, rfl⟩
    all_goals (try simp only [go_sem, ↓reduceIte, reduceCtorEq, Nat.reduceEqDiff, Nat.reduceAdd, Nat.reduceMul, Nat.reduceSub, Nat.reduceLeDiff, Int.reduceLT, Int.reduceLE, Int.reduceEq, Int.reduceSub, Int.reduceAdd, Int.reduceMul, Int.reduceNeg, Int.reduceToNat])
    repeat' refine And.intro ?_ ?_
    all_goals try first | rfl | omega | (simp only [lnA] <;> omega) | ((first | refine stp ?_ | refine dkz_eq ?_ ?_) <;> first | rfl | omega | (simp only [lnA] <;> omega) | (simp only [lnA, List.append_assoc, List.cons_append, List.nil_append]; done) | skip)
  case' body1_0 =>
    rintro ms1 S1 ⟨i, h1_3, h1_5, h1_6, c1_0, hm1⟩
  have fc : True := trivial
  repeat' first
    | with_reducible first | refine stp ?_ | refine q_blk_o rfl ?_ | (refine hK _ ?_; clear hK) | (refine hA ?_; clear hA hB) | (refine hB ?_; clear hA hB) | exact v_end0 | exact v_end0' | refine v_gb1 ?_ ?_ | refine v_gb0 ?_ ?_ | refine And.intro ?_ ?_
    | (with_reducible refine p_ok ?_; decide)
    | ((first | with_reducible first | refine v_region rfl rfl (fun K hK => ?_) | refine v_draws rfl rfl (fun K hK => ?_) | refine v_if (fun A B hA hB => ?_) | refine v_end rfl ?_ | refine v_fin1 ?_ | refine v_finC1 ?_ | refine v_finR1 ?_ | refine v_finO1 rfl ?_ | refine v_finN1 rfl ?_ ?_ | refine v_apj ?_ (fun j' => ?_) | refine v_stz ?_ ?_ ?_ ?_ ?_ | refine v_stq ?_ | refine v_cv1 ?_ ?_ ?_ | (intro hc; replace fc := And.intro hc fc; try simp only [hcs] at hc)) <;> (try simp (config := { maxSteps := 1000000 }) only [go_sem, ↓reduceIte, reduceCtorEq, Nat.reduceEqDiff, Nat.reduceAdd, Nat.reduceMul, Nat.reduceSub, Nat.reduceLeDiff, Int.reduceLT, Int.reduceLE, Int.reduceEq, Int.reduceSub, Int.reduceAdd, Int.reduceMul, Int.reduceNeg, Int.reduceToNat, h1_3, h1_5, h1_6, fc]) <;> (try with_reducible rfl))
  all_goals have h2 := facN_pos i
  all_goals try have h1 := facN_le (n := i + 1) (by omega)
  all_goals try have h3 := facN_pos (i + 1)
  all_goals have e : facN i * (i + 1) = facN (i + 1) := by simp only [facN]; rw [Int.mul_comm]
  all_goals try rw [e]
  all_goals try (first | omega | (simp only [n_i64, n_u8]; omega) | (simp only [n_i64, n_u8, lnA]; omega) | (simp only [lnA]; done))
  · focus
      refine q_lp_n ((fun (i : Nat) => n.toNat - i) (i+1)) ?_ ⟨i+1, ?_, ?_, ?_, ?_, rfl⟩
      all_goals (try simp only [go_sem, ↓reduceIte, reduceCtorEq, Nat.reduceEqDiff, Nat.reduceAdd, Nat.reduceMul, Nat.reduceSub, Nat.reduceLeDiff, Int.reduceLT, Int.reduceLE, Int.reduceEq, Int.reduceSub, Int.reduceAdd, Int.reduceMul, Int.reduceNeg, Int.reduceToNat, h1_3, h1_5, h1_6])
      repeat' refine And.intro ?_ ?_
      all_goals try first | rfl | omega | (simp only [lnA] <;> omega) | ((first | refine stp ?_ | refine dkz_eq ?_ ?_) <;> first | rfl | omega | (simp only [lnA] <;> omega) | (simp only [lnA, List.append_assoc, List.cons_append, List.nil_append]; done) | skip)
  · rw [facI]; congr 1; omega
end Go.Gl
