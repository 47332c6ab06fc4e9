/-
  The law of the bases of the examples. Conditions: none.
-/
import Derived.Test.YtdpahkppdakenaaDoorExB
import Derived.Test.YtdpahkppdakenaaDoorLaw2
set_option linter.unusedSimpArgs false
set_option linter.unusedVariables false
set_option maxRecDepth 20000
set_option linter.unusedSectionVars false
namespace Go.Gl
open Go Go.Proofs
variable [Amb]
variable [SplA]
theorem eb_rows {k : Int} : (ebL k).length ≤ 1001 ∧ ∀ l ∈ ebL k, l.length ≤ 1000 := by
  have h1 := exT_len (k := k)
  have h2 := spB_len (c := 32) (s := exT k) (cur := [])
  have h : ebL k = [] ∨ ebL k = (splitC 32 (exT k)).map prsL := by
    unfold ebL pbL
    by_cases e1 : exT k = []
    · left; rw [if_pos e1]
    · rw [if_neg e1, if_neg e1]
      by_cases e2 : pbOk (exT k) = true
      · right; rw [if_pos e2]
      · left; rw [if_neg e2]
  rcases h with h | h
  · rw [h]; simp
  · rw [h]
    refine ⟨by rw [List.length_map, splitC]; omega, fun l hl => ?_⟩
    obtain ⟨x, hx, rfl⟩ := List.mem_map.1 hl
    have h3 := spB_mem x hx
    have h4 := prsL_len (s := x)
    simp at h3; omega
def sgLB : FuncId → List Bool := fun f => if f = 9 then [true] else if f = 4294967297 then [true, false, false] else []
theorem sgLB_eq {f : FuncId} : sgLB f = if f = 9 then [true] else if f = 4294967297 then [true, false, false] else [] := _root_.id rfl
theorem wayE_sgLB : wayE sgLB = false := _root_.id rfl
theorem wayN_sgLB : wayN sgLB = true := _root_.id rfl
theorem wayS_sgLB : wayS sgLB = false := _root_.id rfl
theorem wayZ_sgLB : wayZ sgLB = false := _root_.id rfl
attribute [go_sem] sgLB_eq wayE_sgLB wayN_sgLB wayS_sgLB wayZ_sgLB
theorem laws_FnExactExampleBasis_c (k : Int) : Fun Tryd.prog 3 [(.int .i64 (k))] [(.bool (true))] := by
  refine Fun.of (sg := sgLB) (ts := [2]) mo Tryd.func3 rfl rfl rfl rfl (by kernel_rfl) (by simp only [go_sem]) rfl ?_
  have w1 := (eb_rows (k := k)).1
  have w2 := (eb_rows (k := k)).2
  have w3 := sumN_bound w2
  have w4 : ∀ l ∈ ebL k, l.length ≤ 1099511627776 := fun l h => by have := w2 l h; omega
  have w5 : (ebL k).length * 1000 ≤ 1001 * 1000 := Nat.mul_le_mul_right _ w1
  have fc : True := trivial
  repeat' first
    | with_reducible first | refine stp ?_ | refine q_blk_o rfl ?_ | (refine hK _ ?_; clear hK) | (refine hA ?_; clear hA hB) | (refine hB ?_; clear hA hB) | exact v_end0 | exact v_end0' | refine v_gb1 ?_ ?_ | refine v_gb0 ?_ ?_ | refine And.intro ?_ ?_
    | (with_reducible refine p_ok ?_; decide)
    | ((first | with_reducible first | refine v_region rfl rfl (fun K hK => ?_) | refine v_draws rfl rfl (fun K hK => ?_) | refine v_if (fun A B hA hB => ?_) | refine v_end rfl ?_ | refine v_fin1 ?_ | refine v_finC1 ?_ | refine v_finR1 ?_ | refine v_callE (spec_ExampleBasis_c _) ?_ | refine v_callE (impl_ExampleBasis_c _) ?_ | refine v_callE (laws_eqIntSS_c _ _ ?_ ?_ ?_ ?_) ?_ | refine v_callE (laws_heldIntSS_c _ _ ?_ ?_ ?_) ?_ | refine v_callN (laws_markIntSS_c _ _ ?_ ?_ ?_) rfl ?_ ?_ | refine v_callT (laws_markIntSS_c _ _ ?_ ?_ ?_) rfl ?_ ?_ | refine v_callTd (laws_markIntSS_c _ _ ?_ ?_ ?_) rfl ?_ ?_ | refine v_callR (laws_markIntSS_c _ _ ?_ ?_ ?_) rfl ?_ ?_ | refine v_callT3 (laws_markIntSS_c _ _ ?_ ?_ ?_) ?_ ?_ | refine v_callT4 (laws_markIntSS_c _ _ ?_ ?_ ?_) ?_ ?_ | refine v_finO1 rfl ?_ | refine v_finN1 rfl ?_ ?_ | refine v_apj ?_ (fun j' => ?_) | refine v_stz ?_ ?_ ?_ ?_ ?_ | refine v_stq ?_ | refine v_cv1 ?_ ?_ ?_ | (intro hc; replace fc := And.intro hc fc; try simp only [hcs] at hc)) <;> (try simp (config := { maxSteps := 1000000 }) only [go_sem, ↓reduceIte, reduceCtorEq, Nat.reduceEqDiff, Nat.reduceAdd, Nat.reduceMul, Nat.reduceSub, Nat.reduceLeDiff, Int.reduceLT, Int.reduceLE, Int.reduceEq, Int.reduceSub, Int.reduceAdd, Int.reduceMul, Int.reduceNeg, Int.reduceToNat, mkLL_len, List.length_map, fc]) <;> (try with_reducible rfl))
  all_goals first | omega | exact w4 | (simp at hc; done) | skip
  all_goals trace_state
end Go.Gl
