/-
  The law of the numbers of permutations that fit a grid. Conditions: none.
-/
import Derived.Test.YtcnejdfpdgiffaaGCnt
import Derived.Test.YtcnejdfpdgiffaaLaw2
set_option linter.unusedSimpArgs false
set_option linter.unusedVariables false
set_option maxRecDepth 20000
set_option linter.unusedSectionVars false
namespace Go.Gl
open Go Go.Proofs
variable [Amb]
theorem gcB_len (m : List (List Int)) (n : Int) : (gcB m n).length ≤ 6 := by
  unfold gcB; split
  · rw [gcL_len]; omega
  · simp
def sgGC : FuncId → List Bool := fun f => if f = 25 then [true] else if f = 37 then [true] else []
theorem sgGC_eq {f : FuncId} : sgGC f = if f = 25 then [true] else if f = 37 then [true] else [] := _root_.id rfl
theorem wayE_sgGC : wayE sgGC = false := _root_.id rfl
theorem wayN_sgGC : wayN sgGC = false := _root_.id rfl
theorem wayS_sgGC : wayS sgGC = false := _root_.id rfl
theorem wayZ_sgGC : wayZ sgGC = false := _root_.id rfl
attribute [go_sem] sgGC_eq wayE_sgGC wayN_sgGC wayS_sgGC wayZ_sgGC
set_option maxHeartbeats 1000000 in
theorem laws_FnExactGridCounts_c (m : List (List Int)) (n : Int) (hm : m.length ≤ 9223372036854775807) (hml : ∀ l ∈ m, l.length ≤ 9223372036854775807) : Fun Try.prog 9 [(.sl (.lent true) (List.map (elI true) (m))), (.int .i64 (n))] [(.bool (true))] := by
  have hz := laws_szIntSS_c (e0 := true) (m0 := true) m 1048576 hm hml (by decide) (by decide)
  have w1 := gcB_len m n
  by_cases hs : 0 ≤ szSS m 1048576
  · obtain ⟨h1, h2⟩ := szSS_all hs
    have h3 := szSS_sum hs
    have h2' : ∀ l ∈ m, l.length ≤ 1048576 := fun l h => by have := h2 l h; omega
    have h2 : ∀ l ∈ m, l.length ≤ 1099511627776 := fun l h => by have := h2' l h; omega
    have h4 : m.length ≤ 1048576 := by omega
    refine Fun.of (sg := sgGC) (ts := [4]) mo Try.func9 rfl rfl rfl rfl (by kernel_rfl) (by simp only [go_sem]) rfl ?_
    have fc : True := trivial
    repeat' first
      | with_reducible first | refine stp ?_ | refine q_blk_o rfl ?_ | (refine hK _ ?_; clear hK) | (refine hA ?_; clear hA hB) | (refine hB ?_; clear hA hB) | exact v_end0 | exact v_end0' | refine v_gb1 ?_ ?_ | refine v_gb0 ?_ ?_ | refine And.intro ?_ ?_
      | (with_reducible refine p_ok ?_; decide)
      | ((first | with_reducible first | refine v_region rfl rfl (fun K hK => ?_) | refine v_draws rfl rfl (fun K hK => ?_) | refine v_if (fun A B hA hB => ?_) | refine v_end rfl ?_ | refine v_fin1 ?_ | refine v_finC1 ?_ | refine v_finR1 ?_ | refine v_callE (hz) ?_ | refine v_callE (laws_szIntSS_c _ _ ?_ ?_ ?_ ?_) ?_ | refine v_callE (laws_toIntSS_c _ ?_ ?_) ?_ | refine v_callE (spec_GridCounts_c _ _ ?_ ?_) ?_ | refine v_callE (impl_GridCounts_c _ _ ?_ ?_) ?_ | refine v_callE (laws_eqIntS_c _ _ ?_ ?_) ?_ | refine v_callE (laws_eqIntSS_c _ _ ?_ ?_ ?_ ?_) ?_ | refine v_callE (laws_heldIntS_c _ _ ?_ ?_ ?_) ?_ | refine v_callN (laws_markIntSS_c _ _ ?_ ?_ ?_) rfl ?_ ?_ | refine v_callT (laws_markIntSS_c _ _ ?_ ?_ ?_) rfl ?_ ?_ | refine v_callTd (laws_markIntSS_c _ _ ?_ ?_ ?_) rfl ?_ ?_ | refine v_callR (laws_markIntSS_c _ _ ?_ ?_ ?_) rfl ?_ ?_ | refine v_callN (laws_markIntS_c _ _ ?_ ?_ ?_) rfl ?_ ?_ | refine v_callT (laws_markIntS_c _ _ ?_ ?_ ?_) rfl ?_ ?_ | refine v_callTd (laws_markIntS_c _ _ ?_ ?_ ?_) rfl ?_ ?_ | refine v_callR (laws_markIntS_c _ _ ?_ ?_ ?_) rfl ?_ ?_ | refine v_callT3 (laws_markIntSS_c _ _ ?_ ?_ ?_) ?_ ?_ | refine v_callT4 (laws_markIntSS_c _ _ ?_ ?_ ?_) ?_ ?_ | refine v_callT3 (laws_markIntS_c _ _ ?_ ?_ ?_) ?_ ?_ | refine v_callT4 (laws_markIntS_c _ _ ?_ ?_ ?_) ?_ ?_ | refine v_finO1 rfl ?_ | refine v_finN1 rfl ?_ ?_ | refine v_apj ?_ (fun j' => ?_) | refine v_stz ?_ ?_ ?_ ?_ ?_ | refine v_stq ?_ | refine v_cv1 ?_ ?_ ?_ | (intro hc; replace fc := And.intro hc fc; try simp only [hcs] at hc)) <;> (try simp (config := { maxSteps := 1000000 }) only [go_sem, ↓reduceIte, reduceCtorEq, Nat.reduceEqDiff, Nat.reduceAdd, Nat.reduceMul, Nat.reduceSub, Nat.reduceLeDiff, Int.reduceLT, Int.reduceLE, Int.reduceEq, Int.reduceSub, Int.reduceAdd, Int.reduceMul, Int.reduceNeg, Int.reduceToNat, mkLL_len, List.length_map, fc]) <;> (try with_reducible rfl))
    all_goals first | omega | exact h2 | exact h2' | (simp at hc; done) | skip
  · refine Fun.of (sg := sgGC) (ts := [4]) mo Try.func9 rfl rfl rfl rfl (by kernel_rfl) (by simp only [go_sem]) rfl ?_
    have fc : True := trivial
    repeat' first
      | with_reducible first | refine stp ?_ | refine q_blk_o rfl ?_ | (refine hK _ ?_; clear hK) | (refine hA ?_; clear hA hB) | (refine hB ?_; clear hA hB) | exact v_end0 | exact v_end0' | refine v_gb1 ?_ ?_ | refine v_gb0 ?_ ?_ | refine And.intro ?_ ?_
      | (with_reducible refine p_ok ?_; decide)
      | ((first | with_reducible first | refine v_region rfl rfl (fun K hK => ?_) | refine v_draws rfl rfl (fun K hK => ?_) | refine v_if (fun A B hA hB => ?_) | refine v_end rfl ?_ | refine v_fin1 ?_ | refine v_finC1 ?_ | refine v_finR1 ?_ | refine v_callE (hz) ?_ | refine v_callE (laws_szIntSS_c _ _ ?_ ?_ ?_ ?_) ?_ | refine v_callE (laws_toIntSS_c _ ?_ ?_) ?_ | refine v_callE (spec_GridCounts_c _ _ ?_ ?_) ?_ | refine v_callE (impl_GridCounts_c _ _ ?_ ?_) ?_ | refine v_callE (laws_eqIntS_c _ _ ?_ ?_) ?_ | refine v_callE (laws_eqIntSS_c _ _ ?_ ?_ ?_ ?_) ?_ | refine v_callE (laws_heldIntS_c _ _ ?_ ?_ ?_) ?_ | refine v_callN (laws_markIntSS_c _ _ ?_ ?_ ?_) rfl ?_ ?_ | refine v_callT (laws_markIntSS_c _ _ ?_ ?_ ?_) rfl ?_ ?_ | refine v_callTd (laws_markIntSS_c _ _ ?_ ?_ ?_) rfl ?_ ?_ | refine v_callR (laws_markIntSS_c _ _ ?_ ?_ ?_) rfl ?_ ?_ | refine v_callN (laws_markIntS_c _ _ ?_ ?_ ?_) rfl ?_ ?_ | refine v_callT (laws_markIntS_c _ _ ?_ ?_ ?_) rfl ?_ ?_ | refine v_callTd (laws_markIntS_c _ _ ?_ ?_ ?_) rfl ?_ ?_ | refine v_callR (laws_markIntS_c _ _ ?_ ?_ ?_) rfl ?_ ?_ | refine v_callT3 (laws_markIntSS_c _ _ ?_ ?_ ?_) ?_ ?_ | refine v_callT4 (laws_markIntSS_c _ _ ?_ ?_ ?_) ?_ ?_ | refine v_callT3 (laws_markIntS_c _ _ ?_ ?_ ?_) ?_ ?_ | refine v_callT4 (laws_markIntS_c _ _ ?_ ?_ ?_) ?_ ?_ | refine v_finO1 rfl ?_ | refine v_finN1 rfl ?_ ?_ | refine v_apj ?_ (fun j' => ?_) | refine v_stz ?_ ?_ ?_ ?_ ?_ | refine v_stq ?_ | refine v_cv1 ?_ ?_ ?_ | (intro hc; replace fc := And.intro hc fc; try simp only [hcs] at hc)) <;> (try simp (config := { maxSteps := 1000000 }) only [go_sem, ↓reduceIte, reduceCtorEq, Nat.reduceEqDiff, Nat.reduceAdd, Nat.reduceMul, Nat.reduceSub, Nat.reduceLeDiff, Int.reduceLT, Int.reduceLE, Int.reduceEq, Int.reduceSub, Int.reduceAdd, Int.reduceMul, Int.reduceNeg, Int.reduceToNat, fc]) <;> (try with_reducible rfl))
    all_goals omega
end Go.Gl
