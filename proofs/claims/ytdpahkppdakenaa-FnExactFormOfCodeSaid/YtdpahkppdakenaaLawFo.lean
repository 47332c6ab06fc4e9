/-
  The law of the form of a code. Conditions: none.
-/
import Derived.Test.YtdpahkppdakenaaFoc
import Derived.Test.YtdpahkppdakenaaLaw2
set_option linter.unusedSimpArgs false
set_option linter.unusedVariables false
set_option maxRecDepth 20000
set_option linter.unusedSectionVars false
namespace Go.Gl
open Go Go.Proofs
variable [Amb]
theorem focL_le {p : List Int} (h : p.length ≤ 1048576) : (focL p).length ≤ 1048576 := by
  unfold focL; split
  · rw [List.length_reverse, srtI_len]
    have : (kpI (fun x => decide (x = 0)) (codeGo p)).length ≤ (codeGo p).length := List.length_filter_le _ _
    rw [codeGo_length] at this; omega
  · simp
def sgLFo : FuncId → List Bool := fun f => if f = 15 then [true] else []
theorem sgLFo_eq {f : FuncId} : sgLFo f = if f = 15 then [true] else [] := _root_.id rfl
theorem wayE_sgLFo : wayE sgLFo = false := _root_.id rfl
theorem wayN_sgLFo : wayN sgLFo = false := _root_.id rfl
theorem wayS_sgLFo : wayS sgLFo = false := _root_.id rfl
theorem wayZ_sgLFo : wayZ sgLFo = false := _root_.id rfl
attribute [go_sem] sgLFo_eq wayE_sgLFo wayN_sgLFo wayS_sgLFo wayZ_sgLFo
theorem laws_FnExactFormOfCode_c (p : List Int) : Fun Try.prog 4 [(.sl (.lent true) (List.map (PV.int .i64) (p)))] [(.bool (true))] := by
  by_cases hs : p.length ≤ 1048576
  · have hl := focL_le hs
    refine Fun.of (sg := sgLFo) (ts := [2]) mo Try.func4 rfl rfl rfl rfl (by kernel_rfl) (by simp only [go_sem]) rfl ?_
    have fc : True := trivial
    repeat' first
      | with_reducible first | refine stp ?_ | refine q_blk_o rfl ?_ | (refine hK _ ?_; clear hK) | (refine hA ?_; clear hA hB) | (refine hB ?_; clear hA hB) | exact v_end0 | exact v_end0' | refine v_gb1 ?_ ?_ | refine v_gb0 ?_ ?_ | refine And.intro ?_ ?_
      | (with_reducible refine p_ok ?_; decide)
      | ((first | with_reducible first | refine v_region rfl rfl (fun K hK => ?_) | refine v_draws rfl rfl (fun K hK => ?_) | refine v_if (fun A B hA hB => ?_) | refine v_end rfl ?_ | refine v_fin1 ?_ | refine v_finC1 ?_ | refine v_finR1 ?_ | refine v_callE (laws_toIntS_c _ ?_) ?_ | refine v_callE (spec_FormOfCode_c _ ?_) ?_ | refine v_callE (impl_FormOfCode_c _ ?_) ?_ | refine v_callE (laws_eqIntS_c _ _ ?_ ?_) ?_ | refine v_callE (laws_heldIntS_c _ _ ?_ ?_ ?_) ?_ | refine v_callN (laws_markIntS_c _ _ ?_ ?_ ?_) rfl ?_ ?_ | refine v_callT (laws_markIntS_c _ _ ?_ ?_ ?_) rfl ?_ ?_ | refine v_callTd (laws_markIntS_c _ _ ?_ ?_ ?_) rfl ?_ ?_ | refine v_callR (laws_markIntS_c _ _ ?_ ?_ ?_) rfl ?_ ?_ | refine v_callT3 (laws_markIntS_c _ _ ?_ ?_ ?_) ?_ ?_ | refine v_callT4 (laws_markIntS_c _ _ ?_ ?_ ?_) ?_ ?_ | refine v_finO1 rfl ?_ | refine v_finN1 rfl ?_ ?_ | refine v_apj ?_ (fun j' => ?_) | refine v_stz ?_ ?_ ?_ ?_ ?_ | refine v_stq ?_ | refine v_cv1 ?_ ?_ ?_ | (intro hc; replace fc := And.intro hc fc; try simp only [hcs] at hc)) <;> (try simp (config := { maxSteps := 1000000 }) only [go_sem, ↓reduceIte, reduceCtorEq, Nat.reduceEqDiff, Nat.reduceAdd, Nat.reduceMul, Nat.reduceSub, Nat.reduceLeDiff, Int.reduceLT, Int.reduceLE, Int.reduceEq, Int.reduceSub, Int.reduceAdd, Int.reduceMul, Int.reduceNeg, Int.reduceToNat, fc]) <;> (try with_reducible rfl))
    all_goals try (first | omega | (simp only [n_i64, n_u8]; omega) | (simp only [n_i64, n_u8, lnA]; omega) | (simp only [lnA]; done))
    all_goals first | omega | (simp at hc; done) | trace_state
  · refine Fun.of (sg := sgLFo) (ts := [2]) mo Try.func4 rfl rfl rfl rfl (by kernel_rfl) (by simp only [go_sem]) rfl ?_
    have c1 : decide ((1048576 : Int) < p.length) = true := decide_eq_true (by omega)
    have fc : True := trivial
    repeat' first
      | with_reducible first | refine stp ?_ | refine q_blk_o rfl ?_ | (refine hK _ ?_; clear hK) | (refine hA ?_; clear hA hB) | (refine hB ?_; clear hA hB) | exact v_end0 | exact v_end0' | refine v_gb1 ?_ ?_ | refine v_gb0 ?_ ?_ | refine And.intro ?_ ?_
      | (with_reducible refine p_ok ?_; decide)
      | ((first | with_reducible first | refine v_region rfl rfl (fun K hK => ?_) | refine v_draws rfl rfl (fun K hK => ?_) | refine v_if (fun A B hA hB => ?_) | refine v_end rfl ?_ | refine v_fin1 ?_ | refine v_finC1 ?_ | refine v_finR1 ?_ | refine v_callE (laws_toIntS_c _ ?_) ?_ | refine v_callE (spec_FormOfCode_c _ ?_) ?_ | refine v_callE (impl_FormOfCode_c _ ?_) ?_ | refine v_callE (laws_eqIntS_c _ _ ?_ ?_) ?_ | refine v_callE (laws_heldIntS_c _ _ ?_ ?_ ?_) ?_ | refine v_callN (laws_markIntS_c _ _ ?_ ?_ ?_) rfl ?_ ?_ | refine v_callT (laws_markIntS_c _ _ ?_ ?_ ?_) rfl ?_ ?_ | refine v_callTd (laws_markIntS_c _ _ ?_ ?_ ?_) rfl ?_ ?_ | refine v_callR (laws_markIntS_c _ _ ?_ ?_ ?_) rfl ?_ ?_ | refine v_callT3 (laws_markIntS_c _ _ ?_ ?_ ?_) ?_ ?_ | refine v_callT4 (laws_markIntS_c _ _ ?_ ?_ ?_) ?_ ?_ | refine v_finO1 rfl ?_ | refine v_finN1 rfl ?_ ?_ | refine v_apj ?_ (fun j' => ?_) | refine v_stz ?_ ?_ ?_ ?_ ?_ | refine v_stq ?_ | refine v_cv1 ?_ ?_ ?_ | (intro hc; replace fc := And.intro hc fc; try simp only [hcs] at hc)) <;> (try simp (config := { maxSteps := 1000000 }) only [go_sem, ↓reduceIte, reduceCtorEq, Nat.reduceEqDiff, Nat.reduceAdd, Nat.reduceMul, Nat.reduceSub, Nat.reduceLeDiff, Int.reduceLT, Int.reduceLE, Int.reduceEq, Int.reduceSub, Int.reduceAdd, Int.reduceMul, Int.reduceNeg, Int.reduceToNat, c1, fc]) <;> (try with_reducible rfl))
end Go.Gl
