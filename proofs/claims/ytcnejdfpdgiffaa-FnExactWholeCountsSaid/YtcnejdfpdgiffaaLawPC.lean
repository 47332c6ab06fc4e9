/-
  The laws of the numbers of permutations by their parts, and of those with one part. Conditions: none.
-/
import Derived.Test.YtcnejdfpdgiffaaParts
import Derived.Test.YtcnejdfpdgiffaaLaw2
set_option linter.unusedSimpArgs false
set_option linter.unusedVariables false
set_option maxRecDepth 20000
namespace Go.Gl
open Go Go.Proofs

theorem parts_len (L : List (List Int)) (n : Int) : (partsB L n).length ≤ 7 := by
  unfold partsB; split
  · have := pc_len (m := n.toNat + 1) (cs := classL L n.toNat) (Nat.le_refl _)
    rw [List.take_length] at this; omega
  · simp
theorem wholes_len (L : List (List Int)) (n : Int) : (wholesB L n).length ≤ 7 := by
  unfold wholesB; split
  · simp; omega
  · simp
def sgPC : FuncId → List Bool := fun f => if f = 25 then [true] else if f = 37 then [true] else []
theorem sgPC_eq {f : FuncId} : sgPC f = if f = 25 then [true] else if f = 37 then [true] else [] := _root_.id rfl
theorem wayE_sgPC : wayE sgPC = false := _root_.id rfl
theorem wayN_sgPC : wayN sgPC = false := _root_.id rfl
theorem wayS_sgPC : wayS sgPC = false := _root_.id rfl
theorem wayZ_sgPC : wayZ sgPC = false := _root_.id rfl
attribute [go_sem] sgPC_eq wayE_sgPC wayN_sgPC wayS_sgPC wayZ_sgPC
theorem laws_FnExactPartCounts_c (m : List (List Int)) (n : Int) (hm : m.length ≤ 9223372036854775807) (hl : ∀ l ∈ m, l.length ≤ 9223372036854775807) : Fun Try.prog 12 [(.sl (.lent true) (List.map (elI true) (m))), (.int .i64 (n))] [(.bool (true))] := by
  have hz := laws_szIntSS_c (e0 := true) (m0 := true) m 1048576 hm hl (by decide) (by decide)
  have w1 := parts_len m n
  by_cases hs : 0 ≤ szSS m 1048576
  · obtain ⟨h1, h2⟩ := szSS_all hs
    have h3 := szSS_sum hs
    have h4 : ∀ l ∈ m, l.length ≤ 1048576 := fun l h => by have := h2 l h; omega
    have h2 : ∀ l ∈ m, l.length ≤ 1099511627776 := fun l h => by have := h4 l h; omega
    refine Fun.of (sg := sgPC) (ts := [4]) mo Try.func12 rfl rfl rfl rfl (by kernel_rfl) (by simp only [go_sem]) rfl ?_
    have fc : True := trivial
    repeat' first
      | with_reducible first | refine stp ?_ | refine q_blk_o rfl ?_ | (refine hK _ ?_; clear hK) | (refine hA ?_; clear hA hB) | (refine hB ?_; clear hA hB) | exact v_end0 | exact v_end0' | refine v_gb1 ?_ ?_ | refine v_gb0 ?_ ?_ | refine And.intro ?_ ?_
      | (with_reducible refine p_ok ?_; decide)
      | ((first | with_reducible first | refine v_region rfl rfl (fun K hK => ?_) | refine v_draws rfl rfl (fun K hK => ?_) | refine v_if (fun A B hA hB => ?_) | refine v_end rfl ?_ | refine v_fin1 ?_ | refine v_finC1 ?_ | refine v_callE (hz) ?_ | refine v_callE (laws_szIntSS_c _ _ ?_ ?_ ?_ ?_) ?_ | refine v_callE (laws_toIntSS_c _ ?_ ?_) ?_ | refine v_callE (spec_PartCounts_c _ _ ?_ ?_) ?_ | refine v_callE (impl_PartCounts_c _ _ ?_ ?_) ?_ | refine v_callE (laws_eqIntS_c _ _ ?_ ?_) ?_ | refine v_callE (laws_eqIntSS_c _ _ ?_ ?_ ?_ ?_) ?_ | refine v_callE (laws_heldIntS_c _ _ ?_ ?_ ?_) ?_ | refine v_callN (laws_markIntSS_c _ _ ?_ ?_ ?_) rfl ?_ ?_ | refine v_callT (laws_markIntSS_c _ _ ?_ ?_ ?_) rfl ?_ ?_ | refine v_callTd (laws_markIntSS_c _ _ ?_ ?_ ?_) rfl ?_ ?_ | refine v_callR (laws_markIntSS_c _ _ ?_ ?_ ?_) rfl ?_ ?_ | refine v_callN (laws_markIntS_c _ _ ?_ ?_ ?_) rfl ?_ ?_ | refine v_callT (laws_markIntS_c _ _ ?_ ?_ ?_) rfl ?_ ?_ | refine v_callTd (laws_markIntS_c _ _ ?_ ?_ ?_) rfl ?_ ?_ | refine v_callR (laws_markIntS_c _ _ ?_ ?_ ?_) rfl ?_ ?_ | refine v_callT3 (laws_markIntSS_c _ _ ?_ ?_ ?_) ?_ ?_ | refine v_callT4 (laws_markIntSS_c _ _ ?_ ?_ ?_) ?_ ?_ | refine v_callT3 (laws_markIntS_c _ _ ?_ ?_ ?_) ?_ ?_ | refine v_callT4 (laws_markIntS_c _ _ ?_ ?_ ?_) ?_ ?_ | refine v_finO1 rfl ?_ | refine v_finN1 rfl ?_ ?_ | refine v_apj ?_ (fun j' => ?_) | refine v_stz ?_ ?_ ?_ ?_ ?_ | refine v_stq ?_ | refine v_cv1 ?_ ?_ ?_ | (intro hc; replace fc := And.intro hc fc; try simp only [hcs] at hc)) <;> (try simp (config := { maxSteps := 1000000 }) only [go_sem, ↓reduceIte, reduceCtorEq, Nat.reduceEqDiff, Nat.reduceAdd, Nat.reduceMul, Nat.reduceSub, Nat.reduceLeDiff, Int.reduceLT, Int.reduceLE, Int.reduceEq, Int.reduceSub, Int.reduceAdd, Int.reduceMul, Int.reduceNeg, Int.reduceToNat, mkLL_len, List.length_map, fc]) <;> (try with_reducible rfl))
    all_goals first | omega | exact h2 | exact h4 | (simp at hc; done) | skip
    all_goals trace_state
  · refine Fun.of (sg := sgPC) (ts := [4]) mo Try.func12 rfl rfl rfl rfl (by kernel_rfl) (by simp only [go_sem]) rfl ?_
    have fc : True := trivial
    repeat' first
      | with_reducible first | refine stp ?_ | refine q_blk_o rfl ?_ | (refine hK _ ?_; clear hK) | (refine hA ?_; clear hA hB) | (refine hB ?_; clear hA hB) | exact v_end0 | exact v_end0' | refine v_gb1 ?_ ?_ | refine v_gb0 ?_ ?_ | refine And.intro ?_ ?_
      | (with_reducible refine p_ok ?_; decide)
      | ((first | with_reducible first | refine v_region rfl rfl (fun K hK => ?_) | refine v_draws rfl rfl (fun K hK => ?_) | refine v_if (fun A B hA hB => ?_) | refine v_end rfl ?_ | refine v_fin1 ?_ | refine v_finC1 ?_ | refine v_callE (hz) ?_ | refine v_callE (laws_szIntSS_c _ _ ?_ ?_ ?_ ?_) ?_ | refine v_callE (laws_toIntSS_c _ ?_ ?_) ?_ | refine v_callE (spec_PartCounts_c _ _ ?_ ?_) ?_ | refine v_callE (impl_PartCounts_c _ _ ?_ ?_) ?_ | refine v_callE (laws_eqIntS_c _ _ ?_ ?_) ?_ | refine v_callE (laws_eqIntSS_c _ _ ?_ ?_ ?_ ?_) ?_ | refine v_callE (laws_heldIntS_c _ _ ?_ ?_ ?_) ?_ | refine v_callN (laws_markIntSS_c _ _ ?_ ?_ ?_) rfl ?_ ?_ | refine v_callT (laws_markIntSS_c _ _ ?_ ?_ ?_) rfl ?_ ?_ | refine v_callTd (laws_markIntSS_c _ _ ?_ ?_ ?_) rfl ?_ ?_ | refine v_callR (laws_markIntSS_c _ _ ?_ ?_ ?_) rfl ?_ ?_ | refine v_callN (laws_markIntS_c _ _ ?_ ?_ ?_) rfl ?_ ?_ | refine v_callT (laws_markIntS_c _ _ ?_ ?_ ?_) rfl ?_ ?_ | refine v_callTd (laws_markIntS_c _ _ ?_ ?_ ?_) rfl ?_ ?_ | refine v_callR (laws_markIntS_c _ _ ?_ ?_ ?_) rfl ?_ ?_ | refine v_callT3 (laws_markIntSS_c _ _ ?_ ?_ ?_) ?_ ?_ | refine v_callT4 (laws_markIntSS_c _ _ ?_ ?_ ?_) ?_ ?_ | refine v_callT3 (laws_markIntS_c _ _ ?_ ?_ ?_) ?_ ?_ | refine v_callT4 (laws_markIntS_c _ _ ?_ ?_ ?_) ?_ ?_ | refine v_finO1 rfl ?_ | refine v_finN1 rfl ?_ ?_ | refine v_apj ?_ (fun j' => ?_) | refine v_stz ?_ ?_ ?_ ?_ ?_ | refine v_stq ?_ | refine v_cv1 ?_ ?_ ?_ | (intro hc; replace fc := And.intro hc fc; try simp only [hcs] at hc)) <;> (try simp (config := { maxSteps := 1000000 }) only [go_sem, ↓reduceIte, reduceCtorEq, Nat.reduceEqDiff, Nat.reduceAdd, Nat.reduceMul, Nat.reduceSub, Nat.reduceLeDiff, Int.reduceLT, Int.reduceLE, Int.reduceEq, Int.reduceSub, Int.reduceAdd, Int.reduceMul, Int.reduceNeg, Int.reduceToNat, fc]) <;> (try with_reducible rfl))
    all_goals omega
theorem laws_FnExactWholeCounts_c (m : List (List Int)) (n : Int) (hm : m.length ≤ 9223372036854775807) (hl : ∀ l ∈ m, l.length ≤ 9223372036854775807) : Fun Try.prog 13 [(.sl (.lent true) (List.map (elI true) (m))), (.int .i64 (n))] [(.bool (true))] := by
  have hz := laws_szIntSS_c (e0 := true) (m0 := true) m 1048576 hm hl (by decide) (by decide)
  have w1 := wholes_len m n
  by_cases hs : 0 ≤ szSS m 1048576
  · obtain ⟨h1, h2⟩ := szSS_all hs
    have h3 := szSS_sum hs
    have h4 : ∀ l ∈ m, l.length ≤ 1048576 := fun l h => by have := h2 l h; omega
    have h2 : ∀ l ∈ m, l.length ≤ 1099511627776 := fun l h => by have := h4 l h; omega
    refine Fun.of (sg := sgPC) (ts := [4]) mo Try.func13 rfl rfl rfl rfl (by kernel_rfl) (by simp only [go_sem]) rfl ?_
    have fc : True := trivial
    repeat' first
      | with_reducible first | refine stp ?_ | refine q_blk_o rfl ?_ | (refine hK _ ?_; clear hK) | (refine hA ?_; clear hA hB) | (refine hB ?_; clear hA hB) | exact v_end0 | exact v_end0' | refine v_gb1 ?_ ?_ | refine v_gb0 ?_ ?_ | refine And.intro ?_ ?_
      | (with_reducible refine p_ok ?_; decide)
      | ((first | with_reducible first | refine v_region rfl rfl (fun K hK => ?_) | refine v_draws rfl rfl (fun K hK => ?_) | refine v_if (fun A B hA hB => ?_) | refine v_end rfl ?_ | refine v_fin1 ?_ | refine v_finC1 ?_ | refine v_callE (hz) ?_ | refine v_callE (laws_szIntSS_c _ _ ?_ ?_ ?_ ?_) ?_ | refine v_callE (laws_toIntSS_c _ ?_ ?_) ?_ | refine v_callE (spec_WholeCounts_c _ _ ?_ ?_) ?_ | refine v_callE (impl_WholeCounts_c _ _ ?_ ?_) ?_ | refine v_callE (laws_eqIntS_c _ _ ?_ ?_) ?_ | refine v_callE (laws_eqIntSS_c _ _ ?_ ?_ ?_ ?_) ?_ | refine v_callE (laws_heldIntS_c _ _ ?_ ?_ ?_) ?_ | refine v_callN (laws_markIntSS_c _ _ ?_ ?_ ?_) rfl ?_ ?_ | refine v_callT (laws_markIntSS_c _ _ ?_ ?_ ?_) rfl ?_ ?_ | refine v_callTd (laws_markIntSS_c _ _ ?_ ?_ ?_) rfl ?_ ?_ | refine v_callR (laws_markIntSS_c _ _ ?_ ?_ ?_) rfl ?_ ?_ | refine v_callN (laws_markIntS_c _ _ ?_ ?_ ?_) rfl ?_ ?_ | refine v_callT (laws_markIntS_c _ _ ?_ ?_ ?_) rfl ?_ ?_ | refine v_callTd (laws_markIntS_c _ _ ?_ ?_ ?_) rfl ?_ ?_ | refine v_callR (laws_markIntS_c _ _ ?_ ?_ ?_) rfl ?_ ?_ | refine v_callT3 (laws_markIntSS_c _ _ ?_ ?_ ?_) ?_ ?_ | refine v_callT4 (laws_markIntSS_c _ _ ?_ ?_ ?_) ?_ ?_ | refine v_callT3 (laws_markIntS_c _ _ ?_ ?_ ?_) ?_ ?_ | refine v_callT4 (laws_markIntS_c _ _ ?_ ?_ ?_) ?_ ?_ | refine v_finO1 rfl ?_ | refine v_finN1 rfl ?_ ?_ | refine v_apj ?_ (fun j' => ?_) | refine v_stz ?_ ?_ ?_ ?_ ?_ | refine v_stq ?_ | refine v_cv1 ?_ ?_ ?_ | (intro hc; replace fc := And.intro hc fc; try simp only [hcs] at hc)) <;> (try simp (config := { maxSteps := 1000000 }) only [go_sem, ↓reduceIte, reduceCtorEq, Nat.reduceEqDiff, Nat.reduceAdd, Nat.reduceMul, Nat.reduceSub, Nat.reduceLeDiff, Int.reduceLT, Int.reduceLE, Int.reduceEq, Int.reduceSub, Int.reduceAdd, Int.reduceMul, Int.reduceNeg, Int.reduceToNat, mkLL_len, List.length_map, fc]) <;> (try with_reducible rfl))
    all_goals first | omega | exact h2 | exact h4 | (simp at hc; done) | skip
    all_goals trace_state
  · refine Fun.of (sg := sgPC) (ts := [4]) mo Try.func13 rfl rfl rfl rfl (by kernel_rfl) (by simp only [go_sem]) rfl ?_
    have fc : True := trivial
    repeat' first
      | with_reducible first | refine stp ?_ | refine q_blk_o rfl ?_ | (refine hK _ ?_; clear hK) | (refine hA ?_; clear hA hB) | (refine hB ?_; clear hA hB) | exact v_end0 | exact v_end0' | refine v_gb1 ?_ ?_ | refine v_gb0 ?_ ?_ | refine And.intro ?_ ?_
      | (with_reducible refine p_ok ?_; decide)
      | ((first | with_reducible first | refine v_region rfl rfl (fun K hK => ?_) | refine v_draws rfl rfl (fun K hK => ?_) | refine v_if (fun A B hA hB => ?_) | refine v_end rfl ?_ | refine v_fin1 ?_ | refine v_finC1 ?_ | refine v_callE (hz) ?_ | refine v_callE (laws_szIntSS_c _ _ ?_ ?_ ?_ ?_) ?_ | refine v_callE (laws_toIntSS_c _ ?_ ?_) ?_ | refine v_callE (spec_WholeCounts_c _ _ ?_ ?_) ?_ | refine v_callE (impl_WholeCounts_c _ _ ?_ ?_) ?_ | refine v_callE (laws_eqIntS_c _ _ ?_ ?_) ?_ | refine v_callE (laws_eqIntSS_c _ _ ?_ ?_ ?_ ?_) ?_ | refine v_callE (laws_heldIntS_c _ _ ?_ ?_ ?_) ?_ | refine v_callN (laws_markIntSS_c _ _ ?_ ?_ ?_) rfl ?_ ?_ | refine v_callT (laws_markIntSS_c _ _ ?_ ?_ ?_) rfl ?_ ?_ | refine v_callTd (laws_markIntSS_c _ _ ?_ ?_ ?_) rfl ?_ ?_ | refine v_callR (laws_markIntSS_c _ _ ?_ ?_ ?_) rfl ?_ ?_ | refine v_callN (laws_markIntS_c _ _ ?_ ?_ ?_) rfl ?_ ?_ | refine v_callT (laws_markIntS_c _ _ ?_ ?_ ?_) rfl ?_ ?_ | refine v_callTd (laws_markIntS_c _ _ ?_ ?_ ?_) rfl ?_ ?_ | refine v_callR (laws_markIntS_c _ _ ?_ ?_ ?_) rfl ?_ ?_ | refine v_callT3 (laws_markIntSS_c _ _ ?_ ?_ ?_) ?_ ?_ | refine v_callT4 (laws_markIntSS_c _ _ ?_ ?_ ?_) ?_ ?_ | refine v_callT3 (laws_markIntS_c _ _ ?_ ?_ ?_) ?_ ?_ | refine v_callT4 (laws_markIntS_c _ _ ?_ ?_ ?_) ?_ ?_ | refine v_finO1 rfl ?_ | refine v_finN1 rfl ?_ ?_ | refine v_apj ?_ (fun j' => ?_) | refine v_stz ?_ ?_ ?_ ?_ ?_ | refine v_stq ?_ | refine v_cv1 ?_ ?_ ?_ | (intro hc; replace fc := And.intro hc fc; try simp only [hcs] at hc)) <;> (try simp (config := { maxSteps := 1000000 }) only [go_sem, ↓reduceIte, reduceCtorEq, Nat.reduceEqDiff, Nat.reduceAdd, Nat.reduceMul, Nat.reduceSub, Nat.reduceLeDiff, Int.reduceLT, Int.reduceLE, Int.reduceEq, Int.reduceSub, Int.reduceAdd, Int.reduceMul, Int.reduceNeg, Int.reduceToNat, fc]) <;> (try with_reducible rfl))
    all_goals omega
end Go.Gl
