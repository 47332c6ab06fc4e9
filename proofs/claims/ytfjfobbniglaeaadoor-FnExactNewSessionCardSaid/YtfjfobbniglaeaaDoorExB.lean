/-
  The bases of the examples. Conditions: none.
-/
import Derived.Test.YtfjfobbniglaeaaDoorPBasis
set_option linter.unusedSimpArgs false
set_option linter.unusedVariables false
set_option maxRecDepth 20000
set_option linter.unusedSectionVars false
namespace Go.Gl
open Go Go.Proofs
variable [Amb] [NoQ]
variable [SplA]
/-- The text of an example. -/
def exT (k : Int) : List UInt8 :=
  if k = 1 then [50, 51, 49] else if k = 2 then [51, 50, 49] else if k = 3 then [50, 52, 49, 51, 32, 51, 49, 52, 50] else if k = 4 then [50, 51, 49, 32, 51, 49, 50]
  else if k = 5 then [49, 51, 50, 32, 50, 51, 49] else if k = 6 then [50, 49, 52, 51, 32, 51, 52, 49, 50] else if k = 7 then [49, 50, 51, 32, 49, 51, 50] else if k = 8 then [50, 51, 49, 32, 51, 49, 50, 32, 51, 50, 49] else []
theorem spec_ExampleText_c (k : Int) : Fun Tryd.prog 83 [(.int .i64 (k))] [(.str (exT k))] := by
  refine fO sg0 [2] Tryd.func83 ?_
  refine dEa trivial ?_
  all_goals try (refine zlf ?_; repeat' first | exact zso | refine And.intro ?_ ?_ | (refine zim ?_; intro zb hc; repeat (have zc := zb.1; replace zb := zb.2)) | (refine zin ?_; intro zb) | intro j')
  all_goals try refine zbx ?_
  all_goals (simp_all [exT]; done)
theorem exT_at {k : Int} (h1 : 1 ≤ k) (h2 : k ≤ 8) : ([PV.str [50, 51, 49], PV.str [51, 50, 49], PV.str [50, 52, 49, 51, 32, 51, 49, 52, 50],
        PV.str [50, 51, 49, 32, 51, 49, 50], PV.str [49, 51, 50, 32, 50, 51, 49],
        PV.str [50, 49, 52, 51, 32, 51, 52, 49, 50], PV.str [49, 50, 51, 32, 49, 51, 50],
        PV.str [50, 51, 49, 32, 51, 49, 50, 32, 51, 50, 49]] : List PV)[(k - 1).toNat]? = some (.str (exT k)) := by
  have h : k = 1 ∨ k = 2 ∨ k = 3 ∨ k = 4 ∨ k = 5 ∨ k = 6 ∨ k = 7 ∨ k = 8 := by omega
  rcases h with rfl | rfl | rfl | rfl | rfl | rfl | rfl | rfl <;> rfl
theorem exT_no {k : Int} (h : k < 1 ∨ 8 < k) : exT k = [] := by
  unfold exT
  iterate 8 rw [if_neg (by omega)]
theorem impl_ExampleText_c (k : Int) : Fun Tryd.prog 85 [(.int .i64 (k))] [(.str (exT k))] := by
  refine Fun.of (sg := sg0) (ts := [2]) mo Tryd.func85 rfl rfl rfl rfl (by kernel_rfl) (by simp only [go_sem]) rfl ?_
  have fc : True := trivial
  repeat' first
    | with_reducible first | refine stp ?_ | refine q_blk_o rfl ?_ | (refine hK _ ?_; clear hK) | (refine hA ?_; clear hA hB) | (refine hB ?_; clear hA hB) | exact v_end0 | exact v_end0' | refine v_gb1 ?_ ?_ | refine v_gb0 ?_ ?_ | refine And.intro ?_ ?_
    | (with_reducible refine p_ok ?_; decide)
    | ((first | with_reducible first | refine v_region rfl rfl (fun K hK => ?_) | refine v_draws rfl rfl (fun K hK => ?_) | refine v_if (fun A B hA hB => ?_) | refine v_end rfl ?_ | refine v_fin1 ?_ | refine v_finC1 ?_ | refine v_finR1 ?_ | refine v_finO1 rfl ?_ | refine v_finN1 rfl ?_ ?_ | refine v_apj ?_ (fun j' => ?_) | refine v_stz ?_ ?_ ?_ ?_ ?_ | refine v_stq ?_ | refine v_cv1 ?_ ?_ ?_ | (intro hc; replace fc := And.intro hc fc; try simp only [hcs] at hc)) <;> (try simp (config := { maxSteps := 1000000 }) only [go_sem, ↓reduceIte, reduceCtorEq, Nat.reduceEqDiff, Nat.reduceAdd, Nat.reduceMul, Nat.reduceSub, Nat.reduceLeDiff, Int.reduceLT, Int.reduceLE, Int.reduceEq, Int.reduceSub, Int.reduceAdd, Int.reduceMul, Int.reduceNeg, Int.reduceToNat, fc]) <;> (try with_reducible rfl))
  all_goals try (first | omega | (simp only [n_i64, n_u8]; omega) | (simp only [n_i64, n_u8, lnA]; omega) | (simp only [lnA]; done) | exact List.take_of_length_le (by simp))
  · exact (exT_no (by omega)).symm
  · rw [exT_at (by omega) (by omega)]
    simp only [gtO_some, go_sem, ↓reduceIte, reduceCtorEq, Nat.reduceEqDiff, Nat.reduceAdd]
    have fc : True := trivial
    repeat' first
      | with_reducible first | refine stp ?_ | refine q_blk_o rfl ?_ | (refine hK _ ?_; clear hK) | (refine hA ?_; clear hA hB) | (refine hB ?_; clear hA hB) | exact v_end0 | exact v_end0' | refine v_gb1 ?_ ?_ | refine v_gb0 ?_ ?_ | refine And.intro ?_ ?_
      | (with_reducible refine p_ok ?_; decide)
      | ((first | with_reducible first | refine v_region rfl rfl (fun K hK => ?_) | refine v_draws rfl rfl (fun K hK => ?_) | refine v_if (fun A B hA hB => ?_) | refine v_end rfl ?_ | refine v_fin1 ?_ | refine v_finC1 ?_ | refine v_finR1 ?_ | refine v_finO1 rfl ?_ | refine v_finN1 rfl ?_ ?_ | refine v_apj ?_ (fun j' => ?_) | refine v_stz ?_ ?_ ?_ ?_ ?_ | refine v_stq ?_ | refine v_cv1 ?_ ?_ ?_ | (intro hc; replace fc := And.intro hc fc; try simp only [hcs] at hc)) <;> (try simp (config := { maxSteps := 1000000 }) only [go_sem, ↓reduceIte, reduceCtorEq, Nat.reduceEqDiff, Nat.reduceAdd, Nat.reduceMul, Nat.reduceSub, Nat.reduceLeDiff, Int.reduceLT, Int.reduceLE, Int.reduceEq, Int.reduceSub, Int.reduceAdd, Int.reduceMul, Int.reduceNeg, Int.reduceToNat, fc]) <;> (try with_reducible rfl))
  · exact (exT_no (by omega)).symm
def ebL (k : Int) : List (List Int) := if exT k = [] then [] else pbL (exT k)
def ebOk (k : Int) : Bool := if exT k = [] then false else pbOk (exT k)
theorem exT_len {k : Int} : (exT k).length ≤ 1000 := by
  unfold exT; repeat' split
  all_goals simp
def sgEB : FuncId → List Bool := fun f => if f = 4294967297 then [true, false, true, false] else []
theorem sgEB_eq {f : FuncId} : sgEB f = if f = 4294967297 then [true, false, true, false] else [] := _root_.id rfl
theorem way_sgEB : wayE sgEB = false ∧ wayN sgEB = true ∧ wayS sgEB = false ∧ wayZ sgEB = true ∧ wayM sgEB = false := ⟨rfl, rfl, rfl, rfl, rfl⟩
attribute [go_sem] sgEB_eq way_sgEB
theorem spec_ExampleBasis_c (k : Int) : Fun Tryd.prog 52 [(.int .i64 (k))] [(.dl (List.map (List.map (PV.int .i64)) (ebL k))), (.bool (ebOk k))] := by
  refine fO sgEB [2, 3] Tryd.func52 ?_
  have cE1 := @spec_ExampleText_c; have cE2 := @spec_ParseBasis_c
  have b1 := exT_len (k := k)
  refine dEa trivial ?_
  all_goals try (refine zlf ?_; repeat' first | exact zso | refine And.intro ?_ ?_ | (refine zim ?_; intro zb hc; repeat (have zc := zb.1; replace zb := zb.2)) | (refine zin ?_; intro zb) | intro j')
  all_goals try refine zbx ?_
  all_goals (simp_all [ebL, ebOk]; done)
theorem impl_ExampleBasis_c (k : Int) : Fun Tryd.prog 53 [(.int .i64 (k))] [(.dl (List.map (List.map (PV.int .i64)) (ebL k))), (.bool (ebOk k))] := by
  refine fO sgEB [2, 3] Tryd.func53 ?_
  have cE1 := @impl_ExampleText_c; have cE2 := @impl_ParseBasis_c
  have b1 := exT_len (k := k)
  refine dEa trivial ?_
  all_goals try (refine zlf ?_; repeat' first | exact zso | refine And.intro ?_ ?_ | (refine zim ?_; intro zb hc; repeat (have zc := zb.1; replace zb := zb.2)) | (refine zin ?_; intro zb) | intro j')
  all_goals try refine zbx ?_
  all_goals (simp_all [ebL, ebOk]; done)
end Go.Gl
