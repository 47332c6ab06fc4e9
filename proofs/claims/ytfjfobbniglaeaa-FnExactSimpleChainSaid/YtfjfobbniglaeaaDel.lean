/-
 The library's deletion from a slice: what it computes. Conditions: none.
-/
import Derived.Test.YtfjfobbniglaeaaNum
import Derived.Test.YtfjfobbniglaeaaGlC
set_option linter.unusedSimpArgs false
set_option linter.unusedVariables false
set_option maxRecDepth 20000
set_option linter.unusedSectionVars false
namespace Go.Gl
open Go Go.Proofs
variable [Amb] [NoQ]
def sgX : FuncId → List Bool := fun f => if f = 4294967296 then [true] else []
theorem wayE_sgX : wayE sgX = true := _root_.id rfl
theorem wayN_sgX : wayN sgX = false := _root_.id rfl
theorem wayS_sgX : wayS sgX = false := _root_.id rfl
theorem wayZ_sgX : wayZ sgX = false := _root_.id rfl
theorem wayM_sgX : wayM sgX = false := _root_.id rfl
attribute [local go_sem] wayN_sgX wayS_sgX wayZ_sgX wayM_sgX
attribute [local go_sem] wayE_sgX
theorem slices_Delete_c (l : List Int) (i j : Int) (h0 : 0 ≤ i) (h1 : i ≤ j) (h2 : j ≤ l.length) (hl : l.length ≤ 1099511627776) :
  CallT Try.prog true 124 [.mu false (List.map (PV.int .i64) l), .pv (.int .i64 i), .pv (.int .i64 j)] [none, none, none] [.sl .own (List.map (PV.int .i64) (l.take i.toNat ++ l.drop j.toNat))] := by
 have e1 : List.take (l.length - j.toNat) (List.drop j.toNat l) = List.drop j.toNat l := List.take_of_length_le (by simp)
 have e2 : List.take l.length l = l := List.take_length
 by_cases hij : i = j
 ·subst hij
  refine CallT.of (sg := sgX) (ts := [6]) mo Try.func124 rfl rfl rfl rfl (by kernel_rfl) (by simp only [noRoL, noRo, Bool.and_true]; exact nrL_int) rfl rfl ?_
  have cD1 := zdh [false, false, false, false, false, false, true, false] []
  refine dTa (And.intro @e1 @e2) ?_
  all_goals try (refine zlf ?_; repeat' first | exact zso | refine And.intro ?_ ?_ | (refine zim ?_; intro zb hc) | (refine zin ?_; intro zb) | intro j')
  all_goals try refine zbx ?_
  rw [List.take_append_drop]
 ·have f0 : (i = j) = False := eq_false hij
  have f1 : (i.toNat = l.length) = False := eq_false (by omega)
  have f2 : (i.toNat + (List.drop j.toNat l).length ≤ l.length) = True := eq_true (by simp; omega)
  refine CallT.of (sg := sgX) (ts := [6]) mo Try.func124 rfl rfl rfl rfl (by kernel_rfl) (by simp only [noRoL, noRo, Bool.and_true]; exact nrL_int) rfl rfl ?_
  have cD1 := zdh [false, false, false, false, false, false, true, false] []
  refine dTa (And.intro @e1 (And.intro @e2 (And.intro @f0 (And.intro @f1 @f2)))) ?_
  all_goals try (refine zlf ?_; repeat' first | exact zso | refine And.intro ?_ ?_ | (refine zim ?_; intro zb hc) | (refine zin ?_; intro zb) | intro j')
  all_goals try refine zbx ?_
  try refine mp_eq ?_
  have hA : (List.take i.toNat l ++ List.drop j.toNat l).length = i.toNat + (List.drop j.toNat l).length := by simp; omega
  rw [List.take_append_of_le_length (by simp; omega), List.take_take, Nat.min_self, ← List.append_assoc, List.take_append_of_le_length (by omega), List.take_of_length_le (by omega)]
end Go.Gl
