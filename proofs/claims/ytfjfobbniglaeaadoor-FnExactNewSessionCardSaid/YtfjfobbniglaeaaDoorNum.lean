/-
  Small helpers of the reference: what they compute. Conditions: none.
-/
import Derived.Test.YtfjfobbniglaeaaDoorA0
import Derived.Test.YtfjfobbniglaeaaDoorGlC
set_option linter.unusedSimpArgs false
set_option linter.unusedVariables false
set_option maxRecDepth 20000
set_option linter.unusedSectionVars false
namespace Go.Gl
open Go Go.Proofs
variable [Amb]
theorem spec_l1In_c (a b c : Int) : Fun Tryd.prog 35 [(.int .i64 (a)), (.int .i64 (b)), (.int .i64 (c))] [(.bool ((decide (b ≤ a) && decide (a ≤ c))))] := by
  refine fO sg0 [6] Tryd.func35 ?_
  refine dE trivial ?_
  all_goals try (refine zlf ?_; repeat' first | exact zso | refine And.intro ?_ ?_ | (refine zim ?_; intro zb hc) | (refine zin ?_; intro zb) | intro j')
  all_goals try refine zbx ?_
theorem drop_at {s : List UInt8} {k : Nat} (h : k < s.length) : s.drop k = s.getD k 0 :: s.drop (k + 1) := by
  rw [List.drop_eq_getElem_cons h, List.getD_eq_getElem?_getD, List.getElem?_eq_getElem h]; rfl
theorem dropI_at {s : List Int} {k : Nat} (h : k < s.length) : s.drop k = s.getD k 0 :: s.drop (k + 1) := by
  rw [List.drop_eq_getElem_cons h, List.getD_eq_getElem?_getD, List.getElem?_eq_getElem h]; rfl
end Go.Gl
