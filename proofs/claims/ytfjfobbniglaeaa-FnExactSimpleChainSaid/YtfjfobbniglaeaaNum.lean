/-
 Small helpers of the reference: what they compute. Conditions: none.
-/
import Derived.Test.YtfjfobbniglaeaaA0
import Derived.Test.YtfjfobbniglaeaaGlC
set_option linter.unusedSimpArgs false
set_option linter.unusedVariables false
set_option maxRecDepth 20000
set_option linter.unusedSectionVars false
namespace Go.Gl
open Go Go.Proofs
variable [Amb]
theorem spec_l1In_c (a b c : Int) : Fun Try.prog 45 [(.int .i64 (a)), (.int .i64 (b)), (.int .i64 (c))] [(.bool ((decide (b ≤ a) && decide (a ≤ c))))] := by
 refine fO sg0 [6] Try.func45 ?_
 refine dE trivial ?_
 all_goals try (refine zlf ?_; repeat' first | exact zso | refine And.intro ?_ ?_ | (refine zim ?_; intro zb hc) | (refine zin ?_; intro zb) | intro j')
 all_goals try refine zbx ?_
def bitI (b : Bool) : Int := if b then 1 else 0
theorem bitI_r (b : Bool) : 0 ≤ bitI b ∧ bitI b ≤ 1 := by cases b <;> decide
theorem spec_l1Bit_c (b : Bool) : Fun Try.prog 62 [(.bool (b))] [(.int .i64 (bitI b))] := by
 refine fO sg0 [2] Try.func62 ?_
 refine dE trivial ?_
 all_goals try (refine zlf ?_; repeat' first | exact zso | refine And.intro ?_ ?_ | (refine zim ?_; intro zb hc) | (refine zin ?_; intro zb) | intro j')
 all_goals try refine zbx ?_
 all_goals simp [bitI, hc]
theorem spec_l1Max_c (a b : Int) : Fun Try.prog 120 [(.int .i64 (a)), (.int .i64 (b))] [(.int .i64 (max a b))] := by
 refine fO sg0 [4] Try.func120 ?_
 refine dE trivial ?_
 all_goals try (refine zlf ?_; repeat' first | exact zso | refine And.intro ?_ ?_ | (refine zim ?_; intro zb hc) | (refine zin ?_; intro zb) | intro j')
 all_goals try refine zbx ?_
 all_goals omega
theorem dropI_at {s : List Int} {k : Nat} (h : k < s.length) : s.drop k = s.getD k 0 :: s.drop (k + 1) := by
 rw [List.drop_eq_getElem_cons h, List.getD_eq_getElem?_getD, List.getElem?_eq_getElem h]; rfl
end Go.Gl
