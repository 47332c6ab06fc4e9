/-
  An example told of: what the functions compute. Conditions: none.
-/
import Derived.Test.YtkaebeblkpnhmaaGreatDoorDesC
import Derived.Test.YtkaebeblkpnhmaaGreatDoorLawEB
set_option linter.unusedSimpArgs false
set_option linter.unusedVariables false
set_option maxRecDepth 20000
set_option linter.unusedSectionVars false
namespace Go.Gl
open Go Go.Proofs
variable [Amb]
variable [TabA] [SplA]
def deT (k : Int) : List UInt8 := if ebOk k = true then desT (ebL k) else []
theorem spec_DescribeExample_c (k : Int) : Fun Tryz.prog 11 [(.int .i64 (k))] [(.str (deT k))] := by
  refine fO sg0 [2] Tryz.func11 ?_
  have cE1 := @spec_ExampleBasis_c; have cE2 := @spec_DescribeClass_c
  have w1 := (eb_rows (k := k)).1
  have w2 : ∀ l ∈ ebL k, l.length ≤ 1048576 := fun l h => by have := (eb_rows (k := k)).2 l h; omega
  refine dEa trivial ?_
  all_goals try (refine zlf ?_; repeat' first | exact zso | refine And.intro ?_ ?_ | (refine zim ?_; intro zb hc) | (refine zin ?_; intro zb) | intro j')
  all_goals try refine zbx ?_
  all_goals (rw [deT, hc]; rfl)
theorem impl_DescribeExample_c (k : Int) : Fun Tryz.prog 12 [(.int .i64 (k))] [(.str (deT k))] := by
  refine fO sg0 [2] Tryz.func12 ?_
  have cE1 := @impl_ExampleBasis_c; have cE2 := @impl_DescribeClass_c
  have w1 := (eb_rows (k := k)).1
  have w2 : ∀ l ∈ ebL k, l.length ≤ 1048576 := fun l h => by have := (eb_rows (k := k)).2 l h; omega
  refine dEa trivial ?_
  all_goals try (refine zlf ?_; repeat' first | exact zso | refine And.intro ?_ ?_ | (refine zim ?_; intro zb hc) | (refine zin ?_; intro zb) | intro j')
  all_goals try refine zbx ?_
  all_goals (rw [deT, hc]; rfl)
theorem laws_FnExactDescribeExample_c (k : Int) : Fun Tryz.prog 4 [(.int .i64 (k))] [(.bool (true))] := by
  refine fO sg0 [2] Tryz.func4 ?_
  have cE1 := @spec_DescribeExample_c; have cE2 := @impl_DescribeExample_c
  refine dEa trivial ?_
  all_goals try (refine zlf ?_; repeat' first | exact zso | refine And.intro ?_ ?_ | (refine zim ?_; intro zb hc) | (refine zin ?_; intro zb) | intro j')
  all_goals try refine zbx ?_
end Go.Gl
