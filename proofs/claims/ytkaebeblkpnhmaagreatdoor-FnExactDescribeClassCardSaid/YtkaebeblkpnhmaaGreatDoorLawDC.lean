/-
  The law of a class told of. Conditions: none.
-/
import Derived.Test.YtkaebeblkpnhmaaGreatDoorDesC
import Derived.Test.YtkaebeblkpnhmaaGreatDoorLaw1
set_option linter.unusedSimpArgs false
set_option linter.unusedVariables false
set_option maxRecDepth 20000
set_option linter.unusedSectionVars false
namespace Go.Gl
open Go Go.Proofs
variable [Amb]
variable [TabA]
theorem laws_FnExactDescribeClass_c (L : List (List Int)) (hL : L.length ≤ 9223372036854775807) (hl : ∀ l ∈ L, l.length ≤ 9223372036854775807) : Fun Tryz.prog 3 [(.sl (.lent true) (List.map (elI true) (L)))] [(.bool (true))] := by
  have hz := laws_szIntSS_c (e0 := true) (m0 := true) L 1048576 hL hl (by decide) (by decide)
  by_cases hs : 0 ≤ szSS L 1048576
  · obtain ⟨h1, h2⟩ := szSS_all hs
    have h2 : ∀ l ∈ L, l.length ≤ 1048576 := fun l h => by have := h2 l h; omega
    have h3 : ∀ l ∈ L, l.length ≤ 1099511627776 := fun l h => by have := h2 l h; omega
    refine fO sg0 [2] Tryz.func3 ?_
    have cE1 := @laws_szIntSS_c; have cE2 := @laws_toIntSS_c; have cE3 := @spec_DescribeClass_c; have cE4 := @impl_DescribeClass_c; have cE5 := @laws_eqIntSS_c
    have cE1 := @hz; have cE2 := @laws_szIntSS_c; have cE3 := @laws_toIntSS_c; have cE4 := @spec_DescribeClass_c; have cE5 := @impl_DescribeClass_c; have cE6 := @laws_eqIntSS_c
    refine dE trivial ?_
    all_goals try (refine zlf ?_; repeat' first | exact zso | refine And.intro ?_ ?_ | (refine zim ?_; intro zb hc) | (refine zin ?_; intro zb) | intro j')
    all_goals try refine zbx ?_
    all_goals first | omega | exact h2 | exact h3 | (simp at hc; done) | skip
    all_goals trace_state
  · refine fO sg0 [2] Tryz.func3 ?_
    have cE1 := @laws_szIntSS_c; have cE2 := @laws_toIntSS_c; have cE3 := @spec_DescribeClass_c; have cE4 := @impl_DescribeClass_c; have cE5 := @laws_eqIntSS_c
    have cE1 := @hz; have cE2 := @laws_szIntSS_c; have cE3 := @laws_toIntSS_c; have cE4 := @spec_DescribeClass_c; have cE5 := @impl_DescribeClass_c; have cE6 := @laws_eqIntSS_c
    refine dE trivial ?_
    all_goals try (refine zlf ?_; repeat' first | exact zso | refine And.intro ?_ ?_ | (refine zim ?_; intro zb hc) | (refine zin ?_; intro zb) | intro j')
    all_goals try refine zbx ?_
    all_goals omega
end Go.Gl
