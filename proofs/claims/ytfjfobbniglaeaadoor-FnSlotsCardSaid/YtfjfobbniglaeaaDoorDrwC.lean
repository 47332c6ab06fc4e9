/-
  Lists that are drawn with a number. Conditions: none.
-/
import Derived.Test.YtfjfobbniglaeaaDoorDrawB
set_option linter.unusedSimpArgs false
set_option linter.unusedVariables false
set_option maxRecDepth 20000
set_option linter.unusedSectionVars false
namespace Go.Gl
open Go Go.Proofs
variable [Amb] [NoQ]
theorem spec_l12Case_x (b : List UInt8) (hb : b.length ≤ 1048576) : ∃ L n, Fun Tryd.prog 41 [.sl (.lent false) (b.map u8P)] [.sl .own (List.map (elI false) L), .int .i64 n] ∧ BnL L ∧ -1 ≤ n ∧ n ≤ 7 := by
  obtain ⟨s1, L, c1, hL⟩ := spec_l12Bent_x b ⟨0, newH b (min b.length 4000)⟩ hb
  obtain ⟨s2, n, c2, hn⟩ := spec_l1PickInt_x (m0 := true) b s1 [0, 1, 2, 3, 4, 5, 4, 5, 7, -1] hb (by decide) (by decide)
  have h8 : -1 ≤ n ∧ n ≤ 7 := by simp at hn; omega
  simp only [List.map_cons, List.map_nil] at c2
  refine ⟨L, n, ?_, hL, h8⟩
  refine fO sgCu [2, 3] Tryd.func41 ?_
  have cE1 := @spec_l1New_c
  have cM1 := @c1; have cM2 := @c2
  refine dEa trivial ?_
  all_goals try (refine zlf ?_; repeat' first | exact zso | refine And.intro ?_ ?_ | (refine zim ?_; intro zb hc) | (refine zin ?_; intro zb) | intro j')
  all_goals try refine zbx ?_
end Go.Gl
