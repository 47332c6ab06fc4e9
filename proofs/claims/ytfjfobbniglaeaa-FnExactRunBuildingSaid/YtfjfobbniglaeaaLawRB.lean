/-
  The law of permutations built from their texts. Conditions: none.
-/
import Derived.Test.YtfjfobbniglaeaaRb
import Derived.Test.YtfjfobbniglaeaaLaw2
set_option linter.unusedSimpArgs false
set_option linter.unusedVariables false
set_option maxRecDepth 20000
set_option linter.unusedSectionVars false
namespace Go.Gl
open Go Go.Proofs
variable [Amb] [NoQ]
theorem rbL_len {s : List UInt8} : (rbL s).length ≤ 1048576 := by
  unfold rbL rbR
  split
  · rename_i h
    split
    · rename_i L e
      have := (rbF_b e).1
      split
      · simp
      · simp only [Option.getD_some]; omega
    · simp
  · simp
def sgLRB : FuncId → List Bool := fun f => if f = 10 then [true] else []
theorem sgLRB_eq {f : FuncId} : sgLRB f = if f = 10 then [true] else [] := _root_.id rfl
theorem way_sgLRB : wayE sgLRB = false ∧ wayN sgLRB = false ∧ wayS sgLRB = false ∧ wayZ sgLRB = false ∧ wayM sgLRB = false := ⟨rfl, rfl, rfl, rfl, rfl⟩
attribute [go_sem] sgLRB_eq way_sgLRB
theorem laws_FnExactRunBuilding_c (s : List UInt8) : Fun Try.prog 3 [(.str (s))] [(.bool (true))] := by
  by_cases hs : s.length ≤ 1048576
  · have hl := rbL_len (s := s)
    refine fO sgLRB [2] Try.func3 ?_
    have cE1 := @spec_RunBuilding_c; have cE2 := @impl_RunBuilding_c; have cE3 := @laws_eqIntS_c; have cE4 := @laws_heldIntS_c; have cM1 := @laws_markIntS_c
    refine dEa trivial ?_
    all_goals try (refine zlf ?_; repeat' first | exact zso | refine And.intro ?_ ?_ | (refine zim ?_; intro zb hc) | (refine zin ?_; intro zb) | intro j')
    all_goals try refine zbx ?_
    all_goals first | omega | (simp at hc; done) | trace_state
  · refine fO sgLRB [2] Try.func3 ?_
    have cE1 := @spec_RunBuilding_c; have cE2 := @impl_RunBuilding_c; have cE3 := @laws_eqIntS_c; have cE4 := @laws_heldIntS_c; have cM1 := @laws_markIntS_c
    have c1 : decide ((1048576 : Int) < s.length) = true := decide_eq_true (by omega)
    refine dE @c1 ?_
    all_goals try (refine zlf ?_; repeat' first | exact zso | refine And.intro ?_ ?_ | (refine zim ?_; intro zb hc) | (refine zin ?_; intro zb) | intro j')
    all_goals try refine zbx ?_
end Go.Gl
