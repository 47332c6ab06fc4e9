/-
  The law of the simple permutations below one. Conditions: none.
-/
import Derived.Test.YtfjfobbniglaeaaLowO
import Derived.Test.YtfjfobbniglaeaaLaw2
set_option linter.unusedSimpArgs false
set_option linter.unusedVariables false
set_option maxRecDepth 20000
set_option linter.unusedSectionVars false
namespace Go.Gl
open Go Go.Proofs
variable [Amb] [NoQ]
theorem slB_b {p : List Int} : (slB p).length ≤ 8 ∧ ∀ l ∈ slB p, l.length ≤ 8 := by
  unfold slB; split
  · rename_i h
    obtain ⟨h8, hq⟩ := isP_8 h
    have h1 := lowL_len (p := p)
    have h2 : ((lowL p).filter isSimB).length ≤ (lowL p).length := List.length_filter_le _ _
    refine ⟨by rw [smpL]; omega, fun l hl => ?_⟩
    rw [smpL] at hl
    exact (low_facts hq h8 ((List.mem_filter.1 hl).1)).1
  · simp
def sgLSl : FuncId → List Bool := fun f => if f = 10 then [true] else if f = 16 then [true] else if f = 4294967297 then [true, false, false, false] else []
theorem sgLSl_eq {f : FuncId} : sgLSl f = if f = 10 then [true] else if f = 16 then [true] else if f = 4294967297 then [true, false, false, false] else [] := _root_.id rfl
theorem way_sgLSl : wayE sgLSl = false ∧ wayN sgLSl = true ∧ wayS sgLSl = false ∧ wayZ sgLSl = false ∧ wayM sgLSl = false := ⟨rfl, rfl, rfl, rfl, rfl⟩
attribute [go_sem] sgLSl_eq way_sgLSl
theorem laws_FnExactSimpleLowers_c (p : List Int) : Fun Try.prog 4 [(.sl (.lent true) (List.map (PV.int .i64) (p)))] [(.bool (true))] := by
  by_cases hs : p.length ≤ 1048576
  · obtain ⟨w1, w2⟩ := slB_b (p := p)
    have w3 := sumN_bound w2
    have w4 : ∀ l ∈ slB p, l.length ≤ 1099511627776 := fun l h => by have := w2 l h; omega
    refine fO sgLSl [2] Try.func4 ?_
    have cE1 := @laws_toIntS_c; have cE2 := @spec_SimpleLowers_c; have cE3 := @spec_SimpleLowers_n_c; have cE4 := @impl_SimpleLowers_c; have cE5 := @laws_eqIntSS_c; have cE6 := @laws_eqIntS_c
    have cE7 := @laws_heldIntSS_c; have cM1 := @laws_markIntS_c; have cM2 := @laws_markIntSS_c
    have cE1 := @spec_SimpleLowers_n_c; have cE2 := @laws_toIntS_c; have cE3 := @impl_SimpleLowers_c; have cE4 := @laws_eqIntSS_c; have cE5 := @laws_eqIntS_c; have cE6 := @laws_heldIntSS_c
    have cE7 := trivial
    refine dE (And.intro @mkLL_len @c_lm) ?_
    all_goals try (refine zlf ?_; repeat' first | exact zso | refine And.intro ?_ ?_ | (refine zim ?_; intro zb hc) | (refine zin ?_; intro zb) | intro j')
    all_goals try refine zbx ?_
    all_goals first | omega | exact w4 | (simp at hc; done) | skip
    all_goals trace_state
  · refine fO sgLSl [2] Try.func4 ?_
    have cE1 := @laws_toIntS_c; have cE2 := @spec_SimpleLowers_c; have cE3 := @spec_SimpleLowers_n_c; have cE4 := @impl_SimpleLowers_c; have cE5 := @laws_eqIntSS_c; have cE6 := @laws_eqIntS_c
    have cE7 := @laws_heldIntSS_c; have cM1 := @laws_markIntS_c; have cM2 := @laws_markIntSS_c
    have c1 : decide ((1048576 : Int) < p.length) = true := decide_eq_true (by omega)
    refine dE @c1 ?_
    all_goals try (refine zlf ?_; repeat' first | exact zso | refine And.intro ?_ ?_ | (refine zim ?_; intro zb hc) | (refine zin ?_; intro zb) | intro j')
    all_goals try refine zbx ?_
end Go.Gl
