/-
 The law of the chain of simple permutations. Conditions: none.
-/
import Derived.Test.YtfjfobbniglaeaaChW
import Derived.Test.YtfjfobbniglaeaaSimC3
import Derived.Test.YtfjfobbniglaeaaLaw2
set_option linter.unusedSimpArgs false
set_option linter.unusedVariables false
set_option maxRecDepth 20000
set_option linter.unusedSectionVars false
namespace Go.Gl
open Go Go.Proofs
variable [Amb] [NoQ]
theorem chL_b : ∀ {d : Nat} {p : List Int}, p.length ≤ 8 → isPermB p = true → isSimB p = true → (chL d p).length ≤ d + 1 ∧ ∀ l ∈ chL d p, l.length ≤ 8
 | 0, p, h8, _, _ => ⟨by simp [chL], fun l hl => by simp [chL] at hl; subst hl; exact h8⟩
 | d + 1, p, h8, hp, hs => by
  rw [chL]
  split
  ·rename_i h2
   obtain ⟨n1, n2, n3, _, _⟩ := (nxS_ok hp hs h2).2 _ (nxQ_mem hp hs h2)
   obtain ⟨i1, i2⟩ := chL_b (d := d) (p := nxQ p) (by omega) n1 n2
   refine ⟨by simp; exact i1, fun l hl => ?_⟩
   rcases List.mem_cons.1 hl with rfl | hl
   ·exact h8
   ·exact i2 l hl
  ·exact ⟨by simp, fun l hl => by simp at hl; subst hl; exact h8⟩
theorem chB_b {p : List Int} : (chB p).length ≤ 9 ∧ ∀ l ∈ chB p, l.length ≤ 8 := by
 unfold chB; split
 ·rename_i h
  obtain ⟨h1, h2⟩ := Bool.and_eq_true_iff.1 h
  obtain ⟨h8, hq⟩ := isP_8 h1
  obtain ⟨i1, i2⟩ := chL_b (d := p.length) h8 h1 h2
  exact ⟨by omega, i2⟩
 ·simp
def sgLSc : FuncId → List Bool := fun f => if f = 10 then [true] else if f = 16 then [true] else if f = 4294967297 then [true, false, false, false] else []
theorem sgLSc_eq {f : FuncId} : sgLSc f = if f = 10 then [true] else if f = 16 then [true] else if f = 4294967297 then [true, false, false, false] else [] := _root_.id rfl
theorem way_sgLSc : wayE sgLSc = false ∧ wayN sgLSc = true ∧ wayS sgLSc = false ∧ wayZ sgLSc = false ∧ wayM sgLSc = false := ⟨rfl, rfl, rfl, rfl, rfl⟩
attribute [go_sem] sgLSc_eq way_sgLSc
theorem laws_FnExactSimpleChain_c (p : List Int) : Fun Try.prog 5 [(.sl (.lent true) (List.map (PV.int .i64) (p)))] [(.bool (true))] := by
 by_cases hs : p.length ≤ 1048576
 ·obtain ⟨w1, w2⟩ := chB_b (p := p)
  have w3 := sumN_bound w2
  have w4 : ∀ l ∈ chB p, l.length ≤ 1099511627776 := fun l h => by have := w2 l h; omega
  refine fO sgLSc [2] Try.func5 ?_
  have cE1 := @laws_toIntS_c; have cE2 := @spec_SimpleChain_f_c; have cE3 := @impl_SimpleChain_f_c; have cE4 := @laws_eqIntSS_c; have cE5 := @laws_eqIntS_c; have cE6 := @laws_heldIntSS_c
  have cM1 := @laws_markIntS_c; have cM2 := @laws_markIntSS_c
  have cE1 := @spec_SimpleChain_f_c; have cE2 := @impl_SimpleChain_d_c; have cE3 := @laws_toIntS_c
  refine dE (And.intro @mkLL_len @c_lm) ?_
  all_goals try (refine zlf ?_; repeat' first | exact zso | refine And.intro ?_ ?_ | (refine zim ?_; intro zb hc) | (refine zin ?_; intro zb) | intro j')
  all_goals try refine zbx ?_
  all_goals first | omega | exact w4 | (simp at hc; done) | skip
  all_goals trace_state
 ·refine fO sgLSc [2] Try.func5 ?_
  have cE1 := @laws_toIntS_c; have cE2 := @spec_SimpleChain_f_c; have cE3 := @impl_SimpleChain_f_c; have cE4 := @laws_eqIntSS_c; have cE5 := @laws_eqIntS_c; have cE6 := @laws_heldIntSS_c
  have cM1 := @laws_markIntS_c; have cM2 := @laws_markIntSS_c
  have c1 : decide ((1048576 : Int) < p.length) = true := decide_eq_true (by omega)
  refine dE @c1 ?_
  all_goals try (refine zlf ?_; repeat' first | exact zso | refine And.intro ?_ ?_ | (refine zim ?_; intro zb hc) | (refine zin ?_; intro zb) | intro j')
  all_goals try refine zbx ?_
end Go.Gl
