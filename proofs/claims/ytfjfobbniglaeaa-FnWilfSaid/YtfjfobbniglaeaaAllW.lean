/-
  The numbers of all whole orders, the factorial asked for: what their functions compute. Conditions: none.
-/
import Derived.Test.YtfjfobbniglaeaaFact
set_option linter.unusedSimpArgs false
set_option linter.unusedVariables false
set_option maxRecDepth 20000
set_option linter.unusedSectionVars false
namespace Go.Gl
open Go Go.Proofs
variable [Amb]
def facR (n : Int) : Int := if 0 ≤ n ∧ n ≤ 20 then facI n else -1
theorem facN_1 {k : Nat} : facN (k + 1) * ((k : Int) + 2) = facN (k + 2) := by
  rw [facN, Int.mul_comm]; congr 1
theorem spec_FactorialOf_c (n : Int) : Fun Try.prog 43 [(.int .i64 (n))] [(.int .i64 (facR n))] := by
  by_cases h : 0 ≤ n ∧ n ≤ 20
  · rw [show facR n = facI n from if_pos h]
    refine fO sg0 [2] Try.func43 ?_
    have cE1 := @spec_l1In_c
    refine dEa trivial ?_
    all_goals try (refine zlf ?_; repeat' first | exact zso | refine And.intro ?_ ?_ | (refine zim ?_; intro zb hc) | (refine zin ?_; intro zb) | intro j')
    all_goals try refine zbx ?_
    refine v_loopB (fun ms1 S1 => ∃ (k : Nat), S1.e 0 = .p (.int .i64 (n)) ∧ S1.e 3 = .p (.int .i64 (facN (k + 1))) ∧ S1.e 4 = .p (.int .i64 ((k + 2))) ∧ ((k : Int) + 1 ≤ max n 1) ∧ ms1 = n.toNat - k) ((fun (k : Nat) => n.toNat - k) (0)) ?_ ⟨0, dI trivial ?_⟩
    all_goals try (refine zlf ?_; repeat' first | exact zso | refine And.intro ?_ ?_ | (refine zim ?_; intro zb hc) | (refine zin ?_; intro zb) | intro j')
    all_goals try refine zbx ?_
    rintro ms1 S1 ⟨k, h1_0, h1_3, h1_4, c1_0, hm1⟩
    have fL1 := (And.intro h1_0 (And.intro h1_3 h1_4))
    refine dE fL1 ?_
    all_goals try (refine zlf ?_; repeat' first | exact zso | refine And.intro ?_ ?_ | (refine zim ?_; intro zb hc) | (refine zin ?_; intro zb) | intro j')
    all_goals try refine zbx ?_
    all_goals have h2 := facN_pos (k + 1)
    all_goals try have h1 := facN_le (n := k + 2) (by omega)
    all_goals try have h3 := facN_pos (k + 2)
    all_goals have e := facN_1 (k := k)
    all_goals try rw [e]
    all_goals try exact zaut
    · focus
        refine q_lp_n ((fun (k : Nat) => n.toNat - k) (k+1)) (dC fL1 ?_) ⟨k+1, dC fL1 ?_⟩
        all_goals try (refine zlf ?_; repeat' first | exact zso | refine And.intro ?_ ?_ | (refine zim ?_; intro zb hc) | (refine zin ?_; intro zb) | intro j')
        all_goals try refine zbx ?_
    · rw [facI]
      by_cases h0 : n = 0
      · subst h0; obtain rfl : k = 0 := by omega
        rfl
      · congr 1; omega
  · rw [show facR n = -1 from if_neg h]
    refine fO sg0 [2] Try.func43 ?_
    have cE1 := @spec_l1In_c
    refine dEa trivial ?_
    all_goals try (refine zlf ?_; repeat' first | exact zso | refine And.intro ?_ ?_ | (refine zim ?_; intro zb hc) | (refine zin ?_; intro zb) | intro j')
    all_goals try refine zbx ?_
end Go.Gl
