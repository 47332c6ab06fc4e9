/-
 Simple permutations below one that may be none: the reference. Conditions: none.
-/
import Derived.Test.YtfjfobbniglaeaaExc
set_option linter.unusedSimpArgs false
set_option linter.unusedVariables false
set_option maxRecDepth 20000
set_option linter.unusedSectionVars false
namespace Go.Gl
open Go Go.Proofs
variable [Amb] [NoQ]
def slB (p : List Int) : List (List Int) := if isPermB p = true then smpL p else []
theorem spec_LowersOf_n_c {m0 : Bool} (p : List Int) (hl : p.length ≤ 1048576) (hp : isPermB p = false) : Fun Try.prog 50 [(.sl (.lent m0) (List.map (PV.int .i64) (p)))] [(.sl .own (List.map (elI false) (([] : List (List Int)))))] := by
 refine fO sg0 [2] Try.func50 ?_
 have cE1 := @spec_IsPerm_c; have cE2 := @spec_l7Without_c; have cM1 := @spec_l3Put_c
 refine dEa @hp ?_
 all_goals try (refine zlf ?_; repeat' first | exact zso | refine And.intro ?_ ?_ | (refine zim ?_; intro zb hc) | (refine zin ?_; intro zb) | intro j')
 all_goals try refine zbx ?_
 refine v_loopB (fun ms1 S1 => ∃ (k : Nat), S1.e 0 = .p (.sl (.lent m0) (List.map (PV.int .i64) (p))) ∧ OwnL (S1.e 3) S1.h S1.n (elI false) ((([] : List (List Int))).length) (([] : List (List Int))) ∧ S1.e 4 = .p (.int .i64 (k)) ∧ (k = 0) ∧ ms1 = 0) ((fun (k : Nat) => 0) (0)) ?_ ⟨0, dIa trivial ?_⟩
 all_goals try (refine zlf ?_; repeat' first | exact zso | refine And.intro ?_ ?_ | (refine zim ?_; intro zb hc) | (refine zin ?_; intro zb) | intro j')
 all_goals try refine zbx ?_
 rintro ms1 S1 ⟨k, h1_0, o1_3, h1_4, c1_0, hm1⟩
 obtain ⟨i1_3, h1_3, b1_3, l1_3⟩ := o1_3.out
 have ni1_3 := znds (x := i1_3) (n := S1.n)
 have fL1 := (And.intro h1_0 (And.intro h1_4 (And.intro h1_3 (And.intro b1_3 ni1_3))))
 subst c1_0
 refine dEa (And.intro fL1 @hp) ?_
 all_goals try (refine zlf ?_; repeat' first | exact zso | refine And.intro ?_ ?_ | (refine zim ?_; intro zb hc) | (refine zin ?_; intro zb) | intro j')
 all_goals try refine zbx ?_
theorem spec_SimpleLowers_n_c {m0 : Bool} (p : List Int) (hl : p.length ≤ 1048576) : Fun Try.prog 12 [(.sl (.lent m0) (List.map (PV.int .i64) (p)))] [(.sl .own (List.map (elI false) (slB p)))] := by
 by_cases hp : isPermB p = true
 ·rw [show slB p = smpL p from if_pos hp]
  exact spec_SimpleLowers_c p hl hp
 ·rw [show slB p = [] from if_neg hp]
  rw [Bool.not_eq_true] at hp
  refine fO sg0 [2] Try.func12 ?_
  have cE1 := @spec_LowersOf_n_c; have cE2 := @spec_LowersOf_c; have cE3 := @spec_IsSimple_c
  have cE2 := @spec_IsSimple_c; have cE3 := trivial
  refine dEa @hp ?_
  all_goals try (refine zlf ?_; repeat' first | exact zso | refine And.intro ?_ ?_ | (refine zim ?_; intro zb hc) | (refine zin ?_; intro zb) | intro j')
  all_goals try refine zbx ?_
  refine v_loopB (fun ms1 S1 => ∃ (k : Nat), S1.e 0 = .p (.sl (.lent m0) (List.map (PV.int .i64) (p))) ∧ OwnL (S1.e 3) S1.h S1.n (elI false) ((([] : List (List Int))).length) (([] : List (List Int))) ∧ OwnL (S1.e 4) S1.h S1.n (elI false) ((([] : List (List Int))).length) (([] : List (List Int))) ∧ S1.e 5 = .p (.int .i64 (k)) ∧ (k = 0) ∧ NId (S1.e 4) (S1.e 3) ∧ ms1 = 0) ((fun (k : Nat) => 0) (0)) ?_ ⟨0, dIa trivial ?_⟩
  all_goals try (refine zlf ?_; repeat' first | exact zso | refine And.intro ?_ ?_ | (refine zim ?_; intro zb hc) | (refine zin ?_; intro zb) | intro j')
  all_goals try refine zbx ?_
  rintro ms1 S1 ⟨k, h1_0, o1_3, o1_4, h1_5, c1_0, u1_0, hm1⟩
  obtain ⟨i1_3, h1_3, b1_3, l1_3⟩ := o1_3.out
  obtain ⟨i1_4, h1_4, b1_4, l1_4⟩ := o1_4.out
  have k1_0 := (u1_0).out h1_4 h1_3
  have ni1_3 := znds (x := i1_3) (n := S1.n)
  have ni1_4 := znds (x := i1_4) (n := S1.n)
  have di1_3i1_4 := zdne (x := i1_3) (y := i1_4)
  have fL1 := (And.intro h1_0 (And.intro h1_5 (And.intro h1_3 (And.intro b1_3 (And.intro h1_4 (And.intro b1_4 (And.intro ni1_3 (And.intro ni1_4 di1_3i1_4))))))))
  subst c1_0
  have cE2 := @spec_LowersOf_c; have cE3 := @spec_IsSimple_c
  refine dEa (And.intro fL1 @hp) ?_
  all_goals try (refine zlf ?_; repeat' first | exact zso | refine And.intro ?_ ?_ | (refine zim ?_; intro zb hc) | (refine zin ?_; intro zb) | intro j')
  all_goals try refine zbx ?_
end Go.Gl
