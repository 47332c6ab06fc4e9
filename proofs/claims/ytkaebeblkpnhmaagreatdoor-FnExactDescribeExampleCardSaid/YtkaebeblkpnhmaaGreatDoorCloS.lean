/-
  Classes with all sums: what their functions compute. Conditions: none.
-/
import Derived.Test.YtkaebeblkpnhmaaGreatDoorParts
set_option linter.unusedSimpArgs false
set_option linter.unusedVariables false
set_option maxRecDepth 20000
set_option linter.unusedSectionVars false
namespace Go.Gl
open Go Go.Proofs
variable [Amb]
theorem spec_SumParts_n_c {m0 : Bool} (p : List Int) (hl : p.length ≤ 1048576) (hn : isPermB p = false) : Fun Tryz.prog 58 [(.sl (.lent m0) (List.map (PV.int .i64) (p)))] [(.sl .own (List.map (elI false) ([])))] := by
  refine fO sg0 [2] Tryz.func58 ?_
  have cE1 := @spec_l1Max_c; have cE2 := @spec_IsPerm_c; have cE3 := @spec_l2Pattern_c
  refine dEa @hn ?_
  all_goals try (refine zlf ?_; repeat' first | exact zso | refine And.intro ?_ ?_ | (refine zim ?_; intro zb hc) | (refine zin ?_; intro zb) | intro j')
  all_goals try refine zbx ?_
def scB (L : List (List Int)) : Bool := basisB L && L.all fun q => !isPermB q || decide (partN q ≤ 1)
theorem spec_IsSumClosed_c {e0 m0 : Bool} (L : List (List Int)) (hL : L.length ≤ 1048576) (hl : ∀ l ∈ L, l.length ≤ 1048576) : Fun Tryz.prog 30 [(.sl (.lent m0) (List.map (elI e0) (L)))] [(.bool (scB L))] := by
  refine fO sg0 [2] Tryz.func30 ?_
  have cE1 := @spec_SumParts_n_c; have cE2 := @spec_SumParts_c; have cE3 := @spec_IsBasis_c
  refine dEa trivial ?_
  all_goals try (refine zlf ?_; repeat' first | exact zso | refine And.intro ?_ ?_ | (refine zim ?_; intro zb hc) | (refine zin ?_; intro zb) | intro j')
  all_goals try refine zbx ?_
  refine v_loopB (fun ms1 S1 => ∃ (k : Nat), S1.e 0 = .p (.sl (.lent m0) (List.map (elI e0) (L))) ∧ S1.e 3 = .p (.int .i64 (k)) ∧ (k ≤ L.length) ∧ (∀ q ∈ L.take k, (!isPermB q || decide (partN q ≤ 1)) = true) ∧ ms1 = L.length - k) ((fun (k : Nat) => L.length - k) (0)) ?_ ⟨0, dC trivial ?_⟩
  all_goals try (refine zlf ?_; repeat' first | exact zso | refine And.intro ?_ ?_ | (refine zim ?_; intro zb hc) | (refine zin ?_; intro zb) | intro j')
  all_goals try refine zbx ?_
  rintro ms1 S1 ⟨k, h1_0, h1_3, c1_0, c1_1, hm1⟩
  have fL1 := (And.intro h1_0 h1_3)
  by_cases hk : k < L.length
  · have g1 := hl _ (getD_mem (d := []) hk)
    have tk := take_getD (d := []) hk
    have hst : (!isPermB (L.getD k []) || decide (partN (L.getD k []) ≤ 1)) = true → ∀ q ∈ L.take (k + 1), (!isPermB q || decide (partN q ≤ 1)) = true := fun h q hq => by
      rw [tk] at hq
      rcases List.mem_append.1 hq with hq | hq
      · exact c1_1 q hq
      · rw [List.mem_singleton] at hq; subst hq; exact h
    by_cases hp : isPermB (L.getD k []) = true
    · have b6 := partN_pt (p := L.getD k [])
      have cE1 := @spec_SumParts_c; have cE2 := @spec_IsBasis_c; have cE3 := trivial
      refine dEa (And.intro fL1 @b6) ?_
      all_goals try (refine zlf ?_; repeat' first | exact zso | refine And.intro ?_ ?_ | (refine zim ?_; intro zb hc) | (refine zin ?_; intro zb) | intro j')
      all_goals try refine zbx ?_
      · have : (L.all fun q => !isPermB q || decide (partN q ≤ 1)) = false := List.all_eq_false.2 ⟨_, getD_mem hk, by rw [hp, decide_eq_false (by omega)]; decide⟩
        rw [scB, this, Bool.and_false]
      · focus
          refine q_lp_n ((fun (k : Nat) => L.length - k) (k+1)) (dC fL1 ?_) ⟨k+1, dC fL1 ?_⟩
          all_goals try (refine zlf ?_; repeat' first | exact zso | refine And.intro ?_ ?_ | (refine zim ?_; intro zb hc) | (refine zin ?_; intro zb) | intro j')
          all_goals try refine zbx ?_
        exact hst (by rw [decide_eq_true (by omega)]; simp)
    · rw [Bool.not_eq_true] at hp
      have cE1 := @spec_SumParts_n_c; have cE2 := @spec_IsBasis_c; have cE3 := trivial
      refine dEa fL1 ?_
      all_goals try (refine zlf ?_; repeat' first | exact zso | refine And.intro ?_ ?_ | (refine zim ?_; intro zb hc) | (refine zin ?_; intro zb) | intro j')
      all_goals try refine zbx ?_
      · focus
          refine q_lp_n ((fun (k : Nat) => L.length - k) (k+1)) (dC fL1 ?_) ⟨k+1, dC fL1 ?_⟩
          all_goals try (refine zlf ?_; repeat' first | exact zso | refine And.intro ?_ ?_ | (refine zim ?_; intro zb hc) | (refine zin ?_; intro zb) | intro j')
          all_goals try refine zbx ?_
        exact hst (by rw [hp]; rfl)
  · have : (L.all fun q => !isPermB q || decide (partN q ≤ 1)) = true := by
      rw [List.take_of_length_le (by omega)] at c1_1
      exact List.all_eq_true.2 c1_1
    have cE1 := @spec_SumParts_n_c; have cE2 := @spec_SumParts_c; have cE3 := @spec_IsBasis_c
    refine dEa fL1 ?_
    all_goals try (refine zlf ?_; repeat' first | exact zso | refine And.intro ?_ ?_ | (refine zim ?_; intro zb hc) | (refine zin ?_; intro zb) | intro j')
    all_goals try refine zbx ?_
    rw [scB, this, Bool.and_true]
end Go.Gl
