/-
  The identity: what its functions compute. Conditions: none.
-/
import Derived.Test.YtkaebeblkpnhmaaGreatDoorNum
set_option linter.unusedSimpArgs false
set_option linter.unusedVariables false
set_option maxRecDepth 20000
set_option linter.unusedSectionVars false
namespace Go.Gl
open Go Go.Proofs
variable [Amb]
def idL (n : Nat) : List Int := (List.range n).map fun i : Nat => (i : Int) + 1
theorem idL_succ {n : Nat} : idL (n + 1) = idL n ++ [(n : Int) + 1] := by simp [idL, List.range_succ]
theorem idL_len {n : Nat} : (idL n).length = n := by simp [idL]
theorem impl_identity_c (n : Int) (h0 : 0 ≤ n) (h1 : n ≤ 1099511627776) : Fun Tryz.prog 118 [(.int .i64 (n))] [(.sl .own (List.map (PV.int .i64) (idL n.toNat)))] := by
  refine fO sg0 [2] Tryz.func118 ?_
  refine dE trivial ?_
  all_goals try (refine zlf ?_; repeat' first | exact zso | refine And.intro ?_ ?_ | (refine zim ?_; intro zb hc) | (refine zin ?_; intro zb) | intro j')
  all_goals try refine zbx ?_
  refine v_loopB (fun ms1 S1 => ∃ (k : Nat), S1.e 0 = .p (.int .i64 (n)) ∧ OwnL (S1.e 3) S1.h S1.n (PV.int .i64) ((idL k).length) (idL k) ∧ S1.e 6 = .p (.int .i64 (n)) ∧ S1.e 7 = .p (.int .i64 (k)) ∧ ((k : Int) ≤ n) ∧ ms1 = n.toNat - k) ((fun (k : Nat) => n.toNat - k) (0)) ?_ ⟨0, dI trivial ?_⟩
  all_goals try (refine zlf ?_; repeat' first | exact zso | refine And.intro ?_ ?_ | (refine zim ?_; intro zb hc) | (refine zin ?_; intro zb) | intro j')
  all_goals try refine zbx ?_
  rintro ms1 S1 ⟨k, h1_0, o1_3, h1_6, h1_7, c1_0, hm1⟩
  obtain ⟨i1_3, h1_3, b1_3, l1_3⟩ := o1_3.out
  have ni1_3 := znds (x := i1_3) (n := S1.n)
  have fL1 := (And.intro h1_0 (And.intro h1_6 (And.intro h1_7 (And.intro h1_3 (And.intro b1_3 ni1_3)))))
  refine dE fL1 ?_
  all_goals try (refine zlf ?_; repeat' first | exact zso | refine And.intro ?_ ?_ | (refine zim ?_; intro zb hc) | (refine zin ?_; intro zb) | intro j')
  all_goals try refine zbx ?_
  all_goals have hl := idL_len (n := k)
  all_goals try exact zaut
  · focus
      refine q_lp_n ((fun (k : Nat) => n.toNat - k) (k+1)) (dC fL1 ?_) ⟨k+1, dC fL1 ?_⟩
      all_goals try (refine zlf ?_; repeat' first | exact zso | refine And.intro ?_ ?_ | (refine zim ?_; intro zb hc) | (refine zin ?_; intro zb) | intro j')
      all_goals try refine zbx ?_
    all_goals simp [idL_succ, idL_len]
  · rw [show k = n.toNat by omega]
theorem spec_IdentityPerm_c (n : Int) (h0 : 0 ≤ n) (h1 : n ≤ 8) : Fun Tryz.prog 102 [(.int .i64 (n))] [(.sl .own (List.map (PV.int .i64) (idL n.toNat)))] := by
  refine fO sg0 [2] Tryz.func102 ?_
  refine dE trivial ?_
  all_goals try (refine zlf ?_; repeat' first | exact zso | refine And.intro ?_ ?_ | (refine zim ?_; intro zb hc) | (refine zin ?_; intro zb) | intro j')
  all_goals try refine zbx ?_
  refine v_loopB (fun ms1 S1 => ∃ (k : Nat), S1.e 0 = .p (.int .i64 (n)) ∧ OwnL (S1.e 3) S1.h S1.n (PV.int .i64) ((idL k).length) (idL k) ∧ S1.e 4 = .p (.int .i64 ((k+1))) ∧ ((k : Int) ≤ n) ∧ ms1 = n.toNat - k) ((fun (k : Nat) => n.toNat - k) (0)) ?_ ⟨0, dI trivial ?_⟩
  all_goals try (refine zlf ?_; repeat' first | exact zso | refine And.intro ?_ ?_ | (refine zim ?_; intro zb hc) | (refine zin ?_; intro zb) | intro j')
  all_goals try refine zbx ?_
  rintro ms1 S1 ⟨k, h1_0, o1_3, h1_4, c1_0, hm1⟩
  obtain ⟨i1_3, h1_3, b1_3, l1_3⟩ := o1_3.out
  have ni1_3 := znds (x := i1_3) (n := S1.n)
  have fL1 := (And.intro h1_0 (And.intro h1_4 (And.intro h1_3 (And.intro b1_3 ni1_3))))
  refine dE fL1 ?_
  all_goals try (refine zlf ?_; repeat' first | exact zso | refine And.intro ?_ ?_ | (refine zim ?_; intro zb hc) | (refine zin ?_; intro zb) | intro j')
  all_goals try refine zbx ?_
  all_goals have hl := idL_len (n := k)
  all_goals try exact zaut
  · focus
      refine q_lp_n ((fun (k : Nat) => n.toNat - k) (k+1)) (dC fL1 ?_) ⟨k+1, dC fL1 ?_⟩
      all_goals try (refine zlf ?_; repeat' first | exact zso | refine And.intro ?_ ?_ | (refine zim ?_; intro zb hc) | (refine zin ?_; intro zb) | intro j')
      all_goals try refine zbx ?_
    all_goals simp [idL_succ, idL_len]
  · rw [show k = n.toNat by omega]
end Go.Gl
