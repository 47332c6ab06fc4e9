/-
  The symmetries of a permutation, written. Conditions: none.
-/
import Derived.Test.YtknmheddofilbaaOrd
import Derived.Test.YtknmheddofilbaaPat
set_option linter.unusedSimpArgs false
set_option linter.unusedVariables false
set_option maxRecDepth 20000
set_option linter.unusedSectionVars false
namespace Go.Gl
open Go Go.Proofs
variable [Amb]
theorem spec_l2Inverse_c {m0 : Bool} (p : List Int) (h8 : p.length ≤ 8) (hp : permB p = true) : Fun Try.prog 104 [(.sl (.lent m0) (List.map (PV.int .i64) (p)))] [(.sl .own (List.map (PV.int .i64) (inv p)))] := by
  refine fO sg0 [2] Try.func104 ?_
  refine dEa trivial ?_
  all_goals try (refine zlf ?_; repeat' first | exact zso | refine And.intro ?_ ?_ | (refine zim ?_; intro zb hc) | (refine zin ?_; intro zb) | intro j')
  all_goals try refine zbx ?_
  refine v_loopB (fun ms1 S1 => ∃ (k : Nat), S1.e 0 = .p (.sl (.lent m0) (List.map (PV.int .i64) (p))) ∧ OwnL (S1.e 3) S1.h S1.n (PV.int .i64) ((invL p k).length) (invL p k) ∧ S1.e 4 = .p (.int .i64 (k)) ∧ (k ≤ p.length) ∧ ms1 = p.length - k) ((fun (k : Nat) => p.length - k) (0)) ?_ ⟨0, dIa trivial ?_⟩
  all_goals try (refine zlf ?_; repeat' first | exact zso | refine And.intro ?_ ?_ | (refine zim ?_; intro zb hc) | (refine zin ?_; intro zb) | intro j')
  all_goals try refine zbx ?_
  rintro ms1 S1 ⟨k, h1_0, o1_3, h1_4, c1_0, hm1⟩
  obtain ⟨i1_3, h1_3, b1_3, l1_3⟩ := o1_3.out
  have ni1_3 := znds (x := i1_3) (n := S1.n)
  have fL1 := (And.intro h1_0 (And.intro h1_4 (And.intro h1_3 (And.intro b1_3 ni1_3))))
  have b1 : (invL p k).length = p.length := invL_len
  have b2 := fun h => perm_at hp (i := k) h
  refine dEa fL1 ?_
  all_goals try (refine zlf ?_; repeat' first | exact zso | refine And.intro ?_ ?_ | (refine zim ?_; intro zb hc) | (refine zin ?_; intro zb) | intro j')
  all_goals try refine zbx ?_
  · focus
      refine q_lp_n ((fun (k : Nat) => p.length - k) (k+1)) (dC fL1 ?_) ⟨k+1, dC fL1 ?_⟩
      all_goals try (refine zlf ?_; repeat' first | exact zso | refine And.intro ?_ ?_ | (refine zim ?_; intro zb hc) | (refine zin ?_; intro zb) | intro j')
      all_goals try refine zbx ?_
    all_goals first | (rw [invL_len, invL_len]; done) | skip
  · obtain rfl : k = p.length := by omega
    rfl
  · exact invL_len.symm
end Go.Gl
