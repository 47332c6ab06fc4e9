/-
  Patterns, complements and inverses: what their functions compute. Conditions: none.
-/
import Derived.Test.YtfjfobbniglaeaaPermF
import Derived.Test.YtfjfobbniglaeaaPText
import Derived.Test.YtfjfobbniglaeaaClone
set_option linter.unusedSimpArgs false
set_option linter.unusedVariables false
set_option maxRecDepth 20000
set_option linter.unusedSectionVars false
namespace Go.Gl
open Go Go.Proofs
variable [Amb]
def cplL (p : List Int) : List Int := p.map fun v => (p.length : Int) + 1 - v
theorem spec_l3Complement_c {m0 : Bool} (p : List Int) (hl : p.length ≤ 1048576) (hb : ∀ x ∈ p, 0 ≤ x ∧ x ≤ 1048576) : Fun Try.prog 88 [(.sl (.lent m0) (List.map (PV.int .i64) (p)))] [(.sl .own (List.map (PV.int .i64) (cplL p)))] := by
  refine fO sg0 [2] Try.func88 ?_
  refine dEa trivial ?_
  all_goals try (refine zlf ?_; repeat' first | exact zso | refine And.intro ?_ ?_ | (refine zim ?_; intro zb hc) | (refine zin ?_; intro zb) | intro j')
  all_goals try refine zbx ?_
  refine v_loopB (fun ms1 S1 => ∃ (k : Nat), S1.e 0 = .p (.sl (.lent m0) (List.map (PV.int .i64) (p))) ∧ S1.e 4 = .p (.int .i64 (k)) ∧ OwnL (S1.e 3) S1.h S1.n (PV.int .i64) (((p.take k).map (fun v => (p.length : Int) + 1 - v)).length) ((p.take k).map (fun v => (p.length : Int) + 1 - v)) ∧ (k ≤ p.length) ∧ ms1 = p.length - k) ((fun (k : Nat) => p.length - k) (0)) ?_ ⟨0, dI trivial ?_⟩
  all_goals try (refine zlf ?_; repeat' first | exact zso | refine And.intro ?_ ?_ | (refine zim ?_; intro zb hc) | (refine zin ?_; intro zb) | intro j')
  all_goals try refine zbx ?_
  rintro ms1 S1 ⟨k, h1_0, h1_4, o1_3, c1_0, hm1⟩
  obtain ⟨i1_3, h1_3, b1_3, l1_3⟩ := o1_3.out
  have ni1_3 := znds (x := i1_3) (n := S1.n)
  have fL1 := (And.intro h1_0 (And.intro h1_4 (And.intro h1_3 (And.intro b1_3 ni1_3))))
  have b1 : k < p.length → 0 ≤ p.getD k 0 ∧ p.getD k 0 ≤ 1048576 := fun h => hb _ (getD_mem h)
  refine dE fL1 ?_
  all_goals try (refine zlf ?_; repeat' first | exact zso | refine And.intro ?_ ?_ | (refine zim ?_; intro zb hc) | (refine zin ?_; intro zb) | intro j')
  all_goals try refine zbx ?_
  all_goals try have b2 := b1 (by omega)
  all_goals try exact zaut
  · focus
      refine q_lp_n ((fun (k : Nat) => p.length - k) (k+1)) (dC fL1 ?_) ⟨k+1, dC fL1 ?_⟩
      all_goals try (refine zlf ?_; repeat' first | exact zso | refine And.intro ?_ ?_ | (refine zim ?_; intro zb hc) | (refine zin ?_; intro zb) | intro j')
      all_goals try refine zbx ?_
    rw [take_getD (d := 0) (by omega), List.map_append]; rfl
  · rw [List.take_of_length_le (by omega)]; rfl
def invL (p : List Int) : Nat → List Int
  | 0 => List.replicate p.length 0
  | k + 1 => (invL p k).set (p.getD k 0 - 1).toNat ((k : Int) + 1)
theorem invL_len {p : List Int} : ∀ {k : Nat}, (invL p k).length = p.length
  | 0 => by simp [invL]
  | k + 1 => by rw [invL, List.length_set, invL_len]
def inv (p : List Int) : List Int := invL p p.length
theorem inv_len {p : List Int} : (inv p).length = p.length := invL_len
theorem cplL_len {p : List Int} : (cplL p).length = p.length := by simp [cplL]
end Go.Gl
