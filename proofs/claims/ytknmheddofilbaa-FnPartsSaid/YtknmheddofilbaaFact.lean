/-
  The factorial: what its functions compute. Conditions: none.
-/
import Derived.Test.YtknmheddofilbaaNum
set_option linter.unusedSimpArgs false
set_option linter.unusedVariables false
set_option maxRecDepth 20000
set_option linter.unusedSectionVars false
namespace Go.Gl
open Go Go.Proofs
variable [Amb]
def facN : Nat → Int
  | 0 => 1
  | n + 1 => (n + 1) * facN n
theorem facN_pos : ∀ n, 0 < facN n
  | 0 => by decide
  | n + 1 => Int.mul_pos (by omega) (facN_pos n)
theorem facN_mono {m n : Nat} (h : m ≤ n) : facN m ≤ facN n := by
  induction h with
  | refl => exact Int.le_refl _
  | step h ih =>
    rename_i k
    refine Int.le_trans ih ?_
    have := facN_pos k
    have e : facN (k + 1) = (k : Int) * facN k + facN k := by simp only [facN]; rw [Int.add_mul]; omega
    rw [e]
    have := Int.mul_nonneg (Int.natCast_nonneg k) (Int.le_of_lt this)
    omega
theorem facN_le {n : Nat} (h : n ≤ 20) : facN n ≤ 2432902008176640000 := Int.le_trans (facN_mono h) (by decide)
def facI (n : Int) : Int := facN n.toNat
theorem impl_factorial_c (n : Int) (hn : n ≤ 20) : Fun Try.prog 122 [(.int .i64 (n))] [(.int .i64 (facI n))] := by
  refine fO sg0 [2] Try.func122 ?_
  refine dE trivial ?_
  all_goals try (refine zlf ?_; repeat' first | exact zso | refine And.intro ?_ ?_ | (refine zim ?_; intro zb hc) | (refine zin ?_; intro zb) | intro j')
  all_goals try refine zbx ?_
  refine v_loopB (fun ms1 S1 => ∃ (i : Nat), S1.e 3 = .p (.int .i64 (facN i)) ∧ S1.e 5 = .p (.int .i64 (n)) ∧ S1.e 6 = .p (.int .i64 (i)) ∧ ((i : Int) ≤ max n 0) ∧ ms1 = n.toNat - i) ((fun (i : Nat) => n.toNat - i) (0)) ?_ ⟨0, dI trivial ?_⟩
  all_goals try (refine zlf ?_; repeat' first | exact zso | refine And.intro ?_ ?_ | (refine zim ?_; intro zb hc) | (refine zin ?_; intro zb) | intro j')
  all_goals try refine zbx ?_
  rintro ms1 S1 ⟨i, h1_3, h1_5, h1_6, c1_0, hm1⟩
  have fL1 := (And.intro h1_3 (And.intro h1_5 h1_6))
  refine dE fL1 ?_
  all_goals try (refine zlf ?_; repeat' first | exact zso | refine And.intro ?_ ?_ | (refine zim ?_; intro zb hc) | (refine zin ?_; intro zb) | intro j')
  all_goals try refine zbx ?_
  all_goals have h2 := facN_pos i
  all_goals try have h1 := facN_le (n := i + 1) (by omega)
  all_goals try have h3 := facN_pos (i + 1)
  all_goals have e : facN i * (i + 1) = facN (i + 1) := by simp only [facN]; rw [Int.mul_comm]
  all_goals try rw [e]
  all_goals try exact zaut
  · focus
      refine q_lp_n ((fun (i : Nat) => n.toNat - i) (i+1)) (dC fL1 ?_) ⟨i+1, dC fL1 ?_⟩
      all_goals try (refine zlf ?_; repeat' first | exact zso | refine And.intro ?_ ?_ | (refine zim ?_; intro zb hc) | (refine zin ?_; intro zb) | intro j')
      all_goals try refine zbx ?_
  · rw [facI]; congr 1; omega
end Go.Gl
