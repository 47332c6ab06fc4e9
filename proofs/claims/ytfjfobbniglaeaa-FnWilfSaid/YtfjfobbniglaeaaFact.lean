/-
  The factorial: what its functions compute. Conditions: none.
-/
import Derived.Test.YtfjfobbniglaeaaNum
set_option linter.unusedSimpArgs false
set_option linter.unusedVariables false
set_option maxRecDepth 20000
set_option linter.unusedSectionVars false
namespace Go.Gl
open Go Go.Proofs
variable [Amb]
def facN : Nat → Int
  | 0 => 1
  | n + 1 => (n + 1) * facN n
theorem facN_pos : ∀ n, 0 < facN n
  | 0 => by decide
  | n + 1 => Int.mul_pos (by omega) (facN_pos n)
theorem facN_mono {m n : Nat} (h : m ≤ n) : facN m ≤ facN n := by
  induction h with
  | refl => exact Int.le_refl _
  | step h ih =>
    rename_i k
    refine Int.le_trans ih ?_
    have := facN_pos k
    have e : facN (k + 1) = (k : Int) * facN k + facN k := by simp only [facN]; rw [Int.add_mul]; omega
    rw [e]
    have := Int.mul_nonneg (Int.natCast_nonneg k) (Int.le_of_lt this)
    omega
theorem facN_le {n : Nat} (h : n ≤ 20) : facN n ≤ 2432902008176640000 := Int.le_trans (facN_mono h) (by decide)
def facI (n : Int) : Int := facN n.toNat
end Go.Gl
