/-
 All permutations of a length: what their functions compute. Conditions: none.
-/
import Derived.Test.YtfjfobbniglaeaaPerm
import Derived.Test.YtfjfobbniglaeaaClone
import Derived.Test.YtfjfobbniglaeaaLaw1
set_option linter.unusedSimpArgs false
set_option linter.unusedVariables false
set_option maxRecDepth 20000
set_option linter.unusedSectionVars false
namespace Go.Gl
open Go Go.Proofs
variable [Amb] [NoQ]
/-- The numbers 1 to j that a list lacks. -/
def lackL (p : List Int) (j : Nat) : List Int := ((List.range j).map fun i : Nat => (i : Int) + 1).filter fun v => !p.contains v
/-- A list with each of the lacking numbers behind it. -/
def extL (p : List Int) (j : Nat) : List (List Int) := (lackL p j).map fun v => p ++ [v]
def lvl (n : Nat) : Nat → List (List Int) → List (List Int)
 | 0, L => L
 | k + 1, L => lvl n k (L.flatMap fun p => extL p n)
theorem lvl_succ {n : Nat} : ∀ {k : Nat} {L : List (List Int)}, lvl n (k + 1) L = (lvl n k L).flatMap fun p => extL p n
 | 0, _ => rfl
 | k + 1, L => by rw [lvl, lvl_succ (k := k), ← lvl]
theorem lvl_row {n : Nat} : ∀ {k m : Nat} {L : List (List Int)}, (∀ l ∈ L, l.length = m) → ∀ l ∈ lvl n k L, l.length = m + k
 | 0, m, L, h, l, hl => by simpa [lvl] using h l hl
 | k + 1, m, L, h, l, hl => by
  rw [lvl] at hl
  have := lvl_row (k := k) (m := m + 1) (fun q hq => by
   simp only [List.mem_flatMap, extL, List.mem_map] at hq
   obtain ⟨p, hp, v, _, rfl⟩ := hq
   simp [h p hp]) l hl
  omega
/-- The permutations of a length, in order. -/
def permL (n : Nat) : List (List Int) := lvl n n [[]]
theorem permL_row {n : Nat} : ∀ l ∈ permL n, l.length = n := fun l hl => by
 have := lvl_row (m := 0) (by simp) l hl
 omega
end Go.Gl
