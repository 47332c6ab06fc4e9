/-
  Intervals of permutations: what their functions compute. Conditions: none.
-/
import Derived.Test.YtkaebeblkpnhmaaGreatDoorPText
import Derived.Test.YtkaebeblkpnhmaaGreatDoorLaw1
set_option linter.unusedSimpArgs false
set_option linter.unusedVariables false
set_option maxRecDepth 20000
set_option linter.unusedSectionVars false
namespace Go.Gl
open Go Go.Proofs
variable [Amb]
def segL (p : List Int) (a b : Nat) : List Int := (p.take b).drop a
theorem segL_len {p : List Int} {a b : Nat} (h : b ≤ p.length) : (segL p a b).length = b - a := by simp [segL]; omega
theorem segL_mem {p : List Int} {a b : Nat} {x : Int} (h : x ∈ segL p a b) : x ∈ p := List.mem_of_mem_take (List.mem_of_mem_drop h)
end Go.Gl
