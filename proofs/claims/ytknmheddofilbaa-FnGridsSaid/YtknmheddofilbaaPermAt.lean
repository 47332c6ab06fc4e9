/-
  Permutations by their codes: what their functions compute. Conditions: none.
-/
import Derived.Test.YtknmheddofilbaaCode
import Derived.Test.YtknmheddofilbaaNum
import Derived.Test.YtknmheddofilbaaGlC
set_option linter.unusedSimpArgs false
set_option linter.unusedVariables false
set_option maxRecDepth 20000
set_option linter.unusedSectionVars false
namespace Go.Gl
open Go Go.Proofs
variable [Amb]
def idL (n : Nat) : List Int := (List.range n).map fun i : Nat => (i : Int) + 1
theorem idL_len {n : Nat} : (idL n).length = n := by simp [idL]
end Go.Gl
