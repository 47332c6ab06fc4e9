/-
  All permutations of a length: what their functions compute. Conditions: none.
-/
import Derived.Test.YtfjfobbniglaeaaDoorPerm
import Derived.Test.YtfjfobbniglaeaaDoorClone
import Derived.Test.YtfjfobbniglaeaaDoorLaw1
set_option linter.unusedSimpArgs false
set_option linter.unusedVariables false
set_option maxRecDepth 20000
set_option linter.unusedSectionVars false
namespace Go.Gl
open Go Go.Proofs
variable [Amb] [NoQ]
theorem tk1 {α : Type} {l : List α} {x : α} : List.take (l.length + 1) (l ++ [x]) = l ++ [x] := List.take_of_length_le (by simp)
end Go.Gl
