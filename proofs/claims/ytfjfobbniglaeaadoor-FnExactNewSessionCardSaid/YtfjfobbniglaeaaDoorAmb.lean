/-
  What is told of one block. Conditions: none.
-/
import Derived.Test.YtfjfobbniglaeaaDoorGlC
set_option linter.unusedSimpArgs false
set_option linter.unusedVariables false
set_option maxRecDepth 20000
set_option linter.unusedSectionVars false
namespace Go.Gl
open Go Go.Proofs
variable [Amb] [NoQ]
/-- What is told of one block: that it is as it was. -/
@[reducible] def ambAt (w : World) (g : Nat) : Amb := ⟨fun B => if B = g then w.heap[B]? else none, false⟩
theorem ambAt_ok {w : World} {g B : Nat} {o : Obj} (h : (ambAt w g).tb B = some o) : w.heap[B]? = some o := by
  have h : (if B = g then w.heap[B]? else none) = some o := h
  split at h
  · exact h
  · cases h
end Go.Gl
