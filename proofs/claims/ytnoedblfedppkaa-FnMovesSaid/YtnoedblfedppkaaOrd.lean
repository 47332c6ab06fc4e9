/-
  Rows in order, each once: what the library's compacting and the reference's putting in compute. Conditions: none.
-/
import Derived.Test.YtnoedblfedppkaaHas
import Derived.Test.YtnoedblfedppkaaPermF
import Derived.Test.YtnoedblfedppkaaPText
import Derived.Test.YtnoedblfedppkaaLaw1
import Derived.Test.YtnoedblfedppkaaGlC
import Derived.Test.YtnoedblfedppkaaProg
import Derived.Shelf.Strconv.Itoa0
import Derived.Ground.Names2Prog
import Derived.Shelf.Slices.Clone
import Derived.Test.YtnoedblfedppkaaNum
import Derived.Test.YtnoedblfedppkaaShelf
set_option linter.unusedSimpArgs false
set_option linter.unusedVariables false
set_option maxRecDepth 20000
set_option linter.unusedSectionVars false
namespace Go.Gl
open Go Go.Proofs
variable [Amb]
theorem isP_8 {p : List Int} (h : isPermB p = true) : p.length ≤ 8 ∧ permB p = true := by simpa [isPermB] using h
end Go.Gl
