/-
  Rows in order, each once: what the library's compacting and the reference's putting in compute. Conditions: none.
-/
import Derived.Test.YtdpahkppdakenaaBasis
import Derived.Test.YtdpahkppdakenaaLaw1
import Derived.Test.YtdpahkppdakenaaGlC
import Derived.Test.YtdpahkppdakenaaShelfS
import Derived.Test.YtdpahkppdakenaaLib
import Derived.Test.YtdpahkppdakenaaShelf
set_option linter.unusedSimpArgs false
set_option linter.unusedVariables false
set_option maxRecDepth 20000
set_option linter.unusedSectionVars false
namespace Go.Gl
open Go Go.Proofs
variable [Amb]
theorem isP_8 {p : List Int} (h : isPermB p = true) : p.length ≤ 8 ∧ permB p = true := by simpa [isPermB] using h
end Go.Gl
