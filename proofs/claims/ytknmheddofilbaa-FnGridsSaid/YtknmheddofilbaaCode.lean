/-
  Codes and ranks: what their functions compute. Conditions: none.
-/
import Derived.Test.YtknmheddofilbaaPerm
import Derived.Test.YtknmheddofilbaaNum
set_option linter.unusedSimpArgs false
set_option linter.unusedVariables false
set_option maxRecDepth 20000
set_option linter.unusedSectionVars false
namespace Go.Gl
open Go Go.Proofs
variable [Amb]
def cntLt (v : Int) : List Int → Int
  | [] => 0
  | w :: p => bitI (decide (w < v)) + cntLt v p
end Go.Gl
