/-
  Permutations by their codes: what their functions compute. Conditions: none.
-/
import Derived.Test.YtnoedblfedppkaaPerm
import Derived.Test.YtnoedblfedppkaaNum
import Derived.Test.YtnoedblfedppkaaGlC
set_option linter.unusedSimpArgs false
set_option linter.unusedVariables false
set_option maxRecDepth 20000
set_option linter.unusedSectionVars false
namespace Go.Gl
open Go Go.Proofs
variable [Amb]
def idL (n : Nat) : List Int := (List.range n).map fun i : Nat => (i : Int) + 1
theorem idL_succ {n : Nat} : idL (n + 1) = idL n ++ [(n : Int) + 1] := by simp [idL, List.range_succ]
theorem idL_len {n : Nat} : (idL n).length = n := by simp [idL]
theorem cut_len {l : List Int} {c : Nat} (h : c < l.length) : (l.take c ++ l.drop (c + 1)).length = l.length - 1 := by simp; omega
end Go.Gl
