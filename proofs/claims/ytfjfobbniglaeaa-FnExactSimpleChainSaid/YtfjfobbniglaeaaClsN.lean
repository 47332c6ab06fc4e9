/-
 The counts of a class, told length by length: what their functions compute. Conditions: none.
-/
import Derived.Test.YtfjfobbniglaeaaBasis
set_option linter.unusedSimpArgs false
set_option linter.unusedVariables false
set_option maxRecDepth 20000
set_option linter.unusedSectionVars false
namespace Go.Gl
open Go Go.Proofs
variable [Amb] [NoQ]
/-- Lists of rows as elements. -/
def elG (q : List (List Int)) : PV := .sl (.lent false) (List.map (elI false) q)
theorem elG_eq {q : List (List Int)} : elG q = .sl (.lent false) (List.map (elI false) q) := _root_.id rfl
theorem mp_elG {l : List (List (List Int))} {x : List (List Int)} {r : List PV} : List.map elG l ++ (PV.sl (.lent false) (List.map (elI false) x) :: r) = List.map elG (l ++ [x]) ++ r := by simp [elG]
instance : NDf elG := ⟨by intro a rows h; cases h⟩
theorem nr_frG {l : List (List Int)} : noRo (elG l) = true := noRoL_map (fun _ => nr_frI) l
theorem nrL_frG {l : List (List (List Int))} : noRoL (l.map elG) = true := noRoL_map (fun _ => nr_frG) l
attribute [go_sem] elG_eq mp_elG nrL_frG
end Go.Gl
