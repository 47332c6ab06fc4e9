/-
  The laws' marks in slices of slices. Conditions: none.
-/
import Derived.Test.YtfjfobbniglaeaaDoorLaw1
set_option linter.unusedSimpArgs false
set_option linter.unusedVariables false
set_option maxRecDepth 20000
set_option linter.unusedSectionVars false
namespace Go.Gl
open Go Go.Proofs
variable [Amb] [NoQ]
def mkLL : List Nat → Int → List (List Int)
  | [], _ => []
  | n :: ns, k => markL n k :: mkLL ns (k + n)
theorem mkLL_len : ∀ {ns : List Nat} {k : Int}, (mkLL ns k).length = ns.length
  | [], _ => rfl
  | _ :: ns, _ => by simp only [mkLL, List.length_cons, mkLL_len]
theorem mkLL_take {L : List (List Int)} {k : Int} : List.take L.length (mkLL (L.map List.length) k) = mkLL (L.map List.length) k := by
  rw [List.take_of_length_le]; rw [mkLL_len, List.length_map]; exact Nat.le_refl _
attribute [go_sem] mkLL_take mkLL_len
end Go.Gl
