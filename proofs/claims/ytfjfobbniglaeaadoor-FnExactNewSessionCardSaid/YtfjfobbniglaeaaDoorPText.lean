/-
  Permutations as texts: what their functions compute. Conditions: none.
-/
import Derived.Test.YtfjfobbniglaeaaDoorPerm
import Derived.Test.YtfjfobbniglaeaaDoorNum
import Derived.Test.YtfjfobbniglaeaaDoorShelf
import Derived.Lib.Join
import Derived.Test.YtfjfobbniglaeaaDoorLaw1
set_option linter.unusedSimpArgs false
set_option linter.unusedVariables false
set_option maxRecDepth 20000
set_option linter.unusedSectionVars false
namespace Go.Gl
open Go Go.Proofs
variable [Amb] [NoQ]
theorem isPerm_facts {p : List Int} (h : isPermB p = true) : p.length ≤ 8 ∧ permB p = true := by
  simp only [isPermB, Bool.and_eq_true, decide_eq_true_eq] at h; exact h
theorem w_conv2 {P : Program} {sg : FuncId → List Bool} {h : Nat → Blk} {k : Nat} {ρ : Operand → AV} {C : R → Prop} {t t' : TypeId} {x : Operand} : opB P sg ρ h k (.convert t t' x) C = convW P t t' k h (ρ x) C := _root_.id rfl
attribute [local go_sem ↓] w_conv2
theorem u8s_fold {s : List UInt8} : List.map (fun b : UInt8 => PV.int .u8 (b.toNat : Int)) s = List.map u8P s := _root_.id rfl
attribute [local go_sem] u8s_fold
end Go.Gl
