/-
 Permutations as texts: what their functions compute. Conditions: none.
-/
import Derived.Test.YtfjfobbniglaeaaPerm
import Derived.Test.YtfjfobbniglaeaaNum
import Derived.Test.YtfjfobbniglaeaaShelf
import Derived.Lib.Join
import Derived.Test.YtfjfobbniglaeaaLaw1
set_option linter.unusedSimpArgs false
set_option linter.unusedVariables false
set_option maxRecDepth 20000
set_option linter.unusedSectionVars false
namespace Go.Gl
open Go Go.Proofs
variable [Amb] [NoQ]
theorem permGo_mem {n : Int} : ∀ {p seen : List Int}, permGo n seen p = true → ∀ v ∈ p, 1 ≤ v ∧ v ≤ n
 | [], _, _, v, h => by simp at h
 | w :: p, seen, h, v, hv => by
  simp only [permGo, Bool.and_eq_true, decide_eq_true_eq] at h
  rcases List.mem_cons.1 hv with rfl | hv
  ·exact ⟨h.1.1.1, h.1.1.2⟩
  ·exact permGo_mem h.2 v hv
theorem perm_at {p : List Int} (h : permB p = true) {i : Nat} (hi : i < p.length) : 1 ≤ p.getD i 0 ∧ p.getD i 0 ≤ p.length := by
 have := permGo_mem h (p.getD i 0) (by rw [List.getD_eq_getElem?_getD, List.getElem?_eq_getElem hi]; simp)
 exact this
theorem isPerm_facts {p : List Int} (h : isPermB p = true) : p.length ≤ 8 ∧ permB p = true := by
 simp only [isPermB, Bool.and_eq_true, decide_eq_true_eq] at h; exact h
theorem w_conv2 {P : Program} {sg : FuncId → List Bool} {h : Nat → Blk} {k : Nat} {ρ : Operand → AV} {C : R → Prop} {t t' : TypeId} {x : Operand} : opB P sg ρ h k (.convert t t' x) C = convW P t t' k h (ρ x) C := _root_.id rfl
attribute [local go_sem ↓] w_conv2
theorem u8s_fold {s : List UInt8} : List.map (fun b : UInt8 => PV.int .u8 (b.toNat : Int)) s = List.map u8P s := _root_.id rfl
attribute [local go_sem] u8s_fold
end Go.Gl
