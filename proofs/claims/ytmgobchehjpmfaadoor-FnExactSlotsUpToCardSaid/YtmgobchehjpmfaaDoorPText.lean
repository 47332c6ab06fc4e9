/-
  Permutations as texts: what their functions compute. Conditions: none.
-/
import Derived.Test.YtmgobchehjpmfaaDoorPerm
import Derived.Test.YtmgobchehjpmfaaDoorNum
import Derived.Test.YtmgobchehjpmfaaDoorShelf
import Derived.Test.YtmgobchehjpmfaaDoorLaw1
set_option linter.unusedSimpArgs false
set_option linter.unusedVariables false
set_option maxRecDepth 20000
set_option linter.unusedSectionVars false
namespace Go.Gl
open Go Go.Proofs
variable [Amb]
theorem permGo_mem {n : Int} : ∀ {p seen : List Int}, permGo n seen p = true → ∀ v ∈ p, 1 ≤ v ∧ v ≤ n
  | [], _, _, v, h => by simp at h
  | w :: p, seen, h, v, hv => by
    simp only [permGo, Bool.and_eq_true, decide_eq_true_eq] at h
    rcases List.mem_cons.1 hv with rfl | hv
    · exact ⟨h.1.1.1, h.1.1.2⟩
    · exact permGo_mem h.2 v hv
theorem perm_at {p : List Int} (h : permB p = true) {i : Nat} (hi : i < p.length) : 1 ≤ p.getD i 0 ∧ p.getD i 0 ≤ p.length := by
  have := permGo_mem h (p.getD i 0) (by rw [List.getD_eq_getElem?_getD, List.getElem?_eq_getElem hi]; simp)
  exact this
theorem isPerm_facts {p : List Int} (h : isPermB p = true) : p.length ≤ 8 ∧ permB p = true := by
  simp only [isPermB, Bool.and_eq_true, decide_eq_true_eq] at h; exact h
/-- A digit's letter. -/
def chI (v : Int) : UInt8 := UInt8.ofNat (48 + v).toNat
/-- The digits of a number, in front of others. -/
def dgN : Nat → Nat → List UInt8 → List UInt8
  | 0, _, acc => acc
  | f + 1, m, acc => if m = 0 then acc else dgN f (m / 10) (chI ((m % 10 : Nat) : Int) :: acc)
theorem dgN_step {f m : Nat} {acc : List UInt8} (h : m ≠ 0) : dgN (f + 1) m acc = dgN f (m / 10) (chI ((m % 10 : Nat) : Int) :: acc) := by rw [dgN, if_neg h]
theorem dgN_fuel : ∀ {f g m : Nat} {acc : List UInt8}, m < 2 ^ f → m < 2 ^ g → dgN f m acc = dgN g m acc
  | 0, 0, m, acc, _, _ => rfl
  | 0, g + 1, m, acc, h, _ => by
    have : m = 0 := by simp at h; omega
    subst this; rw [dgN, dgN, if_pos rfl]
  | f + 1, 0, m, acc, _, h => by
    have : m = 0 := by simp at h; omega
    subst this; rw [dgN, dgN, if_pos rfl]
  | f + 1, g + 1, m, acc, h, h' => by
    rw [dgN, dgN]
    split
    · rfl
    · exact dgN_fuel (by rw [Nat.pow_succ] at h; omega) (by rw [Nat.pow_succ] at h'; omega)
def digs (m : Nat) (acc : List UInt8) : List UInt8 := dgN 64 m acc
theorem digs_0 {acc : List UInt8} : digs 0 acc = acc := by rw [digs, dgN, if_pos rfl]
theorem digs_step {m : Nat} {acc : List UInt8} (h : m ≠ 0) (hb : m < 9223372036854775809) : digs m acc = digs (m / 10) (chI ((m % 10 : Nat) : Int) :: acc) := by
  rw [digs, dgN_step h, digs]; exact dgN_fuel (by omega) (by omega)
def fmtI (n : Int) : List UInt8 := if n = 0 then [48] else if n < 0 then 45 :: digs n.natAbs [] else digs n.natAbs []
theorem w_conv2 {P : Program} {sg : FuncId → List Bool} {h : Nat → Blk} {k : Nat} {ρ : Operand → AV} {C : R → Prop} {t t' : TypeId} {x : Operand} : opB P sg ρ h k (.convert t t' x) C = convW P t t' k h (ρ x) C := _root_.id rfl
attribute [local go_sem ↓] w_conv2
theorem u8s_fold {s : List UInt8} : List.map (fun b : UInt8 => PV.int .u8 (b.toNat : Int)) s = List.map u8P s := _root_.id rfl
attribute [local go_sem] u8s_fold
end Go.Gl
