/-
  Permutations as texts: what their functions compute. Conditions: none.
-/
import Derived.Test.YtfjfobbniglaeaaDoorPerm
import Derived.Test.YtfjfobbniglaeaaDoorNum
import Derived.Test.YtfjfobbniglaeaaDoorShelf
import Derived.Lib.Join
import Derived.Test.YtfjfobbniglaeaaDoorLaw1
set_option linter.unusedSimpArgs false
set_option linter.unusedVariables false
set_option maxRecDepth 20000
set_option linter.unusedSectionVars false
namespace Go.Gl
open Go Go.Proofs
variable [Amb] [NoQ]
theorem permGo_mem {n : Int} : ∀ {p seen : List Int}, permGo n seen p = true → ∀ v ∈ p, 1 ≤ v ∧ v ≤ n
  | [], _, _, v, h => by simp at h
  | w :: p, seen, h, v, hv => by
    simp only [permGo, Bool.and_eq_true, decide_eq_true_eq] at h
    rcases List.mem_cons.1 hv with rfl | hv
    · exact ⟨h.1.1.1, h.1.1.2⟩
    · exact permGo_mem h.2 v hv
theorem perm_at {p : List Int} (h : permB p = true) {i : Nat} (hi : i < p.length) : 1 ≤ p.getD i 0 ∧ p.getD i 0 ≤ p.length := by
  have := permGo_mem h (p.getD i 0) (by rw [List.getD_eq_getElem?_getD, List.getElem?_eq_getElem hi]; simp)
  exact this
theorem isPerm_facts {p : List Int} (h : isPermB p = true) : p.length ≤ 8 ∧ permB p = true := by
  simp only [isPermB, Bool.and_eq_true, decide_eq_true_eq] at h; exact h
/-- A digit's letter. -/
def chI (v : Int) : UInt8 := UInt8.ofNat (48 + v).toNat
/-- The digits of a number, in front of others. -/
def dgN : Nat → Nat → List UInt8 → List UInt8
  | 0, _, acc => acc
  | f + 1, m, acc => if m = 0 then acc else dgN f (m / 10) (chI ((m % 10 : Nat) : Int) :: acc)
theorem dgN_step {f m : Nat} {acc : List UInt8} (h : m ≠ 0) : dgN (f + 1) m acc = dgN f (m / 10) (chI ((m % 10 : Nat) : Int) :: acc) := by rw [dgN, if_neg h]
theorem dgN_fuel : ∀ {f g m : Nat} {acc : List UInt8}, m < 2 ^ f → m < 2 ^ g → dgN f m acc = dgN g m acc
  | 0, 0, m, acc, _, _ => rfl
  | 0, g + 1, m, acc, h, _ => by
    have : m = 0 := by simp at h; omega
    subst this; rw [dgN, dgN, if_pos rfl]
  | f + 1, 0, m, acc, _, h => by
    have : m = 0 := by simp at h; omega
    subst this; rw [dgN, dgN, if_pos rfl]
  | f + 1, g + 1, m, acc, h, h' => by
    rw [dgN, dgN]
    split
    · rfl
    · exact dgN_fuel (by rw [Nat.pow_succ] at h; omega) (by rw [Nat.pow_succ] at h'; omega)
def digs (m : Nat) (acc : List UInt8) : List UInt8 := dgN 64 m acc
theorem digs_0 {acc : List UInt8} : digs 0 acc = acc := by rw [digs, dgN, if_pos rfl]
theorem digs_step {m : Nat} {acc : List UInt8} (h : m ≠ 0) (hb : m < 9223372036854775809) : digs m acc = digs (m / 10) (chI ((m % 10 : Nat) : Int) :: acc) := by
  rw [digs, dgN_step h, digs]; exact dgN_fuel (by omega) (by omega)
def fmtI (n : Int) : List UInt8 := if n = 0 then [48] else if n < 0 then 45 :: digs n.natAbs [] else digs n.natAbs []
theorem fmtI_small {n : Int} (h0 : 1 ≤ n) (h1 : n ≤ 9) : fmtI n = [chI n] := by
  rw [fmtI, if_neg (by omega), if_neg (by omega), digs_step (by omega) (by omega), show n.natAbs / 10 = 0 by omega, digs_0]
  congr 2; omega
theorem w_conv2 {P : Program} {sg : FuncId → List Bool} {h : Nat → Blk} {k : Nat} {ρ : Operand → AV} {C : R → Prop} {t t' : TypeId} {x : Operand} : opB P sg ρ h k (.convert t t' x) C = convW P t t' k h (ρ x) C := _root_.id rfl
attribute [local go_sem ↓] w_conv2
theorem tdm10 (x : Int) : x = 10 * x.tdiv 10 + x.tmod 10 ∧ (0 ≤ x → 0 ≤ x.tmod 10 ∧ x.tmod 10 ≤ 9) ∧ (x ≤ 0 → -9 ≤ x.tmod 10 ∧ x.tmod 10 ≤ 0) := by
  refine ⟨by have := Int.mul_tdiv_add_tmod x 10; omega, fun h => ?_, fun h => ?_⟩
  · rw [Int.tmod_eq_emod_of_nonneg h]; omega
  · have e : x.tmod 10 = -((-x).tmod 10) := by rw [Int.neg_tmod, Int.neg_neg]
    rw [e, Int.tmod_eq_emod_of_nonneg (by omega)]; omega
theorem pow_step {a b l : Nat} (h : 10 * b ≤ a) (hb : a * 10 ^ l ≤ 9223372036854775808) : b * 10 ^ (l + 1) ≤ 9223372036854775808 := by
  refine Nat.le_trans ?_ hb
  rw [Nat.pow_succ, Nat.mul_comm (10 ^ l) 10, ← Nat.mul_assoc, Nat.mul_comm b 10]
  exact Nat.mul_le_mul_right _ h
theorem ten19 : (10 : Nat) ^ 19 = 10000000000000000000 := by decide
theorem spec_FormatInt_c (n : Int) (h0 : -9223372036854775808 ≤ n) (h1 : n ≤ 9223372036854775807) : Fun Tryd.prog 74 [(.int .i64 (n))] [(.str (fmtI n))] := by
  refine fO sg0 [2] Tryd.func74 ?_
  have u3 : (Tryd.prog.underlying 3).isSome = true := by kernel_rfl
  refine dE trivial ?_
  all_goals try (refine zlf ?_; repeat' first | exact zso | refine And.intro ?_ ?_ | (refine zim ?_; intro zb hc) | (refine zin ?_; intro zb) | intro j')
  all_goals try refine zbx ?_
  · rw [hc]; rfl
  · refine v_loopB (fun ms1 S1 => ∃ (x : Int) (s : List UInt8), S1.e 0 = .p (.int .i64 (x)) ∧ S1.e 3 = .p (.bool (decide (n < 0))) ∧ S1.e 4 = .p (.str (s)) ∧ (-9223372036854775808 ≤ x) ∧ (x ≤ 9223372036854775807) ∧ (digs x.natAbs s = digs n.natAbs []) ∧ (x.natAbs * 10 ^ s.length ≤ 9223372036854775808) ∧ (s.length ≤ 19) ∧ (n < 0 → x ≤ 0) ∧ (0 < n → 0 ≤ x) ∧ ms1 = x.natAbs) ((fun (x : Int) (s : List UInt8) => x.natAbs) (n) ([])) ?_ ⟨n, [], dI trivial ?_⟩
    all_goals try (refine zlf ?_; repeat' first | exact zso | refine And.intro ?_ ?_ | (refine zim ?_; intro zb hc) | (refine zin ?_; intro zb) | intro j')
    all_goals try refine zbx ?_
    rintro ms1 S1 ⟨x, s, h1_0, h1_3, h1_4, c1_0, c1_1, c1_2, c1_3, c1_4, c1_5, c1_6, hm1⟩
    have fL1 := (And.intro h1_0 (And.intro h1_3 h1_4))
    have t1 := tdm10 x
    have t2 : x ≠ 0 → s.length ≤ 18 := fun hx => by
      by_cases h : s.length ≤ 18
      · exact h
      · have h2 : s.length = 19 := by omega
        rw [h2, ten19] at c1_3; omega
    refine dE (And.intro fL1 @u3) ?_
    all_goals try (refine zlf ?_; repeat' first | exact zso | refine And.intro ?_ ?_ | (refine zim ?_; intro zb hc) | (refine zin ?_; intro zb) | intro j')
    all_goals try refine zbx ?_
    all_goals try (rw [n_i64]; omega)
    all_goals try (rw [n_u8]; omega)
    all_goals try exact zaut
    · focus
        refine q_lp_n ((fun (x : Int) (s : List UInt8) => x.natAbs) (x.tdiv 10) (chI (0 - x.tmod 10) :: s)) (dC fL1 ?_) ⟨x.tdiv 10, chI (0 - x.tmod 10) :: s, dC fL1 ?_⟩
        all_goals try (refine zlf ?_; repeat' first | exact zso | refine And.intro ?_ ?_ | (refine zim ?_; intro zb hc) | (refine zin ?_; intro zb) | intro j')
        all_goals try refine zbx ?_
      all_goals try omega
      · rw [← c1_2, digs_step (m := x.natAbs) (by omega) (by omega)]
        have e1 : x.natAbs / 10 = (x.tdiv 10).natAbs := by omega
        have e2 : ((x.natAbs % 10 : Nat) : Int) = 0 - x.tmod 10 := by omega
        rw [e1, e2]
      · exact pow_step (by omega) c1_3
    · focus
        refine q_lp_n ((fun (x : Int) (s : List UInt8) => x.natAbs) (x.tdiv 10) (chI (x.tmod 10) :: s)) (dC fL1 ?_) ⟨x.tdiv 10, chI (x.tmod 10) :: s, dC fL1 ?_⟩
        all_goals try (refine zlf ?_; repeat' first | exact zso | refine And.intro ?_ ?_ | (refine zim ?_; intro zb hc) | (refine zin ?_; intro zb) | intro j')
        all_goals try refine zbx ?_
      all_goals try omega
      · rw [← c1_2, digs_step (m := x.natAbs) (by omega) (by omega)]
        have e1 : x.natAbs / 10 = (x.tdiv 10).natAbs := by omega
        have e2 : ((x.natAbs % 10 : Nat) : Int) = x.tmod 10 := by omega
        rw [e1, e2]
      · exact pow_step (by omega) c1_3
    · obtain rfl : x = 0 := by omega
      rw [fmtI, if_neg (by omega), if_pos (by omega), ← c1_2, Int.natAbs_zero, digs_0]
    · obtain rfl : x = 0 := by omega
      rw [fmtI, if_neg (by omega), if_neg (by omega), ← c1_2, Int.natAbs_zero, digs_0]
theorem u8s_fold {s : List UInt8} : List.map (fun b : UInt8 => PV.int .u8 (b.toNat : Int)) s = List.map u8P s := _root_.id rfl
attribute [local go_sem] u8s_fold
end Go.Gl
