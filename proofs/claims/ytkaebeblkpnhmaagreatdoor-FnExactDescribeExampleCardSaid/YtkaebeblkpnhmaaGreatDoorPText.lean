/-
  Permutations as texts: what their functions compute. Conditions: none.
-/
import Derived.Test.YtkaebeblkpnhmaaGreatDoorPerm
import Derived.Test.YtkaebeblkpnhmaaGreatDoorJoin
import Derived.Test.YtkaebeblkpnhmaaGreatDoorLaw1
set_option linter.unusedSimpArgs false
set_option linter.unusedVariables false
set_option maxRecDepth 20000
set_option linter.unusedSectionVars false
namespace Go.Gl
open Go Go.Proofs
variable [Amb]
theorem permGo_mem {n : Int} : ∀ {p seen : List Int}, permGo n seen p = true → ∀ v ∈ p, 1 ≤ v ∧ v ≤ n
  | [], _, _, v, h => by simp at h
  | w :: p, seen, h, v, hv => by
    simp only [permGo, Bool.and_eq_true, decide_eq_true_eq] at h
    rcases List.mem_cons.1 hv with rfl | hv
    · exact ⟨h.1.1.1, h.1.1.2⟩
    · exact permGo_mem h.2 v hv
theorem perm_at {p : List Int} (h : permB p = true) {i : Nat} (hi : i < p.length) : 1 ≤ p.getD i 0 ∧ p.getD i 0 ≤ p.length := by
  have := permGo_mem h (p.getD i 0) (by rw [List.getD_eq_getElem?_getD, List.getElem?_eq_getElem hi]; simp)
  exact this
theorem isPerm_facts {p : List Int} (h : isPermB p = true) : p.length ≤ 8 ∧ permB p = true := by
  simp only [isPermB, Bool.and_eq_true, decide_eq_true_eq] at h; exact h
/-- A digit's letter. -/
def chI (v : Int) : UInt8 := UInt8.ofNat (48 + v).toNat
/-- The digits of a number, in front of others. -/
def dgN : Nat → Nat → List UInt8 → List UInt8
  | 0, _, acc => acc
  | f + 1, m, acc => if m = 0 then acc else dgN f (m / 10) (chI ((m % 10 : Nat) : Int) :: acc)
theorem dgN_step {f m : Nat} {acc : List UInt8} (h : m ≠ 0) : dgN (f + 1) m acc = dgN f (m / 10) (chI ((m % 10 : Nat) : Int) :: acc) := by rw [dgN, if_neg h]
theorem dgN_fuel : ∀ {f g m : Nat} {acc : List UInt8}, m < 2 ^ f → m < 2 ^ g → dgN f m acc = dgN g m acc
  | 0, 0, m, acc, _, _ => rfl
  | 0, g + 1, m, acc, h, _ => by
    have : m = 0 := by simp at h; omega
    subst this; rw [dgN, dgN, if_pos rfl]
  | f + 1, 0, m, acc, _, h => by
    have : m = 0 := by simp at h; omega
    subst this; rw [dgN, dgN, if_pos rfl]
  | f + 1, g + 1, m, acc, h, h' => by
    rw [dgN, dgN]
    split
    · rfl
    · exact dgN_fuel (by rw [Nat.pow_succ] at h; omega) (by rw [Nat.pow_succ] at h'; omega)
def digs (m : Nat) (acc : List UInt8) : List UInt8 := dgN 64 m acc
theorem digs_0 {acc : List UInt8} : digs 0 acc = acc := by rw [digs, dgN, if_pos rfl]
theorem digs_step {m : Nat} {acc : List UInt8} (h : m ≠ 0) (hb : m < 9223372036854775809) : digs m acc = digs (m / 10) (chI ((m % 10 : Nat) : Int) :: acc) := by
  rw [digs, dgN_step h, digs]; exact dgN_fuel (by omega) (by omega)
def fmtI (n : Int) : List UInt8 := if n = 0 then [48] else if n < 0 then 45 :: digs n.natAbs [] else digs n.natAbs []
theorem w_conv2 {P : Program} {sg : FuncId → List Bool} {h : Nat → Blk} {k : Nat} {ρ : Operand → AV} {C : R → Prop} {t t' : TypeId} {x : Operand} : opB P sg ρ h k (.convert t t' x) C = convW P t t' k h (ρ x) C := _root_.id rfl
attribute [local go_sem ↓] w_conv2
theorem tdm10 (x : Int) : x = 10 * x.tdiv 10 + x.tmod 10 ∧ (0 ≤ x → 0 ≤ x.tmod 10 ∧ x.tmod 10 ≤ 9) ∧ (x ≤ 0 → -9 ≤ x.tmod 10 ∧ x.tmod 10 ≤ 0) := by
  refine ⟨by have := Int.mul_tdiv_add_tmod x 10; omega, fun h => ?_, fun h => ?_⟩
  · rw [Int.tmod_eq_emod_of_nonneg h]; omega
  · have e : x.tmod 10 = -((-x).tmod 10) := by rw [Int.neg_tmod, Int.neg_neg]
    rw [e, Int.tmod_eq_emod_of_nonneg (by omega)]; omega
theorem pow_step {a b l : Nat} (h : 10 * b ≤ a) (hb : a * 10 ^ l ≤ 9223372036854775808) : b * 10 ^ (l + 1) ≤ 9223372036854775808 := by
  refine Nat.le_trans ?_ hb
  rw [Nat.pow_succ, Nat.mul_comm (10 ^ l) 10, ← Nat.mul_assoc, Nat.mul_comm b 10]
  exact Nat.mul_le_mul_right _ h
theorem ten19 : (10 : Nat) ^ 19 = 10000000000000000000 := by decide
theorem spec_FormatInt_c (n : Int) (h0 : -9223372036854775808 ≤ n) (h1 : n ≤ 9223372036854775807) : Fun Tryz.prog 27 [(.int .i64 (n))] [(.str (fmtI n))] := by
  refine fO sg0 [2] Tryz.func27 ?_
  have u3 : (Tryz.prog.underlying 3).isSome = true := by kernel_rfl
  refine dE trivial ?_
  all_goals try (refine zlf ?_; repeat' first | exact zso | refine And.intro ?_ ?_ | (refine zim ?_; intro zb hc) | (refine zin ?_; intro zb) | intro j')
  all_goals try refine zbx ?_
  · rw [hc]; rfl
  · refine v_loopB (fun ms1 S1 => ∃ (x : Int) (s : List UInt8), S1.e 0 = .p (.int .i64 (x)) ∧ S1.e 3 = .p (.bool (decide (n < 0))) ∧ S1.e 4 = .p (.str (s)) ∧ (-9223372036854775808 ≤ x) ∧ (x ≤ 9223372036854775807) ∧ (digs x.natAbs s = digs n.natAbs []) ∧ (x.natAbs * 10 ^ s.length ≤ 9223372036854775808) ∧ (s.length ≤ 19) ∧ (n < 0 → x ≤ 0) ∧ (0 < n → 0 ≤ x) ∧ ms1 = x.natAbs) ((fun (x : Int) (s : List UInt8) => x.natAbs) (n) ([])) ?_ ⟨n, [], dI trivial ?_⟩
    all_goals try (refine zlf ?_; repeat' first | exact zso | refine And.intro ?_ ?_ | (refine zim ?_; intro zb hc) | (refine zin ?_; intro zb) | intro j')
    all_goals try refine zbx ?_
    rintro ms1 S1 ⟨x, s, h1_0, h1_3, h1_4, c1_0, c1_1, c1_2, c1_3, c1_4, c1_5, c1_6, hm1⟩
    have fL1 := (And.intro h1_0 (And.intro h1_3 h1_4))
    have t1 := tdm10 x
    have t2 : x ≠ 0 → s.length ≤ 18 := fun hx => by
      by_cases h : s.length ≤ 18
      · exact h
      · have h2 : s.length = 19 := by omega
        rw [h2, ten19] at c1_3; omega
    refine dE (And.intro fL1 @u3) ?_
    all_goals try (refine zlf ?_; repeat' first | exact zso | refine And.intro ?_ ?_ | (refine zim ?_; intro zb hc) | (refine zin ?_; intro zb) | intro j')
    all_goals try refine zbx ?_
    all_goals try (rw [n_i64]; omega)
    all_goals try (rw [n_u8]; omega)
    all_goals try exact zaut
    · focus
        refine q_lp_n ((fun (x : Int) (s : List UInt8) => x.natAbs) (x.tdiv 10) (chI (0 - x.tmod 10) :: s)) (dC fL1 ?_) ⟨x.tdiv 10, chI (0 - x.tmod 10) :: s, dC fL1 ?_⟩
        all_goals try (refine zlf ?_; repeat' first | exact zso | refine And.intro ?_ ?_ | (refine zim ?_; intro zb hc) | (refine zin ?_; intro zb) | intro j')
        all_goals try refine zbx ?_
      all_goals try omega
      · rw [← c1_2, digs_step (m := x.natAbs) (by omega) (by omega)]
        have e1 : x.natAbs / 10 = (x.tdiv 10).natAbs := by omega
        have e2 : ((x.natAbs % 10 : Nat) : Int) = 0 - x.tmod 10 := by omega
        rw [e1, e2]
      · exact pow_step (by omega) c1_3
    · focus
        refine q_lp_n ((fun (x : Int) (s : List UInt8) => x.natAbs) (x.tdiv 10) (chI (x.tmod 10) :: s)) (dC fL1 ?_) ⟨x.tdiv 10, chI (x.tmod 10) :: s, dC fL1 ?_⟩
        all_goals try (refine zlf ?_; repeat' first | exact zso | refine And.intro ?_ ?_ | (refine zim ?_; intro zb hc) | (refine zin ?_; intro zb) | intro j')
        all_goals try refine zbx ?_
      all_goals try omega
      · rw [← c1_2, digs_step (m := x.natAbs) (by omega) (by omega)]
        have e1 : x.natAbs / 10 = (x.tdiv 10).natAbs := by omega
        have e2 : ((x.natAbs % 10 : Nat) : Int) = x.tmod 10 := by omega
        rw [e1, e2]
      · exact pow_step (by omega) c1_3
    · obtain rfl : x = 0 := by omega
      rw [fmtI, if_neg (by omega), if_pos (by omega), ← c1_2, Int.natAbs_zero, digs_0]
    · obtain rfl : x = 0 := by omega
      rw [fmtI, if_neg (by omega), if_neg (by omega), ← c1_2, Int.natAbs_zero, digs_0]
theorem join_step {l : List (List UInt8)} {sep : List UInt8} {k : Nat} (hk : k < l.length) : Lib.join (l.take (k + 1)) sep = (if k = 0 then [] else Lib.join (l.take k) sep ++ sep) ++ l.getD k [] := by
  match l, k, hk with
  | x :: r, 0, _ => simp [Lib.join_one]
  | x :: r, k + 1, hk =>
    have hk' : k < r.length := by simpa using hk
    rw [List.take_succ_cons, List.take_succ_cons, Lib.join_cons, Lib.join_cons, Lib.joinTail_take_succ sep r k (r.getD k []) (by rw [List.getD_eq_getElem?_getD, List.getElem?_eq_getElem hk']; rfl)]
    simp
theorem join_take_le {l : List (List UInt8)} {sep : List UInt8} {k : Nat} : (Lib.join (l.take k) sep).length ≤ (Lib.join l sep).length := by
  match l, k with
  | [], k => simp
  | x :: r, 0 => simp [Lib.join_nil]
  | x :: r, k + 1 =>
    rw [List.take_succ_cons, Lib.join_cons, Lib.join_cons, List.length_append, List.length_append]
    have := Lib.joinTail_take_le sep r k
    omega
theorem join_len_le {n : Nat} {sep : List UInt8} : ∀ {l : List (List UInt8)}, (∀ x ∈ l, x.length ≤ n) → (Lib.join l sep).length ≤ l.length * (n + sep.length) := by
  intro l
  have key : ∀ {l : List (List UInt8)}, (∀ x ∈ l, x.length ≤ n) → (Lib.joinTail sep l).length ≤ l.length * (n + sep.length) := by
    intro l
    induction l with
    | nil => intro _; simp [Lib.joinTail]
    | cons x r ih =>
      intro h
      have h1 := ih fun y hy => h y (by simp [hy])
      have h2 := h x (by simp)
      have e : (Lib.joinTail sep (x :: r)) = sep ++ x ++ Lib.joinTail sep r := by simp [Lib.joinTail]
      rw [e, List.length_append, List.length_append, List.length_cons, Nat.succ_mul]; omega
  cases l with
  | nil => intro _; simp [Lib.join_nil]
  | cons x r =>
    intro h
    have h1 := key (l := r) fun y hy => h y (by simp [hy])
    have h2 := h x (by simp)
    rw [Lib.join_cons, List.length_append, List.length_cons, Nat.succ_mul]; omega
theorem u8s_fold {s : List UInt8} : List.map (fun b : UInt8 => PV.int .u8 (b.toNat : Int)) s = List.map u8P s := _root_.id rfl
attribute [local go_sem] u8s_fold
theorem spec_Join_c {m0 : Bool} (l : List (List UInt8)) (sep : List UInt8) (h1 : l.length ≤ 1099511627776) (h2 : (Lib.join l sep).length ≤ 1099511627776) : Fun Tryz.prog 52 [(.sl (.lent m0) (List.map PV.str (l))), (.str (sep))] [(.str (Lib.join l sep))] := by
  refine fO sg0 [4] Tryz.func52 ?_
  refine dE trivial ?_
  all_goals try (refine zlf ?_; repeat' first | exact zso | refine And.intro ?_ ?_ | (refine zim ?_; intro zb hc) | (refine zin ?_; intro zb) | intro j')
  all_goals try refine zbx ?_
  refine v_loopB (fun ms1 S1 => ∃ (k : Nat), S1.e 0 = .p (.sl (.lent m0) (List.map PV.str (l))) ∧ S1.e 1 = .p (.str (sep)) ∧ OwnL (S1.e 5) S1.h S1.n u8P ((Lib.join (l.take k) sep).length) (Lib.join (l.take k) sep) ∧ S1.e 6 = .p (.int .i64 (k)) ∧ (k ≤ l.length) ∧ ms1 = l.length - k) ((fun (k : Nat) => l.length - k) (0)) ?_ ⟨0, dIa trivial ?_⟩
  all_goals try (refine zlf ?_; repeat' first | exact zso | refine And.intro ?_ ?_ | (refine zim ?_; intro zb hc) | (refine zin ?_; intro zb) | intro j')
  all_goals try refine zbx ?_
  rintro ms1 S1 ⟨k, h1_0, h1_1, o1_5, h1_6, c1_0, hm1⟩
  obtain ⟨i1_5, h1_5, b1_5, l1_5⟩ := o1_5.out
  have ni1_5 := znds (x := i1_5) (n := S1.n)
  have fL1 := (And.intro h1_0 (And.intro h1_1 (And.intro h1_6 (And.intro h1_5 (And.intro b1_5 ni1_5)))))
  have b2 := join_take_le (l := l) (sep := sep) (k := k + 1)
  have b1 : k < l.length → 0 < k → (Lib.join (l.take k) sep).length + (sep.length + (l.getD k []).length) ≤ 1099511627776 := fun h h0 => by
    rw [join_step h, if_neg (by omega)] at b2; simp only [List.length_append] at b2; omega
  have b0 : k < l.length → k = 0 → (Lib.join (l.take k) sep).length + (l.getD k []).length ≤ 1099511627776 := fun h h0 => by
    subst h0; rw [join_step h, if_pos rfl] at b2; simp [Lib.join_nil] at b2 ⊢; omega
  refine dEa (And.intro fL1 (And.intro @c_la @Nat.add_assoc)) ?_
  all_goals try (refine zlf ?_; repeat' first | exact zso | refine And.intro ?_ ?_ | (refine zim ?_; intro zb hc) | (refine zin ?_; intro zb) | intro j')
  all_goals try refine zbx ?_
  · focus
      refine q_lp_n ((fun (k : Nat) => l.length - k) (k+1)) (dC fL1 ?_) ⟨k+1, dC fL1 ?_⟩
      all_goals try (refine zlf ?_; repeat' first | exact zso | refine And.intro ?_ ?_ | (refine zim ?_; intro zb hc) | (refine zin ?_; intro zb) | intro j')
      all_goals try refine zbx ?_
    all_goals (rw [join_step (by omega), if_neg (by omega)]; simp only [List.length_append, List.append_assoc, Nat.add_assoc])
  · focus
      refine q_lp_n ((fun (k : Nat) => l.length - k) (k+1)) (dC fL1 ?_) ⟨k+1, dC fL1 ?_⟩
      all_goals try (refine zlf ?_; repeat' first | exact zso | refine And.intro ?_ ?_ | (refine zim ?_; intro zb hc) | (refine zin ?_; intro zb) | intro j')
      all_goals try refine zbx ?_
    all_goals (obtain rfl : k = 0 := by omega)
    all_goals (rw [join_step (by omega), if_pos rfl]; simp [Lib.join_nil])
  · rw [List.take_of_length_le (by omega)]
end Go.Gl
