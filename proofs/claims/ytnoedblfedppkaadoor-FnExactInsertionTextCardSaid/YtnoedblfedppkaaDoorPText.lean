/-
  Permutations as texts: what their functions compute. Conditions: none.
-/
import Derived.Test.YtnoedblfedppkaaDoorPerm
import Derived.Test.YtnoedblfedppkaaDoorJoin
import Derived.Test.YtnoedblfedppkaaDoorLaw1
set_option linter.unusedSimpArgs false
set_option linter.unusedVariables false
set_option maxRecDepth 20000
set_option linter.unusedSectionVars false
namespace Go.Gl
open Go Go.Proofs
variable [Amb]
/-- A digit's letter. -/
def chI (v : Int) : UInt8 := UInt8.ofNat (48 + v).toNat
/-- The digits of a number, in front of others. -/
def dgN : Nat → Nat → List UInt8 → List UInt8
  | 0, _, acc => acc
  | f + 1, m, acc => if m = 0 then acc else dgN f (m / 10) (chI ((m % 10 : Nat) : Int) :: acc)
theorem dgN_step {f m : Nat} {acc : List UInt8} (h : m ≠ 0) : dgN (f + 1) m acc = dgN f (m / 10) (chI ((m % 10 : Nat) : Int) :: acc) := by rw [dgN, if_neg h]
theorem dgN_fuel : ∀ {f g m : Nat} {acc : List UInt8}, m < 2 ^ f → m < 2 ^ g → dgN f m acc = dgN g m acc
  | 0, 0, m, acc, _, _ => rfl
  | 0, g + 1, m, acc, h, _ => by
    have : m = 0 := by simp at h; omega
    subst this; rw [dgN, dgN, if_pos rfl]
  | f + 1, 0, m, acc, _, h => by
    have : m = 0 := by simp at h; omega
    subst this; rw [dgN, dgN, if_pos rfl]
  | f + 1, g + 1, m, acc, h, h' => by
    rw [dgN, dgN]
    split
    · rfl
    · exact dgN_fuel (by rw [Nat.pow_succ] at h; omega) (by rw [Nat.pow_succ] at h'; omega)
def digs (m : Nat) (acc : List UInt8) : List UInt8 := dgN 64 m acc
theorem digs_0 {acc : List UInt8} : digs 0 acc = acc := by rw [digs, dgN, if_pos rfl]
theorem digs_step {m : Nat} {acc : List UInt8} (h : m ≠ 0) (hb : m < 9223372036854775809) : digs m acc = digs (m / 10) (chI ((m % 10 : Nat) : Int) :: acc) := by
  rw [digs, dgN_step h, digs]; exact dgN_fuel (by omega) (by omega)
def fmtI (n : Int) : List UInt8 := if n = 0 then [48] else if n < 0 then 45 :: digs n.natAbs [] else digs n.natAbs []
theorem w_conv2 {P : Program} {sg : FuncId → List Bool} {h : Nat → Blk} {k : Nat} {ρ : Operand → AV} {C : R → Prop} {t t' : TypeId} {x : Operand} : opB P sg ρ h k (.convert t t' x) C = convW P t t' k h (ρ x) C := _root_.id rfl
attribute [local go_sem ↓] w_conv2
theorem tdm10 (x : Int) : x = 10 * x.tdiv 10 + x.tmod 10 ∧ (0 ≤ x → 0 ≤ x.tmod 10 ∧ x.tmod 10 ≤ 9) ∧ (x ≤ 0 → -9 ≤ x.tmod 10 ∧ x.tmod 10 ≤ 0) := by
  refine ⟨by have := Int.mul_tdiv_add_tmod x 10; omega, fun h => ?_, fun h => ?_⟩
  · rw [Int.tmod_eq_emod_of_nonneg h]; omega
  · have e : x.tmod 10 = -((-x).tmod 10) := by rw [Int.neg_tmod, Int.neg_neg]
    rw [e, Int.tmod_eq_emod_of_nonneg (by omega)]; omega
theorem pow_step {a b l : Nat} (h : 10 * b ≤ a) (hb : a * 10 ^ l ≤ 9223372036854775808) : b * 10 ^ (l + 1) ≤ 9223372036854775808 := by
  refine Nat.le_trans ?_ hb
  rw [Nat.pow_succ, Nat.mul_comm (10 ^ l) 10, ← Nat.mul_assoc, Nat.mul_comm b 10]
  exact Nat.mul_le_mul_right _ h
theorem ten19 : (10 : Nat) ^ 19 = 10000000000000000000 := by decide
theorem spec_FormatInt_c (n : Int) (h0 : -9223372036854775808 ≤ n) (h1 : n ≤ 9223372036854775807) : Fun Tryd.prog 93 [(.int .i64 (n))] [(.str (fmtI n))] := by
  refine Fun.of (sg := sg0) (ts := [2]) mo Tryd.func93 rfl rfl rfl rfl (by kernel_rfl) (by simp only [go_sem]) rfl ?_
  have u3 : (Tryd.prog.underlying 3).isSome = true := by kernel_rfl
  have fc : True := trivial
  repeat' first
    | with_reducible first | refine stp ?_ | refine q_blk_o rfl ?_ | (refine hK _ ?_; clear hK) | (refine hA ?_; clear hA hB) | (refine hB ?_; clear hA hB) | exact v_end0 | exact v_end0' | refine v_gb1 ?_ ?_ | refine v_gb0 ?_ ?_ | refine And.intro ?_ ?_
    | (with_reducible refine p_ok ?_; decide)
    | ((first | with_reducible first | refine v_region rfl rfl (fun K hK => ?_) | refine v_draws rfl rfl (fun K hK => ?_) | refine v_if (fun A B hA hB => ?_) | refine v_end rfl ?_ | refine v_fin1 ?_ | refine v_finC1 ?_ | refine v_finR1 ?_ | refine v_finO1 rfl ?_ | refine v_finN1 rfl ?_ ?_ | refine v_apj ?_ (fun j' => ?_) | refine v_stz ?_ ?_ ?_ ?_ ?_ | refine v_stq ?_ | refine v_cv1 ?_ ?_ ?_ | (intro hc; replace fc := And.intro hc fc; try simp only [hcs] at hc)) <;> (try simp (config := { maxSteps := 1000000 }) only [go_sem, ↓reduceIte, reduceCtorEq, Nat.reduceEqDiff, Nat.reduceAdd, Nat.reduceMul, Nat.reduceSub, Nat.reduceLeDiff, Int.reduceLT, Int.reduceLE, Int.reduceEq, Int.reduceSub, Int.reduceAdd, Int.reduceMul, Int.reduceNeg, Int.reduceToNat, fc]) <;> (try with_reducible rfl))
  · rw [hc]; rfl
  · refine v_loop (fun ms1 S1 => ∃ (x : Int) (s : List UInt8), S1.e 0 = .p (.int .i64 (x)) ∧ S1.e 3 = .p (.bool (decide (n < 0))) ∧ S1.e 4 = .p (.str (s)) ∧ (-9223372036854775808 ≤ x) ∧ (x ≤ 9223372036854775807) ∧ (digs x.natAbs s = digs n.natAbs []) ∧ (x.natAbs * 10 ^ s.length ≤ 9223372036854775808) ∧ (s.length ≤ 19) ∧ (n < 0 → x ≤ 0) ∧ (0 < n → 0 ≤ x) ∧ ms1 = x.natAbs) ((fun (x : Int) (s : List UInt8) => x.natAbs) (n) ([])) ?init1_0 ?body1_0
    case' init1_0 =>
      refine ⟨n, [], ?_, ?_, ?_, ?_, ?_, ?_, ?_, ?_, ?_, ?_, rfl⟩
      all_goals (try simp only [go_sem, ↓reduceIte, reduceCtorEq, Nat.reduceEqDiff, Nat.reduceAdd, Nat.reduceMul, Nat.reduceSub, Nat.reduceLeDiff, Int.reduceLT, Int.reduceLE, Int.reduceEq, Int.reduceSub, Int.reduceAdd, Int.reduceMul, Int.reduceNeg, Int.reduceToNat])
      repeat' refine And.intro ?_ ?_
      all_goals try first | rfl | omega | (simp only [lnA] <;> omega) | ((first | refine stp ?_ | refine dkz_eq ?_ ?_) <;> first | rfl | omega | (simp only [lnA] <;> omega) | (simp only [lnA, List.append_assoc, List.cons_append, List.nil_append]; done) | skip)
    case' body1_0 =>
      rintro ms1 S1 ⟨x, s, h1_0, h1_3, h1_4, c1_0, c1_1, c1_2, c1_3, c1_4, c1_5, c1_6, hm1⟩
    have t1 := tdm10 x
    have t2 : x ≠ 0 → s.length ≤ 18 := fun hx => by
      by_cases h : s.length ≤ 18
      · exact h
      · have h2 : s.length = 19 := by omega
        rw [h2, ten19] at c1_3; omega
    have fc : True := trivial
    repeat' first
      | with_reducible first | refine stp ?_ | refine q_blk_o rfl ?_ | (refine hK _ ?_; clear hK) | (refine hA ?_; clear hA hB) | (refine hB ?_; clear hA hB) | exact v_end0 | exact v_end0' | refine v_gb1 ?_ ?_ | refine v_gb0 ?_ ?_ | refine And.intro ?_ ?_
      | (with_reducible refine p_ok ?_; decide)
      | ((first | with_reducible first | refine v_region rfl rfl (fun K hK => ?_) | refine v_draws rfl rfl (fun K hK => ?_) | refine v_if (fun A B hA hB => ?_) | refine v_end rfl ?_ | refine v_fin1 ?_ | refine v_finC1 ?_ | refine v_finR1 ?_ | refine v_finO1 rfl ?_ | refine v_finN1 rfl ?_ ?_ | refine v_apj ?_ (fun j' => ?_) | refine v_stz ?_ ?_ ?_ ?_ ?_ | refine v_stq ?_ | refine v_cv1 ?_ ?_ ?_ | (intro hc; replace fc := And.intro hc fc; try simp only [hcs] at hc)) <;> (try simp (config := { maxSteps := 1000000 }) only [go_sem, ↓reduceIte, reduceCtorEq, Nat.reduceEqDiff, Nat.reduceAdd, Nat.reduceMul, Nat.reduceSub, Nat.reduceLeDiff, Int.reduceLT, Int.reduceLE, Int.reduceEq, Int.reduceSub, Int.reduceAdd, Int.reduceMul, Int.reduceNeg, Int.reduceToNat, h1_0, h1_3, h1_4, u3, fc]) <;> (try with_reducible rfl))
    all_goals try (rw [n_i64]; omega)
    all_goals try (rw [n_u8]; omega)
    all_goals try (first | omega | (simp only [n_i64, n_u8]; omega) | (simp only [n_i64, n_u8, lnA]; omega) | (simp only [lnA]; done) | exact List.take_of_length_le (by simp))
    · focus
        refine q_lp_n ((fun (x : Int) (s : List UInt8) => x.natAbs) (x.tdiv 10) (chI (0 - x.tmod 10) :: s)) ?_ ⟨x.tdiv 10, chI (0 - x.tmod 10) :: s, ?_, ?_, ?_, ?_, ?_, ?_, ?_, ?_, ?_, ?_, rfl⟩
        all_goals (try simp only [go_sem, ↓reduceIte, reduceCtorEq, Nat.reduceEqDiff, Nat.reduceAdd, Nat.reduceMul, Nat.reduceSub, Nat.reduceLeDiff, Int.reduceLT, Int.reduceLE, Int.reduceEq, Int.reduceSub, Int.reduceAdd, Int.reduceMul, Int.reduceNeg, Int.reduceToNat, h1_0, h1_3, h1_4])
        repeat' refine And.intro ?_ ?_
        all_goals try first | rfl | omega | (simp only [lnA] <;> omega) | ((first | refine stp ?_ | refine dkz_eq ?_ ?_) <;> first | rfl | omega | (simp only [lnA] <;> omega) | (simp only [lnA, List.append_assoc, List.cons_append, List.nil_append]; done) | skip)
      all_goals try omega
      · rw [← c1_2, digs_step (m := x.natAbs) (by omega) (by omega)]
        have e1 : x.natAbs / 10 = (x.tdiv 10).natAbs := by omega
        have e2 : ((x.natAbs % 10 : Nat) : Int) = 0 - x.tmod 10 := by omega
        rw [e1, e2]
      · exact pow_step (by omega) c1_3
    · focus
        refine q_lp_n ((fun (x : Int) (s : List UInt8) => x.natAbs) (x.tdiv 10) (chI (x.tmod 10) :: s)) ?_ ⟨x.tdiv 10, chI (x.tmod 10) :: s, ?_, ?_, ?_, ?_, ?_, ?_, ?_, ?_, ?_, ?_, rfl⟩
        all_goals (try simp only [go_sem, ↓reduceIte, reduceCtorEq, Nat.reduceEqDiff, Nat.reduceAdd, Nat.reduceMul, Nat.reduceSub, Nat.reduceLeDiff, Int.reduceLT, Int.reduceLE, Int.reduceEq, Int.reduceSub, Int.reduceAdd, Int.reduceMul, Int.reduceNeg, Int.reduceToNat, h1_0, h1_3, h1_4])
        repeat' refine And.intro ?_ ?_
        all_goals try first | rfl | omega | (simp only [lnA] <;> omega) | ((first | refine stp ?_ | refine dkz_eq ?_ ?_) <;> first | rfl | omega | (simp only [lnA] <;> omega) | (simp only [lnA, List.append_assoc, List.cons_append, List.nil_append]; done) | skip)
      all_goals try omega
      · rw [← c1_2, digs_step (m := x.natAbs) (by omega) (by omega)]
        have e1 : x.natAbs / 10 = (x.tdiv 10).natAbs := by omega
        have e2 : ((x.natAbs % 10 : Nat) : Int) = x.tmod 10 := by omega
        rw [e1, e2]
      · exact pow_step (by omega) c1_3
    · rename_i hx _
      subst hx
      rw [fmtI, if_neg (by omega), if_pos (by omega), ← c1_2, Int.natAbs_zero, digs_0]
    · rename_i hx _
      subst hx
      rw [fmtI, if_neg (by omega), if_neg (by omega), ← c1_2, Int.natAbs_zero, digs_0]
theorem join_step {l : List (List UInt8)} {sep : List UInt8} {k : Nat} (hk : k < l.length) : Lib.join (l.take (k + 1)) sep = (if k = 0 then [] else Lib.join (l.take k) sep ++ sep) ++ l.getD k [] := by
  match l, k, hk with
  | x :: r, 0, _ => simp [Lib.join_one]
  | x :: r, k + 1, hk =>
    have hk' : k < r.length := by simpa using hk
    rw [List.take_succ_cons, List.take_succ_cons, Lib.join_cons, Lib.join_cons, Lib.joinTail_take_succ sep r k (r.getD k []) (by rw [List.getD_eq_getElem?_getD, List.getElem?_eq_getElem hk']; rfl)]
    simp
theorem join_take_le {l : List (List UInt8)} {sep : List UInt8} {k : Nat} : (Lib.join (l.take k) sep).length ≤ (Lib.join l sep).length := by
  match l, k with
  | [], k => simp
  | x :: r, 0 => simp [Lib.join_nil]
  | x :: r, k + 1 =>
    rw [List.take_succ_cons, Lib.join_cons, Lib.join_cons, List.length_append, List.length_append]
    have := Lib.joinTail_take_le sep r k
    omega
theorem join_len_le {n : Nat} {sep : List UInt8} : ∀ {l : List (List UInt8)}, (∀ x ∈ l, x.length ≤ n) → (Lib.join l sep).length ≤ l.length * (n + sep.length) := by
  intro l
  have key : ∀ {l : List (List UInt8)}, (∀ x ∈ l, x.length ≤ n) → (Lib.joinTail sep l).length ≤ l.length * (n + sep.length) := by
    intro l
    induction l with
    | nil => intro _; simp [Lib.joinTail]
    | cons x r ih =>
      intro h
      have h1 := ih fun y hy => h y (by simp [hy])
      have h2 := h x (by simp)
      have e : (Lib.joinTail sep (x :: r)) = sep ++ x ++ Lib.joinTail sep r := by simp [Lib.joinTail]
      rw [e, List.length_append, List.length_append, List.length_cons, Nat.succ_mul]; omega
  cases l with
  | nil => intro _; simp [Lib.join_nil]
  | cons x r =>
    intro h
    have h1 := key (l := r) fun y hy => h y (by simp [hy])
    have h2 := h x (by simp)
    rw [Lib.join_cons, List.length_append, List.length_cons, Nat.succ_mul]; omega
theorem u8s_fold {s : List UInt8} : List.map (fun b : UInt8 => PV.int .u8 (b.toNat : Int)) s = List.map u8P s := _root_.id rfl
attribute [local go_sem] u8s_fold
theorem spec_Join_c {m0 : Bool} (l : List (List UInt8)) (sep : List UInt8) (h1 : l.length ≤ 1099511627776) (h2 : (Lib.join l sep).length ≤ 1099511627776) : Fun Tryd.prog 74 [(.sl (.lent m0) (List.map PV.str (l))), (.str (sep))] [(.str (Lib.join l sep))] := by
  refine Fun.of (sg := sg0) (ts := [4]) mo Tryd.func74 rfl rfl rfl rfl (by kernel_rfl) (by simp only [go_sem]) rfl ?_
  have fc : True := trivial
  repeat' first
    | with_reducible first | refine stp ?_ | refine q_blk_o rfl ?_ | (refine hK _ ?_; clear hK) | (refine hA ?_; clear hA hB) | (refine hB ?_; clear hA hB) | exact v_end0 | exact v_end0' | refine v_gb1 ?_ ?_ | refine v_gb0 ?_ ?_ | refine And.intro ?_ ?_
    | (with_reducible refine p_ok ?_; decide)
    | ((first | with_reducible first | refine v_region rfl rfl (fun K hK => ?_) | refine v_draws rfl rfl (fun K hK => ?_) | refine v_if (fun A B hA hB => ?_) | refine v_end rfl ?_ | refine v_fin1 ?_ | refine v_finC1 ?_ | refine v_finR1 ?_ | refine v_finO1 rfl ?_ | refine v_finN1 rfl ?_ ?_ | refine v_apj ?_ (fun j' => ?_) | refine v_stz ?_ ?_ ?_ ?_ ?_ | refine v_stq ?_ | refine v_cv1 ?_ ?_ ?_ | (intro hc; replace fc := And.intro hc fc; try simp only [hcs] at hc)) <;> (try simp (config := { maxSteps := 1000000 }) only [go_sem, ↓reduceIte, reduceCtorEq, Nat.reduceEqDiff, Nat.reduceAdd, Nat.reduceMul, Nat.reduceSub, Nat.reduceLeDiff, Int.reduceLT, Int.reduceLE, Int.reduceEq, Int.reduceSub, Int.reduceAdd, Int.reduceMul, Int.reduceNeg, Int.reduceToNat, fc]) <;> (try with_reducible rfl))
  refine v_loop (fun ms1 S1 => ∃ (k : Nat), S1.e 0 = .p (.sl (.lent m0) (List.map PV.str (l))) ∧ S1.e 1 = .p (.str (sep)) ∧ OwnL (S1.e 5) S1.h S1.n u8P ((Lib.join (l.take k) sep).length) (Lib.join (l.take k) sep) ∧ S1.e 6 = .p (.int .i64 (k)) ∧ (k ≤ l.length) ∧ ms1 = l.length - k) ((fun (k : Nat) => l.length - k) (0)) ?init1_1 ?body1_1
  case' init1_1 =>
    refine ⟨0, ?_, ?_, ?_, ?_, ?_, rfl⟩
    all_goals (try simp only [go_sem, ↓reduceIte, reduceCtorEq, Nat.reduceEqDiff, Nat.reduceAdd, Nat.reduceMul, Nat.reduceSub, Nat.reduceLeDiff, Int.reduceLT, Int.reduceLE, Int.reduceEq, Int.reduceSub, Int.reduceAdd, Int.reduceMul, Int.reduceNeg, Int.reduceToNat])
    repeat' refine And.intro ?_ ?_
    all_goals try first | rfl | omega | (simp only [lnA] <;> omega) | ((first | refine stp ?_ | refine dkz_eq ?_ ?_) <;> first | rfl | omega | (simp only [lnA] <;> omega) | (simp only [lnA, List.append_assoc, List.cons_append, List.nil_append]; done) | skip)
  case' body1_1 =>
    rintro ms1 S1 ⟨k, h1_0, h1_1, o1_5, h1_6, c1_0, hm1⟩
    obtain ⟨i1_5, h1_5, b1_5, l1_5⟩ := o1_5.out
    have ni1_5 : ∀ c, (i1_5 = S1.n + c) = False := fun c => eq_false (by omega)
    have pi1_5 : ∀ c, (S1.n + c = i1_5) = False := fun c => eq_false (by omega)
    have qi1_5 : (i1_5 = S1.n) = False := eq_false (by omega)
    have ri1_5 : (S1.n = i1_5) = False := eq_false (by omega)
  have b2 := join_take_le (l := l) (sep := sep) (k := k + 1)
  have b1 : k < l.length → 0 < k → (Lib.join (l.take k) sep).length + (sep.length + (l.getD k []).length) ≤ 1099511627776 := fun h h0 => by
    rw [join_step h, if_neg (by omega)] at b2; simp only [List.length_append] at b2; omega
  have b0 : k < l.length → k = 0 → (Lib.join (l.take k) sep).length + (l.getD k []).length ≤ 1099511627776 := fun h h0 => by
    subst h0; rw [join_step h, if_pos rfl] at b2; simp [Lib.join_nil] at b2 ⊢; omega
  have fc : True := trivial
  repeat' first
    | with_reducible first | refine stp ?_ | refine q_blk_o rfl ?_ | (refine hK _ ?_; clear hK) | (refine hA ?_; clear hA hB) | (refine hB ?_; clear hA hB) | exact v_end0 | exact v_end0' | refine v_gb1 ?_ ?_ | refine v_gb0 ?_ ?_ | refine And.intro ?_ ?_
    | (with_reducible refine p_ok ?_; decide)
    | ((first | with_reducible first | refine v_region rfl rfl (fun K hK => ?_) | refine v_draws rfl rfl (fun K hK => ?_) | refine v_if (fun A B hA hB => ?_) | refine v_end rfl ?_ | refine v_fin1 ?_ | refine v_finC1 ?_ | refine v_finR1 ?_ | refine v_finO1 rfl ?_ | refine v_finN1 rfl ?_ ?_ | refine v_apj ?_ (fun j' => ?_) | refine v_stz ?_ ?_ ?_ ?_ ?_ | refine v_stq ?_ | refine v_cv1 ?_ ?_ ?_ | (intro hc; replace fc := And.intro hc fc; try simp only [hcs] at hc)) <;> (try simp (config := { maxSteps := 1000000 }) only [go_sem, ↓reduceIte, reduceCtorEq, Nat.reduceEqDiff, Nat.reduceAdd, Nat.reduceMul, Nat.reduceSub, Nat.reduceLeDiff, Int.reduceLT, Int.reduceLE, Int.reduceEq, Int.reduceSub, Int.reduceAdd, Int.reduceMul, Int.reduceNeg, Int.reduceToNat, h1_0, h1_1, h1_6, h1_5, b1_5, ni1_5, pi1_5, qi1_5, ri1_5, List.length_append, Nat.add_assoc, fc]) <;> (try with_reducible rfl))
  all_goals try (first | omega | (simp only [n_i64, n_u8]; omega) | (simp only [n_i64, n_u8, lnA]; omega) | (simp only [lnA]; done) | exact List.take_of_length_le (by simp))
  · focus
      refine q_lp_n ((fun (k : Nat) => l.length - k) (k+1)) ?_ ⟨k+1, ?_, ?_, ?_, ?_, ?_, rfl⟩
      all_goals (try simp only [go_sem, ↓reduceIte, reduceCtorEq, Nat.reduceEqDiff, Nat.reduceAdd, Nat.reduceMul, Nat.reduceSub, Nat.reduceLeDiff, Int.reduceLT, Int.reduceLE, Int.reduceEq, Int.reduceSub, Int.reduceAdd, Int.reduceMul, Int.reduceNeg, Int.reduceToNat, h1_0, h1_1, h1_6, h1_5, b1_5, ni1_5, pi1_5, qi1_5, ri1_5])
      repeat' refine And.intro ?_ ?_
      all_goals try first | rfl | omega | (simp only [lnA] <;> omega) | ((first | refine stp ?_ | refine dkz_eq ?_ ?_) <;> first | rfl | omega | (simp only [lnA] <;> omega) | (simp only [lnA, List.append_assoc, List.cons_append, List.nil_append]; done) | skip)
    all_goals (rw [join_step (by omega), if_neg (by omega)]; simp only [List.length_append, List.append_assoc, Nat.add_assoc])
  · focus
      refine q_lp_n ((fun (k : Nat) => l.length - k) (k+1)) ?_ ⟨k+1, ?_, ?_, ?_, ?_, ?_, rfl⟩
      all_goals (try simp only [go_sem, ↓reduceIte, reduceCtorEq, Nat.reduceEqDiff, Nat.reduceAdd, Nat.reduceMul, Nat.reduceSub, Nat.reduceLeDiff, Int.reduceLT, Int.reduceLE, Int.reduceEq, Int.reduceSub, Int.reduceAdd, Int.reduceMul, Int.reduceNeg, Int.reduceToNat, h1_0, h1_1, h1_6, h1_5, b1_5, ni1_5, pi1_5, qi1_5, ri1_5])
      repeat' refine And.intro ?_ ?_
      all_goals try first | rfl | omega | (simp only [lnA] <;> omega) | ((first | refine stp ?_ | refine dkz_eq ?_ ?_) <;> first | rfl | omega | (simp only [lnA] <;> omega) | (simp only [lnA, List.append_assoc, List.cons_append, List.nil_append]; done) | skip)
    all_goals (obtain rfl : k = 0 := by omega)
    all_goals (rw [join_step (by omega), if_pos rfl]; simp [Lib.join_nil])
  · rw [List.take_of_length_le (by omega)]
end Go.Gl
