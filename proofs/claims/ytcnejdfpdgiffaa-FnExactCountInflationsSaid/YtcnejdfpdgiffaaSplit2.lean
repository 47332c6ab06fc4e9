/-
  The root and the parts of a permutation that is not a sum: what their functions compute. Conditions: none.
-/
import Derived.Test.YtcnejdfpdgiffaaSplit
set_option linter.unusedSimpArgs false
set_option linter.unusedVariables false
set_option maxRecDepth 20000
set_option linter.unusedSectionVars false
namespace Go.Gl
open Go Go.Proofs
variable [Amb]
/-- The last place up to which an interval from a place ends (all of the places do not count). -/
def endK (p : List Int) (a : Nat) : Nat → Nat
  | 0 => a + 1
  | k + 1 => if a + 2 ≤ k + 1 ∧ k + 1 - a < p.length ∧ isIntB p a (k + 1 : Nat) = true then k + 1 else endK p a k
theorem endK_b {p : List Int} {a : Nat} : ∀ {k : Nat}, a + 1 ≤ endK p a k ∧ (endK p a k ≤ k ∨ endK p a k = a + 1)
  | 0 => by simp [endK]
  | k + 1 => by
    have := endK_b (p := p) (a := a) (k := k)
    rw [endK]; split <;> omega
theorem endK_low {p : List Int} {a : Nat} : ∀ {k : Nat}, k ≤ a + 1 → endK p a k = a + 1
  | 0, _ => rfl
  | k + 1, h => by rw [endK, if_neg (by omega)]; exact endK_low (by omega)
/-- What is cut off so far: where to go on, the first numbers, the parts. -/
def cutL (p : List Int) : Nat → Nat × List Int × List (List Int)
  | 0 => (0, [], [])
  | j + 1 => if (cutL p j).1 < p.length then (endK p (cutL p j).1 p.length, (cutL p j).2.1 ++ [p.getD (cutL p j).1 0], (cutL p j).2.2 ++ [patL (segL p (cutL p j).1 (endK p (cutL p j).1 p.length))]) else cutL p j
theorem cutL_b {p : List Int} : ∀ {j : Nat}, (cutL p j).1 ≤ p.length ∧ (j ≤ (cutL p j).1 ∨ (cutL p j).1 = p.length) ∧ (cutL p j).2.1.length ≤ (cutL p j).1 ∧ (cutL p j).2.2.length = (cutL p j).2.1.length
  | 0 => by simp [cutL]
  | j + 1 => by
    have := cutL_b (p := p) (j := j)
    rw [cutL]
    split
    · have h2 := endK_b (p := p) (a := (cutL p j).1) (k := p.length)
      simp only [List.length_append, List.length_cons, List.length_nil]
      omega
    · omega
theorem cutL_end {p : List Int} {j : Nat} (h : (cutL p j).1 = p.length) : ∀ i, cutL p (j + i) = cutL p j
  | 0 => rfl
  | i + 1 => by
    rw [← Nat.add_assoc, cutL, cutL_end h i, if_neg (by omega)]
theorem cutL_fin {p : List Int} {j : Nat} (h : (cutL p j).1 = p.length) : cutL p j = cutL p p.length := by
  have h1 := cutL_b (p := p) (j := p.length)
  have h2 : (cutL p p.length).1 = p.length := by omega
  rcases Nat.le_total j p.length with hj | hj
  · have := cutL_end h (p.length - j); rw [← this]; congr 1; omega
  · have := cutL_end h2 (j - p.length); rw [← this]; congr 1; omega
theorem isInt_one {p : List Int} {a : Nat} (h : a < p.length) : isIntB p a ((a + 1 : Nat) : Int) = true := by
  have e : segL p a (a + 1) = [p.getD a 0] := by
    apply List.ext_getElem?; intro i
    simp only [segL, List.getElem?_drop, List.getElem?_take]
    cases i with
    | zero => simp [List.getD_eq_getElem?_getD, List.getElem?_eq_getElem h]
    | succ i => rw [if_neg (by omega)]; simp
  have e2 : ((a : Int)).toNat = a := by omega
  have e3 : (((a + 1 : Nat) : Int)).toNat = a + 1 := by omega
  rw [isIntB, e2, e3, e]
  simp [maxL, minL, maxT, minT]
  omega
def splL (p : List Int) : List Int × List (List Int) :=
  if p.length = 1 then ([1], [[1]]) else
  if 1 < (sumPt p).length then ([1, 2], [(sumPt p).getD 0 [], joinL ((sumPt p).drop 1) false]) else
  if 1 < (skewPt p).length then ([2, 1], [(skewPt p).getD 0 [], joinL ((skewPt p).drop 1) true]) else
  (patL (cutL p p.length).2.1, (cutL p p.length).2.2)
theorem skewPt_f {p : List Int} (hp : isPermB p = true) : (∀ l ∈ skewPt p, permB l = true) ∧ lenS (skewPt p) ≤ 8 ∧ (skewPt p).length ≤ 8 ∧ (∀ l ∈ skewPt p, isPermB l = true ∧ l.length ≤ 8 ∧ ∀ x ∈ l, 0 ≤ x ∧ x ≤ 8) := by
  have h := sumPt_f (cplL_isPerm hp)
  have e : lenS (skewPt p) = lenS (sumPt (cplL p)) := by
    simp only [lenS, skewPt, List.map_map]
    congr 1
    exact List.map_congr_left fun l _ => cplL_len
  refine ⟨fun l hl => ?_, by omega, by simp [skewPt]; omega, fun l hl => ?_⟩
  · obtain ⟨q, hq, rfl⟩ := List.mem_map.1 hl
    exact cplL_perm (h.1 q hq)
  · obtain ⟨q, hq, rfl⟩ := List.mem_map.1 hl
    have := cplL_isPerm (h.2.2.2 q hq).1
    exact ⟨this, (isPerm_facts this).1, perm_b8 this⟩
theorem parts_drop {L : List (List Int)} (h1 : ∀ l ∈ L, permB l = true) (h2 : lenS L ≤ 8) (h3 : L.length ≤ 8) (h4 : ∀ l ∈ L, isPermB l = true ∧ l.length ≤ 8 ∧ ∀ x ∈ l, 0 ≤ x ∧ x ≤ 8) :
    (L.drop 1).length ≤ 8 ∧ (∀ l ∈ L.drop 1, l.length ≤ 8) ∧ (∀ l ∈ L.drop 1, ∀ x ∈ l, 0 ≤ x ∧ x ≤ 8) :=
  ⟨by simp; omega, fun l hl => (h4 l (List.mem_of_mem_drop hl)).2.1, fun l hl => (h4 l (List.mem_of_mem_drop hl)).2.2⟩
def sgSt : FuncId → List Bool := fun f => if f = 4294967297 then [false, true, false] else []
theorem sgSt_eq {f : FuncId} : sgSt f = if f = 4294967297 then [false, true, false] else [] := _root_.id rfl
theorem wayE_sgSt : wayE sgSt = false := _root_.id rfl
theorem wayN_sgSt : wayN sgSt = false := _root_.id rfl
theorem wayS_sgSt : wayS sgSt = true := _root_.id rfl
theorem wayZ_sgSt : wayZ sgSt = false := _root_.id rfl
attribute [go_sem] sgSt_eq wayE_sgSt wayN_sgSt wayS_sgSt wayZ_sgSt
theorem impl_split_c {m0 : Bool} (p : List Int) (hp : isPermB p = true) (h0 : 1 ≤ p.length) : Fun Try.prog 92 [(.sl (.lent m0) (List.map (PV.int .i64) (p)))] [(.agg [(.sl (.lent false) (List.map (PV.int .i64) ((splL p).1))), (.sl (.lent false) (List.map (elI false) ((splL p).2)))])] := by
  refine Fun.ofR (sg := sgSt) (rs := [.cell 2 78]) mo Try.func92 rfl rfl rfl rfl (by kernel_rfl) (by simp only [go_sem]) rfl ?_
  have hl := (isPerm_facts hp).1
  have hb := perm_b8 hp
  have q1 : (spG shI p p.length).1 = sumPt p := rfl
  have q2 := sumPt_f hp
  have q3 := skewPt_f hp
  obtain ⟨q4, q5, q6⟩ := parts_drop q2.1 q2.2.1 q2.2.2.1 q2.2.2.2
  obtain ⟨q7, q8, q9⟩ := parts_drop q3.1 q3.2.1 q3.2.2.1 q3.2.2.2
  have hbb : ∀ x ∈ p, 0 ≤ x ∧ x ≤ 1048576 := fun x hx => by have := hb x hx; omega
  have qa : List.take ((sumPt p).length - 1) (List.drop 1 (sumPt p)) = List.drop 1 (sumPt p) := by rw [List.take_of_length_le (by simp)]
  have qb : List.take ((skewPt p).length - 1) (List.drop 1 (skewPt p)) = List.drop 1 (skewPt p) := by rw [List.take_of_length_le (by simp)]
  have fc : True := trivial
  repeat' first
    | with_reducible first | refine stp ?_ | refine q_blk_o rfl ?_ | (refine hK _ ?_; clear hK) | (refine hA ?_; clear hA hB) | (refine hB ?_; clear hA hB) | exact v_end0 | exact v_end0' | refine v_gb1 ?_ ?_ | refine v_gb0 ?_ ?_ | refine And.intro ?_ ?_
    | (with_reducible refine hK _ _ ?_ ?_; focus (first | exact clearAll_quiet rfl | (refine clearAll_of [true, false, false, false, false, false, true, true, false, true] [(0, 1), (0, 2), (0, 3), (0, 4), (0, 5), (0, 6), (1, 6), (2, 6), (3, 6), (0, 7)] rfl (by decide +kernel) ?_; try simp only [go_sem, ↓reduceIte, reduceCtorEq, Nat.reduceEqDiff, Nat.reduceAdd, Nat.reduceMul, Nat.reduceSub, Nat.reduceLeDiff, Int.reduceLT, Int.reduceLE, Int.reduceEq, Int.reduceSub, Int.reduceAdd, Int.reduceMul, Int.reduceNeg, Int.reduceToNat, q1, qa, qb]) | (refine clearAll_of [true, false, false, false, false, false, true, true, false, true] [(0, 1), (0, 2), (0, 3), (0, 4), (0, 5), (0, 6), (1, 6), (2, 6), (3, 6), (0, 7)] rfl (by decide +kernel) ?_; try simp only [go_sem, ↓reduceIte, reduceCtorEq, Nat.reduceEqDiff, Nat.reduceAdd, Nat.reduceMul, Nat.reduceSub, Nat.reduceLeDiff, Int.reduceLT, Int.reduceLE, Int.reduceEq, Int.reduceSub, Int.reduceAdd, Int.reduceMul, Int.reduceNeg, Int.reduceToNat, q1, qa, qb]) | (refine clearAll_of [false, false, false, false, false, false, true, true, true, false, true] [(0, 6), (1, 6), (0, 7), (1, 7)] rfl (by decide +kernel) ?_; try simp only [go_sem, ↓reduceIte, reduceCtorEq, Nat.reduceEqDiff, Nat.reduceAdd, Nat.reduceMul, Nat.reduceSub, Nat.reduceLeDiff, Int.reduceLT, Int.reduceLE, Int.reduceEq, Int.reduceSub, Int.reduceAdd, Int.reduceMul, Int.reduceNeg, Int.reduceToNat, q1, qa, qb])); all_goals (try clear hK))
    | (with_reducible refine p_ok ?_; decide)
    | ((first | with_reducible first | refine v_region rfl rfl (fun K hK => ?_) | refine v_draws rfl rfl (fun K hK => ?_) | refine v_if (fun A B hA hB => ?_) | refine v_end rfl ?_ | refine v_fin1 ?_ | refine v_finC1 ?_ | refine v_finR1 ?_ | refine v_callE (impl_sumParts_c _ ?_ ?_) ?_ | refine v_callE (impl_joinParts_c _ _ ?_ ?_ ?_) ?_ | refine v_callE (impl_skewParts_c _ ?_) ?_ | refine v_callE (impl_isInterval_c _ _ _ ?_ ?_ ?_ ?_ ?_) ?_ | refine v_callE (impl_pattern_c _ ?_) ?_ | refine v_finO1 rfl ?_ | refine v_finN1 rfl ?_ ?_ | refine v_apj ?_ (fun j' => ?_) | refine v_stz ?_ ?_ ?_ ?_ ?_ | refine v_stq ?_ | refine v_cv1 ?_ ?_ ?_ | (intro hc; replace fc := And.intro hc fc; try simp only [hcs] at hc)) <;> (try simp (config := { maxSteps := 1000000 }) only [go_sem, ↓reduceIte, reduceCtorEq, Nat.reduceEqDiff, Nat.reduceAdd, Nat.reduceMul, Nat.reduceSub, Nat.reduceLeDiff, Int.reduceLT, Int.reduceLE, Int.reduceEq, Int.reduceSub, Int.reduceAdd, Int.reduceMul, Int.reduceNeg, Int.reduceToNat, q1, qa, qb, fc]) <;> (try with_reducible rfl))
  all_goals try (first | omega | (simp only [n_i64, n_u8]; omega) | (simp only [n_i64, n_u8, lnA]; omega) | (simp only [lnA]; done))
  all_goals try (rw [splL, if_pos (by omega)]; rfl)
  all_goals try (rw [splL, if_neg (by omega), if_pos (by omega)]; rfl)
  all_goals try (rw [splL, if_neg (by omega), if_neg (by omega), if_pos (by omega)]; rfl)
  refine v_loop (fun ms1 S1 => ∃ (j : Nat), S1.e 0 = .p (.sl (.lent m0) (List.map (PV.int .i64) (p))) ∧ PtrL (S1.e 2) S1.h S1.n (.deep false [.v (.sl .own []), .v (.sl .own [])] []) ∧ Dst2 (S1.e 5) S1.h S1.n (List.map (PV.int .i64) ([])) (List.map (elI false) ((cutL p j).2.2)) ∧ OwnL (S1.e 6) S1.h S1.n (PV.int .i64) (((cutL p j).2.1).length) ((cutL p j).2.1) ∧ S1.e 7 = .p (.int .i64 ((cutL p j).1)) ∧ ((cutL p j).1 ≤ p.length) ∧ NId (asR (S1.e 5)) (asR (S1.e 2)) ∧ NId (S1.e 6) (asR (S1.e 2)) ∧ NId (S1.e 6) (asR (S1.e 5)) ∧ ms1 = p.length - (cutL p j).1) ((fun (j : Nat) => p.length - (cutL p j).1) (0)) ?init1_0 ?body1_0
  case' init1_0 =>
    refine ⟨0, ?_, ?_, ?_, ?_, ?_, ?_, ?_, ?_, ?_, rfl⟩
    all_goals (try simp only [go_sem, ↓reduceIte, reduceCtorEq, Nat.reduceEqDiff, Nat.reduceAdd, Nat.reduceMul, Nat.reduceSub, Nat.reduceLeDiff, Int.reduceLT, Int.reduceLE, Int.reduceEq, Int.reduceSub, Int.reduceAdd, Int.reduceMul, Int.reduceNeg, Int.reduceToNat])
    repeat' refine And.intro ?_ ?_
    all_goals try first | rfl | omega | (simp only [lnA] <;> omega) | ((first | refine stp ?_ | refine dkz_eq ?_ ?_) <;> first | rfl | omega | (simp only [lnA] <;> omega) | (simp only [lnA, List.append_assoc, List.cons_append, List.nil_append]; done) | skip)
  case' body1_0 =>
    rintro ms1 S1 ⟨j, h1_0, o1_2, o1_5, o1_6, h1_7, c1_0, u1_0, u1_1, u1_2, hm1⟩
    obtain ⟨i1_5, ra1_5, rb1_5, rs1_5, h1_5, b1_5, l1_5, w01_5, w11_5, w21_5, w31_5, w41_5, w51_5, w61_5, w71_5, w81_5, w91_5⟩ := o1_5.out
    obtain ⟨i1_2, h1_2, b1_2, l1_2⟩ := o1_2.out
    obtain ⟨i1_6, h1_6, b1_6, l1_6⟩ := o1_6.out
    have k1_0 := (u1_0).out (asR_eq h1_5) (asR_eq h1_2)
    have k1_1 := (u1_1).out h1_6 (asR_eq h1_2)
    have k1_2 := (u1_2).out h1_6 (asR_eq h1_5)
    have ni1_2 : ∀ c, (i1_2 = S1.n + c) = False := fun c => eq_false (by omega)
    have pi1_2 : ∀ c, (S1.n + c = i1_2) = False := fun c => eq_false (by omega)
    have qi1_2 : (i1_2 = S1.n) = False := eq_false (by omega)
    have ri1_2 : (S1.n = i1_2) = False := eq_false (by omega)
    have ni1_5 : ∀ c, (i1_5 = S1.n + c) = False := fun c => eq_false (by omega)
    have pi1_5 : ∀ c, (S1.n + c = i1_5) = False := fun c => eq_false (by omega)
    have qi1_5 : (i1_5 = S1.n) = False := eq_false (by omega)
    have ri1_5 : (S1.n = i1_5) = False := eq_false (by omega)
    have ni1_6 : ∀ c, (i1_6 = S1.n + c) = False := fun c => eq_false (by omega)
    have pi1_6 : ∀ c, (S1.n + c = i1_6) = False := fun c => eq_false (by omega)
    have qi1_6 : (i1_6 = S1.n) = False := eq_false (by omega)
    have ri1_6 : (S1.n = i1_6) = False := eq_false (by omega)
    have di1_2i1_5 : (i1_2 = i1_5) = False := eq_false (by omega)
    have di1_2i1_6 : (i1_2 = i1_6) = False := eq_false (by omega)
    have di1_5i1_2 : (i1_5 = i1_2) = False := eq_false (by omega)
    have di1_5i1_6 : (i1_5 = i1_6) = False := eq_false (by omega)
    have di1_6i1_2 : (i1_6 = i1_2) = False := eq_false (by omega)
    have di1_6i1_5 : (i1_6 = i1_5) = False := eq_false (by omega)
  have z1 := cutL_b (p := p) (j := j)
  have z2 : ¬ (cutL p j).1 < p.length → splL p = (patL (cutL p j).2.1, (cutL p j).2.2) := fun h => by
    rw [splL, if_neg (by omega), if_neg (by omega), if_neg (by omega), cutL_fin (j := j) (by omega)]
  have fc : True := trivial
  repeat' first
    | with_reducible first | refine stp ?_ | refine q_blk_o rfl ?_ | (refine hK _ ?_; clear hK) | (refine hA ?_; clear hA hB) | (refine hB ?_; clear hA hB) | exact v_end0 | exact v_end0' | refine v_gb1 ?_ ?_ | refine v_gb0 ?_ ?_ | refine And.intro ?_ ?_
    | (with_reducible refine hK _ _ ?_ ?_; focus (first | exact clearAll_quiet rfl | (refine clearAll_of [true, false, false, false, false, false, true, true, false, true] [(0, 1), (0, 2), (0, 3), (0, 4), (0, 5), (0, 6), (1, 6), (2, 6), (3, 6), (0, 7)] rfl (by decide +kernel) ?_; try simp only [go_sem, ↓reduceIte, reduceCtorEq, Nat.reduceEqDiff, Nat.reduceAdd, Nat.reduceMul, Nat.reduceSub, Nat.reduceLeDiff, Int.reduceLT, Int.reduceLE, Int.reduceEq, Int.reduceSub, Int.reduceAdd, Int.reduceMul, Int.reduceNeg, Int.reduceToNat, h1_0, h1_7, h1_2, b1_2, h1_5, b1_5, h1_6, b1_6, w01_5, w11_5, w21_5, w31_5, w41_5, w51_5, w61_5, w71_5, w81_5, w91_5, ni1_2, pi1_2, qi1_2, ri1_2, ni1_5, pi1_5, qi1_5, ri1_5, ni1_6, pi1_6, qi1_6, ri1_6, di1_2i1_5, di1_2i1_6, di1_5i1_2, di1_5i1_6, di1_6i1_2, di1_6i1_5]) | (refine clearAll_of [true, false, false, false, false, false, true, true, false, true] [(0, 1), (0, 2), (0, 3), (0, 4), (0, 5), (0, 6), (1, 6), (2, 6), (3, 6), (0, 7)] rfl (by decide +kernel) ?_; try simp only [go_sem, ↓reduceIte, reduceCtorEq, Nat.reduceEqDiff, Nat.reduceAdd, Nat.reduceMul, Nat.reduceSub, Nat.reduceLeDiff, Int.reduceLT, Int.reduceLE, Int.reduceEq, Int.reduceSub, Int.reduceAdd, Int.reduceMul, Int.reduceNeg, Int.reduceToNat, h1_0, h1_7, h1_2, b1_2, h1_5, b1_5, h1_6, b1_6, w01_5, w11_5, w21_5, w31_5, w41_5, w51_5, w61_5, w71_5, w81_5, w91_5, ni1_2, pi1_2, qi1_2, ri1_2, ni1_5, pi1_5, qi1_5, ri1_5, ni1_6, pi1_6, qi1_6, ri1_6, di1_2i1_5, di1_2i1_6, di1_5i1_2, di1_5i1_6, di1_6i1_2, di1_6i1_5]) | (refine clearAll_of [false, false, false, false, false, false, true, true, true, false, true] [(0, 6), (1, 6), (0, 7), (1, 7)] rfl (by decide +kernel) ?_; try simp only [go_sem, ↓reduceIte, reduceCtorEq, Nat.reduceEqDiff, Nat.reduceAdd, Nat.reduceMul, Nat.reduceSub, Nat.reduceLeDiff, Int.reduceLT, Int.reduceLE, Int.reduceEq, Int.reduceSub, Int.reduceAdd, Int.reduceMul, Int.reduceNeg, Int.reduceToNat, h1_0, h1_7, h1_2, b1_2, h1_5, b1_5, h1_6, b1_6, w01_5, w11_5, w21_5, w31_5, w41_5, w51_5, w61_5, w71_5, w81_5, w91_5, ni1_2, pi1_2, qi1_2, ri1_2, ni1_5, pi1_5, qi1_5, ri1_5, ni1_6, pi1_6, qi1_6, ri1_6, di1_2i1_5, di1_2i1_6, di1_5i1_2, di1_5i1_6, di1_6i1_2, di1_6i1_5])); all_goals (try clear hK))
    | (with_reducible refine p_ok ?_; decide)
    | ((first | with_reducible first | refine v_region rfl rfl (fun K hK => ?_) | refine v_draws rfl rfl (fun K hK => ?_) | refine v_if (fun A B hA hB => ?_) | refine v_end rfl ?_ | refine v_fin1 ?_ | refine v_finC1 ?_ | refine v_finR1 ?_ | refine v_callE (impl_sumParts_c _ ?_ ?_) ?_ | refine v_callE (impl_joinParts_c _ _ ?_ ?_ ?_) ?_ | refine v_callE (impl_skewParts_c _ ?_) ?_ | refine v_callE (impl_isInterval_c _ _ _ ?_ ?_ ?_ ?_ ?_) ?_ | refine v_callE (impl_pattern_c _ ?_) ?_ | refine v_finO1 rfl ?_ | refine v_finN1 rfl ?_ ?_ | refine v_apj ?_ (fun j' => ?_) | refine v_stz ?_ ?_ ?_ ?_ ?_ | refine v_stq ?_ | refine v_cv1 ?_ ?_ ?_ | (intro hc; replace fc := And.intro hc fc; try simp only [hcs] at hc)) <;> (try simp (config := { maxSteps := 1000000 }) only [go_sem, ↓reduceIte, reduceCtorEq, Nat.reduceEqDiff, Nat.reduceAdd, Nat.reduceMul, Nat.reduceSub, Nat.reduceLeDiff, Int.reduceLT, Int.reduceLE, Int.reduceEq, Int.reduceSub, Int.reduceAdd, Int.reduceMul, Int.reduceNeg, Int.reduceToNat, h1_0, h1_7, h1_2, b1_2, h1_5, b1_5, h1_6, b1_6, w01_5, w11_5, w21_5, w31_5, w41_5, w51_5, w61_5, w71_5, w81_5, w91_5, ni1_2, pi1_2, qi1_2, ri1_2, ni1_5, pi1_5, qi1_5, ri1_5, ni1_6, pi1_6, qi1_6, ri1_6, di1_2i1_5, di1_2i1_6, di1_5i1_2, di1_5i1_6, di1_6i1_2, di1_6i1_5, fc]) <;> (try with_reducible rfl))
  all_goals try (first | omega | (simp only [n_i64, n_u8]; omega) | (simp only [n_i64, n_u8, lnA]; omega) | (simp only [lnA]; done))
  · refine v_loop (fun ms2 S2 => ∃ (i : Nat), S2.e 0 = .p (.sl (.lent m0) (List.map (PV.int .i64) (p))) ∧ PtrL (S2.e 2) S2.h S2.n (.deep false [.v (.sl .own []), .v (.sl .own [])] []) ∧ Dst2 (S2.e 5) S2.h S2.n (List.map (PV.int .i64) ([])) (List.map (elI false) ((cutL p j).2.2)) ∧ OwnL (S2.e 6) S2.h S2.n (PV.int .i64) (((cutL p j).2.1).length) ((cutL p j).2.1) ∧ S2.e 7 = .p (.int .i64 ((cutL p j).1)) ∧ S2.e 8 = .p (.int .i64 (endK p (cutL p j).1 i)) ∧ S2.e 9 = .p (.int .i64 (i + 1)) ∧ ((cutL p j).1 + 1 ≤ i) ∧ (i ≤ p.length) ∧ ((cutL p j).1 < p.length) ∧ NId (asR (S2.e 5)) (asR (S2.e 2)) ∧ NId (S2.e 6) (asR (S2.e 2)) ∧ NId (S2.e 6) (asR (S2.e 5)) ∧ S1.n ≤ S2.n ∧ ms2 = p.length - i) ((fun (i : Nat) => p.length - i) ((cutL p j).1 + 1)) ?init2_1 ?body2_1
    case' init2_1 =>
      refine ⟨(cutL p j).1 + 1, ?_, ?_, ?_, ?_, ?_, ?_, ?_, ?_, ?_, ?_, ?_, ?_, ?_, ?_, rfl⟩
      all_goals (try simp only [go_sem, ↓reduceIte, reduceCtorEq, Nat.reduceEqDiff, Nat.reduceAdd, Nat.reduceMul, Nat.reduceSub, Nat.reduceLeDiff, Int.reduceLT, Int.reduceLE, Int.reduceEq, Int.reduceSub, Int.reduceAdd, Int.reduceMul, Int.reduceNeg, Int.reduceToNat, h1_0, h1_7, h1_2, b1_2, h1_5, b1_5, h1_6, b1_6, w01_5, w11_5, w21_5, w31_5, w41_5, w51_5, w61_5, w71_5, w81_5, w91_5, ni1_2, pi1_2, qi1_2, ri1_2, ni1_5, pi1_5, qi1_5, ri1_5, ni1_6, pi1_6, qi1_6, ri1_6, di1_2i1_5, di1_2i1_6, di1_5i1_2, di1_5i1_6, di1_6i1_2, di1_6i1_5])
      repeat' refine And.intro ?_ ?_
      all_goals try first | rfl | omega | (simp only [lnA] <;> omega) | ((first | refine stp ?_ | refine dkz_eq ?_ ?_) <;> first | rfl | omega | (simp only [lnA] <;> omega) | (simp only [lnA, List.append_assoc, List.cons_append, List.nil_append]; done) | skip)
    case' body2_1 =>
      rintro ms2 S2 ⟨i, h2_0, o2_2, o2_5, o2_6, h2_7, h2_8, h2_9, c2_0, c2_1, c2_2, u2_0, u2_1, u2_2, u2_3, hm2⟩
      obtain ⟨i2_5, ra2_5, rb2_5, rs2_5, h2_5, b2_5, l2_5, w02_5, w12_5, w22_5, w32_5, w42_5, w52_5, w62_5, w72_5, w82_5, w92_5⟩ := o2_5.out
      obtain ⟨i2_2, h2_2, b2_2, l2_2⟩ := o2_2.out
      obtain ⟨i2_6, h2_6, b2_6, l2_6⟩ := o2_6.out
      have k2_0 := (u2_0).out (asR_eq h2_5) (asR_eq h2_2)
      have k2_1 := (u2_1).out h2_6 (asR_eq h2_2)
      have k2_2 := (u2_2).out h2_6 (asR_eq h2_5)
      have ni2_2 : ∀ c, (i2_2 = S2.n + c) = False := fun c => eq_false (by omega)
      have pi2_2 : ∀ c, (S2.n + c = i2_2) = False := fun c => eq_false (by omega)
      have qi2_2 : (i2_2 = S2.n) = False := eq_false (by omega)
      have ri2_2 : (S2.n = i2_2) = False := eq_false (by omega)
      have ni2_5 : ∀ c, (i2_5 = S2.n + c) = False := fun c => eq_false (by omega)
      have pi2_5 : ∀ c, (S2.n + c = i2_5) = False := fun c => eq_false (by omega)
      have qi2_5 : (i2_5 = S2.n) = False := eq_false (by omega)
      have ri2_5 : (S2.n = i2_5) = False := eq_false (by omega)
      have ni2_6 : ∀ c, (i2_6 = S2.n + c) = False := fun c => eq_false (by omega)
      have pi2_6 : ∀ c, (S2.n + c = i2_6) = False := fun c => eq_false (by omega)
      have qi2_6 : (i2_6 = S2.n) = False := eq_false (by omega)
      have ri2_6 : (S2.n = i2_6) = False := eq_false (by omega)
      have di2_2i2_5 : (i2_2 = i2_5) = False := eq_false (by omega)
      have di2_2i2_6 : (i2_2 = i2_6) = False := eq_false (by omega)
      have di2_5i2_2 : (i2_5 = i2_2) = False := eq_false (by omega)
      have di2_5i2_6 : (i2_5 = i2_6) = False := eq_false (by omega)
      have di2_6i2_2 : (i2_6 = i2_2) = False := eq_false (by omega)
      have di2_6i2_5 : (i2_6 = i2_5) = False := eq_false (by omega)
    have z3 := endK_b (p := p) (a := (cutL p j).1) (k := i)
    have fc : True := trivial
    repeat' first
      | with_reducible first | refine stp ?_ | refine q_blk_o rfl ?_ | (refine hK _ ?_; clear hK) | (refine hA ?_; clear hA hB) | (refine hB ?_; clear hA hB) | exact v_end0 | exact v_end0' | refine v_gb1 ?_ ?_ | refine v_gb0 ?_ ?_ | refine And.intro ?_ ?_
      | (with_reducible refine hK _ _ ?_ ?_; focus (first | exact clearAll_quiet rfl | (refine clearAll_of [true, false, false, false, false, false, true, true, false, true] [(0, 1), (0, 2), (0, 3), (0, 4), (0, 5), (0, 6), (1, 6), (2, 6), (3, 6), (0, 7)] rfl (by decide +kernel) ?_; try simp only [go_sem, ↓reduceIte, reduceCtorEq, Nat.reduceEqDiff, Nat.reduceAdd, Nat.reduceMul, Nat.reduceSub, Nat.reduceLeDiff, Int.reduceLT, Int.reduceLE, Int.reduceEq, Int.reduceSub, Int.reduceAdd, Int.reduceMul, Int.reduceNeg, Int.reduceToNat, h2_0, h2_7, h2_8, h2_9, h2_2, b2_2, h2_5, b2_5, h2_6, b2_6, w02_5, w12_5, w22_5, w32_5, w42_5, w52_5, w62_5, w72_5, w82_5, w92_5, ni2_2, pi2_2, qi2_2, ri2_2, ni2_5, pi2_5, qi2_5, ri2_5, ni2_6, pi2_6, qi2_6, ri2_6, di2_2i2_5, di2_2i2_6, di2_5i2_2, di2_5i2_6, di2_6i2_2, di2_6i2_5]) | (refine clearAll_of [true, false, false, false, false, false, true, true, false, true] [(0, 1), (0, 2), (0, 3), (0, 4), (0, 5), (0, 6), (1, 6), (2, 6), (3, 6), (0, 7)] rfl (by decide +kernel) ?_; try simp only [go_sem, ↓reduceIte, reduceCtorEq, Nat.reduceEqDiff, Nat.reduceAdd, Nat.reduceMul, Nat.reduceSub, Nat.reduceLeDiff, Int.reduceLT, Int.reduceLE, Int.reduceEq, Int.reduceSub, Int.reduceAdd, Int.reduceMul, Int.reduceNeg, Int.reduceToNat, h2_0, h2_7, h2_8, h2_9, h2_2, b2_2, h2_5, b2_5, h2_6, b2_6, w02_5, w12_5, w22_5, w32_5, w42_5, w52_5, w62_5, w72_5, w82_5, w92_5, ni2_2, pi2_2, qi2_2, ri2_2, ni2_5, pi2_5, qi2_5, ri2_5, ni2_6, pi2_6, qi2_6, ri2_6, di2_2i2_5, di2_2i2_6, di2_5i2_2, di2_5i2_6, di2_6i2_2, di2_6i2_5]) | (refine clearAll_of [false, false, false, false, false, false, true, true, true, false, true] [(0, 6), (1, 6), (0, 7), (1, 7)] rfl (by decide +kernel) ?_; try simp only [go_sem, ↓reduceIte, reduceCtorEq, Nat.reduceEqDiff, Nat.reduceAdd, Nat.reduceMul, Nat.reduceSub, Nat.reduceLeDiff, Int.reduceLT, Int.reduceLE, Int.reduceEq, Int.reduceSub, Int.reduceAdd, Int.reduceMul, Int.reduceNeg, Int.reduceToNat, h2_0, h2_7, h2_8, h2_9, h2_2, b2_2, h2_5, b2_5, h2_6, b2_6, w02_5, w12_5, w22_5, w32_5, w42_5, w52_5, w62_5, w72_5, w82_5, w92_5, ni2_2, pi2_2, qi2_2, ri2_2, ni2_5, pi2_5, qi2_5, ri2_5, ni2_6, pi2_6, qi2_6, ri2_6, di2_2i2_5, di2_2i2_6, di2_5i2_2, di2_5i2_6, di2_6i2_2, di2_6i2_5])); all_goals (try clear hK))
      | (with_reducible refine p_ok ?_; decide)
      | ((first | with_reducible first | refine v_region rfl rfl (fun K hK => ?_) | refine v_draws rfl rfl (fun K hK => ?_) | refine v_if (fun A B hA hB => ?_) | refine v_end rfl ?_ | refine v_fin1 ?_ | refine v_finC1 ?_ | refine v_finR1 ?_ | refine v_callE (impl_sumParts_c _ ?_ ?_) ?_ | refine v_callE (impl_joinParts_c _ _ ?_ ?_ ?_) ?_ | refine v_callE (impl_skewParts_c _ ?_) ?_ | refine v_callE (impl_isInterval_c _ _ _ ?_ ?_ ?_ ?_ ?_) ?_ | refine v_callE (impl_pattern_c _ ?_) ?_ | refine v_finO1 rfl ?_ | refine v_finN1 rfl ?_ ?_ | refine v_apj ?_ (fun j' => ?_) | refine v_stz ?_ ?_ ?_ ?_ ?_ | refine v_stq ?_ | refine v_cv1 ?_ ?_ ?_ | (intro hc; replace fc := And.intro hc fc; try simp only [hcs] at hc)) <;> (try simp (config := { maxSteps := 1000000 }) only [go_sem, ↓reduceIte, reduceCtorEq, Nat.reduceEqDiff, Nat.reduceAdd, Nat.reduceMul, Nat.reduceSub, Nat.reduceLeDiff, Int.reduceLT, Int.reduceLE, Int.reduceEq, Int.reduceSub, Int.reduceAdd, Int.reduceMul, Int.reduceNeg, Int.reduceToNat, h2_0, h2_7, h2_8, h2_9, h2_2, b2_2, h2_5, b2_5, h2_6, b2_6, w02_5, w12_5, w22_5, w32_5, w42_5, w52_5, w62_5, w72_5, w82_5, w92_5, ni2_2, pi2_2, qi2_2, ri2_2, ni2_5, pi2_5, qi2_5, ri2_5, ni2_6, pi2_6, qi2_6, ri2_6, di2_2i2_5, di2_2i2_6, di2_5i2_2, di2_5i2_6, di2_6i2_2, di2_6i2_5, fc]) <;> (try with_reducible rfl))
    all_goals try (first | omega | (simp only [n_i64, n_u8]; omega) | (simp only [n_i64, n_u8, lnA]; omega) | (simp only [lnA]; done))
    · have e2 : endK p (cutL p j).1 (i + 1) = i + 1 := by rw [endK, if_pos ⟨by omega, by omega, by push_cast; exact hc⟩]
      focus
        refine q_lp_n ((fun (i : Nat) => p.length - i) (i+1)) ?_ ⟨i+1, ?_, ?_, ?_, ?_, ?_, ?_, ?_, ?_, ?_, ?_, ?_, ?_, ?_, ?_, rfl⟩
        all_goals (try simp only [go_sem, ↓reduceIte, reduceCtorEq, Nat.reduceEqDiff, Nat.reduceAdd, Nat.reduceMul, Nat.reduceSub, Nat.reduceLeDiff, Int.reduceLT, Int.reduceLE, Int.reduceEq, Int.reduceSub, Int.reduceAdd, Int.reduceMul, Int.reduceNeg, Int.reduceToNat, h2_0, h2_7, h2_8, h2_9, h2_2, b2_2, h2_5, b2_5, h2_6, b2_6, w02_5, w12_5, w22_5, w32_5, w42_5, w52_5, w62_5, w72_5, w82_5, w92_5, ni2_2, pi2_2, qi2_2, ri2_2, ni2_5, pi2_5, qi2_5, ri2_5, ni2_6, pi2_6, qi2_6, ri2_6, di2_2i2_5, di2_2i2_6, di2_5i2_2, di2_5i2_6, di2_6i2_2, di2_6i2_5])
        repeat' refine And.intro ?_ ?_
        all_goals try first | rfl | omega | (simp only [lnA] <;> omega) | ((first | refine stp ?_ | refine dkz_eq ?_ ?_) <;> first | rfl | omega | (simp only [lnA] <;> omega) | (simp only [lnA, List.append_assoc, List.cons_append, List.nil_append]; done) | skip)
    · have e2 : endK p (cutL p j).1 (i + 1) = endK p (cutL p j).1 i := by rw [endK, if_neg (fun h => by have := h.2.2; push_cast at this; rw [hc] at this; cases this)]
      focus
        refine q_lp_n ((fun (i : Nat) => p.length - i) (i+1)) ?_ ⟨i+1, ?_, ?_, ?_, ?_, ?_, ?_, ?_, ?_, ?_, ?_, ?_, ?_, ?_, ?_, rfl⟩
        all_goals (try simp only [go_sem, ↓reduceIte, reduceCtorEq, Nat.reduceEqDiff, Nat.reduceAdd, Nat.reduceMul, Nat.reduceSub, Nat.reduceLeDiff, Int.reduceLT, Int.reduceLE, Int.reduceEq, Int.reduceSub, Int.reduceAdd, Int.reduceMul, Int.reduceNeg, Int.reduceToNat, h2_0, h2_7, h2_8, h2_9, h2_2, b2_2, h2_5, b2_5, h2_6, b2_6, w02_5, w12_5, w22_5, w32_5, w42_5, w52_5, w62_5, w72_5, w82_5, w92_5, ni2_2, pi2_2, qi2_2, ri2_2, ni2_5, pi2_5, qi2_5, ri2_5, ni2_6, pi2_6, qi2_6, ri2_6, di2_2i2_5, di2_2i2_6, di2_5i2_2, di2_5i2_6, di2_6i2_2, di2_6i2_5])
        repeat' refine And.intro ?_ ?_
        all_goals try first | rfl | omega | (simp only [lnA] <;> omega) | ((first | refine stp ?_ | refine dkz_eq ?_ ?_) <;> first | rfl | omega | (simp only [lnA] <;> omega) | (simp only [lnA, List.append_assoc, List.cons_append, List.nil_append]; done) | skip)
    · have e2 : endK p (cutL p j).1 (i + 1) = endK p (cutL p j).1 i := by rw [endK, if_neg (by omega)]
      focus
        refine q_lp_n ((fun (i : Nat) => p.length - i) (i+1)) ?_ ⟨i+1, ?_, ?_, ?_, ?_, ?_, ?_, ?_, ?_, ?_, ?_, ?_, ?_, ?_, ?_, rfl⟩
        all_goals (try simp only [go_sem, ↓reduceIte, reduceCtorEq, Nat.reduceEqDiff, Nat.reduceAdd, Nat.reduceMul, Nat.reduceSub, Nat.reduceLeDiff, Int.reduceLT, Int.reduceLE, Int.reduceEq, Int.reduceSub, Int.reduceAdd, Int.reduceMul, Int.reduceNeg, Int.reduceToNat, h2_0, h2_7, h2_8, h2_9, h2_2, b2_2, h2_5, b2_5, h2_6, b2_6, w02_5, w12_5, w22_5, w32_5, w42_5, w52_5, w62_5, w72_5, w82_5, w92_5, ni2_2, pi2_2, qi2_2, ri2_2, ni2_5, pi2_5, qi2_5, ri2_5, ni2_6, pi2_6, qi2_6, ri2_6, di2_2i2_5, di2_2i2_6, di2_5i2_2, di2_5i2_6, di2_6i2_2, di2_6i2_5])
        repeat' refine And.intro ?_ ?_
        all_goals try first | rfl | omega | (simp only [lnA] <;> omega) | ((first | refine stp ?_ | refine dkz_eq ?_ ?_) <;> first | rfl | omega | (simp only [lnA] <;> omega) | (simp only [lnA, List.append_assoc, List.cons_append, List.nil_append]; done) | skip)
    · obtain rfl : i = p.length := by omega
      have e3 : cutL p (j + 1) = (endK p (cutL p j).1 p.length, (cutL p j).2.1 ++ [p.getD (cutL p j).1 0], (cutL p j).2.2 ++ [patL (segL p (cutL p j).1 (endK p (cutL p j).1 p.length))]) := by rw [cutL, if_pos c2_2]
      have e4 := congrArg Prod.fst e3
      have e5 := congrArg (fun x => x.2.1) e3
      have e6 := congrArg (fun x => x.2.2) e3
      simp only at e4 e5 e6
      focus
        refine q_lp_n ((fun (j : Nat) => p.length - (cutL p j).1) (j+1)) ?_ ⟨j+1, ?_, ?_, ?_, ?_, ?_, ?_, ?_, ?_, ?_, rfl⟩
        all_goals (try simp only [go_sem, ↓reduceIte, reduceCtorEq, Nat.reduceEqDiff, Nat.reduceAdd, Nat.reduceMul, Nat.reduceSub, Nat.reduceLeDiff, Int.reduceLT, Int.reduceLE, Int.reduceEq, Int.reduceSub, Int.reduceAdd, Int.reduceMul, Int.reduceNeg, Int.reduceToNat, h2_0, h2_7, h2_8, h2_9, h2_2, b2_2, h2_5, b2_5, h2_6, b2_6, w02_5, w12_5, w22_5, w32_5, w42_5, w52_5, w62_5, w72_5, w82_5, w92_5, ni2_2, pi2_2, qi2_2, ri2_2, ni2_5, pi2_5, qi2_5, ri2_5, ni2_6, pi2_6, qi2_6, ri2_6, di2_2i2_5, di2_2i2_6, di2_5i2_2, di2_5i2_6, di2_6i2_2, di2_6i2_5])
        repeat' refine And.intro ?_ ?_
        all_goals try first | rfl | omega | (simp only [lnA] <;> omega) | ((first | refine stp ?_ | refine dkz_eq ?_ ?_) <;> first | rfl | omega | (simp only [lnA] <;> omega) | (simp only [lnA, List.append_assoc, List.cons_append, List.nil_append]; done) | skip)
      all_goals (first | (rw [e6]; rfl) | (rw [e5]; done) | (rw [e5]; simp; done) | (rw [e4]; done) | (rw [e4]; omega))
    · rw [endK_low (by omega)]; omega
  · rw [z2 (by omega)]
  · rw [z2 (by omega)]
  · simp [cutL]
set_option maxHeartbeats 1000000 in
theorem spec_l6Split_c {m0 : Bool} (p : List Int) (hp : isPermB p = true) (h0 : 1 ≤ p.length) : Fun Try.prog 129 [(.sl (.lent m0) (List.map (PV.int .i64) (p)))] [(.agg [(.sl (.lent false) (List.map (PV.int .i64) ((splL p).1))), (.sl (.lent false) (List.map (elI false) ((splL p).2)))])] := by
  refine Fun.ofR (sg := sgSt) (rs := [.cell 2 78]) mo Try.func129 rfl rfl rfl rfl (by kernel_rfl) (by simp only [go_sem]) rfl ?_
  have hl := (isPerm_facts hp).1
  have hb := perm_b8 hp
  have q1 : (spG ptI p p.length).1 = sumPt p := sumPt_pt (isPerm_facts hp).2
  have q2 := sumPt_f hp
  have q3 := skewPt_f hp
  have hbb : ∀ x ∈ p, 0 ≤ x ∧ x ≤ 1048576 := fun x hx => by have := hb x hx; omega
  obtain ⟨f1, f2, f3, _⟩ := q2
  obtain ⟨g1, g2, g3, _⟩ := q3
  have fc : True := trivial
  repeat' first
    | with_reducible first | refine stp ?_ | refine q_blk_o rfl ?_ | (refine hK _ ?_; clear hK) | (refine hA ?_; clear hA hB) | (refine hB ?_; clear hA hB) | exact v_end0 | exact v_end0' | refine v_gb1 ?_ ?_ | refine v_gb0 ?_ ?_ | refine And.intro ?_ ?_
    | (with_reducible refine hK _ _ ?_ ?_; focus (first | exact clearAll_quiet rfl | (refine clearAll_of [false, false, false, false, false, false, false, true, true, true, false, true] [(0, 7), (1, 7), (0, 8), (1, 8)] rfl (by decide +kernel) ?_; try simp only [go_sem, ↓reduceIte, reduceCtorEq, Nat.reduceEqDiff, Nat.reduceAdd, Nat.reduceMul, Nat.reduceSub, Nat.reduceLeDiff, Int.reduceLT, Int.reduceLE, Int.reduceEq, Int.reduceSub, Int.reduceAdd, Int.reduceMul, Int.reduceNeg, Int.reduceToNat, q1, hp])); all_goals (try clear hK))
    | (with_reducible refine p_ok ?_; decide)
    | ((first | with_reducible first | refine v_region rfl rfl (fun K hK => ?_) | refine v_draws rfl rfl (fun K hK => ?_) | refine v_if (fun A B hA hB => ?_) | refine v_end rfl ?_ | refine v_fin1 ?_ | refine v_finC1 ?_ | refine v_finR1 ?_ | refine v_callE (spec_SumParts_c _ ?_) ?_ | refine v_callE (spec_l6Sum_c _ _ ?_ ?_ ?_ ?_) ?_ | refine v_callE (spec_SkewParts_c _ ?_) ?_ | refine v_callE (spec_l5Run_c _ _ _ ?_ ?_ ?_ ?_ ?_) ?_ | refine v_callE (spec_l2Pattern_c _ ?_) ?_ | refine v_finO1 rfl ?_ | refine v_finN1 rfl ?_ ?_ | refine v_apj ?_ (fun j' => ?_) | refine v_stz ?_ ?_ ?_ ?_ ?_ | refine v_stq ?_ | refine v_cv1 ?_ ?_ ?_ | (intro hc; replace fc := And.intro hc fc; try simp only [hcs] at hc)) <;> (try simp (config := { maxSteps := 1000000 }) only [go_sem, ↓reduceIte, reduceCtorEq, Nat.reduceEqDiff, Nat.reduceAdd, Nat.reduceMul, Nat.reduceSub, Nat.reduceLeDiff, Int.reduceLT, Int.reduceLE, Int.reduceEq, Int.reduceSub, Int.reduceAdd, Int.reduceMul, Int.reduceNeg, Int.reduceToNat, q1, hp, fc]) <;> (try with_reducible rfl))
  all_goals try (first | omega | (simp only [n_i64, n_u8]; omega) | (simp only [n_i64, n_u8, lnA]; omega) | (simp only [lnA]; done))
  all_goals try (rw [splL, if_pos (by omega)]; rfl)
  all_goals try (rw [splL, if_neg (by omega), if_pos (by omega)]; rfl)
  all_goals try (rw [splL, if_neg (by omega), if_neg (by omega), if_pos (by omega)]; rfl)
  refine v_loop (fun ms1 S1 => ∃ (j : Nat), S1.e 0 = .p (.sl (.lent m0) (List.map (PV.int .i64) (p))) ∧ PtrL (S1.e 2) S1.h S1.n (.deep false [.v (.sl .own []), .v (.sl .own [])] []) ∧ Dst2 (S1.e 5) S1.h S1.n (List.map (PV.int .i64) ([])) (List.map (elI false) ((cutL p j).2.2)) ∧ OwnL (S1.e 6) S1.h S1.n (PV.int .i64) (((cutL p j).2.1).length) ((cutL p j).2.1) ∧ S1.e 7 = .p (.int .i64 ((cutL p j).1)) ∧ ((cutL p j).1 ≤ p.length) ∧ NId (asR (S1.e 5)) (asR (S1.e 2)) ∧ NId (S1.e 6) (asR (S1.e 2)) ∧ NId (S1.e 6) (asR (S1.e 5)) ∧ ms1 = p.length - (cutL p j).1) ((fun (j : Nat) => p.length - (cutL p j).1) (0)) ?init1_2 ?body1_2
  case' init1_2 =>
    refine ⟨0, ?_, ?_, ?_, ?_, ?_, ?_, ?_, ?_, ?_, rfl⟩
    all_goals (try simp only [go_sem, ↓reduceIte, reduceCtorEq, Nat.reduceEqDiff, Nat.reduceAdd, Nat.reduceMul, Nat.reduceSub, Nat.reduceLeDiff, Int.reduceLT, Int.reduceLE, Int.reduceEq, Int.reduceSub, Int.reduceAdd, Int.reduceMul, Int.reduceNeg, Int.reduceToNat])
    repeat' refine And.intro ?_ ?_
    all_goals try first | rfl | omega | (simp only [lnA] <;> omega) | ((first | refine stp ?_ | refine dkz_eq ?_ ?_) <;> first | rfl | omega | (simp only [lnA] <;> omega) | (simp only [lnA, List.append_assoc, List.cons_append, List.nil_append]; done) | skip)
  case' body1_2 =>
    rintro ms1 S1 ⟨j, h1_0, o1_2, o1_5, o1_6, h1_7, c1_0, u1_0, u1_1, u1_2, hm1⟩
    obtain ⟨i1_5, ra1_5, rb1_5, rs1_5, h1_5, b1_5, l1_5, w01_5, w11_5, w21_5, w31_5, w41_5, w51_5, w61_5, w71_5, w81_5, w91_5⟩ := o1_5.out
    obtain ⟨i1_2, h1_2, b1_2, l1_2⟩ := o1_2.out
    obtain ⟨i1_6, h1_6, b1_6, l1_6⟩ := o1_6.out
    have k1_0 := (u1_0).out (asR_eq h1_5) (asR_eq h1_2)
    have k1_1 := (u1_1).out h1_6 (asR_eq h1_2)
    have k1_2 := (u1_2).out h1_6 (asR_eq h1_5)
    have ni1_2 : ∀ c, (i1_2 = S1.n + c) = False := fun c => eq_false (by omega)
    have pi1_2 : ∀ c, (S1.n + c = i1_2) = False := fun c => eq_false (by omega)
    have qi1_2 : (i1_2 = S1.n) = False := eq_false (by omega)
    have ri1_2 : (S1.n = i1_2) = False := eq_false (by omega)
    have ni1_5 : ∀ c, (i1_5 = S1.n + c) = False := fun c => eq_false (by omega)
    have pi1_5 : ∀ c, (S1.n + c = i1_5) = False := fun c => eq_false (by omega)
    have qi1_5 : (i1_5 = S1.n) = False := eq_false (by omega)
    have ri1_5 : (S1.n = i1_5) = False := eq_false (by omega)
    have ni1_6 : ∀ c, (i1_6 = S1.n + c) = False := fun c => eq_false (by omega)
    have pi1_6 : ∀ c, (S1.n + c = i1_6) = False := fun c => eq_false (by omega)
    have qi1_6 : (i1_6 = S1.n) = False := eq_false (by omega)
    have ri1_6 : (S1.n = i1_6) = False := eq_false (by omega)
    have di1_2i1_5 : (i1_2 = i1_5) = False := eq_false (by omega)
    have di1_2i1_6 : (i1_2 = i1_6) = False := eq_false (by omega)
    have di1_5i1_2 : (i1_5 = i1_2) = False := eq_false (by omega)
    have di1_5i1_6 : (i1_5 = i1_6) = False := eq_false (by omega)
    have di1_6i1_2 : (i1_6 = i1_2) = False := eq_false (by omega)
    have di1_6i1_5 : (i1_6 = i1_5) = False := eq_false (by omega)
  have z1 := cutL_b (p := p) (j := j)
  have z2 : ¬ (cutL p j).1 < p.length → splL p = (patL (cutL p j).2.1, (cutL p j).2.2) := fun h => by
    rw [splL, if_neg (by omega), if_neg (by omega), if_neg (by omega), cutL_fin (j := j) (by omega)]
  have fc : True := trivial
  repeat' first
    | with_reducible first | refine stp ?_ | refine q_blk_o rfl ?_ | (refine hK _ ?_; clear hK) | (refine hA ?_; clear hA hB) | (refine hB ?_; clear hA hB) | exact v_end0 | exact v_end0' | refine v_gb1 ?_ ?_ | refine v_gb0 ?_ ?_ | refine And.intro ?_ ?_
    | (with_reducible refine hK _ _ ?_ ?_; focus (first | exact clearAll_quiet rfl | (refine clearAll_of [false, false, false, false, false, false, false, true, true, true, false, true] [(0, 7), (1, 7), (0, 8), (1, 8)] rfl (by decide +kernel) ?_; try simp only [go_sem, ↓reduceIte, reduceCtorEq, Nat.reduceEqDiff, Nat.reduceAdd, Nat.reduceMul, Nat.reduceSub, Nat.reduceLeDiff, Int.reduceLT, Int.reduceLE, Int.reduceEq, Int.reduceSub, Int.reduceAdd, Int.reduceMul, Int.reduceNeg, Int.reduceToNat, h1_0, h1_7, h1_2, b1_2, h1_5, b1_5, h1_6, b1_6, w01_5, w11_5, w21_5, w31_5, w41_5, w51_5, w61_5, w71_5, w81_5, w91_5, ni1_2, pi1_2, qi1_2, ri1_2, ni1_5, pi1_5, qi1_5, ri1_5, ni1_6, pi1_6, qi1_6, ri1_6, di1_2i1_5, di1_2i1_6, di1_5i1_2, di1_5i1_6, di1_6i1_2, di1_6i1_5])); all_goals (try clear hK))
    | (with_reducible refine p_ok ?_; decide)
    | ((first | with_reducible first | refine v_region rfl rfl (fun K hK => ?_) | refine v_draws rfl rfl (fun K hK => ?_) | refine v_if (fun A B hA hB => ?_) | refine v_end rfl ?_ | refine v_fin1 ?_ | refine v_finC1 ?_ | refine v_finR1 ?_ | refine v_callE (spec_SumParts_c _ ?_) ?_ | refine v_callE (spec_l6Sum_c _ _ ?_ ?_ ?_ ?_) ?_ | refine v_callE (spec_SkewParts_c _ ?_) ?_ | refine v_callE (spec_l5Run_c _ _ _ ?_ ?_ ?_ ?_ ?_) ?_ | refine v_callE (spec_l2Pattern_c _ ?_) ?_ | refine v_finO1 rfl ?_ | refine v_finN1 rfl ?_ ?_ | refine v_apj ?_ (fun j' => ?_) | refine v_stz ?_ ?_ ?_ ?_ ?_ | refine v_stq ?_ | refine v_cv1 ?_ ?_ ?_ | (intro hc; replace fc := And.intro hc fc; try simp only [hcs] at hc)) <;> (try simp (config := { maxSteps := 1000000 }) only [go_sem, ↓reduceIte, reduceCtorEq, Nat.reduceEqDiff, Nat.reduceAdd, Nat.reduceMul, Nat.reduceSub, Nat.reduceLeDiff, Int.reduceLT, Int.reduceLE, Int.reduceEq, Int.reduceSub, Int.reduceAdd, Int.reduceMul, Int.reduceNeg, Int.reduceToNat, h1_0, h1_7, h1_2, b1_2, h1_5, b1_5, h1_6, b1_6, w01_5, w11_5, w21_5, w31_5, w41_5, w51_5, w61_5, w71_5, w81_5, w91_5, ni1_2, pi1_2, qi1_2, ri1_2, ni1_5, pi1_5, qi1_5, ri1_5, ni1_6, pi1_6, qi1_6, ri1_6, di1_2i1_5, di1_2i1_6, di1_5i1_2, di1_5i1_6, di1_6i1_2, di1_6i1_5, fc]) <;> (try with_reducible rfl))
  all_goals try (first | omega | (simp only [n_i64, n_u8]; omega) | (simp only [n_i64, n_u8, lnA]; omega) | (simp only [lnA]; done))
  · refine v_loop (fun ms2 S2 => ∃ (i : Nat), S2.e 0 = .p (.sl (.lent m0) (List.map (PV.int .i64) (p))) ∧ PtrL (S2.e 2) S2.h S2.n (.deep false [.v (.sl .own []), .v (.sl .own [])] []) ∧ Dst2 (S2.e 5) S2.h S2.n (List.map (PV.int .i64) ([])) (List.map (elI false) ((cutL p j).2.2)) ∧ OwnL (S2.e 6) S2.h S2.n (PV.int .i64) (((cutL p j).2.1).length) ((cutL p j).2.1) ∧ S2.e 7 = .p (.int .i64 ((cutL p j).1)) ∧ S2.e 8 = .p (.int .i64 (i - 1)) ∧ ((cutL p j).1 + 1 ≤ i) ∧ (i ≤ p.length) ∧ ((cutL p j).1 < p.length) ∧ (endK p (cutL p j).1 p.length = endK p (cutL p j).1 i) ∧ NId (asR (S2.e 5)) (asR (S2.e 2)) ∧ NId (S2.e 6) (asR (S2.e 2)) ∧ NId (S2.e 6) (asR (S2.e 5)) ∧ S1.n ≤ S2.n ∧ ms2 = i) ((fun (i : Nat) => i) (p.length)) ?init2_3 ?body2_3
    case' init2_3 =>
      refine ⟨p.length, ?_, ?_, ?_, ?_, ?_, ?_, ?_, ?_, ?_, ?_, ?_, ?_, ?_, ?_, rfl⟩
      all_goals (try simp only [go_sem, ↓reduceIte, reduceCtorEq, Nat.reduceEqDiff, Nat.reduceAdd, Nat.reduceMul, Nat.reduceSub, Nat.reduceLeDiff, Int.reduceLT, Int.reduceLE, Int.reduceEq, Int.reduceSub, Int.reduceAdd, Int.reduceMul, Int.reduceNeg, Int.reduceToNat, h1_0, h1_7, h1_2, b1_2, h1_5, b1_5, h1_6, b1_6, w01_5, w11_5, w21_5, w31_5, w41_5, w51_5, w61_5, w71_5, w81_5, w91_5, ni1_2, pi1_2, qi1_2, ri1_2, ni1_5, pi1_5, qi1_5, ri1_5, ni1_6, pi1_6, qi1_6, ri1_6, di1_2i1_5, di1_2i1_6, di1_5i1_2, di1_5i1_6, di1_6i1_2, di1_6i1_5])
      repeat' refine And.intro ?_ ?_
      all_goals try first | rfl | omega | (simp only [lnA] <;> omega) | ((first | refine stp ?_ | refine dkz_eq ?_ ?_) <;> first | rfl | omega | (simp only [lnA] <;> omega) | (simp only [lnA, List.append_assoc, List.cons_append, List.nil_append]; done) | skip)
    case' body2_3 =>
      rintro ms2 S2 ⟨i, h2_0, o2_2, o2_5, o2_6, h2_7, h2_8, c2_0, c2_1, c2_2, c2_3, u2_0, u2_1, u2_2, u2_3, hm2⟩
      obtain ⟨i2_5, ra2_5, rb2_5, rs2_5, h2_5, b2_5, l2_5, w02_5, w12_5, w22_5, w32_5, w42_5, w52_5, w62_5, w72_5, w82_5, w92_5⟩ := o2_5.out
      obtain ⟨i2_2, h2_2, b2_2, l2_2⟩ := o2_2.out
      obtain ⟨i2_6, h2_6, b2_6, l2_6⟩ := o2_6.out
      have k2_0 := (u2_0).out (asR_eq h2_5) (asR_eq h2_2)
      have k2_1 := (u2_1).out h2_6 (asR_eq h2_2)
      have k2_2 := (u2_2).out h2_6 (asR_eq h2_5)
      have ni2_2 : ∀ c, (i2_2 = S2.n + c) = False := fun c => eq_false (by omega)
      have pi2_2 : ∀ c, (S2.n + c = i2_2) = False := fun c => eq_false (by omega)
      have qi2_2 : (i2_2 = S2.n) = False := eq_false (by omega)
      have ri2_2 : (S2.n = i2_2) = False := eq_false (by omega)
      have ni2_5 : ∀ c, (i2_5 = S2.n + c) = False := fun c => eq_false (by omega)
      have pi2_5 : ∀ c, (S2.n + c = i2_5) = False := fun c => eq_false (by omega)
      have qi2_5 : (i2_5 = S2.n) = False := eq_false (by omega)
      have ri2_5 : (S2.n = i2_5) = False := eq_false (by omega)
      have ni2_6 : ∀ c, (i2_6 = S2.n + c) = False := fun c => eq_false (by omega)
      have pi2_6 : ∀ c, (S2.n + c = i2_6) = False := fun c => eq_false (by omega)
      have qi2_6 : (i2_6 = S2.n) = False := eq_false (by omega)
      have ri2_6 : (S2.n = i2_6) = False := eq_false (by omega)
      have di2_2i2_5 : (i2_2 = i2_5) = False := eq_false (by omega)
      have di2_2i2_6 : (i2_2 = i2_6) = False := eq_false (by omega)
      have di2_5i2_2 : (i2_5 = i2_2) = False := eq_false (by omega)
      have di2_5i2_6 : (i2_5 = i2_6) = False := eq_false (by omega)
      have di2_6i2_2 : (i2_6 = i2_2) = False := eq_false (by omega)
      have di2_6i2_5 : (i2_6 = i2_5) = False := eq_false (by omega)
    have z3 := endK_b (p := p) (a := (cutL p j).1) (k := i)
    have fc : True := trivial
    repeat' first
      | with_reducible first | refine stp ?_ | refine q_blk_o rfl ?_ | (refine hK _ ?_; clear hK) | (refine hA ?_; clear hA hB) | (refine hB ?_; clear hA hB) | exact v_end0 | exact v_end0' | refine v_gb1 ?_ ?_ | refine v_gb0 ?_ ?_ | refine And.intro ?_ ?_
      | (with_reducible refine hK _ _ ?_ ?_; focus (first | exact clearAll_quiet rfl | (refine clearAll_of [false, false, false, false, false, false, false, true, true, true, false, true] [(0, 7), (1, 7), (0, 8), (1, 8)] rfl (by decide +kernel) ?_; try simp only [go_sem, ↓reduceIte, reduceCtorEq, Nat.reduceEqDiff, Nat.reduceAdd, Nat.reduceMul, Nat.reduceSub, Nat.reduceLeDiff, Int.reduceLT, Int.reduceLE, Int.reduceEq, Int.reduceSub, Int.reduceAdd, Int.reduceMul, Int.reduceNeg, Int.reduceToNat, h2_0, h2_7, h2_8, h2_2, b2_2, h2_5, b2_5, h2_6, b2_6, w02_5, w12_5, w22_5, w32_5, w42_5, w52_5, w62_5, w72_5, w82_5, w92_5, ni2_2, pi2_2, qi2_2, ri2_2, ni2_5, pi2_5, qi2_5, ri2_5, ni2_6, pi2_6, qi2_6, ri2_6, di2_2i2_5, di2_2i2_6, di2_5i2_2, di2_5i2_6, di2_6i2_2, di2_6i2_5])); all_goals (try clear hK))
      | (with_reducible refine p_ok ?_; decide)
      | ((first | with_reducible first | refine v_region rfl rfl (fun K hK => ?_) | refine v_draws rfl rfl (fun K hK => ?_) | refine v_if (fun A B hA hB => ?_) | refine v_end rfl ?_ | refine v_fin1 ?_ | refine v_finC1 ?_ | refine v_finR1 ?_ | refine v_callE (spec_SumParts_c _ ?_) ?_ | refine v_callE (spec_l6Sum_c _ _ ?_ ?_ ?_ ?_) ?_ | refine v_callE (spec_SkewParts_c _ ?_) ?_ | refine v_callE (spec_l5Run_c _ _ _ ?_ ?_ ?_ ?_ ?_) ?_ | refine v_callE (spec_l2Pattern_c _ ?_) ?_ | refine v_finO1 rfl ?_ | refine v_finN1 rfl ?_ ?_ | refine v_apj ?_ (fun j' => ?_) | refine v_stz ?_ ?_ ?_ ?_ ?_ | refine v_stq ?_ | refine v_cv1 ?_ ?_ ?_ | (intro hc; replace fc := And.intro hc fc; try simp only [hcs] at hc)) <;> (try simp (config := { maxSteps := 1000000 }) only [go_sem, ↓reduceIte, reduceCtorEq, Nat.reduceEqDiff, Nat.reduceAdd, Nat.reduceMul, Nat.reduceSub, Nat.reduceLeDiff, Int.reduceLT, Int.reduceLE, Int.reduceEq, Int.reduceSub, Int.reduceAdd, Int.reduceMul, Int.reduceNeg, Int.reduceToNat, h2_0, h2_7, h2_8, h2_2, b2_2, h2_5, b2_5, h2_6, b2_6, w02_5, w12_5, w22_5, w32_5, w42_5, w52_5, w62_5, w72_5, w82_5, w92_5, ni2_2, pi2_2, qi2_2, ri2_2, ni2_5, pi2_5, qi2_5, ri2_5, ni2_6, pi2_6, qi2_6, ri2_6, di2_2i2_5, di2_2i2_6, di2_5i2_2, di2_5i2_6, di2_6i2_2, di2_6i2_5, fc]) <;> (try with_reducible rfl))
    all_goals try (first | omega | (simp only [n_i64, n_u8]; omega) | (simp only [n_i64, n_u8, lnA]; omega) | (simp only [lnA]; done))
    · have e1 : i ≠ (cutL p j).1 + 1 := fun e => by
        have := isInt_one c2_2
        rw [show (((cutL p j).1 + 1 : Nat) : Int) = (i : Int) - 1 + 1 by omega, hc] at this; cases this
      have e2 : endK p (cutL p j).1 i = endK p (cutL p j).1 (i - 1) := by
        obtain ⟨i', rfl⟩ : ∃ i', i = i' + 1 := ⟨i - 1, by omega⟩
        rw [endK, if_neg fun h => ?_]; · rfl
        have := h.2.2
        rw [show ((i' + 1 : Nat) : Int) = ((i' + 1 : Nat) : Int) - 1 + 1 by omega, hc] at this; cases this
      focus
        refine q_lp_n ((fun (i : Nat) => i) (i-1)) ?_ ⟨i-1, ?_, ?_, ?_, ?_, ?_, ?_, ?_, ?_, ?_, ?_, ?_, ?_, ?_, ?_, rfl⟩
        all_goals (try simp only [go_sem, ↓reduceIte, reduceCtorEq, Nat.reduceEqDiff, Nat.reduceAdd, Nat.reduceMul, Nat.reduceSub, Nat.reduceLeDiff, Int.reduceLT, Int.reduceLE, Int.reduceEq, Int.reduceSub, Int.reduceAdd, Int.reduceMul, Int.reduceNeg, Int.reduceToNat, h2_0, h2_7, h2_8, h2_2, b2_2, h2_5, b2_5, h2_6, b2_6, w02_5, w12_5, w22_5, w32_5, w42_5, w52_5, w62_5, w72_5, w82_5, w92_5, ni2_2, pi2_2, qi2_2, ri2_2, ni2_5, pi2_5, qi2_5, ri2_5, ni2_6, pi2_6, qi2_6, ri2_6, di2_2i2_5, di2_2i2_6, di2_5i2_2, di2_5i2_6, di2_6i2_2, di2_6i2_5])
        repeat' refine And.intro ?_ ?_
        all_goals try first | rfl | omega | (simp only [lnA] <;> omega) | ((first | refine stp ?_ | refine dkz_eq ?_ ?_) <;> first | rfl | omega | (simp only [lnA] <;> omega) | (simp only [lnA, List.append_assoc, List.cons_append, List.nil_append]; done) | skip)
    · have e2 : endK p (cutL p j).1 p.length = i := by
        rw [c2_3]
        by_cases h2 : i = (cutL p j).1 + 1
        · rw [endK_low (by omega)]; omega
        · obtain ⟨i', rfl⟩ : ∃ i', i = i' + 1 := ⟨i - 1, by omega⟩
          rw [endK, if_pos ⟨by omega, by omega, by rw [← hc]; congr 1; omega⟩]
      have e3 : cutL p (j + 1) = (i, (cutL p j).2.1 ++ [p.getD (cutL p j).1 0], (cutL p j).2.2 ++ [patL (segL p (cutL p j).1 i)]) := by rw [cutL, if_pos c2_2, e2]
      have e4 := congrArg Prod.fst e3
      have e5 := congrArg (fun x => x.2.1) e3
      have e6 := congrArg (fun x => x.2.2) e3
      simp only at e4 e5 e6
      have e7 : ((i : Int) - 1 + 1).toNat = i := by omega
      focus
        refine q_lp_n ((fun (j : Nat) => p.length - (cutL p j).1) (j+1)) ?_ ⟨j+1, ?_, ?_, ?_, ?_, ?_, ?_, ?_, ?_, ?_, rfl⟩
        all_goals (try simp only [go_sem, ↓reduceIte, reduceCtorEq, Nat.reduceEqDiff, Nat.reduceAdd, Nat.reduceMul, Nat.reduceSub, Nat.reduceLeDiff, Int.reduceLT, Int.reduceLE, Int.reduceEq, Int.reduceSub, Int.reduceAdd, Int.reduceMul, Int.reduceNeg, Int.reduceToNat, h2_0, h2_7, h2_8, h2_2, b2_2, h2_5, b2_5, h2_6, b2_6, w02_5, w12_5, w22_5, w32_5, w42_5, w52_5, w62_5, w72_5, w82_5, w92_5, ni2_2, pi2_2, qi2_2, ri2_2, ni2_5, pi2_5, qi2_5, ri2_5, ni2_6, pi2_6, qi2_6, ri2_6, di2_2i2_5, di2_2i2_6, di2_5i2_2, di2_5i2_6, di2_6i2_2, di2_6i2_5])
        repeat' refine And.intro ?_ ?_
        all_goals try first | rfl | omega | (simp only [lnA] <;> omega) | ((first | refine stp ?_ | refine dkz_eq ?_ ?_) <;> first | rfl | omega | (simp only [lnA] <;> omega) | (simp only [lnA, List.append_assoc, List.cons_append, List.nil_append]; done) | skip)
      all_goals (first | (rw [e5]; done) | (rw [e5]; simp only [List.length_append]; done) | (rw [e4]; omega) | (rw [e7, e6]; rfl) | (rw [e5]; simp; done))
    · have e2 : endK p (cutL p j).1 i = endK p (cutL p j).1 (i - 1) := by
        obtain ⟨i', rfl⟩ : ∃ i', i = i' + 1 := ⟨i - 1, by omega⟩
        rw [endK, if_neg (by omega)]; rfl
      focus
        refine q_lp_n ((fun (i : Nat) => i) (i-1)) ?_ ⟨i-1, ?_, ?_, ?_, ?_, ?_, ?_, ?_, ?_, ?_, ?_, ?_, ?_, ?_, ?_, rfl⟩
        all_goals (try simp only [go_sem, ↓reduceIte, reduceCtorEq, Nat.reduceEqDiff, Nat.reduceAdd, Nat.reduceMul, Nat.reduceSub, Nat.reduceLeDiff, Int.reduceLT, Int.reduceLE, Int.reduceEq, Int.reduceSub, Int.reduceAdd, Int.reduceMul, Int.reduceNeg, Int.reduceToNat, h2_0, h2_7, h2_8, h2_2, b2_2, h2_5, b2_5, h2_6, b2_6, w02_5, w12_5, w22_5, w32_5, w42_5, w52_5, w62_5, w72_5, w82_5, w92_5, ni2_2, pi2_2, qi2_2, ri2_2, ni2_5, pi2_5, qi2_5, ri2_5, ni2_6, pi2_6, qi2_6, ri2_6, di2_2i2_5, di2_2i2_6, di2_5i2_2, di2_5i2_6, di2_6i2_2, di2_6i2_5])
        repeat' refine And.intro ?_ ?_
        all_goals try first | rfl | omega | (simp only [lnA] <;> omega) | ((first | refine stp ?_ | refine dkz_eq ?_ ?_) <;> first | rfl | omega | (simp only [lnA] <;> omega) | (simp only [lnA, List.append_assoc, List.cons_append, List.nil_append]; done) | skip)
  · rw [z2 (by omega)]
  · rw [z2 (by omega)]
  · simp [cutL]
end Go.Gl
