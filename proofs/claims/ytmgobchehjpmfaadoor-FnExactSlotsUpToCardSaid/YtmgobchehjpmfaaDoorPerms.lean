/-
  All permutations of a length: what their functions compute. Conditions: none.
-/
import Derived.Test.YtmgobchehjpmfaaDoorPerm
import Derived.Test.YtmgobchehjpmfaaDoorClone
import Derived.Test.YtmgobchehjpmfaaDoorLaw1
set_option linter.unusedSimpArgs false
set_option linter.unusedVariables false
set_option maxRecDepth 20000
set_option linter.unusedSectionVars false
namespace Go.Gl
open Go Go.Proofs
variable [Amb]
/-- The numbers 1 to j that a list lacks. -/
def lackL (p : List Int) (j : Nat) : List Int := ((List.range j).map fun i : Nat => (i : Int) + 1).filter fun v => !p.contains v
theorem lackL_succ {p : List Int} {j : Nat} : lackL p (j + 1) = lackL p j ++ (if p.contains ((j : Int) + 1) then [] else [(j : Int) + 1]) := by
  simp only [lackL, List.range_succ, List.map_append, List.filter_append, List.map_cons, List.map_nil]
  congr 1
  rw [List.filter_cons]
  cases p.contains ((j : Int) + 1) <;> rfl
theorem lackL_len {p : List Int} {j : Nat} : (lackL p j).length ≤ j := by
  unfold lackL; exact Nat.le_trans (List.length_filter_le _ _) (by simp)
/-- A list with each of the lacking numbers behind it. -/
def extL (p : List Int) (j : Nat) : List (List Int) := (lackL p j).map fun v => p ++ [v]
theorem extL_succ {p : List Int} {j : Nat} : extL p (j + 1) = extL p j ++ (if p.contains ((j : Int) + 1) then [] else [p ++ [(j : Int) + 1]]) := by
  rw [extL, lackL_succ, List.map_append]; congr 1
  cases p.contains ((j : Int) + 1) <;> simp
theorem extL_len {p : List Int} {j : Nat} : (extL p j).length ≤ j := by simpa [extL] using lackL_len
def lvl (n : Nat) : Nat → List (List Int) → List (List Int)
  | 0, L => L
  | k + 1, L => lvl n k (L.flatMap fun p => extL p n)
theorem lvl_app {n : Nat} : ∀ {k : Nat} {A B : List (List Int)}, lvl n k (A ++ B) = lvl n k A ++ lvl n k B
  | 0, _, _ => rfl
  | k + 1, A, B => by simp only [lvl, List.flatMap_append, lvl_app]
theorem lvl_succ {n : Nat} : ∀ {k : Nat} {L : List (List Int)}, lvl n (k + 1) L = (lvl n k L).flatMap fun p => extL p n
  | 0, _ => rfl
  | k + 1, L => by rw [lvl, lvl_succ (k := k), ← lvl]
theorem lvl_nil {n : Nat} : ∀ {k : Nat}, lvl n k [] = []
  | 0 => rfl
  | k + 1 => by rw [lvl]; exact lvl_nil
theorem flat_len {n : Nat} : ∀ {L : List (List Int)}, (L.flatMap fun p => extL p n).length ≤ L.length * n
  | [] => by simp
  | p :: L => by
    have := flat_len (n := n) (L := L)
    have h1 := extL_len (p := p) (j := n)
    simp only [List.flatMap_cons, List.length_append, List.length_cons, Nat.succ_mul]; omega
theorem lvl_len {n : Nat} (hn : n ≤ 8) : ∀ {k : Nat} {L : List (List Int)}, (lvl n k L).length ≤ L.length * 8 ^ k
  | 0, L => by simp [lvl]
  | k + 1, L => by
    rw [lvl, Nat.pow_succ]
    refine Nat.le_trans (lvl_len hn) ?_
    have h1 := flat_len (n := n) (L := L)
    have h2 : L.length * n ≤ L.length * 8 := Nat.mul_le_mul_left _ hn
    calc _ ≤ (L.length * 8) * 8 ^ k := Nat.mul_le_mul_right _ (Nat.le_trans h1 h2)
      _ = _ := by rw [Nat.mul_assoc, Nat.mul_comm 8]
theorem lvl_row {n : Nat} : ∀ {k m : Nat} {L : List (List Int)}, (∀ l ∈ L, l.length = m) → ∀ l ∈ lvl n k L, l.length = m + k
  | 0, m, L, h, l, hl => by simpa [lvl] using h l hl
  | k + 1, m, L, h, l, hl => by
    rw [lvl] at hl
    have := lvl_row (k := k) (m := m + 1) (fun q hq => by
      simp only [List.mem_flatMap, extL, List.mem_map] at hq
      obtain ⟨p, hp, v, _, rfl⟩ := hq
      simp [h p hp]) l hl
    omega
/-- The permutations of a length, in order. -/
def permL (n : Nat) : List (List Int) := lvl n n [[]]
theorem permL_len {n : Nat} (hn : n ≤ 8) : (permL n).length ≤ 8 ^ 8 := by
  have h1 := lvl_len hn (k := n) (L := [[]])
  have h2 : 8 ^ n ≤ 8 ^ 8 := Nat.pow_le_pow_right (by omega) hn
  simp only [permL, List.length_singleton, Nat.one_mul] at h1 ⊢; omega
theorem permL_row {n : Nat} : ∀ l ∈ permL n, l.length = n := fun l hl => by
  have := lvl_row (m := 0) (by simp) l hl
  omega
theorem tk1 {α : Type} {l : List α} {x : α} : List.take (l.length + 1) (l ++ [x]) = l ++ [x] := List.take_of_length_le (by simp)
theorem lvl_b8 {n k : Nat} (hn : n ≤ 8) (hk : k ≤ 8) : (lvl n k [[]]).length ≤ 8 ^ 8 := by
  have h1 := lvl_len hn (k := k) (L := [[]])
  have h2 : 8 ^ k ≤ 8 ^ 8 := Nat.pow_le_pow_right (by omega) hk
  simp only [List.length_singleton, Nat.one_mul] at h1; omega
def sgNP : FuncId → List Bool := fun f => if f = 4294967297 then [true, false, false] else []
theorem sgNP_eq {f : FuncId} : sgNP f = if f = 4294967297 then [true, false, false] else [] := _root_.id rfl
theorem wayE_sgNP : wayE sgNP = false := _root_.id rfl
theorem wayN_sgNP : wayN sgNP = true := _root_.id rfl
theorem wayS_sgNP : wayS sgNP = false := _root_.id rfl
theorem wayZ_sgNP : wayZ sgNP = false := _root_.id rfl
attribute [go_sem] sgNP_eq wayE_sgNP wayN_sgNP wayS_sgNP wayZ_sgNP
theorem impl_perms_c (n : Nat) (h1 : n ≤ 8) : Fun Tryd.prog 97 [(.int .i64 (n))] [(.dl (List.map (List.map (PV.int .i64)) (permL n)))] := by
  refine Fun.of (sg := sgNP) (ts := [2]) mo Tryd.func97 rfl rfl rfl rfl (by kernel_rfl) (by simp only [go_sem]) rfl ?_
  have fc : True := trivial
  repeat' first
    | with_reducible first | refine stp ?_ | refine q_blk_o rfl ?_ | (refine hK _ ?_; clear hK) | (refine hA ?_; clear hA hB) | (refine hB ?_; clear hA hB) | exact v_end0 | exact v_end0' | refine v_gb1 ?_ ?_ | refine v_gb0 ?_ ?_ | refine And.intro ?_ ?_
    | (with_reducible refine p_ok ?_; decide)
    | ((first | with_reducible first | refine v_region rfl rfl (fun K hK => ?_) | refine v_draws rfl rfl (fun K hK => ?_) | refine v_if (fun A B hA hB => ?_) | refine v_end rfl ?_ | refine v_fin1 ?_ | refine v_finC1 ?_ | refine v_finR1 ?_ | refine v_callE (slices_Contains_int_int_c _ _ ?_) ?_ | refine v_callE (slices_Clone_c _ ?_) ?_ | refine v_finO1 rfl ?_ | refine v_finN1 rfl ?_ ?_ | refine v_apj ?_ (fun j' => ?_) | refine v_stz ?_ ?_ ?_ ?_ ?_ | refine v_stq ?_ | refine v_cv1 ?_ ?_ ?_ | (intro hc; replace fc := And.intro hc fc; try simp only [hcs] at hc)) <;> (try simp (config := { maxSteps := 1000000 }) only [go_sem, ↓reduceIte, reduceCtorEq, Nat.reduceEqDiff, Nat.reduceAdd, Nat.reduceMul, Nat.reduceSub, Nat.reduceLeDiff, Int.reduceLT, Int.reduceLE, Int.reduceEq, Int.reduceSub, Int.reduceAdd, Int.reduceMul, Int.reduceNeg, Int.reduceToNat, fc]) <;> (try with_reducible rfl))
  refine v_loop (fun ms1 S1 => ∃ (i : Nat), S1.e 0 = .p (.int .i64 (n)) ∧ DwnL (S1.e 3) S1.h S1.n (PV.int .i64) ((lvl n i [[]]).length) (lvl n i [[]]) ∧ S1.e 10 = .p (.int .i64 (n)) ∧ S1.e 11 = .p (.int .i64 (i)) ∧ (i ≤ n) ∧ ms1 = n - i) ((fun (i : Nat) => n - i) (0)) ?init1_0 ?body1_0
  case' init1_0 =>
    refine ⟨0, ?_, ?_, ?_, ?_, ?_, rfl⟩
    all_goals (try simp only [go_sem, ↓reduceIte, reduceCtorEq, Nat.reduceEqDiff, Nat.reduceAdd, Nat.reduceMul, Nat.reduceSub, Nat.reduceLeDiff, Int.reduceLT, Int.reduceLE, Int.reduceEq, Int.reduceSub, Int.reduceAdd, Int.reduceMul, Int.reduceNeg, Int.reduceToNat])
    repeat' refine And.intro ?_ ?_
    all_goals try first | rfl | omega | (simp only [lnA] <;> omega) | ((first | refine stp ?_ | refine dkz_eq ?_ ?_) <;> first | rfl | omega | (simp only [lnA] <;> omega) | (simp only [lnA, List.append_assoc, List.cons_append, List.nil_append]; done) | skip)
  case' body1_0 =>
    rintro ms1 S1 ⟨i, h1_0, o1_3, h1_10, h1_11, c1_0, hm1⟩
    obtain ⟨i1_3, h1_3, b1_3, l1_3⟩ := o1_3.out
    have ni1_3 : ∀ c, (i1_3 = S1.n + c) = False := fun c => eq_false (by omega)
    have pi1_3 : ∀ c, (S1.n + c = i1_3) = False := fun c => eq_false (by omega)
    have qi1_3 : (i1_3 = S1.n) = False := eq_false (by omega)
    have ri1_3 : (S1.n = i1_3) = False := eq_false (by omega)
  have b1 : (lvl n i [[]]).length ≤ 8 ^ 8 := lvl_b8 h1 (by omega)
  have fc : True := trivial
  repeat' first
    | with_reducible first | refine stp ?_ | refine q_blk_o rfl ?_ | (refine hK _ ?_; clear hK) | (refine hA ?_; clear hA hB) | (refine hB ?_; clear hA hB) | exact v_end0 | exact v_end0' | refine v_gb1 ?_ ?_ | refine v_gb0 ?_ ?_ | refine And.intro ?_ ?_
    | (with_reducible refine p_ok ?_; decide)
    | ((first | with_reducible first | refine v_region rfl rfl (fun K hK => ?_) | refine v_draws rfl rfl (fun K hK => ?_) | refine v_if (fun A B hA hB => ?_) | refine v_end rfl ?_ | refine v_fin1 ?_ | refine v_finC1 ?_ | refine v_finR1 ?_ | refine v_callE (slices_Contains_int_int_c _ _ ?_) ?_ | refine v_callE (slices_Clone_c _ ?_) ?_ | refine v_finO1 rfl ?_ | refine v_finN1 rfl ?_ ?_ | refine v_apj ?_ (fun j' => ?_) | refine v_stz ?_ ?_ ?_ ?_ ?_ | refine v_stq ?_ | refine v_cv1 ?_ ?_ ?_ | (intro hc; replace fc := And.intro hc fc; try simp only [hcs] at hc)) <;> (try simp (config := { maxSteps := 1000000 }) only [go_sem, ↓reduceIte, reduceCtorEq, Nat.reduceEqDiff, Nat.reduceAdd, Nat.reduceMul, Nat.reduceSub, Nat.reduceLeDiff, Int.reduceLT, Int.reduceLE, Int.reduceEq, Int.reduceSub, Int.reduceAdd, Int.reduceMul, Int.reduceNeg, Int.reduceToNat, h1_0, h1_10, h1_11, h1_3, b1_3, ni1_3, pi1_3, qi1_3, ri1_3, fc]) <;> (try with_reducible rfl))
  refine v_loop (fun ms2 S2 => ∃ (j : Nat), S2.e 0 = .p (.int .i64 (n)) ∧ DwnL (S2.e 14) S2.h S2.n (PV.int .i64) ((lvl n i [[]]).length) (lvl n i [[]]) ∧ DwnL (S2.e 4) S2.h S2.n (PV.int .i64) ((((lvl n i [[]]).take j).flatMap (fun p => extL p n)).length) (((lvl n i [[]]).take j).flatMap (fun p => extL p n)) ∧ S2.e 10 = .p (.int .i64 (n)) ∧ S2.e 11 = .p (.int .i64 (i)) ∧ S2.e 15 = .p (.int .i64 ((lvl n i [[]]).length)) ∧ S2.e 16 = .p (.int .i64 (j)) ∧ (j ≤ (lvl n i [[]]).length) ∧ NId (S2.e 4) (S2.e 14) ∧ S1.n ≤ S2.n ∧ ms2 = (lvl n i [[]]).length - j) ((fun (j : Nat) => (lvl n i [[]]).length - j) (0)) ?init2_1 ?body2_1
  case' init2_1 =>
    refine ⟨0, ?_, ?_, ?_, ?_, ?_, ?_, ?_, ?_, ?_, ?_, rfl⟩
    all_goals (try simp only [go_sem, ↓reduceIte, reduceCtorEq, Nat.reduceEqDiff, Nat.reduceAdd, Nat.reduceMul, Nat.reduceSub, Nat.reduceLeDiff, Int.reduceLT, Int.reduceLE, Int.reduceEq, Int.reduceSub, Int.reduceAdd, Int.reduceMul, Int.reduceNeg, Int.reduceToNat, h1_0, h1_10, h1_11, h1_3, b1_3, ni1_3, pi1_3, qi1_3, ri1_3])
    repeat' refine And.intro ?_ ?_
    all_goals try first | rfl | omega | (simp only [lnA] <;> omega) | ((first | refine stp ?_ | refine dkz_eq ?_ ?_) <;> first | rfl | omega | (simp only [lnA] <;> omega) | (simp only [lnA, List.append_assoc, List.cons_append, List.nil_append]; done) | skip)
  case' body2_1 =>
    rintro ms2 S2 ⟨j, h2_0, o2_14, o2_4, h2_10, h2_11, h2_15, h2_16, c2_0, u2_0, u2_1, hm2⟩
    obtain ⟨i2_14, h2_14, b2_14, l2_14⟩ := o2_14.out
    obtain ⟨i2_4, h2_4, b2_4, l2_4⟩ := o2_4.out
    have k2_0 := (u2_0).out h2_4 h2_14
    have ni2_14 : ∀ c, (i2_14 = S2.n + c) = False := fun c => eq_false (by omega)
    have pi2_14 : ∀ c, (S2.n + c = i2_14) = False := fun c => eq_false (by omega)
    have qi2_14 : (i2_14 = S2.n) = False := eq_false (by omega)
    have ri2_14 : (S2.n = i2_14) = False := eq_false (by omega)
    have ni2_4 : ∀ c, (i2_4 = S2.n + c) = False := fun c => eq_false (by omega)
    have pi2_4 : ∀ c, (S2.n + c = i2_4) = False := fun c => eq_false (by omega)
    have qi2_4 : (i2_4 = S2.n) = False := eq_false (by omega)
    have ri2_4 : (S2.n = i2_4) = False := eq_false (by omega)
    have di2_14i2_4 : (i2_14 = i2_4) = False := eq_false (by omega)
    have di2_4i2_14 : (i2_4 = i2_14) = False := eq_false (by omega)
  have b2 : ((lvl n i [[]]).take j).length ≤ 8 ^ 8 := by simp; omega
  have b3 := Nat.le_trans (flat_len (n := n) (L := (lvl n i [[]]).take j)) (Nat.mul_le_mul b2 h1)
  have fc : True := trivial
  repeat' first
    | with_reducible first | refine stp ?_ | refine q_blk_o rfl ?_ | (refine hK _ ?_; clear hK) | (refine hA ?_; clear hA hB) | (refine hB ?_; clear hA hB) | exact v_end0 | exact v_end0' | refine v_gb1 ?_ ?_ | refine v_gb0 ?_ ?_ | refine And.intro ?_ ?_
    | (with_reducible refine p_ok ?_; decide)
    | ((first | with_reducible first | refine v_region rfl rfl (fun K hK => ?_) | refine v_draws rfl rfl (fun K hK => ?_) | refine v_if (fun A B hA hB => ?_) | refine v_end rfl ?_ | refine v_fin1 ?_ | refine v_finC1 ?_ | refine v_finR1 ?_ | refine v_callE (slices_Contains_int_int_c _ _ ?_) ?_ | refine v_callE (slices_Clone_c _ ?_) ?_ | refine v_finO1 rfl ?_ | refine v_finN1 rfl ?_ ?_ | refine v_apj ?_ (fun j' => ?_) | refine v_stz ?_ ?_ ?_ ?_ ?_ | refine v_stq ?_ | refine v_cv1 ?_ ?_ ?_ | (intro hc; replace fc := And.intro hc fc; try simp only [hcs] at hc)) <;> (try simp (config := { maxSteps := 1000000 }) only [go_sem, ↓reduceIte, reduceCtorEq, Nat.reduceEqDiff, Nat.reduceAdd, Nat.reduceMul, Nat.reduceSub, Nat.reduceLeDiff, Int.reduceLT, Int.reduceLE, Int.reduceEq, Int.reduceSub, Int.reduceAdd, Int.reduceMul, Int.reduceNeg, Int.reduceToNat, h2_0, h2_10, h2_11, h2_15, h2_16, h2_14, b2_14, h2_4, b2_4, ni2_14, pi2_14, qi2_14, ri2_14, ni2_4, pi2_4, qi2_4, ri2_4, di2_14i2_4, di2_4i2_14, fc]) <;> (try with_reducible rfl))
  all_goals try (first | omega | (simp only [n_i64, n_u8]; omega) | (simp only [n_i64, n_u8, lnA]; omega) | (simp only [lnA]; done))
  · refine v_loop (fun ms4 S4 => ∃ (v : Nat), S4.e 0 = .p (.int .i64 (n)) ∧ DwnL (S4.e 14) S4.h S4.n (PV.int .i64) ((lvl n i [[]]).length) (lvl n i [[]]) ∧ DwnL (S4.e 4) S4.h S4.n (PV.int .i64) ((((lvl n i [[]]).take j).flatMap (fun p => extL p n) ++ extL ((lvl n i [[]]).getD j []) v).length) (((lvl n i [[]]).take j).flatMap (fun p => extL p n) ++ extL ((lvl n i [[]]).getD j []) v) ∧ InnL (S4.e 6) (S4.e 14) (j) (((lvl n i [[]]).getD j []).length) ∧ S4.e 7 = .p (.int .i64 ((v + 1))) ∧ S4.e 10 = .p (.int .i64 (n)) ∧ S4.e 11 = .p (.int .i64 (i)) ∧ S4.e 15 = .p (.int .i64 ((lvl n i [[]]).length)) ∧ S4.e 16 = .p (.int .i64 (j)) ∧ (v ≤ n) ∧ (j < (lvl n i [[]]).length) ∧ NId (S4.e 4) (S4.e 14) ∧ S2.n ≤ S4.n ∧ ms4 = n - v) ((fun (v : Nat) => n - v) (0)) ?init4_2 ?body4_2
    case' init4_2 =>
      refine ⟨0, ?_, ?_, ?_, ?_, ?_, ?_, ?_, ?_, ?_, ?_, ?_, ?_, ?_, rfl⟩
      all_goals (try simp only [go_sem, ↓reduceIte, reduceCtorEq, Nat.reduceEqDiff, Nat.reduceAdd, Nat.reduceMul, Nat.reduceSub, Nat.reduceLeDiff, Int.reduceLT, Int.reduceLE, Int.reduceEq, Int.reduceSub, Int.reduceAdd, Int.reduceMul, Int.reduceNeg, Int.reduceToNat, h2_0, h2_10, h2_11, h2_15, h2_16, h2_14, b2_14, h2_4, b2_4, ni2_14, pi2_14, qi2_14, ri2_14, ni2_4, pi2_4, qi2_4, ri2_4, di2_14i2_4, di2_4i2_14])
      repeat' refine And.intro ?_ ?_
      all_goals try first | rfl | omega | (simp only [lnA] <;> omega) | ((first | refine stp ?_ | refine dkz_eq ?_ ?_) <;> first | rfl | omega | (simp only [lnA] <;> omega) | (simp only [lnA, List.append_assoc, List.cons_append, List.nil_append]; done) | skip)
    case' body4_2 =>
      rintro ms4 S4 ⟨v, h4_0, o4_14, o4_4, o4_6, h4_7, h4_10, h4_11, h4_15, h4_16, c4_0, c4_1, u4_0, u4_1, hm4⟩
      obtain ⟨i4_14, h4_14, b4_14, l4_14⟩ := o4_14.out
      obtain ⟨i4_4, h4_4, b4_4, l4_4⟩ := o4_4.out
      have h4_6 := (o4_6).out h4_14
      have k4_0 := (u4_0).out h4_4 h4_14
      have ni4_14 : ∀ c, (i4_14 = S4.n + c) = False := fun c => eq_false (by omega)
      have pi4_14 : ∀ c, (S4.n + c = i4_14) = False := fun c => eq_false (by omega)
      have qi4_14 : (i4_14 = S4.n) = False := eq_false (by omega)
      have ri4_14 : (S4.n = i4_14) = False := eq_false (by omega)
      have ni4_4 : ∀ c, (i4_4 = S4.n + c) = False := fun c => eq_false (by omega)
      have pi4_4 : ∀ c, (S4.n + c = i4_4) = False := fun c => eq_false (by omega)
      have qi4_4 : (i4_4 = S4.n) = False := eq_false (by omega)
      have ri4_4 : (S4.n = i4_4) = False := eq_false (by omega)
      have di4_14i4_4 : (i4_14 = i4_4) = False := eq_false (by omega)
      have di4_4i4_14 : (i4_4 = i4_14) = False := eq_false (by omega)
    have b4 := extL_len (p := (lvl n i [[]]).getD j []) (j := v)
    have b5 : ((lvl n i [[]]).getD j []).length = 0 + i := lvl_row (by simp) _ (getD_mem c4_1)
    have fc : True := trivial
    repeat' first
      | with_reducible first | refine stp ?_ | refine q_blk_o rfl ?_ | (refine hK _ ?_; clear hK) | (refine hA ?_; clear hA hB) | (refine hB ?_; clear hA hB) | exact v_end0 | exact v_end0' | refine v_gb1 ?_ ?_ | refine v_gb0 ?_ ?_ | refine And.intro ?_ ?_
      | (with_reducible refine p_ok ?_; decide)
      | ((first | with_reducible first | refine v_region rfl rfl (fun K hK => ?_) | refine v_draws rfl rfl (fun K hK => ?_) | refine v_if (fun A B hA hB => ?_) | refine v_end rfl ?_ | refine v_fin1 ?_ | refine v_finC1 ?_ | refine v_finR1 ?_ | refine v_callE (slices_Contains_int_int_c _ _ ?_) ?_ | refine v_callE (slices_Clone_c _ ?_) ?_ | refine v_finO1 rfl ?_ | refine v_finN1 rfl ?_ ?_ | refine v_apj ?_ (fun j' => ?_) | refine v_stz ?_ ?_ ?_ ?_ ?_ | refine v_stq ?_ | refine v_cv1 ?_ ?_ ?_ | (intro hc; replace fc := And.intro hc fc; try simp only [hcs] at hc)) <;> (try simp (config := { maxSteps := 1000000 }) only [go_sem, ↓reduceIte, reduceCtorEq, Nat.reduceEqDiff, Nat.reduceAdd, Nat.reduceMul, Nat.reduceSub, Nat.reduceLeDiff, Int.reduceLT, Int.reduceLE, Int.reduceEq, Int.reduceSub, Int.reduceAdd, Int.reduceMul, Int.reduceNeg, Int.reduceToNat, h4_6, h4_0, h4_7, h4_10, h4_11, h4_15, h4_16, h4_14, b4_14, h4_4, b4_4, ni4_14, pi4_14, qi4_14, ri4_14, ni4_4, pi4_4, qi4_4, ri4_4, di4_14i4_4, di4_4i4_14, fc]) <;> (try with_reducible rfl))
    all_goals try (first | omega | (simp only [n_i64, n_u8]; omega) | (simp only [n_i64, n_u8, lnA]; omega) | (simp only [lnA]; done))
    · focus
        refine q_lp_n ((fun (v : Nat) => n - v) (v+1)) ?_ ⟨v+1, ?_, ?_, ?_, ?_, ?_, ?_, ?_, ?_, ?_, ?_, ?_, ?_, ?_, rfl⟩
        all_goals (try simp only [go_sem, ↓reduceIte, reduceCtorEq, Nat.reduceEqDiff, Nat.reduceAdd, Nat.reduceMul, Nat.reduceSub, Nat.reduceLeDiff, Int.reduceLT, Int.reduceLE, Int.reduceEq, Int.reduceSub, Int.reduceAdd, Int.reduceMul, Int.reduceNeg, Int.reduceToNat, h4_6, h4_0, h4_7, h4_10, h4_11, h4_15, h4_16, h4_14, b4_14, h4_4, b4_4, ni4_14, pi4_14, qi4_14, ri4_14, ni4_4, pi4_4, qi4_4, ri4_4, di4_14i4_4, di4_4i4_14])
        repeat' refine And.intro ?_ ?_
        all_goals try first | rfl | omega | (simp only [lnA] <;> omega) | ((first | refine stp ?_ | refine dkz_eq ?_ ?_) <;> first | rfl | omega | (simp only [lnA] <;> omega) | (simp only [lnA, List.append_assoc, List.cons_append, List.nil_append]; done) | skip)
      all_goals (rw [extL_succ, hc, if_neg (by decide)] <;> simp only [List.append_assoc, List.length_append, List.length_cons, List.length_nil, Nat.add_assoc])
    · focus
        refine q_lp_n ((fun (v : Nat) => n - v) (v+1)) ?_ ⟨v+1, ?_, ?_, ?_, ?_, ?_, ?_, ?_, ?_, ?_, ?_, ?_, ?_, ?_, rfl⟩
        all_goals (try simp only [go_sem, ↓reduceIte, reduceCtorEq, Nat.reduceEqDiff, Nat.reduceAdd, Nat.reduceMul, Nat.reduceSub, Nat.reduceLeDiff, Int.reduceLT, Int.reduceLE, Int.reduceEq, Int.reduceSub, Int.reduceAdd, Int.reduceMul, Int.reduceNeg, Int.reduceToNat, h4_6, h4_0, h4_7, h4_10, h4_11, h4_15, h4_16, h4_14, b4_14, h4_4, b4_4, ni4_14, pi4_14, qi4_14, ri4_14, ni4_4, pi4_4, qi4_4, ri4_4, di4_14i4_4, di4_4i4_14])
        repeat' refine And.intro ?_ ?_
        all_goals try first | rfl | omega | (simp only [lnA] <;> omega) | ((first | refine stp ?_ | refine dkz_eq ?_ ?_) <;> first | rfl | omega | (simp only [lnA] <;> omega) | (simp only [lnA, List.append_assoc, List.cons_append, List.nil_append]; done) | skip)
      all_goals (rw [extL_succ, hc, if_pos rfl, List.append_nil])
    · focus
        refine q_lp_n ((fun (j : Nat) => (lvl n i [[]]).length - j) (j+1)) ?_ ⟨j+1, ?_, ?_, ?_, ?_, ?_, ?_, ?_, ?_, ?_, ?_, rfl⟩
        all_goals (try simp only [go_sem, ↓reduceIte, reduceCtorEq, Nat.reduceEqDiff, Nat.reduceAdd, Nat.reduceMul, Nat.reduceSub, Nat.reduceLeDiff, Int.reduceLT, Int.reduceLE, Int.reduceEq, Int.reduceSub, Int.reduceAdd, Int.reduceMul, Int.reduceNeg, Int.reduceToNat, h4_6, h4_0, h4_7, h4_10, h4_11, h4_15, h4_16, h4_14, b4_14, h4_4, b4_4, ni4_14, pi4_14, qi4_14, ri4_14, ni4_4, pi4_4, qi4_4, ri4_4, di4_14i4_4, di4_4i4_14])
        repeat' refine And.intro ?_ ?_
        all_goals try first | rfl | omega | (simp only [lnA] <;> omega) | ((first | refine stp ?_ | refine dkz_eq ?_ ?_) <;> first | rfl | omega | (simp only [lnA] <;> omega) | (simp only [lnA, List.append_assoc, List.cons_append, List.nil_append]; done) | skip)
      all_goals (obtain rfl : v = n := by omega)
      all_goals (rw [take_getD (d := []) (by omega), List.flatMap_append]; simp)
    · simp [extL, lackL]
    · simp [extL, lackL]
  · focus
      refine q_lp_n ((fun (i : Nat) => n - i) (i+1)) ?_ ⟨i+1, ?_, ?_, ?_, ?_, ?_, rfl⟩
      all_goals (try simp only [go_sem, ↓reduceIte, reduceCtorEq, Nat.reduceEqDiff, Nat.reduceAdd, Nat.reduceMul, Nat.reduceSub, Nat.reduceLeDiff, Int.reduceLT, Int.reduceLE, Int.reduceEq, Int.reduceSub, Int.reduceAdd, Int.reduceMul, Int.reduceNeg, Int.reduceToNat, h2_0, h2_10, h2_11, h2_15, h2_16, h2_14, b2_14, h2_4, b2_4, ni2_14, pi2_14, qi2_14, ri2_14, ni2_4, pi2_4, qi2_4, ri2_4, di2_14i2_4, di2_4i2_14])
      repeat' refine And.intro ?_ ?_
      all_goals try first | rfl | omega | (simp only [lnA] <;> omega) | ((first | refine stp ?_ | refine dkz_eq ?_ ?_) <;> first | rfl | omega | (simp only [lnA] <;> omega) | (simp only [lnA, List.append_assoc, List.cons_append, List.nil_append]; done) | skip)
    all_goals (rw [lvl_succ, List.take_of_length_le (by omega)])
  · obtain rfl : i = n := by omega
    rfl
def sgFl : FuncId → List Bool := fun f => if f = 96 then [false, false, true] else if f = 8589934688 then [false, true] else []
theorem sgFl_eq {f : FuncId} : sgFl f = if f = 96 then [false, false, true] else if f = 8589934688 then [false, true] else [] := _root_.id rfl
theorem wayE_sgFl : wayE sgFl = false := _root_.id rfl
theorem wayN_sgFl : wayN sgFl = false := _root_.id rfl
theorem wayS_sgFl : wayS sgFl = false := _root_.id rfl
theorem wayZ_sgFl : wayZ sgFl = false := _root_.id rfl
attribute [go_sem] sgFl_eq wayE_sgFl wayN_sgFl wayS_sgFl wayZ_sgFl
theorem spec_l2Fill_c (n : Nat) (h8 : n ≤ 8) : ∀ (d : Nat) (head : List Int) (out : List (List Int)), head.length + d = n → out.length + 8 ^ d ≤ 1099511627776 → CallT Tryd.prog true 96 [.pv (.int .i64 n), .pv (.sl (.lent false) (List.map (PV.int .i64) head)), .mu false (List.map (elI false) out)] [none, none, none] [.sl .own (List.map (elI false) (out ++ lvl n d [head]))] := by
  intro d
  induction d with
  | zero =>
    intro head out hd ho
    refine CallT.of (sg := sgFl) (ts := [6]) mo Tryd.func96 rfl rfl rfl rfl (by kernel_rfl) (by simp only [go_sem]) rfl rfl ?_
    have fc : True := trivial
    repeat' first
      | with_reducible first | refine stp ?_ | refine q_blk_o rfl ?_ | (refine hK _ ?_; clear hK) | (refine hA ?_; clear hA hB) | (refine hB ?_; clear hA hB) | exact v_end0 | exact v_end0' | refine v_gb1 ?_ ?_ | refine v_gb0 ?_ ?_ | refine And.intro ?_ ?_
      | (with_reducible refine p_ok ?_; decide)
      | ((first | with_reducible first | refine v_region rfl rfl (fun K hK => ?_) | refine v_draws rfl rfl (fun K hK => ?_) | refine v_if (fun A B hA hB => ?_) | refine v_end rfl ?_ | refine v_fin1 ?_ | refine v_finC1 ?_ | refine v_finR1 ?_ | refine v_callE (spec_l2Has_c _ _ ?_) ?_ | refine v_finO1 rfl ?_ | refine v_finN1 rfl ?_ ?_ | refine v_finT1 rfl ?_ | refine v_apj ?_ (fun j' => ?_) | refine v_stz ?_ ?_ ?_ ?_ ?_ | refine v_stq ?_ | refine v_cv1 ?_ ?_ ?_ | (intro hc; replace fc := And.intro hc fc; try simp only [hcs] at hc)) <;> (try simp (config := { maxSteps := 1000000 }) only [go_sem, ↓reduceIte, reduceCtorEq, Nat.reduceEqDiff, Nat.reduceAdd, Nat.reduceMul, Nat.reduceSub, Nat.reduceLeDiff, Int.reduceLT, Int.reduceLE, Int.reduceEq, Int.reduceSub, Int.reduceAdd, Int.reduceMul, Int.reduceNeg, Int.reduceToNat, fc]) <;> (try with_reducible rfl))
    all_goals try (first | omega | (simp only [n_i64, n_u8]; omega) | (simp only [n_i64, n_u8, lnA]; omega) | (simp only [lnA]; done))
    rw [List.take_of_length_le (by simp)]; rfl
  | succ d ih =>
    intro head out hd ho
    refine CallT.of (sg := sgFl) (ts := [6]) mo Tryd.func96 rfl rfl rfl rfl (by kernel_rfl) (by simp only [go_sem]) rfl rfl ?_
    have fc : True := trivial
    repeat' first
      | with_reducible first | refine stp ?_ | refine q_blk_o rfl ?_ | (refine hK _ ?_; clear hK) | (refine hA ?_; clear hA hB) | (refine hB ?_; clear hA hB) | exact v_end0 | exact v_end0' | refine v_gb1 ?_ ?_ | refine v_gb0 ?_ ?_ | refine And.intro ?_ ?_
      | (with_reducible refine p_ok ?_; decide)
      | ((first | with_reducible first | refine v_region rfl rfl (fun K hK => ?_) | refine v_draws rfl rfl (fun K hK => ?_) | refine v_if (fun A B hA hB => ?_) | refine v_end rfl ?_ | refine v_fin1 ?_ | refine v_finC1 ?_ | refine v_finR1 ?_ | refine v_callE (spec_l2Has_c _ _ ?_) ?_ | refine v_finO1 rfl ?_ | refine v_finN1 rfl ?_ ?_ | refine v_finT1 rfl ?_ | refine v_apj ?_ (fun j' => ?_) | refine v_stz ?_ ?_ ?_ ?_ ?_ | refine v_stq ?_ | refine v_cv1 ?_ ?_ ?_ | (intro hc; replace fc := And.intro hc fc; try simp only [hcs] at hc)) <;> (try simp (config := { maxSteps := 1000000 }) only [go_sem, ↓reduceIte, reduceCtorEq, Nat.reduceEqDiff, Nat.reduceAdd, Nat.reduceMul, Nat.reduceSub, Nat.reduceLeDiff, Int.reduceLT, Int.reduceLE, Int.reduceEq, Int.reduceSub, Int.reduceAdd, Int.reduceMul, Int.reduceNeg, Int.reduceToNat, fc]) <;> (try with_reducible rfl))
    all_goals try (first | omega | (simp only [n_i64, n_u8]; omega) | (simp only [n_i64, n_u8, lnA]; omega) | (simp only [lnA]; done))
    refine v_loop (fun ms1 S1 => ∃ (v : Nat), S1.e 0 = .p (.int .i64 (n)) ∧ S1.e 1 = .p (.sl (.lent false) (List.map (PV.int .i64) (head))) ∧ OwnM (S1.e 2) S1.h S1.n (elI false) ((out ++ lvl n d (extL head v)).length) (out ++ lvl n d (extL head v)) ∧ S1.e 7 = .p (.int .i64 ((v + 1))) ∧ (v ≤ n) ∧ ms1 = n - v) ((fun (v : Nat) => n - v) (0)) ?init1_3 ?body1_3
    case' init1_3 =>
      refine ⟨0, ?_, ?_, ?_, ?_, ?_, rfl⟩
      all_goals (try simp only [go_sem, ↓reduceIte, reduceCtorEq, Nat.reduceEqDiff, Nat.reduceAdd, Nat.reduceMul, Nat.reduceSub, Nat.reduceLeDiff, Int.reduceLT, Int.reduceLE, Int.reduceEq, Int.reduceSub, Int.reduceAdd, Int.reduceMul, Int.reduceNeg, Int.reduceToNat])
      repeat' refine And.intro ?_ ?_
      all_goals try first | rfl | omega | (simp only [lnA] <;> omega) | ((first | refine stp ?_ | refine dkz_eq ?_ ?_) <;> first | rfl | omega | (simp only [lnA] <;> omega) | (simp only [lnA, List.append_assoc, List.cons_append, List.nil_append]; done) | skip)
    case' body1_3 =>
      rintro ms1 S1 ⟨v, h1_0, h1_1, o1_2, h1_7, c1_0, hm1⟩
      obtain ⟨i1_2, mm1_2, h1_2, b1_2, l1_2⟩ := o1_2.out
      have ni1_2 : ∀ c, (i1_2 = S1.n + c) = False := fun c => eq_false (by omega)
      have pi1_2 : ∀ c, (S1.n + c = i1_2) = False := fun c => eq_false (by omega)
      have qi1_2 : (i1_2 = S1.n) = False := eq_false (by omega)
      have ri1_2 : (S1.n = i1_2) = False := eq_false (by omega)
    have b1 := lvl_len h8 (k := d) (L := extL head v)
    have b2 := extL_len (p := head) (j := v)
    have b3 : (extL head v).length * 8 ^ d ≤ v * 8 ^ d := Nat.mul_le_mul_right _ b2
    have fc : True := trivial
    repeat' first
      | with_reducible first | refine stp ?_ | refine q_blk_o rfl ?_ | (refine hK _ ?_; clear hK) | (refine hA ?_; clear hA hB) | (refine hB ?_; clear hA hB) | exact v_end0 | exact v_end0' | refine v_gb1 ?_ ?_ | refine v_gb0 ?_ ?_ | refine And.intro ?_ ?_
      | (with_reducible refine p_ok ?_; decide)
      | ((first | with_reducible first | refine v_region rfl rfl (fun K hK => ?_) | refine v_draws rfl rfl (fun K hK => ?_) | refine v_if (fun A B hA hB => ?_) | refine v_end rfl ?_ | refine v_fin1 ?_ | refine v_finC1 ?_ | refine v_finR1 ?_ | refine v_callE (spec_l2Has_c _ _ ?_) ?_ | refine v_callN (ih _ _ ?_ ?_) rfl ?_ ?_ | refine v_callT (ih _ _ ?_ ?_) rfl ?_ ?_ | refine v_callTd (ih _ _ ?_ ?_) rfl ?_ ?_ | refine v_callR (ih _ _ ?_ ?_) rfl ?_ ?_ | refine v_callT3 (ih _ _ ?_ ?_) ?_ ?_ | refine v_callT4 (ih _ _ ?_ ?_) ?_ ?_ | refine v_finO1 rfl ?_ | refine v_finN1 rfl ?_ ?_ | refine v_finT1 rfl ?_ | refine v_apj ?_ (fun j' => ?_) | refine v_stz ?_ ?_ ?_ ?_ ?_ | refine v_stq ?_ | refine v_cv1 ?_ ?_ ?_ | (intro hc; replace fc := And.intro hc fc; try simp only [hcs] at hc)) <;> (try simp (config := { maxSteps := 1000000 }) only [go_sem, ↓reduceIte, reduceCtorEq, Nat.reduceEqDiff, Nat.reduceAdd, Nat.reduceMul, Nat.reduceSub, Nat.reduceLeDiff, Int.reduceLT, Int.reduceLE, Int.reduceEq, Int.reduceSub, Int.reduceAdd, Int.reduceMul, Int.reduceNeg, Int.reduceToNat, h1_0, h1_1, h1_7, h1_2, b1_2, ni1_2, pi1_2, qi1_2, ri1_2, fc]) <;> (try with_reducible rfl))
    all_goals try (first | omega | (simp only [n_i64, n_u8]; omega) | (simp only [n_i64, n_u8, lnA]; omega) | (simp only [lnA]; done))
    · have b4 := Nat.mul_le_mul_right (8 ^ d) (show v + 1 ≤ 8 by omega)
      have b5 : 8 ^ (d + 1) = 8 * 8 ^ d := by rw [Nat.pow_succ, Nat.mul_comm]
      rw [Nat.succ_mul] at b4
      rw [List.length_append]; omega
    · focus
        refine q_lp_n ((fun (v : Nat) => n - v) (v+1)) ?_ ⟨v+1, ?_, ?_, ?_, ?_, ?_, rfl⟩
        all_goals (try simp only [go_sem, ↓reduceIte, reduceCtorEq, Nat.reduceEqDiff, Nat.reduceAdd, Nat.reduceMul, Nat.reduceSub, Nat.reduceLeDiff, Int.reduceLT, Int.reduceLE, Int.reduceEq, Int.reduceSub, Int.reduceAdd, Int.reduceMul, Int.reduceNeg, Int.reduceToNat, h1_0, h1_1, h1_7, h1_2, b1_2, ni1_2, pi1_2, qi1_2, ri1_2])
        repeat' refine And.intro ?_ ?_
        all_goals try first | rfl | omega | (simp only [lnA] <;> omega) | ((first | refine stp ?_ | refine dkz_eq ?_ ?_) <;> first | rfl | omega | (simp only [lnA] <;> omega) | (simp only [lnA, List.append_assoc, List.cons_append, List.nil_append]; done) | skip)
      all_goals (rw [extL_succ, hc, if_neg (by decide), lvl_app]; try simp only [tk1, List.length_append, List.append_assoc, Nat.add_assoc])
    · focus
        refine q_lp_n ((fun (v : Nat) => n - v) (v+1)) ?_ ⟨v+1, ?_, ?_, ?_, ?_, ?_, rfl⟩
        all_goals (try simp only [go_sem, ↓reduceIte, reduceCtorEq, Nat.reduceEqDiff, Nat.reduceAdd, Nat.reduceMul, Nat.reduceSub, Nat.reduceLeDiff, Int.reduceLT, Int.reduceLE, Int.reduceEq, Int.reduceSub, Int.reduceAdd, Int.reduceMul, Int.reduceNeg, Int.reduceToNat, h1_0, h1_1, h1_7, h1_2, b1_2, ni1_2, pi1_2, qi1_2, ri1_2])
        repeat' refine And.intro ?_ ?_
        all_goals try first | rfl | omega | (simp only [lnA] <;> omega) | ((first | refine stp ?_ | refine dkz_eq ?_ ?_) <;> first | rfl | omega | (simp only [lnA] <;> omega) | (simp only [lnA, List.append_assoc, List.cons_append, List.nil_append]; done) | skip)
      all_goals (rw [extL_succ, hc, if_pos rfl, List.append_nil])
    · obtain rfl : v = n := by omega
      rw [lvl, List.flatMap_cons, List.flatMap_nil, List.append_nil]
    · rw [show extL head 0 = [] by simp [extL, lackL], lvl_nil, List.append_nil]
    · rw [show extL head 0 = [] by simp [extL, lackL], lvl_nil, List.append_nil]
def permsB (n : Int) : List (List Int) := if 0 ≤ n ∧ n ≤ 6 then permL n.toNat else []
theorem spec_PermsOf_c (n : Int) : Fun Tryd.prog 59 [(.int .i64 (n))] [(.sl .own (List.map (elI false) (permsB n)))] := by
  have h8 := fun (a : 0 ≤ n) (b : n ≤ 6) => spec_l2Fill_c n.toNat (by omega) n.toNat [] [] (Nat.zero_add _) (by have h2 : 8 ^ n.toNat ≤ 8 ^ 8 := Nat.pow_le_pow_right (by omega) (by omega); simp only [List.length_nil, Nat.zero_add]; omega)
  by_cases hn : 0 ≤ n ∧ n ≤ 6
  · have h9 := h8 hn.1 hn.2
    rw [show ((n.toNat : Nat) : Int) = n by omega] at h9
    have h10 : permsB n = lvl n.toNat n.toNat [[]] := by rw [permsB, if_pos hn]; rfl
    rw [h10]
    simp only [List.map_nil, List.nil_append] at h9
    refine Fun.of (sg := sgFl) (ts := [2]) mo Tryd.func59 rfl rfl rfl rfl (by kernel_rfl) (by simp only [go_sem]) rfl ?_
    have fc : True := trivial
    repeat' first
      | with_reducible first | refine stp ?_ | refine q_blk_o rfl ?_ | (refine hK _ ?_; clear hK) | (refine hA ?_; clear hA hB) | (refine hB ?_; clear hA hB) | exact v_end0 | exact v_end0' | refine v_gb1 ?_ ?_ | refine v_gb0 ?_ ?_ | refine And.intro ?_ ?_
      | (with_reducible refine p_ok ?_; decide)
      | ((first | with_reducible first | refine v_region rfl rfl (fun K hK => ?_) | refine v_draws rfl rfl (fun K hK => ?_) | refine v_if (fun A B hA hB => ?_) | refine v_end rfl ?_ | refine v_fin1 ?_ | refine v_finC1 ?_ | refine v_finR1 ?_ | refine v_callE (spec_l1In_c _ _ _) ?_ | refine v_callN (h9) rfl ?_ ?_ | refine v_callT (h9) rfl ?_ ?_ | refine v_callTd (h9) rfl ?_ ?_ | refine v_callR (h9) rfl ?_ ?_ | refine v_callT3 (h9) ?_ ?_ | refine v_callT4 (h9) ?_ ?_ | refine v_finO1 rfl ?_ | refine v_finN1 rfl ?_ ?_ | refine v_apj ?_ (fun j' => ?_) | refine v_stz ?_ ?_ ?_ ?_ ?_ | refine v_stq ?_ | refine v_cv1 ?_ ?_ ?_ | (intro hc; replace fc := And.intro hc fc; try simp only [hcs] at hc)) <;> (try simp (config := { maxSteps := 1000000 }) only [go_sem, ↓reduceIte, reduceCtorEq, Nat.reduceEqDiff, Nat.reduceAdd, Nat.reduceMul, Nat.reduceSub, Nat.reduceLeDiff, Int.reduceLT, Int.reduceLE, Int.reduceEq, Int.reduceSub, Int.reduceAdd, Int.reduceMul, Int.reduceNeg, Int.reduceToNat, fc]) <;> (try with_reducible rfl))
    all_goals try (first | omega | (simp only [n_i64, n_u8]; omega) | (simp only [n_i64, n_u8, lnA]; omega) | (simp only [lnA]; done))
  · have h10 : permsB n = [] := by rw [permsB, if_neg hn]
    rw [h10]
    refine Fun.of (sg := sgFl) (ts := [2]) mo Tryd.func59 rfl rfl rfl rfl (by kernel_rfl) (by simp only [go_sem]) rfl ?_
    have fc : True := trivial
    repeat' first
      | with_reducible first | refine stp ?_ | refine q_blk_o rfl ?_ | (refine hK _ ?_; clear hK) | (refine hA ?_; clear hA hB) | (refine hB ?_; clear hA hB) | exact v_end0 | exact v_end0' | refine v_gb1 ?_ ?_ | refine v_gb0 ?_ ?_ | refine And.intro ?_ ?_
      | (with_reducible refine p_ok ?_; decide)
      | ((first | with_reducible first | refine v_region rfl rfl (fun K hK => ?_) | refine v_draws rfl rfl (fun K hK => ?_) | refine v_if (fun A B hA hB => ?_) | refine v_end rfl ?_ | refine v_fin1 ?_ | refine v_finC1 ?_ | refine v_finR1 ?_ | refine v_callE (spec_l1In_c _ _ _) ?_ | refine v_finO1 rfl ?_ | refine v_finN1 rfl ?_ ?_ | refine v_apj ?_ (fun j' => ?_) | refine v_stz ?_ ?_ ?_ ?_ ?_ | refine v_stq ?_ | refine v_cv1 ?_ ?_ ?_ | (intro hc; replace fc := And.intro hc fc; try simp only [hcs] at hc)) <;> (try simp (config := { maxSteps := 1000000 }) only [go_sem, ↓reduceIte, reduceCtorEq, Nat.reduceEqDiff, Nat.reduceAdd, Nat.reduceMul, Nat.reduceSub, Nat.reduceLeDiff, Int.reduceLT, Int.reduceLE, Int.reduceEq, Int.reduceSub, Int.reduceAdd, Int.reduceMul, Int.reduceNeg, Int.reduceToNat, fc]) <;> (try with_reducible rfl))
    all_goals exact absurd hc hn
end Go.Gl
