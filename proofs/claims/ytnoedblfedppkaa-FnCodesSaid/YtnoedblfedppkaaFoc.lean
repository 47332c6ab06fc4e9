/-
  The form of a code. Conditions: none.
-/
import Derived.Test.YtnoedblfedppkaaSrtI
import Derived.Test.YtnoedblfedppkaaSym
import Derived.Test.YtnoedblfedppkaaLibL
set_option linter.unusedSimpArgs false
set_option linter.unusedVariables false
set_option maxRecDepth 20000
set_option linter.unusedSectionVars false
namespace Go.Gl
open Go Go.Proofs
variable [Amb]
theorem fi_snoc {p : Int → Bool} {L : List Int} {j : Nat} (h : j < L.length) : (L.take (j + 1)).filter p = (L.take j).filter p ++ if p (L.getD j 0) = true then [L.getD j 0] else [] := by
  rw [take_getD (d := 0) h, List.filter_append, List.filter_cons]
  cases p (L.getD j 0) <;> rfl
theorem takeI_mem {L : List Int} {j : Nat} {x : Int} (h : x ∈ L.take j) : ∃ i, i < j ∧ i < L.length ∧ L.getD i 0 = x := by
  obtain ⟨i, hi, e⟩ := List.getElem_of_mem h
  simp only [List.length_take] at hi
  refine ⟨i, by omega, by omega, ?_⟩
  rw [List.getElem_take] at e
  rw [List.getD_eq_getElem?_getD, List.getElem?_eq_getElem (by omega)]; exact e
def kpI (p : Int → Bool) (L : List Int) : List Int := L.filter fun x => !p x
theorem idxI_spec {p : Int → Bool} {l : List Int} : (idxP p l 0 = -1 ∧ ∀ x ∈ l, p x = false) ∨ ∃ k, k < l.length ∧ idxP p l 0 = 0 + (k : Int) ∧ p (l.getD k 0) = true ∧ ∀ j, j < k → p (l.getD j 0) = false := by
  have e : idxP p l 0 = idxG p l 0 := by
    have : ∀ (l : List Int) (i : Nat), idxP p l i = idxG p l i := fun l => by
      induction l with
      | nil => intro i; rfl
      | cons x l ih => intro i; simp only [idxP, idxG, ih]
    exact this l 0
  rw [e]
  exact idxG_spec
def sgDI : FuncId → List Bool := fun f => []
theorem sgDI_eq {f : FuncId} : sgDI f = [] := _root_.id rfl
theorem wayE_sgDI : wayE sgDI = false := _root_.id rfl
theorem wayN_sgDI : wayN sgDI = false := _root_.id rfl
theorem wayS_sgDI : wayS sgDI = false := _root_.id rfl
theorem wayZ_sgDI : wayZ sgDI = false := _root_.id rfl
attribute [go_sem] sgDI_eq wayE_sgDI wayN_sgDI wayS_sgDI wayZ_sgDI
theorem slices_DeleteFunc_int_int_c (L : List Int) (g : FuncId) (caps : List PV) (p : Int → Bool) (hl : L.length ≤ 1099511627776) (hp : ∀ x ∈ L, Fun Try.prog g (.int .i64 x :: caps.map PV.cell) [.bool (p x)]) : CallT Try.prog true 165 [.mu false (List.map (PV.int .i64) (L)), .pv (.fn g [] caps)] [none, none] [(.sl .own (List.map (PV.int .i64) (kpI p L)))] := by
  refine CallT.of (sg := sgDI) (ts := [4]) mo Try.func165 rfl rfl rfl rfl (by kernel_rfl) (by simp only [go_sem]) rfl (by simp only [go_sem]) ?_
  rcases idxI_spec (p := p) (l := L) with ⟨h1, h2⟩ | ⟨k0, h1, h2, h3, h4⟩
  · have e1 : kpI p L = L := List.filter_eq_self.2 fun x hx => by rw [h2 x hx]; rfl
    have fc : True := trivial
    repeat' first
      | with_reducible first | refine stp ?_ | refine q_blk_o rfl ?_ | (refine hK _ ?_; clear hK) | (refine hA ?_; clear hA hB) | (refine hB ?_; clear hA hB) | exact v_end0 | exact v_end0' | refine v_gb1 ?_ ?_ | refine v_gb0 ?_ ?_ | refine And.intro ?_ ?_
      | (with_reducible refine p_ok ?_; decide)
      | ((first | with_reducible first | refine v_region rfl rfl (fun K hK => ?_) | refine v_draws rfl rfl (fun K hK => ?_) | refine v_if (fun A B hA hB => ?_) | refine v_end rfl ?_ | refine v_fin1 ?_ | refine v_finC1 ?_ | refine v_finR1 ?_ | refine v_callE (slices_IndexFunc_int_int_c L g caps p hl hp) ?_ | refine v_callE (slices_IndexFunc_int_int_c _ _ _ _ ?_ ?_) ?_ | refine v_finO1 rfl ?_ | refine v_finN1 rfl ?_ ?_ | refine v_finT1 rfl ?_ | refine v_apj ?_ (fun j' => ?_) | refine v_stz ?_ ?_ ?_ ?_ ?_ | refine v_stq ?_ | refine v_cv1 ?_ ?_ ?_ | (intro hc; replace fc := And.intro hc fc; try simp only [hcs] at hc)) <;> (try simp (config := { maxSteps := 1000000 }) only [go_sem, ↓reduceIte, reduceCtorEq, Nat.reduceEqDiff, Nat.reduceAdd, Nat.reduceMul, Nat.reduceSub, Nat.reduceLeDiff, Int.reduceLT, Int.reduceLE, Int.reduceEq, Int.reduceSub, Int.reduceAdd, Int.reduceMul, Int.reduceNeg, Int.reduceToNat, h1, fc]) <;> (try with_reducible rfl))
    all_goals try (first | omega | (simp only [n_i64, n_u8]; omega) | (simp only [n_i64, n_u8, lnA]; omega) | (simp only [lnA]; done))
    exact e1.symm
  · have fc : True := trivial
    repeat' first
      | with_reducible first | refine stp ?_ | refine q_blk_o rfl ?_ | (refine hK _ ?_; clear hK) | (refine hA ?_; clear hA hB) | (refine hB ?_; clear hA hB) | exact v_end0 | exact v_end0' | refine v_gb1 ?_ ?_ | refine v_gb0 ?_ ?_ | refine And.intro ?_ ?_
      | (with_reducible refine p_ok ?_; decide)
      | ((first | with_reducible first | refine v_region rfl rfl (fun K hK => ?_) | refine v_draws rfl rfl (fun K hK => ?_) | refine v_if (fun A B hA hB => ?_) | refine v_end rfl ?_ | refine v_fin1 ?_ | refine v_finC1 ?_ | refine v_finR1 ?_ | refine v_callE (slices_IndexFunc_int_int_c L g caps p hl hp) ?_ | refine v_callE (slices_IndexFunc_int_int_c _ _ _ _ ?_ ?_) ?_ | refine v_finO1 rfl ?_ | refine v_finN1 rfl ?_ ?_ | refine v_finT1 rfl ?_ | refine v_apj ?_ (fun j' => ?_) | refine v_stz ?_ ?_ ?_ ?_ ?_ | refine v_stq ?_ | refine v_cv1 ?_ ?_ ?_ | (intro hc; replace fc := And.intro hc fc; try simp only [hcs] at hc)) <;> (try simp (config := { maxSteps := 1000000 }) only [go_sem, ↓reduceIte, reduceCtorEq, Nat.reduceEqDiff, Nat.reduceAdd, Nat.reduceMul, Nat.reduceSub, Nat.reduceLeDiff, Int.reduceLT, Int.reduceLE, Int.reduceEq, Int.reduceSub, Int.reduceAdd, Int.reduceMul, Int.reduceNeg, Int.reduceToNat, h2, fc]) <;> (try with_reducible rfl))
    all_goals try (first | omega | (simp only [n_i64, n_u8]; omega) | (simp only [n_i64, n_u8, lnA]; omega) | (simp only [lnA]; done))
    have e0 : kpI p (L.take (k0 + 1)) = L.take k0 := by
      rw [kpI, fi_snoc (by omega), h3]
      simp only [Bool.not_true, Bool.false_eq_true, if_false, List.append_nil]
      exact List.filter_eq_self.2 fun x hx => by
        obtain ⟨i, hi, _, rfl⟩ := takeI_mem hx
        rw [h4 i hi]; rfl
    have e9 : (L.take k0).length = k0 := by simp; omega
    refine v_loop (fun ms1 S1 => ∃ (j : Nat) (Y : List Int), S1.e 0 = .ref 0 0 (Y).length ∧ S1.h 0 = .live true (List.map (PV.int .i64) (Y)) ∧ 0 < S1.n ∧ S1.e 1 = .p (.fn g [] caps) ∧ S1.e 5 = .p (.int .i64 ((kpI p (L.take j)).length)) ∧ S1.e 6 = .p (.int .i64 (j)) ∧ (Y.length = L.length) ∧ (j ≤ L.length) ∧ (k0 < j) ∧ (Y.take (kpI p (L.take j)).length = kpI p (L.take j)) ∧ ((kpI p (L.take j)).length < j) ∧ (∀ q, j ≤ q → q < L.length → Y.getD q 0 = L.getD q 0) ∧ ms1 = L.length - j) ((fun (j : Nat) (Y : List Int) => L.length - j) (k0 + 1) (L)) ?init1_0 ?body1_0
    case' init1_0 =>
      refine ⟨k0 + 1, L, ?_, ?_, ?_, ?_, ?_, ?_, ?_, ?_, ?_, ?_, ?_, ?_, rfl⟩
      all_goals (try simp only [go_sem, ↓reduceIte, reduceCtorEq, Nat.reduceEqDiff, Nat.reduceAdd, Nat.reduceMul, Nat.reduceSub, Nat.reduceLeDiff, Int.reduceLT, Int.reduceLE, Int.reduceEq, Int.reduceSub, Int.reduceAdd, Int.reduceMul, Int.reduceNeg, Int.reduceToNat])
      repeat' refine And.intro ?_ ?_
      all_goals try first | rfl | omega | (simp only [lnA] <;> omega) | ((first | refine stp ?_ | refine dkz_eq ?_ ?_) <;> first | rfl | omega | (simp only [lnA] <;> omega) | (simp only [lnA, List.append_assoc, List.cons_append, List.nil_append]; done) | skip)
    case' body1_0 =>
      rintro ms1 S1 ⟨j, Y, h1_0, b1_0, l1_0, h1_1, h1_5, h1_6, c1_0, c1_1, c1_2, c1_3, c1_4, c1_5, hm1⟩
      have n0 : ∀ c, (0 = S1.n + c) = False := fun c => eq_false (by omega)
      have p0 : ∀ c, (S1.n + c = 0) = False := fun c => eq_false (by omega)
      have q0 : (0 = S1.n) = False := eq_false (by omega)
      have r0 : (S1.n = 0) = False := eq_false (by omega)
    by_cases hj : j < L.length
    · have f1 := c1_5 j (Nat.le_refl _) hj
      have fc : True := trivial
      repeat' first
        | with_reducible first | refine stp ?_ | refine q_blk_o rfl ?_ | (refine hK _ ?_; clear hK) | (refine hA ?_; clear hA hB) | (refine hB ?_; clear hA hB) | exact v_end0 | exact v_end0' | refine v_gb1 ?_ ?_ | refine v_gb0 ?_ ?_ | refine And.intro ?_ ?_
        | (with_reducible refine p_ok ?_; decide)
        | ((first | with_reducible first | refine v_region rfl rfl (fun K hK => ?_) | refine v_draws rfl rfl (fun K hK => ?_) | refine v_if (fun A B hA hB => ?_) | refine v_end rfl ?_ | refine v_fin1 ?_ | refine v_finC1 ?_ | refine v_finR1 ?_ | refine v_callE (hp _ ?_) ?_ | refine v_callE (slices_IndexFunc_int_int_c _ _ _ _ ?_ ?_) ?_ | refine v_finO1 rfl ?_ | refine v_finN1 rfl ?_ ?_ | refine v_finT1 rfl ?_ | refine v_apj ?_ (fun j' => ?_) | refine v_stz ?_ ?_ ?_ ?_ ?_ | refine v_stq ?_ | refine v_cv1 ?_ ?_ ?_ | (intro hc; replace fc := And.intro hc fc; try simp only [hcs] at hc)) <;> (try simp (config := { maxSteps := 1000000 }) only [go_sem, ↓reduceIte, reduceCtorEq, Nat.reduceEqDiff, Nat.reduceAdd, Nat.reduceMul, Nat.reduceSub, Nat.reduceLeDiff, Int.reduceLT, Int.reduceLE, Int.reduceEq, Int.reduceSub, Int.reduceAdd, Int.reduceMul, Int.reduceNeg, Int.reduceToNat, h1_0, b1_0, h1_1, h1_5, h1_6, n0, p0, q0, r0, f1, c1_0, fc]) <;> (try with_reducible rfl))
      all_goals try (first | omega | (simp only [n_i64, n_u8]; omega) | (simp only [n_i64, n_u8, lnA]; omega) | (simp only [lnA]; done))
      · exact getD_mem hj
      · have s1 : kpI p (L.take (j + 1)) = kpI p (L.take j) ++ [L.getD j 0] := by rw [kpI, fi_snoc hj, hc]; rfl
        have s2 : (kpI p (L.take (j + 1))).length = (kpI p (L.take j)).length + 1 := by rw [s1, List.length_append]; rfl
        focus
          refine q_lp_n ((fun (j : Nat) (Y : List Int) => L.length - j) (j+1) (Y.set (kpI p (L.take j)).length (L.getD j 0))) ?_ ⟨j+1, Y.set (kpI p (L.take j)).length (L.getD j 0), ?_, ?_, ?_, ?_, ?_, ?_, ?_, ?_, ?_, ?_, ?_, ?_, rfl⟩
          all_goals (try simp only [go_sem, ↓reduceIte, reduceCtorEq, Nat.reduceEqDiff, Nat.reduceAdd, Nat.reduceMul, Nat.reduceSub, Nat.reduceLeDiff, Int.reduceLT, Int.reduceLE, Int.reduceEq, Int.reduceSub, Int.reduceAdd, Int.reduceMul, Int.reduceNeg, Int.reduceToNat, h1_0, b1_0, h1_1, h1_5, h1_6, n0, p0, q0, r0])
          repeat' refine And.intro ?_ ?_
          all_goals try first | rfl | omega | (simp only [lnA] <;> omega) | ((first | refine stp ?_ | refine dkz_eq ?_ ?_) <;> first | rfl | omega | (simp only [lnA] <;> omega) | (simp only [lnA, List.append_assoc, List.cons_append, List.nil_append]; done) | skip)
        all_goals first | (rw [s2, set_take' (by omega), c1_3, s1]; done) | (rw [s2]; done) | (rw [s2]; simp; done) | omega | (intro q h5 h6; rw [List.getD_eq_getElem?_getD, List.getElem?_set_ne (by omega), ← List.getD_eq_getElem?_getD]; exact c1_5 q (by omega) h6) | skip
      · have s1 : kpI p (L.take (j + 1)) = kpI p (L.take j) := by rw [kpI, fi_snoc hj, hc]; simp [kpI]
        focus
          refine q_lp_n ((fun (j : Nat) (Y : List Int) => L.length - j) (j+1) (Y)) ?_ ⟨j+1, Y, ?_, ?_, ?_, ?_, ?_, ?_, ?_, ?_, ?_, ?_, ?_, ?_, rfl⟩
          all_goals (try simp only [go_sem, ↓reduceIte, reduceCtorEq, Nat.reduceEqDiff, Nat.reduceAdd, Nat.reduceMul, Nat.reduceSub, Nat.reduceLeDiff, Int.reduceLT, Int.reduceLE, Int.reduceEq, Int.reduceSub, Int.reduceAdd, Int.reduceMul, Int.reduceNeg, Int.reduceToNat, h1_0, b1_0, h1_1, h1_5, h1_6, n0, p0, q0, r0])
          repeat' refine And.intro ?_ ?_
          all_goals try first | rfl | omega | (simp only [lnA] <;> omega) | ((first | refine stp ?_ | refine dkz_eq ?_ ?_) <;> first | rfl | omega | (simp only [lnA] <;> omega) | (simp only [lnA, List.append_assoc, List.cons_append, List.nil_append]; done) | skip)
        all_goals first | (rw [s1]; done) | (rw [s1]; exact c1_3) | (rw [s1]; omega) | (intro q h5 h6; exact c1_5 q (by omega) h6) | skip
    · have fc : True := trivial
      repeat' first
        | with_reducible first | refine stp ?_ | refine q_blk_o rfl ?_ | (refine hK _ ?_; clear hK) | (refine hA ?_; clear hA hB) | (refine hB ?_; clear hA hB) | exact v_end0 | exact v_end0' | refine v_gb1 ?_ ?_ | refine v_gb0 ?_ ?_ | refine And.intro ?_ ?_
        | (with_reducible refine p_ok ?_; decide)
        | ((first | with_reducible first | refine v_region rfl rfl (fun K hK => ?_) | refine v_draws rfl rfl (fun K hK => ?_) | refine v_if (fun A B hA hB => ?_) | refine v_end rfl ?_ | refine v_fin1 ?_ | refine v_finC1 ?_ | refine v_finR1 ?_ | refine v_callE (hp _ ?_) ?_ | refine v_callE (slices_IndexFunc_int_int_c _ _ _ _ ?_ ?_) ?_ | refine v_finO1 rfl ?_ | refine v_finN1 rfl ?_ ?_ | refine v_finT1 rfl ?_ | refine v_apj ?_ (fun j' => ?_) | refine v_stz ?_ ?_ ?_ ?_ ?_ | refine v_stq ?_ | refine v_cv1 ?_ ?_ ?_ | (intro hc; replace fc := And.intro hc fc; try simp only [hcs] at hc)) <;> (try simp (config := { maxSteps := 1000000 }) only [go_sem, ↓reduceIte, reduceCtorEq, Nat.reduceEqDiff, Nat.reduceAdd, Nat.reduceMul, Nat.reduceSub, Nat.reduceLeDiff, Int.reduceLT, Int.reduceLE, Int.reduceEq, Int.reduceSub, Int.reduceAdd, Int.reduceMul, Int.reduceNeg, Int.reduceToNat, h1_0, b1_0, h1_1, h1_5, h1_6, n0, p0, q0, r0, c1_0, fc]) <;> (try with_reducible rfl))
      all_goals try (first | omega | (simp only [n_i64, n_u8]; omega) | (simp only [n_i64, n_u8, lnA]; omega) | (simp only [lnA]; done))
      have g2 : (kpI p (L.take j)).length ≤ (List.take (kpI p (L.take j)).length Y).length := by rw [List.length_take]; omega
      rw [List.take_append_of_le_length g2, List.take_take, Nat.min_self, c1_3, List.take_of_length_le (by omega)]
    · rw [e0, e9]; omega
    · rw [e0, e9]
    · rw [e0, e9]; omega
theorem tki_mid {L D : List Int} {p : Int} {j : Nat} (h : j ≤ L.length) : List.take (j + 1) (L.take j ++ p :: D) = L.take j ++ [p] := by
  rw [List.take_append, List.take_of_length_le (by simp; omega), List.length_take, Nat.min_eq_left h, Nat.add_sub_cancel_left]; rfl
theorem insI_at {L : List Int} {p : Int} {j : Nat} (h1 : j ≤ L.length) (h2 : ∀ q, j ≤ q → q < L.length → p < L.getD q 0) (h3 : 0 < j → ¬ p < L.getD (j - 1) 0) : insI L p = L.take j ++ p :: L.drop j := by
  rw [insI, atI_uniq h1 h2 h3]; rfl
theorem spec_l15Sort_c {m0 : Bool} (l : List Int) (hl : l.length ≤ 1000) : Fun Try.prog 167 [(.sl (.lent m0) (List.map (PV.int .i64) (l)))] [(.sl .own (List.map (PV.int .i64) (srtI l)))] := by
  refine Fun.of (sg := sg0) (ts := [2]) mo Try.func167 rfl rfl rfl rfl (by kernel_rfl) (by simp only [go_sem]) rfl ?_
  have fc : True := trivial
  repeat' first
    | with_reducible first | refine stp ?_ | refine q_blk_o rfl ?_ | (refine hK _ ?_; clear hK) | (refine hA ?_; clear hA hB) | (refine hB ?_; clear hA hB) | exact v_end0 | exact v_end0' | refine v_gb1 ?_ ?_ | refine v_gb0 ?_ ?_ | refine And.intro ?_ ?_
    | (with_reducible refine hK _ _ ?_ ?_; focus (first | exact clearAll_quiet rfl | (refine clearAll_of [false, false, false, false, false, false, false, true, true, false, true, false] [(0, 7), (1, 7), (2, 7), (7, 9), (8, 9)] rfl (by decide +kernel) ?_; try simp only [go_sem, ↓reduceIte, reduceCtorEq, Nat.reduceEqDiff, Nat.reduceAdd, Nat.reduceMul, Nat.reduceSub, Nat.reduceLeDiff, Int.reduceLT, Int.reduceLE, Int.reduceEq, Int.reduceSub, Int.reduceAdd, Int.reduceMul, Int.reduceNeg, Int.reduceToNat])); all_goals (try clear hK))
    | (with_reducible refine p_ok ?_; decide)
    | ((first | with_reducible first | refine v_region rfl rfl (fun K hK => ?_) | refine v_draws rfl rfl (fun K hK => ?_) | refine v_if (fun A B hA hB => ?_) | refine v_end rfl ?_ | refine v_fin1 ?_ | refine v_finC1 ?_ | refine v_finR1 ?_ | refine v_finO1 rfl ?_ | refine v_finN1 rfl ?_ ?_ | refine v_apj ?_ (fun j' => ?_) | refine v_stz ?_ ?_ ?_ ?_ ?_ | refine v_stq ?_ | refine v_cv1 ?_ ?_ ?_ | (intro hc; replace fc := And.intro hc fc; try simp only [hcs] at hc)) <;> (try simp (config := { maxSteps := 1000000 }) only [go_sem, ↓reduceIte, reduceCtorEq, Nat.reduceEqDiff, Nat.reduceAdd, Nat.reduceMul, Nat.reduceSub, Nat.reduceLeDiff, Int.reduceLT, Int.reduceLE, Int.reduceEq, Int.reduceSub, Int.reduceAdd, Int.reduceMul, Int.reduceNeg, Int.reduceToNat, fc]) <;> (try with_reducible rfl))
  all_goals try (first | omega | (simp only [n_i64, n_u8]; omega) | (simp only [n_i64, n_u8, lnA]; omega) | (simp only [lnA]; done))
  refine v_loop (fun ms1 S1 => ∃ (k : Nat), S1.e 0 = .p (.sl (.lent m0) (List.map (PV.int .i64) (l))) ∧ OwnL (S1.e 3) S1.h S1.n (PV.int .i64) ((srtI (l.take k)).length) (srtI (l.take k)) ∧ S1.e 4 = .p (.int .i64 (k)) ∧ (k ≤ l.length) ∧ ms1 = l.length - k) ((fun (k : Nat) => l.length - k) (0)) ?init1_1 ?body1_1
  case' init1_1 =>
    refine ⟨0, ?_, ?_, ?_, ?_, rfl⟩
    all_goals (try simp only [go_sem, ↓reduceIte, reduceCtorEq, Nat.reduceEqDiff, Nat.reduceAdd, Nat.reduceMul, Nat.reduceSub, Nat.reduceLeDiff, Int.reduceLT, Int.reduceLE, Int.reduceEq, Int.reduceSub, Int.reduceAdd, Int.reduceMul, Int.reduceNeg, Int.reduceToNat])
    repeat' refine And.intro ?_ ?_
    all_goals try first | rfl | omega | (simp only [lnA] <;> omega) | ((first | refine stp ?_ | refine dkz_eq ?_ ?_) <;> first | rfl | omega | (simp only [lnA] <;> omega) | (simp only [lnA, List.append_assoc, List.cons_append, List.nil_append]; done) | skip)
  case' body1_1 =>
    rintro ms1 S1 ⟨k, h1_0, o1_3, h1_4, c1_0, hm1⟩
    obtain ⟨i1_3, h1_3, b1_3, l1_3⟩ := o1_3.out
    have ni1_3 : ∀ c, (i1_3 = S1.n + c) = False := fun c => eq_false (by omega)
    have pi1_3 : ∀ c, (S1.n + c = i1_3) = False := fun c => eq_false (by omega)
    have qi1_3 : (i1_3 = S1.n) = False := eq_false (by omega)
    have ri1_3 : (S1.n = i1_3) = False := eq_false (by omega)
  · have e0 := srtI_tl (L := l) (i := k) (by omega)
    have fc : True := trivial
    repeat' first
      | with_reducible first | refine stp ?_ | refine q_blk_o rfl ?_ | (refine hK _ ?_; clear hK) | (refine hA ?_; clear hA hB) | (refine hB ?_; clear hA hB) | exact v_end0 | exact v_end0' | refine v_gb1 ?_ ?_ | refine v_gb0 ?_ ?_ | refine And.intro ?_ ?_
      | (with_reducible refine hK _ _ ?_ ?_; focus (first | exact clearAll_quiet rfl | (refine clearAll_of [false, false, false, false, false, false, false, true, true, false, true, false] [(0, 7), (1, 7), (2, 7), (7, 9), (8, 9)] rfl (by decide +kernel) ?_; try simp only [go_sem, ↓reduceIte, reduceCtorEq, Nat.reduceEqDiff, Nat.reduceAdd, Nat.reduceMul, Nat.reduceSub, Nat.reduceLeDiff, Int.reduceLT, Int.reduceLE, Int.reduceEq, Int.reduceSub, Int.reduceAdd, Int.reduceMul, Int.reduceNeg, Int.reduceToNat, h1_0, h1_4, h1_3, b1_3, ni1_3, pi1_3, qi1_3, ri1_3, e0])); all_goals (try clear hK))
      | (with_reducible refine p_ok ?_; decide)
      | ((first | with_reducible first | refine v_region rfl rfl (fun K hK => ?_) | refine v_draws rfl rfl (fun K hK => ?_) | refine v_if (fun A B hA hB => ?_) | refine v_end rfl ?_ | refine v_fin1 ?_ | refine v_finC1 ?_ | refine v_finR1 ?_ | refine v_finO1 rfl ?_ | refine v_finN1 rfl ?_ ?_ | refine v_apj ?_ (fun j' => ?_) | refine v_stz ?_ ?_ ?_ ?_ ?_ | refine v_stq ?_ | refine v_cv1 ?_ ?_ ?_ | (intro hc; replace fc := And.intro hc fc; try simp only [hcs] at hc)) <;> (try simp (config := { maxSteps := 1000000 }) only [go_sem, ↓reduceIte, reduceCtorEq, Nat.reduceEqDiff, Nat.reduceAdd, Nat.reduceMul, Nat.reduceSub, Nat.reduceLeDiff, Int.reduceLT, Int.reduceLE, Int.reduceEq, Int.reduceSub, Int.reduceAdd, Int.reduceMul, Int.reduceNeg, Int.reduceToNat, h1_0, h1_4, h1_3, b1_3, ni1_3, pi1_3, qi1_3, ri1_3, e0, fc]) <;> (try with_reducible rfl))
    all_goals try (first | omega | (simp only [n_i64, n_u8]; omega) | (simp only [n_i64, n_u8, lnA]; omega) | (simp only [lnA]; done))
    · refine v_loop (fun ms2 S2 => ∃ (j : Nat), S2.e 0 = .p (.sl (.lent m0) (List.map (PV.int .i64) (l))) ∧ OwnL (S2.e 3) S2.h S2.n (PV.int .i64) ((srtI (l.take k)).length) (srtI (l.take k)) ∧ S2.e 4 = .p (.int .i64 (k)) ∧ S2.e 5 = .p (.int .i64 (j)) ∧ (j ≤ k) ∧ (k < l.length) ∧ (∀ q, j ≤ q → q < (srtI (l.take k)).length → l.getD k 0 < (srtI (l.take k)).getD q 0) ∧ S1.n ≤ S2.n ∧ ms2 = j) ((fun (j : Nat) => j) (k)) ?init2_2 ?body2_2
      case' init2_2 =>
        refine ⟨k, ?_, ?_, ?_, ?_, ?_, ?_, ?_, ?_, rfl⟩
        all_goals (try simp only [go_sem, ↓reduceIte, reduceCtorEq, Nat.reduceEqDiff, Nat.reduceAdd, Nat.reduceMul, Nat.reduceSub, Nat.reduceLeDiff, Int.reduceLT, Int.reduceLE, Int.reduceEq, Int.reduceSub, Int.reduceAdd, Int.reduceMul, Int.reduceNeg, Int.reduceToNat, h1_0, h1_4, h1_3, b1_3, ni1_3, pi1_3, qi1_3, ri1_3])
        repeat' refine And.intro ?_ ?_
        all_goals try first | rfl | omega | (simp only [lnA] <;> omega) | ((first | refine stp ?_ | refine dkz_eq ?_ ?_) <;> first | rfl | omega | (simp only [lnA] <;> omega) | (simp only [lnA, List.append_assoc, List.cons_append, List.nil_append]; done) | skip)
      case' body2_2 =>
        rintro ms2 S2 ⟨j, h2_0, o2_3, h2_4, h2_5, c2_0, c2_1, c2_2, u2_0, hm2⟩
        obtain ⟨i2_3, h2_3, b2_3, l2_3⟩ := o2_3.out
        have ni2_3 : ∀ c, (i2_3 = S2.n + c) = False := fun c => eq_false (by omega)
        have pi2_3 : ∀ c, (S2.n + c = i2_3) = False := fun c => eq_false (by omega)
        have qi2_3 : (i2_3 = S2.n) = False := eq_false (by omega)
        have ri2_3 : (S2.n = i2_3) = False := eq_false (by omega)
      · have e1 : ((j : Int) - 1).toNat = j - 1 := by omega
        have e3 : List.take (k - j) (List.drop j (srtI (l.take k))) = (srtI (l.take k)).drop j := List.take_of_length_le (by simp; omega)
        generalize hS : srtI (l.take k) = S at *
        have dn : (∀ q, j ≤ q → q < S.length → l.getD k 0 < S.getD q 0) → l.getD k 0 < S.getD (j - 1) 0 → ∀ q, j - 1 ≤ q → q < S.length → l.getD k 0 < S.getD q 0 := fun h2 h3 q a b => by
          by_cases e : q = j - 1
          · rw [e]; exact h3
          · exact h2 q (by omega) b
        by_cases hj : 0 < j
        · have gg : ((0 : Int) < (j : Int)) = True := eq_true (by omega)
          by_cases h0 : j = k
          · have h0' := h0
            subst h0'
            have e4 : List.drop j S = [] := List.drop_of_length_le (by omega)
            have e5 : List.take j S = S := List.take_of_length_le (by omega)
            have f1 : (j + 1 = (S ++ [l.getD j 0]).length) = True := eq_true (by simp; omega)
            have fc : True := trivial
            repeat' first
              | with_reducible first | refine stp ?_ | refine q_blk_o rfl ?_ | (refine hK _ ?_; clear hK) | (refine hA ?_; clear hA hB) | (refine hB ?_; clear hA hB) | exact v_end0 | exact v_end0' | refine v_gb1 ?_ ?_ | refine v_gb0 ?_ ?_ | refine And.intro ?_ ?_
              | (with_reducible refine hK _ _ ?_ ?_; focus (first | exact clearAll_quiet rfl | (refine clearAll_of [false, false, false, false, false, false, false, true, true, false, true, false] [(0, 7), (1, 7), (2, 7), (7, 9), (8, 9)] rfl (by decide +kernel) ?_; try simp only [go_sem, ↓reduceIte, reduceCtorEq, Nat.reduceEqDiff, Nat.reduceAdd, Nat.reduceMul, Nat.reduceSub, Nat.reduceLeDiff, Int.reduceLT, Int.reduceLE, Int.reduceEq, Int.reduceSub, Int.reduceAdd, Int.reduceMul, Int.reduceNeg, Int.reduceToNat, h2_0, h2_4, h2_5, h2_3, b2_3, ni2_3, pi2_3, qi2_3, ri2_3, e0, e1, e3, e4, e5, f1, gg])); all_goals (try clear hK))
              | (with_reducible refine p_ok ?_; decide)
              | ((first | with_reducible first | refine v_region rfl rfl (fun K hK => ?_) | refine v_draws rfl rfl (fun K hK => ?_) | refine v_if (fun A B hA hB => ?_) | refine v_end rfl ?_ | refine v_fin1 ?_ | refine v_finC1 ?_ | refine v_finR1 ?_ | refine v_finO1 rfl ?_ | refine v_finN1 rfl ?_ ?_ | refine v_apj ?_ (fun j' => ?_) | refine v_stz ?_ ?_ ?_ ?_ ?_ | refine v_stq ?_ | refine v_cv1 ?_ ?_ ?_ | (intro hc; replace fc := And.intro hc fc; try simp only [hcs] at hc)) <;> (try simp (config := { maxSteps := 1000000 }) only [go_sem, ↓reduceIte, reduceCtorEq, Nat.reduceEqDiff, Nat.reduceAdd, Nat.reduceMul, Nat.reduceSub, Nat.reduceLeDiff, Int.reduceLT, Int.reduceLE, Int.reduceEq, Int.reduceSub, Int.reduceAdd, Int.reduceMul, Int.reduceNeg, Int.reduceToNat, h2_0, h2_4, h2_5, h2_3, b2_3, ni2_3, pi2_3, qi2_3, ri2_3, e0, e1, e3, e4, e5, f1, gg, fc]) <;> (try with_reducible rfl))
            all_goals try (first | omega | (simp only [n_i64, n_u8]; omega) | (simp only [n_i64, n_u8, lnA]; omega) | (simp only [lnA]; done))
            · focus
                refine q_lp_n ((fun (j : Nat) => j) (j-1)) ?_ ⟨j-1, ?_, ?_, ?_, ?_, ?_, ?_, ?_, ?_, rfl⟩
                all_goals (try simp only [go_sem, ↓reduceIte, reduceCtorEq, Nat.reduceEqDiff, Nat.reduceAdd, Nat.reduceMul, Nat.reduceSub, Nat.reduceLeDiff, Int.reduceLT, Int.reduceLE, Int.reduceEq, Int.reduceSub, Int.reduceAdd, Int.reduceMul, Int.reduceNeg, Int.reduceToNat, h2_0, h2_4, h2_5, h2_3, b2_3, ni2_3, pi2_3, qi2_3, ri2_3])
                repeat' refine And.intro ?_ ?_
                all_goals try first | rfl | omega | (simp only [lnA] <;> omega) | ((first | refine stp ?_ | refine dkz_eq ?_ ?_) <;> first | rfl | omega | (simp only [lnA] <;> omega) | (simp only [lnA, List.append_assoc, List.cons_append, List.nil_append]; done) | skip)
              exact dn c2_2 hc
            · focus
                refine q_lp_n ((fun (k : Nat) => l.length - k) (j+1)) ?_ ⟨j+1, ?_, ?_, ?_, ?_, rfl⟩
                all_goals (try simp only [go_sem, ↓reduceIte, reduceCtorEq, Nat.reduceEqDiff, Nat.reduceAdd, Nat.reduceMul, Nat.reduceSub, Nat.reduceLeDiff, Int.reduceLT, Int.reduceLE, Int.reduceEq, Int.reduceSub, Int.reduceAdd, Int.reduceMul, Int.reduceNeg, Int.reduceToNat, h2_0, h2_4, h2_5, h2_3, b2_3, ni2_3, pi2_3, qi2_3, ri2_3])
                repeat' refine And.intro ?_ ?_
                all_goals try first | rfl | omega | (simp only [lnA] <;> omega) | ((first | refine stp ?_ | refine dkz_eq ?_ ?_) <;> first | rfl | omega | (simp only [lnA] <;> omega) | (simp only [lnA, List.append_assoc, List.cons_append, List.nil_append]; done) | skip)
              all_goals (rw [srtI_snoc (by omega), hS, insI_at (j := j) (by omega) c2_2 (fun _ => by omega)])
              all_goals first | (simp; omega) | rw [e5, e4]
          · have f0 : (j = k) = False := eq_false h0
            have f1 : (j + 1 ≤ k) = True := eq_true (by omega)
            have f2 : (List.take j S ++ l.getD k 0 :: List.drop (j + 1) S).length = k := by simp; omega
            have f3 : (List.drop j S).length = k - j := by simp; omega
            by_cases h1 : j + 1 = k
            · have f4 : (j + 1 = k) = True := eq_true h1
              have fc : True := trivial
              repeat' first
                | with_reducible first | refine stp ?_ | refine q_blk_o rfl ?_ | (refine hK _ ?_; clear hK) | (refine hA ?_; clear hA hB) | (refine hB ?_; clear hA hB) | exact v_end0 | exact v_end0' | refine v_gb1 ?_ ?_ | refine v_gb0 ?_ ?_ | refine And.intro ?_ ?_
                | (with_reducible refine hK _ _ ?_ ?_; focus (first | exact clearAll_quiet rfl | (refine clearAll_of [false, false, false, false, false, false, false, true, true, false, true, false] [(0, 7), (1, 7), (2, 7), (7, 9), (8, 9)] rfl (by decide +kernel) ?_; try simp only [go_sem, ↓reduceIte, reduceCtorEq, Nat.reduceEqDiff, Nat.reduceAdd, Nat.reduceMul, Nat.reduceSub, Nat.reduceLeDiff, Int.reduceLT, Int.reduceLE, Int.reduceEq, Int.reduceSub, Int.reduceAdd, Int.reduceMul, Int.reduceNeg, Int.reduceToNat, h2_0, h2_4, h2_5, h2_3, b2_3, ni2_3, pi2_3, qi2_3, ri2_3, e0, e1, e3, f0, f1, f2, f3, f4, gg])); all_goals (try clear hK))
                | (with_reducible refine p_ok ?_; decide)
                | ((first | with_reducible first | refine v_region rfl rfl (fun K hK => ?_) | refine v_draws rfl rfl (fun K hK => ?_) | refine v_if (fun A B hA hB => ?_) | refine v_end rfl ?_ | refine v_fin1 ?_ | refine v_finC1 ?_ | refine v_finR1 ?_ | refine v_finO1 rfl ?_ | refine v_finN1 rfl ?_ ?_ | refine v_apj ?_ (fun j' => ?_) | refine v_stz ?_ ?_ ?_ ?_ ?_ | refine v_stq ?_ | refine v_cv1 ?_ ?_ ?_ | (intro hc; replace fc := And.intro hc fc; try simp only [hcs] at hc)) <;> (try simp (config := { maxSteps := 1000000 }) only [go_sem, ↓reduceIte, reduceCtorEq, Nat.reduceEqDiff, Nat.reduceAdd, Nat.reduceMul, Nat.reduceSub, Nat.reduceLeDiff, Int.reduceLT, Int.reduceLE, Int.reduceEq, Int.reduceSub, Int.reduceAdd, Int.reduceMul, Int.reduceNeg, Int.reduceToNat, h2_0, h2_4, h2_5, h2_3, b2_3, ni2_3, pi2_3, qi2_3, ri2_3, e0, e1, e3, f0, f1, f2, f3, f4, gg, fc]) <;> (try with_reducible rfl))
              all_goals try (first | omega | (simp only [n_i64, n_u8]; omega) | (simp only [n_i64, n_u8, lnA]; omega) | (simp only [lnA]; done))
              · focus
                  refine q_lp_n ((fun (j : Nat) => j) (j-1)) ?_ ⟨j-1, ?_, ?_, ?_, ?_, ?_, ?_, ?_, ?_, rfl⟩
                  all_goals (try simp only [go_sem, ↓reduceIte, reduceCtorEq, Nat.reduceEqDiff, Nat.reduceAdd, Nat.reduceMul, Nat.reduceSub, Nat.reduceLeDiff, Int.reduceLT, Int.reduceLE, Int.reduceEq, Int.reduceSub, Int.reduceAdd, Int.reduceMul, Int.reduceNeg, Int.reduceToNat, h2_0, h2_4, h2_5, h2_3, b2_3, ni2_3, pi2_3, qi2_3, ri2_3])
                  repeat' refine And.intro ?_ ?_
                  all_goals try first | rfl | omega | (simp only [lnA] <;> omega) | ((first | refine stp ?_ | refine dkz_eq ?_ ?_) <;> first | rfl | omega | (simp only [lnA] <;> omega) | (simp only [lnA, List.append_assoc, List.cons_append, List.nil_append]; done) | skip)
                exact dn c2_2 hc
              · focus
                  refine q_lp_n ((fun (k : Nat) => l.length - k) (k+1)) ?_ ⟨k+1, ?_, ?_, ?_, ?_, rfl⟩
                  all_goals (try simp only [go_sem, ↓reduceIte, reduceCtorEq, Nat.reduceEqDiff, Nat.reduceAdd, Nat.reduceMul, Nat.reduceSub, Nat.reduceLeDiff, Int.reduceLT, Int.reduceLE, Int.reduceEq, Int.reduceSub, Int.reduceAdd, Int.reduceMul, Int.reduceNeg, Int.reduceToNat, h2_0, h2_4, h2_5, h2_3, b2_3, ni2_3, pi2_3, qi2_3, ri2_3])
                  repeat' refine And.intro ?_ ?_
                  all_goals try first | rfl | omega | (simp only [lnA] <;> omega) | ((first | refine stp ?_ | refine dkz_eq ?_ ?_) <;> first | rfl | omega | (simp only [lnA] <;> omega) | (simp only [lnA, List.append_assoc, List.cons_append, List.nil_append]; done) | skip)
                all_goals (rw [srtI_snoc (by omega), hS, insI_at (j := j) (by omega) c2_2 (fun _ => by omega)])
                all_goals first | (simp; omega) | rw [List.drop_of_length_le (i := j + 1) (by omega), List.nil_append]
            · have f4 : (j + 1 = k) = False := eq_false h1
              have f5 : (j + (1 + (k - j)) ≤ k) = False := eq_false (by omega)
              have fc : True := trivial
              repeat' first
                | with_reducible first | refine stp ?_ | refine q_blk_o rfl ?_ | (refine hK _ ?_; clear hK) | (refine hA ?_; clear hA hB) | (refine hB ?_; clear hA hB) | exact v_end0 | exact v_end0' | refine v_gb1 ?_ ?_ | refine v_gb0 ?_ ?_ | refine And.intro ?_ ?_
                | (with_reducible refine hK _ _ ?_ ?_; focus (first | exact clearAll_quiet rfl | (refine clearAll_of [false, false, false, false, false, false, false, true, true, false, true, false] [(0, 7), (1, 7), (2, 7), (7, 9), (8, 9)] rfl (by decide +kernel) ?_; try simp only [go_sem, ↓reduceIte, reduceCtorEq, Nat.reduceEqDiff, Nat.reduceAdd, Nat.reduceMul, Nat.reduceSub, Nat.reduceLeDiff, Int.reduceLT, Int.reduceLE, Int.reduceEq, Int.reduceSub, Int.reduceAdd, Int.reduceMul, Int.reduceNeg, Int.reduceToNat, h2_0, h2_4, h2_5, h2_3, b2_3, ni2_3, pi2_3, qi2_3, ri2_3, e0, e1, e3, f0, f1, f2, f3, f4, f5, gg])); all_goals (try clear hK))
                | (with_reducible refine p_ok ?_; decide)
                | ((first | with_reducible first | refine v_region rfl rfl (fun K hK => ?_) | refine v_draws rfl rfl (fun K hK => ?_) | refine v_if (fun A B hA hB => ?_) | refine v_end rfl ?_ | refine v_fin1 ?_ | refine v_finC1 ?_ | refine v_finR1 ?_ | refine v_finO1 rfl ?_ | refine v_finN1 rfl ?_ ?_ | refine v_apj ?_ (fun j' => ?_) | refine v_stz ?_ ?_ ?_ ?_ ?_ | refine v_stq ?_ | refine v_cv1 ?_ ?_ ?_ | (intro hc; replace fc := And.intro hc fc; try simp only [hcs] at hc)) <;> (try simp (config := { maxSteps := 1000000 }) only [go_sem, ↓reduceIte, reduceCtorEq, Nat.reduceEqDiff, Nat.reduceAdd, Nat.reduceMul, Nat.reduceSub, Nat.reduceLeDiff, Int.reduceLT, Int.reduceLE, Int.reduceEq, Int.reduceSub, Int.reduceAdd, Int.reduceMul, Int.reduceNeg, Int.reduceToNat, h2_0, h2_4, h2_5, h2_3, b2_3, ni2_3, pi2_3, qi2_3, ri2_3, e0, e1, e3, f0, f1, f2, f3, f4, f5, gg, fc]) <;> (try with_reducible rfl))
              all_goals try (first | omega | (simp only [n_i64, n_u8]; omega) | (simp only [n_i64, n_u8, lnA]; omega) | (simp only [lnA]; done))
              · focus
                  refine q_lp_n ((fun (j : Nat) => j) (j-1)) ?_ ⟨j-1, ?_, ?_, ?_, ?_, ?_, ?_, ?_, ?_, rfl⟩
                  all_goals (try simp only [go_sem, ↓reduceIte, reduceCtorEq, Nat.reduceEqDiff, Nat.reduceAdd, Nat.reduceMul, Nat.reduceSub, Nat.reduceLeDiff, Int.reduceLT, Int.reduceLE, Int.reduceEq, Int.reduceSub, Int.reduceAdd, Int.reduceMul, Int.reduceNeg, Int.reduceToNat, h2_0, h2_4, h2_5, h2_3, b2_3, ni2_3, pi2_3, qi2_3, ri2_3])
                  repeat' refine And.intro ?_ ?_
                  all_goals try first | rfl | omega | (simp only [lnA] <;> omega) | ((first | refine stp ?_ | refine dkz_eq ?_ ?_) <;> first | rfl | omega | (simp only [lnA] <;> omega) | (simp only [lnA, List.append_assoc, List.cons_append, List.nil_append]; done) | skip)
                exact dn c2_2 hc
              · focus
                  refine q_lp_n ((fun (k : Nat) => l.length - k) (k+1)) ?_ ⟨k+1, ?_, ?_, ?_, ?_, rfl⟩
                  all_goals (try simp only [go_sem, ↓reduceIte, reduceCtorEq, Nat.reduceEqDiff, Nat.reduceAdd, Nat.reduceMul, Nat.reduceSub, Nat.reduceLeDiff, Int.reduceLT, Int.reduceLE, Int.reduceEq, Int.reduceSub, Int.reduceAdd, Int.reduceMul, Int.reduceNeg, Int.reduceToNat, h2_0, h2_4, h2_5, h2_3, b2_3, ni2_3, pi2_3, qi2_3, ri2_3])
                  repeat' refine And.intro ?_ ?_
                  all_goals try first | rfl | omega | (simp only [lnA] <;> omega) | ((first | refine stp ?_ | refine dkz_eq ?_ ?_) <;> first | rfl | omega | (simp only [lnA] <;> omega) | (simp only [lnA, List.append_assoc, List.cons_append, List.nil_append]; done) | skip)
                all_goals (rw [srtI_snoc (by omega), hS, insI_at (j := j) (by omega) c2_2 (fun _ => by omega)])
                all_goals first | (simp; omega) | (rw [tki_mid (by omega), List.append_assoc]; rfl)
        · have gg : ((0 : Int) < (j : Int)) = False := eq_false (by omega)
          by_cases h0 : j = k
          · have h0' := h0
            subst h0'
            have e4 : List.drop j S = [] := List.drop_of_length_le (by omega)
            have e5 : List.take j S = S := List.take_of_length_le (by omega)
            have f1 : (j + 1 = (S ++ [l.getD j 0]).length) = True := eq_true (by simp; omega)
            have fc : True := trivial
            repeat' first
              | with_reducible first | refine stp ?_ | refine q_blk_o rfl ?_ | (refine hK _ ?_; clear hK) | (refine hA ?_; clear hA hB) | (refine hB ?_; clear hA hB) | exact v_end0 | exact v_end0' | refine v_gb1 ?_ ?_ | refine v_gb0 ?_ ?_ | refine And.intro ?_ ?_
              | (with_reducible refine hK _ _ ?_ ?_; focus (first | exact clearAll_quiet rfl | (refine clearAll_of [false, false, false, false, false, false, false, true, true, false, true, false] [(0, 7), (1, 7), (2, 7), (7, 9), (8, 9)] rfl (by decide +kernel) ?_; try simp only [go_sem, ↓reduceIte, reduceCtorEq, Nat.reduceEqDiff, Nat.reduceAdd, Nat.reduceMul, Nat.reduceSub, Nat.reduceLeDiff, Int.reduceLT, Int.reduceLE, Int.reduceEq, Int.reduceSub, Int.reduceAdd, Int.reduceMul, Int.reduceNeg, Int.reduceToNat, h2_0, h2_4, h2_5, h2_3, b2_3, ni2_3, pi2_3, qi2_3, ri2_3, e0, e1, e3, e4, e5, f1, gg])); all_goals (try clear hK))
              | (with_reducible refine p_ok ?_; decide)
              | ((first | with_reducible first | refine v_region rfl rfl (fun K hK => ?_) | refine v_draws rfl rfl (fun K hK => ?_) | refine v_if (fun A B hA hB => ?_) | refine v_end rfl ?_ | refine v_fin1 ?_ | refine v_finC1 ?_ | refine v_finR1 ?_ | refine v_finO1 rfl ?_ | refine v_finN1 rfl ?_ ?_ | refine v_apj ?_ (fun j' => ?_) | refine v_stz ?_ ?_ ?_ ?_ ?_ | refine v_stq ?_ | refine v_cv1 ?_ ?_ ?_ | (intro hc; replace fc := And.intro hc fc; try simp only [hcs] at hc)) <;> (try simp (config := { maxSteps := 1000000 }) only [go_sem, ↓reduceIte, reduceCtorEq, Nat.reduceEqDiff, Nat.reduceAdd, Nat.reduceMul, Nat.reduceSub, Nat.reduceLeDiff, Int.reduceLT, Int.reduceLE, Int.reduceEq, Int.reduceSub, Int.reduceAdd, Int.reduceMul, Int.reduceNeg, Int.reduceToNat, h2_0, h2_4, h2_5, h2_3, b2_3, ni2_3, pi2_3, qi2_3, ri2_3, e0, e1, e3, e4, e5, f1, gg, fc]) <;> (try with_reducible rfl))
            all_goals try (first | omega | (simp only [n_i64, n_u8]; omega) | (simp only [n_i64, n_u8, lnA]; omega) | (simp only [lnA]; done))
            · focus
                refine q_lp_n ((fun (k : Nat) => l.length - k) (j+1)) ?_ ⟨j+1, ?_, ?_, ?_, ?_, rfl⟩
                all_goals (try simp only [go_sem, ↓reduceIte, reduceCtorEq, Nat.reduceEqDiff, Nat.reduceAdd, Nat.reduceMul, Nat.reduceSub, Nat.reduceLeDiff, Int.reduceLT, Int.reduceLE, Int.reduceEq, Int.reduceSub, Int.reduceAdd, Int.reduceMul, Int.reduceNeg, Int.reduceToNat, h2_0, h2_4, h2_5, h2_3, b2_3, ni2_3, pi2_3, qi2_3, ri2_3])
                repeat' refine And.intro ?_ ?_
                all_goals try first | rfl | omega | (simp only [lnA] <;> omega) | ((first | refine stp ?_ | refine dkz_eq ?_ ?_) <;> first | rfl | omega | (simp only [lnA] <;> omega) | (simp only [lnA, List.append_assoc, List.cons_append, List.nil_append]; done) | skip)
              all_goals (rw [srtI_snoc (by omega), hS, insI_at (j := j) (by omega) c2_2 (fun h => absurd h hj)])
              all_goals first | (simp; omega) | rw [e5, e4]
          · have f0 : (j = k) = False := eq_false h0
            have f1 : (j + 1 ≤ k) = True := eq_true (by omega)
            have f2 : (List.take j S ++ l.getD k 0 :: List.drop (j + 1) S).length = k := by simp; omega
            have f3 : (List.drop j S).length = k - j := by simp; omega
            by_cases h1 : j + 1 = k
            · have f4 : (j + 1 = k) = True := eq_true h1
              have fc : True := trivial
              repeat' first
                | with_reducible first | refine stp ?_ | refine q_blk_o rfl ?_ | (refine hK _ ?_; clear hK) | (refine hA ?_; clear hA hB) | (refine hB ?_; clear hA hB) | exact v_end0 | exact v_end0' | refine v_gb1 ?_ ?_ | refine v_gb0 ?_ ?_ | refine And.intro ?_ ?_
                | (with_reducible refine hK _ _ ?_ ?_; focus (first | exact clearAll_quiet rfl | (refine clearAll_of [false, false, false, false, false, false, false, true, true, false, true, false] [(0, 7), (1, 7), (2, 7), (7, 9), (8, 9)] rfl (by decide +kernel) ?_; try simp only [go_sem, ↓reduceIte, reduceCtorEq, Nat.reduceEqDiff, Nat.reduceAdd, Nat.reduceMul, Nat.reduceSub, Nat.reduceLeDiff, Int.reduceLT, Int.reduceLE, Int.reduceEq, Int.reduceSub, Int.reduceAdd, Int.reduceMul, Int.reduceNeg, Int.reduceToNat, h2_0, h2_4, h2_5, h2_3, b2_3, ni2_3, pi2_3, qi2_3, ri2_3, e0, e1, e3, f0, f1, f2, f3, f4, gg])); all_goals (try clear hK))
                | (with_reducible refine p_ok ?_; decide)
                | ((first | with_reducible first | refine v_region rfl rfl (fun K hK => ?_) | refine v_draws rfl rfl (fun K hK => ?_) | refine v_if (fun A B hA hB => ?_) | refine v_end rfl ?_ | refine v_fin1 ?_ | refine v_finC1 ?_ | refine v_finR1 ?_ | refine v_finO1 rfl ?_ | refine v_finN1 rfl ?_ ?_ | refine v_apj ?_ (fun j' => ?_) | refine v_stz ?_ ?_ ?_ ?_ ?_ | refine v_stq ?_ | refine v_cv1 ?_ ?_ ?_ | (intro hc; replace fc := And.intro hc fc; try simp only [hcs] at hc)) <;> (try simp (config := { maxSteps := 1000000 }) only [go_sem, ↓reduceIte, reduceCtorEq, Nat.reduceEqDiff, Nat.reduceAdd, Nat.reduceMul, Nat.reduceSub, Nat.reduceLeDiff, Int.reduceLT, Int.reduceLE, Int.reduceEq, Int.reduceSub, Int.reduceAdd, Int.reduceMul, Int.reduceNeg, Int.reduceToNat, h2_0, h2_4, h2_5, h2_3, b2_3, ni2_3, pi2_3, qi2_3, ri2_3, e0, e1, e3, f0, f1, f2, f3, f4, gg, fc]) <;> (try with_reducible rfl))
              all_goals try (first | omega | (simp only [n_i64, n_u8]; omega) | (simp only [n_i64, n_u8, lnA]; omega) | (simp only [lnA]; done))
              · focus
                  refine q_lp_n ((fun (k : Nat) => l.length - k) (k+1)) ?_ ⟨k+1, ?_, ?_, ?_, ?_, rfl⟩
                  all_goals (try simp only [go_sem, ↓reduceIte, reduceCtorEq, Nat.reduceEqDiff, Nat.reduceAdd, Nat.reduceMul, Nat.reduceSub, Nat.reduceLeDiff, Int.reduceLT, Int.reduceLE, Int.reduceEq, Int.reduceSub, Int.reduceAdd, Int.reduceMul, Int.reduceNeg, Int.reduceToNat, h2_0, h2_4, h2_5, h2_3, b2_3, ni2_3, pi2_3, qi2_3, ri2_3])
                  repeat' refine And.intro ?_ ?_
                  all_goals try first | rfl | omega | (simp only [lnA] <;> omega) | ((first | refine stp ?_ | refine dkz_eq ?_ ?_) <;> first | rfl | omega | (simp only [lnA] <;> omega) | (simp only [lnA, List.append_assoc, List.cons_append, List.nil_append]; done) | skip)
                all_goals (rw [srtI_snoc (by omega), hS, insI_at (j := j) (by omega) c2_2 (fun h => absurd h hj)])
                all_goals first | (simp; omega) | rw [List.drop_of_length_le (i := j + 1) (by omega), List.nil_append]
            · have f4 : (j + 1 = k) = False := eq_false h1
              have f5 : (j + (1 + (k - j)) ≤ k) = False := eq_false (by omega)
              have fc : True := trivial
              repeat' first
                | with_reducible first | refine stp ?_ | refine q_blk_o rfl ?_ | (refine hK _ ?_; clear hK) | (refine hA ?_; clear hA hB) | (refine hB ?_; clear hA hB) | exact v_end0 | exact v_end0' | refine v_gb1 ?_ ?_ | refine v_gb0 ?_ ?_ | refine And.intro ?_ ?_
                | (with_reducible refine hK _ _ ?_ ?_; focus (first | exact clearAll_quiet rfl | (refine clearAll_of [false, false, false, false, false, false, false, true, true, false, true, false] [(0, 7), (1, 7), (2, 7), (7, 9), (8, 9)] rfl (by decide +kernel) ?_; try simp only [go_sem, ↓reduceIte, reduceCtorEq, Nat.reduceEqDiff, Nat.reduceAdd, Nat.reduceMul, Nat.reduceSub, Nat.reduceLeDiff, Int.reduceLT, Int.reduceLE, Int.reduceEq, Int.reduceSub, Int.reduceAdd, Int.reduceMul, Int.reduceNeg, Int.reduceToNat, h2_0, h2_4, h2_5, h2_3, b2_3, ni2_3, pi2_3, qi2_3, ri2_3, e0, e1, e3, f0, f1, f2, f3, f4, f5, gg])); all_goals (try clear hK))
                | (with_reducible refine p_ok ?_; decide)
                | ((first | with_reducible first | refine v_region rfl rfl (fun K hK => ?_) | refine v_draws rfl rfl (fun K hK => ?_) | refine v_if (fun A B hA hB => ?_) | refine v_end rfl ?_ | refine v_fin1 ?_ | refine v_finC1 ?_ | refine v_finR1 ?_ | refine v_finO1 rfl ?_ | refine v_finN1 rfl ?_ ?_ | refine v_apj ?_ (fun j' => ?_) | refine v_stz ?_ ?_ ?_ ?_ ?_ | refine v_stq ?_ | refine v_cv1 ?_ ?_ ?_ | (intro hc; replace fc := And.intro hc fc; try simp only [hcs] at hc)) <;> (try simp (config := { maxSteps := 1000000 }) only [go_sem, ↓reduceIte, reduceCtorEq, Nat.reduceEqDiff, Nat.reduceAdd, Nat.reduceMul, Nat.reduceSub, Nat.reduceLeDiff, Int.reduceLT, Int.reduceLE, Int.reduceEq, Int.reduceSub, Int.reduceAdd, Int.reduceMul, Int.reduceNeg, Int.reduceToNat, h2_0, h2_4, h2_5, h2_3, b2_3, ni2_3, pi2_3, qi2_3, ri2_3, e0, e1, e3, f0, f1, f2, f3, f4, f5, gg, fc]) <;> (try with_reducible rfl))
              all_goals try (first | omega | (simp only [n_i64, n_u8]; omega) | (simp only [n_i64, n_u8, lnA]; omega) | (simp only [lnA]; done))
              · focus
                  refine q_lp_n ((fun (k : Nat) => l.length - k) (k+1)) ?_ ⟨k+1, ?_, ?_, ?_, ?_, rfl⟩
                  all_goals (try simp only [go_sem, ↓reduceIte, reduceCtorEq, Nat.reduceEqDiff, Nat.reduceAdd, Nat.reduceMul, Nat.reduceSub, Nat.reduceLeDiff, Int.reduceLT, Int.reduceLE, Int.reduceEq, Int.reduceSub, Int.reduceAdd, Int.reduceMul, Int.reduceNeg, Int.reduceToNat, h2_0, h2_4, h2_5, h2_3, b2_3, ni2_3, pi2_3, qi2_3, ri2_3])
                  repeat' refine And.intro ?_ ?_
                  all_goals try first | rfl | omega | (simp only [lnA] <;> omega) | ((first | refine stp ?_ | refine dkz_eq ?_ ?_) <;> first | rfl | omega | (simp only [lnA] <;> omega) | (simp only [lnA, List.append_assoc, List.cons_append, List.nil_append]; done) | skip)
                all_goals (rw [srtI_snoc (by omega), hS, insI_at (j := j) (by omega) c2_2 (fun h => absurd h hj)])
                all_goals first | (simp; omega) | (rw [tki_mid (by omega), List.append_assoc]; rfl)
    · have e : List.take k l = l := List.take_of_length_le (by omega)
      rw [e]
      exact List.take_of_length_le (by rw [srtI_len]; omega)
def focL (p : List Int) : List Int := if isPermB p then (srtI (kpI (fun x => decide (x = 0)) (codeGo p))).reverse else []
theorem impl_FormOfCode_1_c (c : Int) : Fun Try.prog 166 [(.int .i64 (c))] [(.bool (decide (c = 0)))] := by
  refine Fun.of (sg := sg0) (ts := [2]) mo Try.func166 rfl rfl rfl rfl (by kernel_rfl) (by simp only [go_sem]) rfl ?_
  have fc : True := trivial
  repeat' first
    | with_reducible first | refine stp ?_ | refine q_blk_o rfl ?_ | (refine hK _ ?_; clear hK) | (refine hA ?_; clear hA hB) | (refine hB ?_; clear hA hB) | exact v_end0 | exact v_end0' | refine v_gb1 ?_ ?_ | refine v_gb0 ?_ ?_ | refine And.intro ?_ ?_
    | (with_reducible refine p_ok ?_; decide)
    | ((first | with_reducible first | refine v_region rfl rfl (fun K hK => ?_) | refine v_draws rfl rfl (fun K hK => ?_) | refine v_if (fun A B hA hB => ?_) | refine v_end rfl ?_ | refine v_fin1 ?_ | refine v_finC1 ?_ | refine v_finR1 ?_ | refine v_finO1 rfl ?_ | refine v_finN1 rfl ?_ ?_ | refine v_apj ?_ (fun j' => ?_) | refine v_stz ?_ ?_ ?_ ?_ ?_ | refine v_stq ?_ | refine v_cv1 ?_ ?_ ?_ | (intro hc; replace fc := And.intro hc fc; try simp only [hcs] at hc)) <;> (try simp (config := { maxSteps := 1000000 }) only [go_sem, ↓reduceIte, reduceCtorEq, Nat.reduceEqDiff, Nat.reduceAdd, Nat.reduceMul, Nat.reduceSub, Nat.reduceLeDiff, Int.reduceLT, Int.reduceLE, Int.reduceEq, Int.reduceSub, Int.reduceAdd, Int.reduceMul, Int.reduceNeg, Int.reduceToNat, fc]) <;> (try with_reducible rfl))
  all_goals try (first | omega | (simp only [n_i64, n_u8]; omega) | (simp only [n_i64, n_u8, lnA]; omega) | (simp only [lnA]; done))
def sgFal : FuncId → List Bool := fun f => if f = 230 then [true] else if f = 231 then [true] else []
theorem sgFal_eq {f : FuncId} : sgFal f = if f = 230 then [true] else if f = 231 then [true] else [] := _root_.id rfl
theorem wayE_sgFal : wayE sgFal = false := _root_.id rfl
theorem wayN_sgFal : wayN sgFal = false := _root_.id rfl
theorem wayS_sgFal : wayS sgFal = false := _root_.id rfl
theorem wayZ_sgFal : wayZ sgFal = false := _root_.id rfl
attribute [go_sem] sgFal_eq wayE_sgFal wayN_sgFal wayS_sgFal wayZ_sgFal
theorem impl_fallingNumbers_c (l : List Int) (hl : l.length ≤ 12) : CallT Try.prog true 164 [.mu false (List.map (PV.int .i64) (l))] [none] [(.sl .own (List.map (PV.int .i64) ((srtI l).reverse)))] := by
  refine CallT.of (sg := sgFal) (ts := [2]) mo Try.func164 rfl rfl rfl rfl (by kernel_rfl) (by simp only [go_sem]) rfl (by simp only [go_sem]) ?_
  have e1 := srtI_len (L := l)
  have e2 : (srtI l).reverse.length = l.length := by rw [List.length_reverse, e1]
  have e3 : List.take l.length (srtI l).reverse = (srtI l).reverse := List.take_of_length_le (by omega)
  have fc : True := trivial
  repeat' first
    | with_reducible first | refine stp ?_ | refine q_blk_o rfl ?_ | (refine hK _ ?_; clear hK) | (refine hA ?_; clear hA hB) | (refine hB ?_; clear hA hB) | exact v_end0 | exact v_end0' | refine v_gb1 ?_ ?_ | refine v_gb0 ?_ ?_ | refine And.intro ?_ ?_
    | (with_reducible refine p_ok ?_; decide)
    | ((first | with_reducible first | refine v_region rfl rfl (fun K hK => ?_) | refine v_draws rfl rfl (fun K hK => ?_) | refine v_if (fun A B hA hB => ?_) | refine v_end rfl ?_ | refine v_fin1 ?_ | refine v_finC1 ?_ | refine v_finR1 ?_ | refine v_callN (slices_Sort_int_int_c _ ?_) rfl ?_ ?_ | refine v_callT (slices_Sort_int_int_c _ ?_) rfl ?_ ?_ | refine v_callTd (slices_Sort_int_int_c _ ?_) rfl ?_ ?_ | refine v_callR (slices_Sort_int_int_c _ ?_) rfl ?_ ?_ | refine v_callN (slices_Reverse_int_int_c _ ?_) rfl ?_ ?_ | refine v_callT (slices_Reverse_int_int_c _ ?_) rfl ?_ ?_ | refine v_callTd (slices_Reverse_int_int_c _ ?_) rfl ?_ ?_ | refine v_callR (slices_Reverse_int_int_c _ ?_) rfl ?_ ?_ | refine v_callT3 (slices_Sort_int_int_c _ ?_) ?_ ?_ | refine v_callT4 (slices_Sort_int_int_c _ ?_) ?_ ?_ | refine v_callT3 (slices_Reverse_int_int_c _ ?_) ?_ ?_ | refine v_callT4 (slices_Reverse_int_int_c _ ?_) ?_ ?_ | refine v_finO1 rfl ?_ | refine v_finN1 rfl ?_ ?_ | refine v_finT1 rfl ?_ | refine v_apj ?_ (fun j' => ?_) | refine v_stz ?_ ?_ ?_ ?_ ?_ | refine v_stq ?_ | refine v_cv1 ?_ ?_ ?_ | (intro hc; replace fc := And.intro hc fc; try simp only [hcs] at hc)) <;> (try simp (config := { maxSteps := 1000000 }) only [go_sem, ↓reduceIte, reduceCtorEq, Nat.reduceEqDiff, Nat.reduceAdd, Nat.reduceMul, Nat.reduceSub, Nat.reduceLeDiff, Int.reduceLT, Int.reduceLE, Int.reduceEq, Int.reduceSub, Int.reduceAdd, Int.reduceMul, Int.reduceNeg, Int.reduceToNat, e1, e2, e3, fc]) <;> (try with_reducible rfl))
  all_goals try (first | omega | (simp only [n_i64, n_u8]; omega) | (simp only [n_i64, n_u8, lnA]; omega) | (simp only [lnA]; done))
def sgFoc : FuncId → List Bool := fun f => if f = 165 then [true] else if f = 164 then [true] else []
theorem sgFoc_eq {f : FuncId} : sgFoc f = if f = 165 then [true] else if f = 164 then [true] else [] := _root_.id rfl
theorem wayE_sgFoc : wayE sgFoc = false := _root_.id rfl
theorem wayN_sgFoc : wayN sgFoc = false := _root_.id rfl
theorem wayS_sgFoc : wayS sgFoc = false := _root_.id rfl
theorem wayZ_sgFoc : wayZ sgFoc = false := _root_.id rfl
attribute [go_sem] sgFoc_eq wayE_sgFoc wayN_sgFoc wayS_sgFoc wayZ_sgFoc
theorem impl_FormOfCode_c {m0 : Bool} (p : List Int) (hl : p.length ≤ 1048576) : Fun Try.prog 78 [(.sl (.lent m0) (List.map (PV.int .i64) (p)))] [(.sl .own (List.map (PV.int .i64) (focL p)))] := by
  refine Fun.of (sg := sgFoc) (ts := [2]) mo Try.func78 rfl rfl rfl rfl (by kernel_rfl) (by simp only [go_sem]) rfl ?_
  by_cases hp : isPermB p = true
  · obtain ⟨h8, hq⟩ := isP_8 hp
    have c1 := slices_DeleteFunc_int_int_c (codeGo p) 166 [] (fun x => decide (x = 0)) (by rw [codeGo_length]; omega) (fun x hx => impl_FormOfCode_1_c x)
    have b1 : (kpI (fun x => decide (x = 0)) (codeGo p)).length ≤ 8 := by
      have : (kpI (fun x => decide (x = 0)) (codeGo p)).length ≤ (codeGo p).length := List.length_filter_le _ _
      rw [codeGo_length] at this; omega
    have fc : True := trivial
    repeat' first
      | with_reducible first | refine stp ?_ | refine q_blk_o rfl ?_ | (refine hK _ ?_; clear hK) | (refine hA ?_; clear hA hB) | (refine hB ?_; clear hA hB) | exact v_end0 | exact v_end0' | refine v_gb1 ?_ ?_ | refine v_gb0 ?_ ?_ | refine And.intro ?_ ?_
      | (with_reducible refine p_ok ?_; decide)
      | ((first | with_reducible first | refine v_region rfl rfl (fun K hK => ?_) | refine v_draws rfl rfl (fun K hK => ?_) | refine v_if (fun A B hA hB => ?_) | refine v_end rfl ?_ | refine v_fin1 ?_ | refine v_finC1 ?_ | refine v_finR1 ?_ | refine v_callE (impl_FormOfCode_1_c _) ?_ | refine v_callE (impl_IsPerm_c _ ?_) ?_ | refine v_callE (impl_code_c _ ?_) ?_ | refine v_callN (slices_DeleteFunc_int_int_c _ _ _ _ ?_ ?_) rfl ?_ ?_ | refine v_callT (slices_DeleteFunc_int_int_c _ _ _ _ ?_ ?_) rfl ?_ ?_ | refine v_callTd (slices_DeleteFunc_int_int_c _ _ _ _ ?_ ?_) rfl ?_ ?_ | refine v_callR (slices_DeleteFunc_int_int_c _ _ _ _ ?_ ?_) rfl ?_ ?_ | refine v_callN (impl_fallingNumbers_c _ ?_) rfl ?_ ?_ | refine v_callT (impl_fallingNumbers_c _ ?_) rfl ?_ ?_ | refine v_callTd (impl_fallingNumbers_c _ ?_) rfl ?_ ?_ | refine v_callR (impl_fallingNumbers_c _ ?_) rfl ?_ ?_ | refine v_callN (c1) rfl ?_ ?_ | refine v_callT (c1) rfl ?_ ?_ | refine v_callTd (c1) rfl ?_ ?_ | refine v_callR (c1) rfl ?_ ?_ | refine v_callT3 (slices_DeleteFunc_int_int_c _ _ _ _ ?_ ?_) ?_ ?_ | refine v_callT4 (slices_DeleteFunc_int_int_c _ _ _ _ ?_ ?_) ?_ ?_ | refine v_callT3 (impl_fallingNumbers_c _ ?_) ?_ ?_ | refine v_callT4 (impl_fallingNumbers_c _ ?_) ?_ ?_ | refine v_callT3 (c1) ?_ ?_ | refine v_callT4 (c1) ?_ ?_ | refine v_finO1 rfl ?_ | refine v_finN1 rfl ?_ ?_ | refine v_apj ?_ (fun j' => ?_) | refine v_stz ?_ ?_ ?_ ?_ ?_ | refine v_stq ?_ | refine v_cv1 ?_ ?_ ?_ | (intro hc; replace fc := And.intro hc fc; try simp only [hcs] at hc)) <;> (try simp (config := { maxSteps := 1000000 }) only [go_sem, ↓reduceIte, reduceCtorEq, Nat.reduceEqDiff, Nat.reduceAdd, Nat.reduceMul, Nat.reduceSub, Nat.reduceLeDiff, Int.reduceLT, Int.reduceLE, Int.reduceEq, Int.reduceSub, Int.reduceAdd, Int.reduceMul, Int.reduceNeg, Int.reduceToNat, hp, fc]) <;> (try with_reducible rfl))
    all_goals try (first | omega | (simp only [n_i64, n_u8]; omega) | (simp only [n_i64, n_u8, lnA]; omega) | (simp only [lnA]; done))
    rw [focL, if_pos hp]
  · rw [Bool.not_eq_true] at hp
    have fc : True := trivial
    repeat' first
      | with_reducible first | refine stp ?_ | refine q_blk_o rfl ?_ | (refine hK _ ?_; clear hK) | (refine hA ?_; clear hA hB) | (refine hB ?_; clear hA hB) | exact v_end0 | exact v_end0' | refine v_gb1 ?_ ?_ | refine v_gb0 ?_ ?_ | refine And.intro ?_ ?_
      | (with_reducible refine p_ok ?_; decide)
      | ((first | with_reducible first | refine v_region rfl rfl (fun K hK => ?_) | refine v_draws rfl rfl (fun K hK => ?_) | refine v_if (fun A B hA hB => ?_) | refine v_end rfl ?_ | refine v_fin1 ?_ | refine v_finC1 ?_ | refine v_finR1 ?_ | refine v_callE (impl_FormOfCode_1_c _) ?_ | refine v_callE (impl_IsPerm_c _ ?_) ?_ | refine v_callE (impl_code_c _ ?_) ?_ | refine v_callN (slices_DeleteFunc_int_int_c _ _ _ _ ?_ ?_) rfl ?_ ?_ | refine v_callT (slices_DeleteFunc_int_int_c _ _ _ _ ?_ ?_) rfl ?_ ?_ | refine v_callTd (slices_DeleteFunc_int_int_c _ _ _ _ ?_ ?_) rfl ?_ ?_ | refine v_callR (slices_DeleteFunc_int_int_c _ _ _ _ ?_ ?_) rfl ?_ ?_ | refine v_callN (impl_fallingNumbers_c _ ?_) rfl ?_ ?_ | refine v_callT (impl_fallingNumbers_c _ ?_) rfl ?_ ?_ | refine v_callTd (impl_fallingNumbers_c _ ?_) rfl ?_ ?_ | refine v_callR (impl_fallingNumbers_c _ ?_) rfl ?_ ?_ | refine v_callT3 (slices_DeleteFunc_int_int_c _ _ _ _ ?_ ?_) ?_ ?_ | refine v_callT4 (slices_DeleteFunc_int_int_c _ _ _ _ ?_ ?_) ?_ ?_ | refine v_callT3 (impl_fallingNumbers_c _ ?_) ?_ ?_ | refine v_callT4 (impl_fallingNumbers_c _ ?_) ?_ ?_ | refine v_finO1 rfl ?_ | refine v_finN1 rfl ?_ ?_ | refine v_apj ?_ (fun j' => ?_) | refine v_stz ?_ ?_ ?_ ?_ ?_ | refine v_stq ?_ | refine v_cv1 ?_ ?_ ?_ | (intro hc; replace fc := And.intro hc fc; try simp only [hcs] at hc)) <;> (try simp (config := { maxSteps := 1000000 }) only [go_sem, ↓reduceIte, reduceCtorEq, Nat.reduceEqDiff, Nat.reduceAdd, Nat.reduceMul, Nat.reduceSub, Nat.reduceLeDiff, Int.reduceLT, Int.reduceLE, Int.reduceEq, Int.reduceSub, Int.reduceAdd, Int.reduceMul, Int.reduceNeg, Int.reduceToNat, hp, fc]) <;> (try with_reducible rfl))
    all_goals try (first | omega | (simp only [n_i64, n_u8]; omega) | (simp only [n_i64, n_u8, lnA]; omega) | (simp only [lnA]; done))
    rw [focL, if_neg (by rw [hp]; decide)]; rfl
theorem codeGo_nn {p : List Int} : ∀ x ∈ codeGo p, 0 ≤ x := fun x hx => by
  obtain ⟨i, hi, rfl⟩ := List.getElem_of_mem hx
  have := (codeGo_at p i).1
  rw [List.getD_eq_getElem?_getD, List.getElem?_eq_getElem hi] at this; exact this
def posF (L : List Int) : List Int := L.filter fun x => decide (0 < x)
theorem posF_snoc {A : List Int} {x : Int} : posF (A ++ [x]) = posF A ++ if 0 < x then [x] else [] := by
  unfold posF
  rw [List.filter_append, List.filter_cons]
  by_cases h : 0 < x <;> simp [h]
theorem foc_eq {p : List Int} (hp : isPermB p = true) : posF (srtI (codeGo p)).reverse = focL p := by
  rw [focL, if_pos hp, posF, List.filter_reverse, srt_filter codeGo_nn]; rfl
theorem spec_FormOfCode_c {m0 : Bool} (p : List Int) (hl : p.length ≤ 1048576) : Fun Try.prog 79 [(.sl (.lent m0) (List.map (PV.int .i64) (p)))] [(.sl .own (List.map (PV.int .i64) (focL p)))] := by
  by_cases hp : isPermB p = true
  · obtain ⟨h8, hq⟩ := isP_8 hp
    have hf := spec_CodeOf_c (m0 := m0) p hl
    rw [if_pos hp] at hf
    have q1 := codeGo_length p
    have q2 := srtI_len (L := codeGo p)
    generalize hC : srtI (codeGo p) = C at *
    refine Fun.of (sg := sg0) (ts := [2]) mo Try.func79 rfl rfl rfl rfl (by kernel_rfl) (by simp only [go_sem]) rfl ?_
    have fc : True := trivial
    repeat' first
      | with_reducible first | refine stp ?_ | refine q_blk_o rfl ?_ | (refine hK _ ?_; clear hK) | (refine hA ?_; clear hA hB) | (refine hB ?_; clear hA hB) | exact v_end0 | exact v_end0' | refine v_gb1 ?_ ?_ | refine v_gb0 ?_ ?_ | refine And.intro ?_ ?_
      | (with_reducible refine p_ok ?_; decide)
      | ((first | with_reducible first | refine v_region rfl rfl (fun K hK => ?_) | refine v_draws rfl rfl (fun K hK => ?_) | refine v_if (fun A B hA hB => ?_) | refine v_end rfl ?_ | refine v_fin1 ?_ | refine v_finC1 ?_ | refine v_finR1 ?_ | refine v_callE (hf) ?_ | refine v_callE (spec_l15Sort_c _ ?_) ?_ | refine v_finO1 rfl ?_ | refine v_finN1 rfl ?_ ?_ | refine v_apj ?_ (fun j' => ?_) | refine v_stz ?_ ?_ ?_ ?_ ?_ | refine v_stq ?_ | refine v_cv1 ?_ ?_ ?_ | (intro hc; replace fc := And.intro hc fc; try simp only [hcs] at hc)) <;> (try simp (config := { maxSteps := 1000000 }) only [go_sem, ↓reduceIte, reduceCtorEq, Nat.reduceEqDiff, Nat.reduceAdd, Nat.reduceMul, Nat.reduceSub, Nat.reduceLeDiff, Int.reduceLT, Int.reduceLE, Int.reduceEq, Int.reduceSub, Int.reduceAdd, Int.reduceMul, Int.reduceNeg, Int.reduceToNat, hC, fc]) <;> (try with_reducible rfl))
    all_goals try (first | omega | (simp only [n_i64, n_u8]; omega) | (simp only [n_i64, n_u8, lnA]; omega) | (simp only [lnA]; done))
    refine v_loop (fun ms1 S1 => ∃ (k : Nat), S1.e 0 = .p (.sl (.lent m0) (List.map (PV.int .i64) (p))) ∧ OwnL (S1.e 3) S1.h S1.n (PV.int .i64) ((posF (C.drop k).reverse).length) (posF (C.drop k).reverse) ∧ OwnL (S1.e 4) S1.h S1.n (PV.int .i64) ((C).length) (C) ∧ S1.e 5 = .p (.int .i64 (((k : Int) - 1))) ∧ (k ≤ C.length) ∧ NId (S1.e 4) (S1.e 3) ∧ ms1 = k) ((fun (k : Nat) => k) (C.length)) ?init1_3 ?body1_3
    case' init1_3 =>
      refine ⟨C.length, ?_, ?_, ?_, ?_, ?_, ?_, rfl⟩
      all_goals (try simp only [go_sem, ↓reduceIte, reduceCtorEq, Nat.reduceEqDiff, Nat.reduceAdd, Nat.reduceMul, Nat.reduceSub, Nat.reduceLeDiff, Int.reduceLT, Int.reduceLE, Int.reduceEq, Int.reduceSub, Int.reduceAdd, Int.reduceMul, Int.reduceNeg, Int.reduceToNat])
      repeat' refine And.intro ?_ ?_
      all_goals try first | rfl | omega | (simp only [lnA] <;> omega) | ((first | refine stp ?_ | refine dkz_eq ?_ ?_) <;> first | rfl | omega | (simp only [lnA] <;> omega) | (simp only [lnA, List.append_assoc, List.cons_append, List.nil_append]; done) | skip)
    case' body1_3 =>
      rintro ms1 S1 ⟨k, h1_0, o1_3, o1_4, h1_5, c1_0, u1_0, hm1⟩
      obtain ⟨i1_3, h1_3, b1_3, l1_3⟩ := o1_3.out
      obtain ⟨i1_4, h1_4, b1_4, l1_4⟩ := o1_4.out
      have k1_0 := (u1_0).out h1_4 h1_3
      have ni1_3 : ∀ c, (i1_3 = S1.n + c) = False := fun c => eq_false (by omega)
      have pi1_3 : ∀ c, (S1.n + c = i1_3) = False := fun c => eq_false (by omega)
      have qi1_3 : (i1_3 = S1.n) = False := eq_false (by omega)
      have ri1_3 : (S1.n = i1_3) = False := eq_false (by omega)
      have ni1_4 : ∀ c, (i1_4 = S1.n + c) = False := fun c => eq_false (by omega)
      have pi1_4 : ∀ c, (S1.n + c = i1_4) = False := fun c => eq_false (by omega)
      have qi1_4 : (i1_4 = S1.n) = False := eq_false (by omega)
      have ri1_4 : (S1.n = i1_4) = False := eq_false (by omega)
      have di1_3i1_4 : (i1_3 = i1_4) = False := eq_false (by omega)
      have di1_4i1_3 : (i1_4 = i1_3) = False := eq_false (by omega)
    · have e1 : ((k : Int) - 1).toNat = k - 1 := by omega
      have e2 : (posF (C.drop k).reverse).length ≤ C.length := by
        have := List.length_filter_le (fun x => decide (0 < x)) (C.drop k).reverse
        rw [List.length_reverse, List.length_drop] at this; unfold posF; omega
      have e3 : 0 < k → posF (C.drop (k - 1)).reverse = posF (C.drop k).reverse ++ if 0 < C.getD (k - 1) 0 then [C.getD (k - 1) 0] else [] := fun h => by
        obtain ⟨j, rfl⟩ : ∃ j, k = j + 1 := ⟨k - 1, by omega⟩
        rw [Nat.add_sub_cancel, dropI_at (k := j) (by omega), List.reverse_cons, posF_snoc]
      have fc : True := trivial
      repeat' first
        | with_reducible first | refine stp ?_ | refine q_blk_o rfl ?_ | (refine hK _ ?_; clear hK) | (refine hA ?_; clear hA hB) | (refine hB ?_; clear hA hB) | exact v_end0 | exact v_end0' | refine v_gb1 ?_ ?_ | refine v_gb0 ?_ ?_ | refine And.intro ?_ ?_
        | (with_reducible refine p_ok ?_; decide)
        | ((first | with_reducible first | refine v_region rfl rfl (fun K hK => ?_) | refine v_draws rfl rfl (fun K hK => ?_) | refine v_if (fun A B hA hB => ?_) | refine v_end rfl ?_ | refine v_fin1 ?_ | refine v_finC1 ?_ | refine v_finR1 ?_ | refine v_callE (spec_CodeOf_c _ ?_) ?_ | refine v_callE (spec_l15Sort_c _ ?_) ?_ | refine v_finO1 rfl ?_ | refine v_finN1 rfl ?_ ?_ | refine v_apj ?_ (fun j' => ?_) | refine v_stz ?_ ?_ ?_ ?_ ?_ | refine v_stq ?_ | refine v_cv1 ?_ ?_ ?_ | (intro hc; replace fc := And.intro hc fc; try simp only [hcs] at hc)) <;> (try simp (config := { maxSteps := 1000000 }) only [go_sem, ↓reduceIte, reduceCtorEq, Nat.reduceEqDiff, Nat.reduceAdd, Nat.reduceMul, Nat.reduceSub, Nat.reduceLeDiff, Int.reduceLT, Int.reduceLE, Int.reduceEq, Int.reduceSub, Int.reduceAdd, Int.reduceMul, Int.reduceNeg, Int.reduceToNat, h1_0, h1_5, h1_3, b1_3, h1_4, b1_4, ni1_3, pi1_3, qi1_3, ri1_3, ni1_4, pi1_4, qi1_4, ri1_4, di1_3i1_4, di1_4i1_3, e1, fc]) <;> (try with_reducible rfl))
      all_goals try (first | omega | (simp only [n_i64, n_u8]; omega) | (simp only [n_i64, n_u8, lnA]; omega) | (simp only [lnA]; done))
      · focus
          refine q_lp_n ((fun (k : Nat) => k) (k-1)) ?_ ⟨k-1, ?_, ?_, ?_, ?_, ?_, ?_, rfl⟩
          all_goals (try simp only [go_sem, ↓reduceIte, reduceCtorEq, Nat.reduceEqDiff, Nat.reduceAdd, Nat.reduceMul, Nat.reduceSub, Nat.reduceLeDiff, Int.reduceLT, Int.reduceLE, Int.reduceEq, Int.reduceSub, Int.reduceAdd, Int.reduceMul, Int.reduceNeg, Int.reduceToNat, h1_0, h1_5, h1_3, b1_3, h1_4, b1_4, ni1_3, pi1_3, qi1_3, ri1_3, ni1_4, pi1_4, qi1_4, ri1_4, di1_3i1_4, di1_4i1_3])
          repeat' refine And.intro ?_ ?_
          all_goals try first | rfl | omega | (simp only [lnA] <;> omega) | ((first | refine stp ?_ | refine dkz_eq ?_ ?_) <;> first | rfl | omega | (simp only [lnA] <;> omega) | (simp only [lnA, List.append_assoc, List.cons_append, List.nil_append]; done) | skip)
        all_goals rw [e3 (by omega), if_pos hc]
        all_goals simp
      · focus
          refine q_lp_n ((fun (k : Nat) => k) (k-1)) ?_ ⟨k-1, ?_, ?_, ?_, ?_, ?_, ?_, rfl⟩
          all_goals (try simp only [go_sem, ↓reduceIte, reduceCtorEq, Nat.reduceEqDiff, Nat.reduceAdd, Nat.reduceMul, Nat.reduceSub, Nat.reduceLeDiff, Int.reduceLT, Int.reduceLE, Int.reduceEq, Int.reduceSub, Int.reduceAdd, Int.reduceMul, Int.reduceNeg, Int.reduceToNat, h1_0, h1_5, h1_3, b1_3, h1_4, b1_4, ni1_3, pi1_3, qi1_3, ri1_3, ni1_4, pi1_4, qi1_4, ri1_4, di1_3i1_4, di1_4i1_3])
          repeat' refine And.intro ?_ ?_
          all_goals try first | rfl | omega | (simp only [lnA] <;> omega) | ((first | refine stp ?_ | refine dkz_eq ?_ ?_) <;> first | rfl | omega | (simp only [lnA] <;> omega) | (simp only [lnA, List.append_assoc, List.cons_append, List.nil_append]; done) | skip)
        all_goals rw [e3 (by omega), if_neg (by omega)]
        all_goals simp
      · obtain rfl : k = 0 := by omega
        rw [List.drop_zero, ← hC, foc_eq hp]
    all_goals (rw [List.drop_length]; rfl)
  · rw [Bool.not_eq_true] at hp
    have hf := spec_CodeOf_c (m0 := m0) p hl
    rw [if_neg (by rw [hp]; decide)] at hf
    have hg : ∀ b, Fun Try.prog 167 [.sl (.lent b) []] [.sl .own (List.map (PV.int .i64) [])] := fun b => by
      have h := spec_l15Sort_c (m0 := b) [] (by simp)
      rw [show srtI [] = [] from rfl] at h
      exact h
    refine Fun.of (sg := sg0) (ts := [2]) mo Try.func79 rfl rfl rfl rfl (by kernel_rfl) (by simp only [go_sem]) rfl ?_
    have fc : True := trivial
    repeat' first
      | with_reducible first | refine stp ?_ | refine q_blk_o rfl ?_ | (refine hK _ ?_; clear hK) | (refine hA ?_; clear hA hB) | (refine hB ?_; clear hA hB) | exact v_end0 | exact v_end0' | refine v_gb1 ?_ ?_ | refine v_gb0 ?_ ?_ | refine And.intro ?_ ?_
      | (with_reducible refine p_ok ?_; decide)
      | ((first | with_reducible first | refine v_region rfl rfl (fun K hK => ?_) | refine v_draws rfl rfl (fun K hK => ?_) | refine v_if (fun A B hA hB => ?_) | refine v_end rfl ?_ | refine v_fin1 ?_ | refine v_finC1 ?_ | refine v_finR1 ?_ | refine v_callE (hf) ?_ | refine v_callE (hg _) ?_ | refine v_finO1 rfl ?_ | refine v_finN1 rfl ?_ ?_ | refine v_apj ?_ (fun j' => ?_) | refine v_stz ?_ ?_ ?_ ?_ ?_ | refine v_stq ?_ | refine v_cv1 ?_ ?_ ?_ | (intro hc; replace fc := And.intro hc fc; try simp only [hcs] at hc)) <;> (try simp (config := { maxSteps := 1000000 }) only [go_sem, ↓reduceIte, reduceCtorEq, Nat.reduceEqDiff, Nat.reduceAdd, Nat.reduceMul, Nat.reduceSub, Nat.reduceLeDiff, Int.reduceLT, Int.reduceLE, Int.reduceEq, Int.reduceSub, Int.reduceAdd, Int.reduceMul, Int.reduceNeg, Int.reduceToNat, fc]) <;> (try with_reducible rfl))
    all_goals try (first | omega | (simp only [n_i64, n_u8]; omega) | (simp only [n_i64, n_u8, lnA]; omega) | (simp only [lnA]; done))
    refine v_loop (fun ms2 S2 => ∃ (u : Nat), OwnL (S2.e 3) S2.h S2.n (PV.int .i64) ((([] : List Int)).length) (([] : List Int)) ∧ OwnL (S2.e 4) S2.h S2.n (PV.int .i64) ((([] : List Int)).length) (([] : List Int)) ∧ S2.e 5 = .p (.int .i64 ((-1))) ∧ NId (S2.e 4) (S2.e 3) ∧ ms2 = u) ((fun (u : Nat) => u) (0)) ?init2_4 ?body2_4
    case' init2_4 =>
      refine ⟨0, ?_, ?_, ?_, ?_, rfl⟩
      all_goals (try simp only [go_sem, ↓reduceIte, reduceCtorEq, Nat.reduceEqDiff, Nat.reduceAdd, Nat.reduceMul, Nat.reduceSub, Nat.reduceLeDiff, Int.reduceLT, Int.reduceLE, Int.reduceEq, Int.reduceSub, Int.reduceAdd, Int.reduceMul, Int.reduceNeg, Int.reduceToNat])
      repeat' refine And.intro ?_ ?_
      all_goals try first | rfl | omega | (simp only [lnA] <;> omega) | ((first | refine stp ?_ | refine dkz_eq ?_ ?_) <;> first | rfl | omega | (simp only [lnA] <;> omega) | (simp only [lnA, List.append_assoc, List.cons_append, List.nil_append]; done) | skip)
    case' body2_4 =>
      rintro ms2 S2 ⟨u, o2_3, o2_4, h2_5, u2_0, hm2⟩
      obtain ⟨i2_3, h2_3, b2_3, l2_3⟩ := o2_3.out
      obtain ⟨i2_4, h2_4, b2_4, l2_4⟩ := o2_4.out
      have k2_0 := (u2_0).out h2_4 h2_3
      have ni2_3 : ∀ c, (i2_3 = S2.n + c) = False := fun c => eq_false (by omega)
      have pi2_3 : ∀ c, (S2.n + c = i2_3) = False := fun c => eq_false (by omega)
      have qi2_3 : (i2_3 = S2.n) = False := eq_false (by omega)
      have ri2_3 : (S2.n = i2_3) = False := eq_false (by omega)
      have ni2_4 : ∀ c, (i2_4 = S2.n + c) = False := fun c => eq_false (by omega)
      have pi2_4 : ∀ c, (S2.n + c = i2_4) = False := fun c => eq_false (by omega)
      have qi2_4 : (i2_4 = S2.n) = False := eq_false (by omega)
      have ri2_4 : (S2.n = i2_4) = False := eq_false (by omega)
      have di2_3i2_4 : (i2_3 = i2_4) = False := eq_false (by omega)
      have di2_4i2_3 : (i2_4 = i2_3) = False := eq_false (by omega)
    · have fc : True := trivial
      repeat' first
        | with_reducible first | refine stp ?_ | refine q_blk_o rfl ?_ | (refine hK _ ?_; clear hK) | (refine hA ?_; clear hA hB) | (refine hB ?_; clear hA hB) | exact v_end0 | exact v_end0' | refine v_gb1 ?_ ?_ | refine v_gb0 ?_ ?_ | refine And.intro ?_ ?_
        | (with_reducible refine p_ok ?_; decide)
        | ((first | with_reducible first | refine v_region rfl rfl (fun K hK => ?_) | refine v_draws rfl rfl (fun K hK => ?_) | refine v_if (fun A B hA hB => ?_) | refine v_end rfl ?_ | refine v_fin1 ?_ | refine v_finC1 ?_ | refine v_finR1 ?_ | refine v_callE (spec_CodeOf_c _ ?_) ?_ | refine v_callE (spec_l15Sort_c _ ?_) ?_ | refine v_finO1 rfl ?_ | refine v_finN1 rfl ?_ ?_ | refine v_apj ?_ (fun j' => ?_) | refine v_stz ?_ ?_ ?_ ?_ ?_ | refine v_stq ?_ | refine v_cv1 ?_ ?_ ?_ | (intro hc; replace fc := And.intro hc fc; try simp only [hcs] at hc)) <;> (try simp (config := { maxSteps := 1000000 }) only [go_sem, ↓reduceIte, reduceCtorEq, Nat.reduceEqDiff, Nat.reduceAdd, Nat.reduceMul, Nat.reduceSub, Nat.reduceLeDiff, Int.reduceLT, Int.reduceLE, Int.reduceEq, Int.reduceSub, Int.reduceAdd, Int.reduceMul, Int.reduceNeg, Int.reduceToNat, h2_5, h2_3, b2_3, h2_4, b2_4, ni2_3, pi2_3, qi2_3, ri2_3, ni2_4, pi2_4, qi2_4, ri2_4, di2_3i2_4, di2_4i2_3, fc]) <;> (try with_reducible rfl))
      all_goals try (first | omega | (simp only [n_i64, n_u8]; omega) | (simp only [n_i64, n_u8, lnA]; omega) | (simp only [lnA]; done))
      rw [focL, if_neg (by rw [hp]; decide)]; rfl
end Go.Gl
