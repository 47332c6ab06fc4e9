/-
  Functions of the library over slices of slices that are handed a function: what they compute. Conditions: none.
-/
import Derived.Test.YtcnejdfpdgiffaaLaw1
set_option linter.unusedSimpArgs false
set_option linter.unusedVariables false
set_option maxRecDepth 20000
namespace Go.Gl
open Go Go.Proofs

def idxG {α : Type} (p : α → Bool) : List α → Nat → Int
  | [], _ => -1
  | x :: l, i => if p x then i else idxG p l (i + 1)
theorem idxG_any {α : Type} {p : α → Bool} : ∀ {l : List α} {i : Nat}, decide (0 ≤ idxG p l i) = l.any p
  | [], _ => rfl
  | x :: l, i => by
    rw [idxG, List.any_cons]
    split
    · rename_i h; rw [h, Bool.true_or]; exact decide_eq_true (by omega)
    · rename_i h; rw [idxG_any, Bool.eq_false_iff.2 h, Bool.false_or]
theorem idxG_spec {α : Type} {p : α → Bool} {d : α} : ∀ {l : List α} {i : Nat}, (idxG p l i = -1 ∧ ∀ x ∈ l, p x = false) ∨ ∃ k, k < l.length ∧ idxG p l i = i + k ∧ p (l.getD k d) = true ∧ ∀ j, j < k → p (l.getD j d) = false
  | [], _ => .inl ⟨rfl, fun x hx => by simp at hx⟩
  | x :: l, i => by
    rw [idxG]
    split
    · rename_i h; exact .inr ⟨0, by simp, by simp, by simpa using h, fun j hj => by omega⟩
    · rename_i h
      rcases idxG_spec (p := p) (d := d) (l := l) (i := i + 1) with ⟨h1, h2⟩ | ⟨k, h1, h2, h3, h4⟩
      · exact .inl ⟨h1, fun y hy => by rcases List.mem_cons.1 hy with rfl | hy; exact Bool.eq_false_iff.2 h; exact h2 y hy⟩
      · refine .inr ⟨k + 1, by simpa using h1, by rw [h2]; push_cast; omega, by simpa using h3, fun j hj => ?_⟩
        cases j with
        | zero => simpa using Bool.eq_false_iff.2 h
        | succ j => simpa using h4 j (by omega)

theorem slices_IndexFunc_LLint_int_c {e0 m0 : Bool} (l : List (List Int)) (g : FuncId) (caps : List PV) (p : List Int → Bool) (hl : l.length ≤ 1099511627776) (hp : ∀ x ∈ l, Fun Try.prog g (.sl (.lent e0) (List.map (PV.int .i64) x) :: caps.map PV.cell) [.bool (p x)]) : Fun Try.prog 152 [(.sl (.lent m0) (List.map (elI e0) (l))), (.fn g [] caps)] [(.int .i64 (idxG p l 0))] := by
  refine Fun.of (sg := sg0) (ts := [4]) mo Try.func152 rfl rfl rfl rfl (by kernel_rfl) (by simp only [go_sem]) rfl ?_
  have fc : True := trivial
  repeat' first
    | with_reducible first | refine stp ?_ | refine q_blk_o rfl ?_ | (refine hK _ ?_; clear hK) | (refine hA ?_; clear hA hB) | (refine hB ?_; clear hA hB) | exact v_end0 | exact v_end0' | refine v_gb1 ?_ ?_ | refine v_gb0 ?_ ?_ | refine And.intro ?_ ?_
    | (with_reducible refine p_ok ?_; decide)
    | ((first | with_reducible first | refine v_region rfl rfl (fun K hK => ?_) | refine v_draws rfl rfl (fun K hK => ?_) | refine v_if (fun A B hA hB => ?_) | refine v_end rfl ?_ | refine v_fin1 ?_ | refine v_finC1 ?_ | refine v_finO1 rfl ?_ | refine v_finN1 rfl ?_ ?_ | refine v_apj ?_ (fun j' => ?_) | refine v_stz ?_ ?_ ?_ ?_ ?_ | refine v_stq ?_ | refine v_cv1 ?_ ?_ ?_ | (intro hc; replace fc := And.intro hc fc; try simp only [hcs] at hc)) <;> (try simp (config := { maxSteps := 1000000 }) only [go_sem, ↓reduceIte, reduceCtorEq, Nat.reduceEqDiff, Nat.reduceAdd, Nat.reduceMul, Nat.reduceSub, Nat.reduceLeDiff, Int.reduceLT, Int.reduceLE, Int.reduceEq, Int.reduceSub, Int.reduceAdd, Int.reduceMul, Int.reduceNeg, Int.reduceToNat, fc]) <;> (try with_reducible rfl))
  refine v_loop (fun ms1 S1 => ∃ (k : Nat), S1.e 0 = .p (.sl (.lent m0) (List.map (elI e0) (l))) ∧ S1.e 1 = .p (.fn g [] caps) ∧ S1.e 7 = .p (.int .i64 (l.length)) ∧ S1.e 8 = .p (.int .i64 (k)) ∧ (k ≤ l.length) ∧ (idxG p l 0 = idxG p (l.drop k) k) ∧ ms1 = l.length - k) ((fun (k : Nat) => l.length - k) (0)) ?init1_0 ?body1_0
  case' init1_0 =>
    refine ⟨0, ?_, ?_, ?_, ?_, ?_, ?_, rfl⟩
    all_goals (try simp only [go_sem, ↓reduceIte, reduceCtorEq, Nat.reduceEqDiff, Nat.reduceAdd, Nat.reduceMul, Nat.reduceSub, Nat.reduceLeDiff, Int.reduceLT, Int.reduceLE, Int.reduceEq, Int.reduceSub, Int.reduceAdd, Int.reduceMul, Int.reduceNeg, Int.reduceToNat])
    repeat' refine And.intro ?_ ?_
    all_goals try first | rfl | omega | (simp only [lnA] <;> omega) | ((first | refine stp ?_ | refine dkz_eq ?_ ?_) <;> first | rfl | omega | (simp only [lnA] <;> omega) | (simp only [lnA, List.append_assoc, List.cons_append, List.nil_append]; done) | skip)
  case' body1_0 =>
    rintro ms1 S1 ⟨k, h1_0, h1_1, h1_7, h1_8, c1_0, c1_1, hm1⟩
  have fc : True := trivial
  repeat' first
    | with_reducible first | refine stp ?_ | refine q_blk_o rfl ?_ | (refine hK _ ?_; clear hK) | (refine hA ?_; clear hA hB) | (refine hB ?_; clear hA hB) | exact v_end0 | exact v_end0' | refine v_gb1 ?_ ?_ | refine v_gb0 ?_ ?_ | refine And.intro ?_ ?_
    | (with_reducible refine p_ok ?_; decide)
    | ((first | with_reducible first | refine v_region rfl rfl (fun K hK => ?_) | refine v_draws rfl rfl (fun K hK => ?_) | refine v_if (fun A B hA hB => ?_) | refine v_end rfl ?_ | refine v_fin1 ?_ | refine v_finC1 ?_ | refine v_callE (hp _ ?_) ?_ | refine v_finO1 rfl ?_ | refine v_finN1 rfl ?_ ?_ | refine v_apj ?_ (fun j' => ?_) | refine v_stz ?_ ?_ ?_ ?_ ?_ | refine v_stq ?_ | refine v_cv1 ?_ ?_ ?_ | (intro hc; replace fc := And.intro hc fc; try simp only [hcs] at hc)) <;> (try simp (config := { maxSteps := 1000000 }) only [go_sem, ↓reduceIte, reduceCtorEq, Nat.reduceEqDiff, Nat.reduceAdd, Nat.reduceMul, Nat.reduceSub, Nat.reduceLeDiff, Int.reduceLT, Int.reduceLE, Int.reduceEq, Int.reduceSub, Int.reduceAdd, Int.reduceMul, Int.reduceNeg, Int.reduceToNat, h1_0, h1_1, h1_7, h1_8, fc]) <;> (try with_reducible rfl))
  all_goals try (first | omega | (simp only [n_i64, n_u8]; omega) | (simp only [n_i64, n_u8, lnA]; omega))
  · exact getD_mem hc
  · rw [c1_1, dropL_at (by omega), idxG, if_pos hc]
  · focus
      refine q_lp_n ((fun (k : Nat) => l.length - k) (k+1)) ?_ ⟨k+1, ?_, ?_, ?_, ?_, ?_, ?_, rfl⟩
      all_goals (try simp only [go_sem, ↓reduceIte, reduceCtorEq, Nat.reduceEqDiff, Nat.reduceAdd, Nat.reduceMul, Nat.reduceSub, Nat.reduceLeDiff, Int.reduceLT, Int.reduceLE, Int.reduceEq, Int.reduceSub, Int.reduceAdd, Int.reduceMul, Int.reduceNeg, Int.reduceToNat, h1_0, h1_1, h1_7, h1_8])
      repeat' refine And.intro ?_ ?_
      all_goals try first | rfl | omega | (simp only [lnA] <;> omega) | ((first | refine stp ?_ | refine dkz_eq ?_ ?_) <;> first | rfl | omega | (simp only [lnA] <;> omega) | (simp only [lnA, List.append_assoc, List.cons_append, List.nil_append]; done) | skip)
    rw [c1_1, dropL_at (by omega), idxG, if_neg (by rw [hc]; decide)]
  · rw [c1_1, List.drop_of_length_le (by omega), idxG]
theorem slices_ContainsFunc_LLint_int_c {e0 m0 : Bool} (l : List (List Int)) (g : FuncId) (caps : List PV) (p : List Int → Bool) (hl : l.length ≤ 1099511627776) (hp : ∀ x ∈ l, Fun Try.prog g (.sl (.lent e0) (List.map (PV.int .i64) x) :: caps.map PV.cell) [.bool (p x)]) : Fun Try.prog 165 [(.sl (.lent m0) (List.map (elI e0) (l))), (.fn g [] caps)] [(.bool (l.any p))] := by
  refine Fun.of (sg := sg0) (ts := [4]) mo Try.func165 rfl rfl rfl rfl (by kernel_rfl) (by simp only [go_sem]) rfl ?_
  have fc : True := trivial
  repeat' first
    | with_reducible first | refine stp ?_ | refine q_blk_o rfl ?_ | (refine hK _ ?_; clear hK) | (refine hA ?_; clear hA hB) | (refine hB ?_; clear hA hB) | exact v_end0 | exact v_end0' | refine v_gb1 ?_ ?_ | refine v_gb0 ?_ ?_ | refine And.intro ?_ ?_
    | (with_reducible refine p_ok ?_; decide)
    | ((first | with_reducible first | refine v_region rfl rfl (fun K hK => ?_) | refine v_draws rfl rfl (fun K hK => ?_) | refine v_if (fun A B hA hB => ?_) | refine v_end rfl ?_ | refine v_fin1 ?_ | refine v_finC1 ?_ | refine v_callE (slices_IndexFunc_LLint_int_c l g caps p hl hp) ?_ | refine v_callE (slices_IndexFunc_LLint_int_c _ _ _ _ ?_) ?_ | refine v_finO1 rfl ?_ | refine v_finN1 rfl ?_ ?_ | refine v_apj ?_ (fun j' => ?_) | refine v_stz ?_ ?_ ?_ ?_ ?_ | refine v_stq ?_ | refine v_cv1 ?_ ?_ ?_ | (intro hc; replace fc := And.intro hc fc; try simp only [hcs] at hc)) <;> (try simp (config := { maxSteps := 1000000 }) only [go_sem, ↓reduceIte, reduceCtorEq, Nat.reduceEqDiff, Nat.reduceAdd, Nat.reduceMul, Nat.reduceSub, Nat.reduceLeDiff, Int.reduceLT, Int.reduceLE, Int.reduceEq, Int.reduceSub, Int.reduceAdd, Int.reduceMul, Int.reduceNeg, Int.reduceToNat, fc]) <;> (try with_reducible rfl))
  rw [idxG_any]

/-- The places of the rows that stay, of the first j. -/
def keepI (p : List Int → Bool) (L : List (List Int)) (j : Nat) : List Nat := (List.range j).filter fun r => !p (L.getD r [])
theorem keepI_succ {p : List Int → Bool} {L : List (List Int)} {j : Nat} : keepI p L (j + 1) = keepI p L j ++ if p (L.getD j []) = true then [] else [j] := by
  rw [keepI, List.range_succ, List.filter_append, ← keepI, List.filter_cons]
  cases p (L.getD j []) <;> rfl
theorem keepI_len {p : List Int → Bool} {L : List (List Int)} : ∀ {j : Nat}, (keepI p L j).length ≤ j
  | 0 => by simp [keepI]
  | j + 1 => by have := keepI_len (p := p) (L := L) (j := j); rw [keepI_succ, List.length_append]; split <;> simp <;> omega
theorem keepI_all {p : List Int → Bool} {L : List (List Int)} : ∀ {k : Nat}, (∀ j, j < k → p (L.getD j []) = false) → keepI p L k = List.range k
  | 0, _ => rfl
  | k + 1, h => by rw [keepI_succ, keepI_all fun j hj => h j (by omega), if_neg (by rw [h k (by omega)]; decide), List.range_succ]
theorem keepI_map {p : List Int → Bool} {L : List (List Int)} : ∀ {j : Nat}, j ≤ L.length → (keepI p L j).map (fun r => L.getD r []) = (L.take j).filter fun x => !p x
  | 0, _ => rfl
  | j + 1, h => by
    rw [keepI_succ, List.map_append, keepI_map (by omega), take_getD (d := []) (by omega), List.filter_append, List.filter_cons]
    cases p (L.getD j []) <;> rfl
def sgD0 : FuncId → List Bool := fun f => []
theorem sgD0_eq {f : FuncId} : sgD0 f = [] := _root_.id rfl
theorem wayE_sgD0 : wayE sgD0 = false := _root_.id rfl
theorem wayN_sgD0 : wayN sgD0 = false := _root_.id rfl
theorem wayS_sgD0 : wayS sgD0 = false := _root_.id rfl
theorem wayZ_sgD0 : wayZ sgD0 = false := _root_.id rfl
attribute [go_sem] sgD0_eq wayE_sgD0 wayN_sgD0 wayS_sgD0 wayZ_sgD0
theorem slices_DeleteFunc_LLint_int_c (L : List (List Int)) (g : FuncId) (caps : List PV) (p : List Int → Bool) (hl : L.length ≤ 1099511627776) (hp : ∀ x ∈ L, Fun Try.prog g (.sl (.lent true) (List.map (PV.int .i64) x) :: caps.map PV.cell) [.bool (p x)]) :
    CallT Try.prog true 120 [.mu false [.dl (List.map (List.map (PV.int .i64)) L)], .pv (.fn g [] caps)] [none, none] [.dl (List.map (List.map (PV.int .i64)) (L.filter fun x => !p x))] := by
  rcases idxG_spec (p := p) (d := []) (l := L) (i := 0) with ⟨h1, h2⟩ | ⟨k0, h1, h2, h3, h4⟩
  · have e1 : L.filter (fun x => !p x) = L := List.filter_eq_self.2 fun x hx => by rw [h2 x hx]; rfl
    rw [e1]
    refine CallT.of (sg := sgD0) (ts := [4]) mo Try.func120 rfl rfl rfl rfl (by kernel_rfl) (by simp only [go_sem]) rfl rfl ?_
    have fc : True := trivial
    repeat' first
      | with_reducible first | refine stp ?_ | refine q_blk_o rfl ?_ | (refine hK _ ?_; clear hK) | (refine hA ?_; clear hA hB) | (refine hB ?_; clear hA hB) | exact v_end0 | exact v_end0' | refine v_gb1 ?_ ?_ | refine v_gb0 ?_ ?_ | refine And.intro ?_ ?_
      | (with_reducible refine p_ok ?_; decide)
      | ((first | with_reducible first | refine v_region rfl rfl (fun K hK => ?_) | refine v_draws rfl rfl (fun K hK => ?_) | refine v_if (fun A B hA hB => ?_) | refine v_end rfl ?_ | refine v_fin1 ?_ | refine v_finC1 ?_ | refine v_callE (slices_IndexFunc_LLint_int_c L g caps p hl hp) ?_ | refine v_callE (slices_IndexFunc_LLint_int_c _ _ _ _ ?_) ?_ | refine v_finO1 rfl ?_ | refine v_finN1 rfl ?_ ?_ | refine v_finT1 rfl ?_ | refine v_apj ?_ (fun j' => ?_) | refine v_stz ?_ ?_ ?_ ?_ ?_ | refine v_stq ?_ | refine v_cv1 ?_ ?_ ?_ | (intro hc; replace fc := And.intro hc fc; try simp only [hcs] at hc)) <;> (try simp (config := { maxSteps := 1000000 }) only [go_sem, ↓reduceIte, reduceCtorEq, Nat.reduceEqDiff, Nat.reduceAdd, Nat.reduceMul, Nat.reduceSub, Nat.reduceLeDiff, Int.reduceLT, Int.reduceLE, Int.reduceEq, Int.reduceSub, Int.reduceAdd, Int.reduceMul, Int.reduceNeg, Int.reduceToNat, h1, fc]) <;> (try with_reducible rfl))
    all_goals try (first | omega | (simp only [n_i64, n_u8]; omega) | (simp only [n_i64, n_u8, lnA]; omega))
  · refine CallT.of (sg := sgD0) (ts := [4]) mo Try.func120 rfl rfl rfl rfl (by kernel_rfl) (by simp only [go_sem]) rfl rfl ?_
    have fc : True := trivial
    repeat' first
      | with_reducible first | refine stp ?_ | refine q_blk_o rfl ?_ | (refine hK _ ?_; clear hK) | (refine hA ?_; clear hA hB) | (refine hB ?_; clear hA hB) | exact v_end0 | exact v_end0' | refine v_gb1 ?_ ?_ | refine v_gb0 ?_ ?_ | refine And.intro ?_ ?_
      | (with_reducible refine p_ok ?_; decide)
      | ((first | with_reducible first | refine v_region rfl rfl (fun K hK => ?_) | refine v_draws rfl rfl (fun K hK => ?_) | refine v_if (fun A B hA hB => ?_) | refine v_end rfl ?_ | refine v_fin1 ?_ | refine v_finC1 ?_ | refine v_callE (slices_IndexFunc_LLint_int_c L g caps p hl hp) ?_ | refine v_callE (slices_IndexFunc_LLint_int_c _ _ _ _ ?_) ?_ | refine v_finO1 rfl ?_ | refine v_finN1 rfl ?_ ?_ | refine v_finT1 rfl ?_ | refine v_apj ?_ (fun j' => ?_) | refine v_stz ?_ ?_ ?_ ?_ ?_ | refine v_stq ?_ | refine v_cv1 ?_ ?_ ?_ | (intro hc; replace fc := And.intro hc fc; try simp only [hcs] at hc)) <;> (try simp (config := { maxSteps := 1000000 }) only [go_sem, ↓reduceIte, reduceCtorEq, Nat.reduceEqDiff, Nat.reduceAdd, Nat.reduceMul, Nat.reduceSub, Nat.reduceLeDiff, Int.reduceLT, Int.reduceLE, Int.reduceEq, Int.reduceSub, Int.reduceAdd, Int.reduceMul, Int.reduceNeg, Int.reduceToNat, h2, fc]) <;> (try with_reducible rfl))
    all_goals try (first | omega | (simp only [n_i64, n_u8]; omega) | (simp only [n_i64, n_u8, lnA]; omega))
    have e0 : (keepI p L (k0 + 1)).length = k0 := by rw [keepI_succ, if_pos h3, List.append_nil, keepI_all h4, List.length_range]
    refine v_loop (fun ms1 S1 => ∃ (j : Nat) (cs : List Nat), S1.e 0 = .ref 0 0 (cs).length ∧ S1.h 0 = dq (PV.int .i64) true (cs) (L) ∧ 0 < S1.n ∧ S1.e 1 = .p (.fn g [] caps) ∧ S1.e 5 = .p (.int .i64 ((keepI p L j).length)) ∧ S1.e 6 = .p (.int .i64 (j)) ∧ (cs.length = L.length) ∧ (j ≤ L.length) ∧ (k0 < j) ∧ (cs.take (keepI p L j).length = keepI p L j) ∧ ((keepI p L j).length < j) ∧ (∀ q, j ≤ q → q < L.length → cs.getD q 0 = q) ∧ ms1 = L.length - j) ((fun (j : Nat) (cs : List Nat) => L.length - j) (k0 + 1) (List.range L.length)) ?init1_1 ?body1_1
    case' init1_1 =>
      refine ⟨k0 + 1, List.range L.length, ?_, ?_, ?_, ?_, ?_, ?_, ?_, ?_, ?_, ?_, ?_, ?_, rfl⟩
      all_goals (try simp only [go_sem, ↓reduceIte, reduceCtorEq, Nat.reduceEqDiff, Nat.reduceAdd, Nat.reduceMul, Nat.reduceSub, Nat.reduceLeDiff, Int.reduceLT, Int.reduceLE, Int.reduceEq, Int.reduceSub, Int.reduceAdd, Int.reduceMul, Int.reduceNeg, Int.reduceToNat])
      repeat' refine And.intro ?_ ?_
      all_goals try first | rfl | omega | (simp only [lnA] <;> omega) | ((first | refine stp ?_ | refine dkz_eq ?_ ?_) <;> first | rfl | omega | (simp only [lnA] <;> omega) | (simp only [lnA, List.append_assoc, List.cons_append, List.nil_append]; done) | skip)
    case' body1_1 =>
      rintro ms1 S1 ⟨j, cs, h1_0, b1_0, l1_0, h1_1, h1_5, h1_6, c1_0, c1_1, c1_2, c1_3, c1_4, c1_5, hm1⟩
      have n0 : ∀ c, (0 = S1.n + c) = False := fun c => eq_false (by omega)
      have p0 : ∀ c, (S1.n + c = 0) = False := fun c => eq_false (by omega)
      have q0 : (0 = S1.n) = False := eq_false (by omega)
      have r0 : (S1.n = 0) = False := eq_false (by omega)
    by_cases hj : j < L.length
    · have e1 := c1_5 j (Nat.le_refl _) hj
      have e2 := av_row (f := PV.int .i64) (id := 0) hj
      have e3 : p (L.getD j []) = false → keepI p L (j + 1) = keepI p L j ++ [j] := fun h => by rw [keepI_succ, h]; rfl
      have e4 : p (L.getD j []) = true → keepI p L (j + 1) = keepI p L j := fun h => by rw [keepI_succ, h, if_pos rfl, List.append_nil]
      have fc : True := trivial
      repeat' first
        | with_reducible first | refine stp ?_ | refine q_blk_o rfl ?_ | (refine hK _ ?_; clear hK) | (refine hA ?_; clear hA hB) | (refine hB ?_; clear hA hB) | exact v_end0 | exact v_end0' | refine v_gb1 ?_ ?_ | refine v_gb0 ?_ ?_ | refine And.intro ?_ ?_
        | (with_reducible refine p_ok ?_; decide)
        | ((first | with_reducible first | refine v_region rfl rfl (fun K hK => ?_) | refine v_draws rfl rfl (fun K hK => ?_) | refine v_if (fun A B hA hB => ?_) | refine v_end rfl ?_ | refine v_fin1 ?_ | refine v_finC1 ?_ | refine v_callE (hp _ ?_) ?_ | refine v_callE (slices_IndexFunc_LLint_int_c _ _ _ _ ?_) ?_ | refine v_finO1 rfl ?_ | refine v_finN1 rfl ?_ ?_ | refine v_finT1 rfl ?_ | refine v_apj ?_ (fun j' => ?_) | refine v_stz ?_ ?_ ?_ ?_ ?_ | refine v_stq ?_ | refine v_cv1 ?_ ?_ ?_ | (intro hc; replace fc := And.intro hc fc; try simp only [hcs] at hc)) <;> (try simp (config := { maxSteps := 1000000 }) only [go_sem, ↓reduceIte, reduceCtorEq, Nat.reduceEqDiff, Nat.reduceAdd, Nat.reduceMul, Nat.reduceSub, Nat.reduceLeDiff, Int.reduceLT, Int.reduceLE, Int.reduceEq, Int.reduceSub, Int.reduceAdd, Int.reduceMul, Int.reduceNeg, Int.reduceToNat, h1_0, b1_0, h1_1, h1_5, h1_6, n0, p0, q0, r0, e1, e2, c1_0, fc]) <;> (try with_reducible rfl))
      all_goals try (first | omega | (simp only [n_i64, n_u8]; omega) | (simp only [n_i64, n_u8, lnA]; omega))
      · exact getD_mem hj
      · have e5 := e3 hc
        focus
          refine q_lp_n ((fun (j : Nat) (cs : List Nat) => L.length - j) (j+1) (cs.set (keepI p L j).length j)) ?_ ⟨j+1, cs.set (keepI p L j).length j, ?_, ?_, ?_, ?_, ?_, ?_, ?_, ?_, ?_, ?_, ?_, ?_, rfl⟩
          all_goals (try simp only [go_sem, ↓reduceIte, reduceCtorEq, Nat.reduceEqDiff, Nat.reduceAdd, Nat.reduceMul, Nat.reduceSub, Nat.reduceLeDiff, Int.reduceLT, Int.reduceLE, Int.reduceEq, Int.reduceSub, Int.reduceAdd, Int.reduceMul, Int.reduceNeg, Int.reduceToNat, h1_0, b1_0, h1_1, h1_5, h1_6, n0, p0, q0, r0])
          repeat' refine And.intro ?_ ?_
          all_goals try first | rfl | omega | (simp only [lnA] <;> omega) | ((first | refine stp ?_ | refine dkz_eq ?_ ?_) <;> first | rfl | omega | (simp only [lnA] <;> omega) | (simp only [lnA, List.append_assoc, List.cons_append, List.nil_append]; done) | skip)
        · rw [e5]; simp
        · rw [e5, List.length_append, List.length_singleton, set_take' (by omega), c1_3]
        · rw [e5, List.length_append, List.length_singleton]; omega
        · intro q h5 h6
          rw [List.getD_eq_getElem?_getD, List.getElem?_set_ne (by omega), ← List.getD_eq_getElem?_getD]
          exact c1_5 q (by omega) h6
      · have e5 := e4 hc
        focus
          refine q_lp_n ((fun (j : Nat) (cs : List Nat) => L.length - j) (j+1) (cs)) ?_ ⟨j+1, cs, ?_, ?_, ?_, ?_, ?_, ?_, ?_, ?_, ?_, ?_, ?_, ?_, rfl⟩
          all_goals (try simp only [go_sem, ↓reduceIte, reduceCtorEq, Nat.reduceEqDiff, Nat.reduceAdd, Nat.reduceMul, Nat.reduceSub, Nat.reduceLeDiff, Int.reduceLT, Int.reduceLE, Int.reduceEq, Int.reduceSub, Int.reduceAdd, Int.reduceMul, Int.reduceNeg, Int.reduceToNat, h1_0, b1_0, h1_1, h1_5, h1_6, n0, p0, q0, r0])
          repeat' refine And.intro ?_ ?_
          all_goals try first | rfl | omega | (simp only [lnA] <;> omega) | ((first | refine stp ?_ | refine dkz_eq ?_ ?_) <;> first | rfl | omega | (simp only [lnA] <;> omega) | (simp only [lnA, List.append_assoc, List.cons_append, List.nil_append]; done) | skip)
        · rw [e5]
        · rw [e5]; exact c1_3
        · rw [e5]; omega
        · intro q h5 h6; exact c1_5 q (by omega) h6
    · have fc : True := trivial
      repeat' first
        | with_reducible first | refine stp ?_ | refine q_blk_o rfl ?_ | (refine hK _ ?_; clear hK) | (refine hA ?_; clear hA hB) | (refine hB ?_; clear hA hB) | exact v_end0 | exact v_end0' | refine v_gb1 ?_ ?_ | refine v_gb0 ?_ ?_ | refine And.intro ?_ ?_
        | (with_reducible refine p_ok ?_; decide)
        | ((first | with_reducible first | refine v_region rfl rfl (fun K hK => ?_) | refine v_draws rfl rfl (fun K hK => ?_) | refine v_if (fun A B hA hB => ?_) | refine v_end rfl ?_ | refine v_fin1 ?_ | refine v_finC1 ?_ | refine v_callE (hp _ ?_) ?_ | refine v_callE (slices_IndexFunc_LLint_int_c _ _ _ _ ?_) ?_ | refine v_finO1 rfl ?_ | refine v_finN1 rfl ?_ ?_ | refine v_finT1 rfl ?_ | refine v_apj ?_ (fun j' => ?_) | refine v_stz ?_ ?_ ?_ ?_ ?_ | refine v_stq ?_ | refine v_cv1 ?_ ?_ ?_ | (intro hc; replace fc := And.intro hc fc; try simp only [hcs] at hc)) <;> (try simp (config := { maxSteps := 1000000 }) only [go_sem, ↓reduceIte, reduceCtorEq, Nat.reduceEqDiff, Nat.reduceAdd, Nat.reduceMul, Nat.reduceSub, Nat.reduceLeDiff, Int.reduceLT, Int.reduceLE, Int.reduceEq, Int.reduceSub, Int.reduceAdd, Int.reduceMul, Int.reduceNeg, Int.reduceToNat, h1_0, b1_0, h1_1, h1_5, h1_6, n0, p0, q0, r0, c1_0, fc]) <;> (try with_reducible rfl))
      all_goals try (first | omega | (simp only [n_i64, n_u8]; omega) | (simp only [n_i64, n_u8, lnA]; omega))
      obtain rfl : j = L.length := by omega
      have e6 := keepI_map (p := p) (L := L) (j := L.length) (Nat.le_refl _)
      rw [List.take_length] at e6
      rw [List.drop_of_length_le (by omega), List.map_nil, List.append_nil, c1_3]
      exact fd_dqc (f := PV.int .i64) (m := true) (cs := keepI p L L.length) (L := L) (fun _ => rfl) (fun r hr => by have := (List.mem_filter.1 hr).1; simpa using this) (List.Nodup.sublist List.filter_sublist List.nodup_range) (by rw [← e6, List.map_map]; rfl) trivial
    · rw [e0, keepI_succ, if_pos h3, List.append_nil, keepI_all h4, List.take_range]; congr 1; omega
    · intro q h5 h6; rw [List.getD_eq_getElem?_getD, List.getElem?_range h6]; rfl
end Go.Gl
