/-
  The simple permutations below a permutation; exceptional ones. Conditions: none.
-/
import Derived.Test.YtdpahkppdakenaaOrd
import Derived.Test.YtdpahkppdakenaaPat
import Derived.Test.YtdpahkppdakenaaIvl
import Derived.Test.YtdpahkppdakenaaDel
import Derived.Test.YtdpahkppdakenaaLibL
set_option linter.unusedSimpArgs false
set_option linter.unusedVariables false
set_option maxRecDepth 20000
set_option linter.unusedSectionVars false
namespace Go.Gl
open Go Go.Proofs
variable [Amb]
theorem fil_snoc {p : List Int → Bool} {L : List (List Int)} {j : Nat} (h : j < L.length) : (L.take (j + 1)).filter p = (L.take j).filter p ++ if p (L.getD j []) = true then [L.getD j []] else [] := by
  rw [take_getD (d := []) h, List.filter_append, List.filter_cons]
  cases p (L.getD j []) <;> rfl
theorem fil_len {p : List Int → Bool} {L : List (List Int)} {j : Nat} (h : j ≤ L.length) : ((L.take j).filter p).length ≤ j := by
  have := List.length_filter_le p (L.take j)
  rw [List.length_take] at this; omega
def kpL (p : List Int → Bool) (L : List (List Int)) : List (List Int) := L.filter fun x => !p x
def sgD0x : FuncId → List Bool := fun f => []
theorem sgD0x_eq {f : FuncId} : sgD0x f = [] := _root_.id rfl
theorem wayE_sgD0x : wayE sgD0x = false := _root_.id rfl
theorem wayN_sgD0x : wayN sgD0x = false := _root_.id rfl
theorem wayS_sgD0x : wayS sgD0x = false := _root_.id rfl
theorem wayZ_sgD0x : wayZ sgD0x = false := _root_.id rfl
attribute [go_sem] sgD0x_eq wayE_sgD0x wayN_sgD0x wayS_sgD0x wayZ_sgD0x
theorem slices_DeleteFunc_LLint_int_fr_c (L : List (List Int)) (g : FuncId) (caps : List PV) (p : List Int → Bool) (hl : L.length ≤ 1099511627776) (hp : ∀ x ∈ L, Fun Try.prog g (.sl (.lent false) (List.map (PV.int .i64) x) :: caps.map PV.cell) [.bool (p x)]) : CallT Try.prog true 162 [.mu false (List.map (elI false) (L)), .pv (.fn g [] caps)] [none, none] [(.sl .own (List.map (elI false) (kpL p L)))] := by
  refine CallT.of (sg := sgD0x) (ts := [4]) mo Try.func162 rfl rfl rfl rfl (by kernel_rfl) (by simp only [go_sem]) rfl (by simp only [go_sem]) ?_
  rcases idxG_spec (p := p) (d := []) (l := L) (i := 0) with ⟨h1, h2⟩ | ⟨k0, h1, h2, h3, h4⟩
  · have e1 : kpL p L = L := List.filter_eq_self.2 fun x hx => by rw [h2 x hx]; rfl
    have fc : True := trivial
    repeat' first
      | with_reducible first | refine stp ?_ | refine q_blk_o rfl ?_ | (refine hK _ ?_; clear hK) | (refine hA ?_; clear hA hB) | (refine hB ?_; clear hA hB) | exact v_end0 | exact v_end0' | refine v_gb1 ?_ ?_ | refine v_gb0 ?_ ?_ | refine And.intro ?_ ?_
      | (with_reducible refine p_ok ?_; decide)
      | ((first | with_reducible first | refine v_region rfl rfl (fun K hK => ?_) | refine v_draws rfl rfl (fun K hK => ?_) | refine v_if (fun A B hA hB => ?_) | refine v_end rfl ?_ | refine v_fin1 ?_ | refine v_finC1 ?_ | refine v_finR1 ?_ | refine v_callE (slices_IndexFunc_LLint_int_c L g caps p hl hp) ?_ | refine v_callE (slices_IndexFunc_LLint_int_c _ _ _ _ ?_) ?_ | refine v_finO1 rfl ?_ | refine v_finN1 rfl ?_ ?_ | refine v_finT1 rfl ?_ | refine v_apj ?_ (fun j' => ?_) | refine v_stz ?_ ?_ ?_ ?_ ?_ | refine v_stq ?_ | refine v_cv1 ?_ ?_ ?_ | (intro hc; replace fc := And.intro hc fc; try simp only [hcs] at hc)) <;> (try simp (config := { maxSteps := 1000000 }) only [go_sem, ↓reduceIte, reduceCtorEq, Nat.reduceEqDiff, Nat.reduceAdd, Nat.reduceMul, Nat.reduceSub, Nat.reduceLeDiff, Int.reduceLT, Int.reduceLE, Int.reduceEq, Int.reduceSub, Int.reduceAdd, Int.reduceMul, Int.reduceNeg, Int.reduceToNat, h1, fc]) <;> (try with_reducible rfl))
    all_goals try (first | omega | (simp only [n_i64, n_u8]; omega) | (simp only [n_i64, n_u8, lnA]; omega) | (simp only [lnA]; done))
    exact e1.symm
  · have fc : True := trivial
    repeat' first
      | with_reducible first | refine stp ?_ | refine q_blk_o rfl ?_ | (refine hK _ ?_; clear hK) | (refine hA ?_; clear hA hB) | (refine hB ?_; clear hA hB) | exact v_end0 | exact v_end0' | refine v_gb1 ?_ ?_ | refine v_gb0 ?_ ?_ | refine And.intro ?_ ?_
      | (with_reducible refine p_ok ?_; decide)
      | ((first | with_reducible first | refine v_region rfl rfl (fun K hK => ?_) | refine v_draws rfl rfl (fun K hK => ?_) | refine v_if (fun A B hA hB => ?_) | refine v_end rfl ?_ | refine v_fin1 ?_ | refine v_finC1 ?_ | refine v_finR1 ?_ | refine v_callE (slices_IndexFunc_LLint_int_c L g caps p hl hp) ?_ | refine v_callE (slices_IndexFunc_LLint_int_c _ _ _ _ ?_) ?_ | refine v_finO1 rfl ?_ | refine v_finN1 rfl ?_ ?_ | refine v_finT1 rfl ?_ | refine v_apj ?_ (fun j' => ?_) | refine v_stz ?_ ?_ ?_ ?_ ?_ | refine v_stq ?_ | refine v_cv1 ?_ ?_ ?_ | (intro hc; replace fc := And.intro hc fc; try simp only [hcs] at hc)) <;> (try simp (config := { maxSteps := 1000000 }) only [go_sem, ↓reduceIte, reduceCtorEq, Nat.reduceEqDiff, Nat.reduceAdd, Nat.reduceMul, Nat.reduceSub, Nat.reduceLeDiff, Int.reduceLT, Int.reduceLE, Int.reduceEq, Int.reduceSub, Int.reduceAdd, Int.reduceMul, Int.reduceNeg, Int.reduceToNat, h2, fc]) <;> (try with_reducible rfl))
    all_goals try (first | omega | (simp only [n_i64, n_u8]; omega) | (simp only [n_i64, n_u8, lnA]; omega) | (simp only [lnA]; done))
    have e0 : kpL p (L.take (k0 + 1)) = L.take k0 := by
      rw [kpL, fil_snoc (by omega), h3]
      simp only [Bool.not_true, Bool.false_eq_true, if_false, List.append_nil]
      exact List.filter_eq_self.2 fun x hx => by
        obtain ⟨i, hi, _, rfl⟩ := take_mem hx
        rw [h4 i hi]; rfl
    have e9 : (L.take k0).length = k0 := by simp; omega
    refine v_loop (fun ms1 S1 => ∃ (j : Nat) (Y : List (List Int)), S1.e 0 = .ref 0 0 (Y).length ∧ S1.h 0 = .live true (List.map (elI false) (Y)) ∧ 0 < S1.n ∧ S1.e 1 = .p (.fn g [] caps) ∧ S1.e 5 = .p (.int .i64 ((kpL p (L.take j)).length)) ∧ S1.e 6 = .p (.int .i64 (j)) ∧ (Y.length = L.length) ∧ (j ≤ L.length) ∧ (k0 < j) ∧ (Y.take (kpL p (L.take j)).length = kpL p (L.take j)) ∧ ((kpL p (L.take j)).length < j) ∧ (∀ q, j ≤ q → q < L.length → Y.getD q [] = L.getD q []) ∧ ms1 = L.length - j) ((fun (j : Nat) (Y : List (List Int)) => L.length - j) (k0 + 1) (L)) ?init1_0 ?body1_0
    case' init1_0 =>
      refine ⟨k0 + 1, L, ?_, ?_, ?_, ?_, ?_, ?_, ?_, ?_, ?_, ?_, ?_, ?_, rfl⟩
      all_goals (try simp only [go_sem, ↓reduceIte, reduceCtorEq, Nat.reduceEqDiff, Nat.reduceAdd, Nat.reduceMul, Nat.reduceSub, Nat.reduceLeDiff, Int.reduceLT, Int.reduceLE, Int.reduceEq, Int.reduceSub, Int.reduceAdd, Int.reduceMul, Int.reduceNeg, Int.reduceToNat])
      repeat' refine And.intro ?_ ?_
      all_goals try first | rfl | omega | (simp only [lnA] <;> omega) | ((first | refine stp ?_ | refine dkz_eq ?_ ?_) <;> first | rfl | omega | (simp only [lnA] <;> omega) | (simp only [lnA, List.append_assoc, List.cons_append, List.nil_append]; done) | skip)
    case' body1_0 =>
      rintro ms1 S1 ⟨j, Y, h1_0, b1_0, l1_0, h1_1, h1_5, h1_6, c1_0, c1_1, c1_2, c1_3, c1_4, c1_5, hm1⟩
      have n0 : ∀ c, (0 = S1.n + c) = False := fun c => eq_false (by omega)
      have p0 : ∀ c, (S1.n + c = 0) = False := fun c => eq_false (by omega)
      have q0 : (0 = S1.n) = False := eq_false (by omega)
      have r0 : (S1.n = 0) = False := eq_false (by omega)
    by_cases hj : j < L.length
    · have f1 := c1_5 j (Nat.le_refl _) hj
      have fc : True := trivial
      repeat' first
        | with_reducible first | refine stp ?_ | refine q_blk_o rfl ?_ | (refine hK _ ?_; clear hK) | (refine hA ?_; clear hA hB) | (refine hB ?_; clear hA hB) | exact v_end0 | exact v_end0' | refine v_gb1 ?_ ?_ | refine v_gb0 ?_ ?_ | refine And.intro ?_ ?_
        | (with_reducible refine p_ok ?_; decide)
        | ((first | with_reducible first | refine v_region rfl rfl (fun K hK => ?_) | refine v_draws rfl rfl (fun K hK => ?_) | refine v_if (fun A B hA hB => ?_) | refine v_end rfl ?_ | refine v_fin1 ?_ | refine v_finC1 ?_ | refine v_finR1 ?_ | refine v_callE (hp _ ?_) ?_ | refine v_callE (slices_IndexFunc_LLint_int_c _ _ _ _ ?_) ?_ | refine v_finO1 rfl ?_ | refine v_finN1 rfl ?_ ?_ | refine v_finT1 rfl ?_ | refine v_apj ?_ (fun j' => ?_) | refine v_stz ?_ ?_ ?_ ?_ ?_ | refine v_stq ?_ | refine v_cv1 ?_ ?_ ?_ | (intro hc; replace fc := And.intro hc fc; try simp only [hcs] at hc)) <;> (try simp (config := { maxSteps := 1000000 }) only [go_sem, ↓reduceIte, reduceCtorEq, Nat.reduceEqDiff, Nat.reduceAdd, Nat.reduceMul, Nat.reduceSub, Nat.reduceLeDiff, Int.reduceLT, Int.reduceLE, Int.reduceEq, Int.reduceSub, Int.reduceAdd, Int.reduceMul, Int.reduceNeg, Int.reduceToNat, h1_0, b1_0, h1_1, h1_5, h1_6, n0, p0, q0, r0, f1, c1_0, fc]) <;> (try with_reducible rfl))
      all_goals try (first | omega | (simp only [n_i64, n_u8]; omega) | (simp only [n_i64, n_u8, lnA]; omega) | (simp only [lnA]; done))
      · exact getD_mem hj
      · have s1 : kpL p (L.take (j + 1)) = kpL p (L.take j) ++ [L.getD j []] := by rw [kpL, fil_snoc hj, hc]; rfl
        have s2 : (kpL p (L.take (j + 1))).length = (kpL p (L.take j)).length + 1 := by rw [s1, List.length_append]; rfl
        focus
          refine q_lp_n ((fun (j : Nat) (Y : List (List Int)) => L.length - j) (j+1) (Y.set (kpL p (L.take j)).length (L.getD j []))) ?_ ⟨j+1, Y.set (kpL p (L.take j)).length (L.getD j []), ?_, ?_, ?_, ?_, ?_, ?_, ?_, ?_, ?_, ?_, ?_, ?_, rfl⟩
          all_goals (try simp only [go_sem, ↓reduceIte, reduceCtorEq, Nat.reduceEqDiff, Nat.reduceAdd, Nat.reduceMul, Nat.reduceSub, Nat.reduceLeDiff, Int.reduceLT, Int.reduceLE, Int.reduceEq, Int.reduceSub, Int.reduceAdd, Int.reduceMul, Int.reduceNeg, Int.reduceToNat, h1_0, b1_0, h1_1, h1_5, h1_6, n0, p0, q0, r0])
          repeat' refine And.intro ?_ ?_
          all_goals try first | rfl | omega | (simp only [lnA] <;> omega) | ((first | refine stp ?_ | refine dkz_eq ?_ ?_) <;> first | rfl | omega | (simp only [lnA] <;> omega) | (simp only [lnA, List.append_assoc, List.cons_append, List.nil_append]; done) | skip)
        all_goals first | (rw [s2, set_take' (by omega), c1_3, s1]; done) | (rw [s2]; done) | (rw [s2]; simp; done) | omega | (intro q h5 h6; rw [List.getD_eq_getElem?_getD, List.getElem?_set_ne (by omega), ← List.getD_eq_getElem?_getD]; exact c1_5 q (by omega) h6) | skip
      · have s1 : kpL p (L.take (j + 1)) = kpL p (L.take j) := by rw [kpL, fil_snoc hj, hc]; simp [kpL]
        focus
          refine q_lp_n ((fun (j : Nat) (Y : List (List Int)) => L.length - j) (j+1) (Y)) ?_ ⟨j+1, Y, ?_, ?_, ?_, ?_, ?_, ?_, ?_, ?_, ?_, ?_, ?_, ?_, rfl⟩
          all_goals (try simp only [go_sem, ↓reduceIte, reduceCtorEq, Nat.reduceEqDiff, Nat.reduceAdd, Nat.reduceMul, Nat.reduceSub, Nat.reduceLeDiff, Int.reduceLT, Int.reduceLE, Int.reduceEq, Int.reduceSub, Int.reduceAdd, Int.reduceMul, Int.reduceNeg, Int.reduceToNat, h1_0, b1_0, h1_1, h1_5, h1_6, n0, p0, q0, r0])
          repeat' refine And.intro ?_ ?_
          all_goals try first | rfl | omega | (simp only [lnA] <;> omega) | ((first | refine stp ?_ | refine dkz_eq ?_ ?_) <;> first | rfl | omega | (simp only [lnA] <;> omega) | (simp only [lnA, List.append_assoc, List.cons_append, List.nil_append]; done) | skip)
        all_goals first | (rw [s1]; done) | (rw [s1]; exact c1_3) | (rw [s1]; omega) | (intro q h5 h6; exact c1_5 q (by omega) h6) | skip
    · have fc : True := trivial
      repeat' first
        | with_reducible first | refine stp ?_ | refine q_blk_o rfl ?_ | (refine hK _ ?_; clear hK) | (refine hA ?_; clear hA hB) | (refine hB ?_; clear hA hB) | exact v_end0 | exact v_end0' | refine v_gb1 ?_ ?_ | refine v_gb0 ?_ ?_ | refine And.intro ?_ ?_
        | (with_reducible refine p_ok ?_; decide)
        | ((first | with_reducible first | refine v_region rfl rfl (fun K hK => ?_) | refine v_draws rfl rfl (fun K hK => ?_) | refine v_if (fun A B hA hB => ?_) | refine v_end rfl ?_ | refine v_fin1 ?_ | refine v_finC1 ?_ | refine v_finR1 ?_ | refine v_callE (hp _ ?_) ?_ | refine v_callE (slices_IndexFunc_LLint_int_c _ _ _ _ ?_) ?_ | refine v_finO1 rfl ?_ | refine v_finN1 rfl ?_ ?_ | refine v_finT1 rfl ?_ | refine v_apj ?_ (fun j' => ?_) | refine v_stz ?_ ?_ ?_ ?_ ?_ | refine v_stq ?_ | refine v_cv1 ?_ ?_ ?_ | (intro hc; replace fc := And.intro hc fc; try simp only [hcs] at hc)) <;> (try simp (config := { maxSteps := 1000000 }) only [go_sem, ↓reduceIte, reduceCtorEq, Nat.reduceEqDiff, Nat.reduceAdd, Nat.reduceMul, Nat.reduceSub, Nat.reduceLeDiff, Int.reduceLT, Int.reduceLE, Int.reduceEq, Int.reduceSub, Int.reduceAdd, Int.reduceMul, Int.reduceNeg, Int.reduceToNat, h1_0, b1_0, h1_1, h1_5, h1_6, n0, p0, q0, r0, c1_0, fc]) <;> (try with_reducible rfl))
      all_goals try (first | omega | (simp only [n_i64, n_u8]; omega) | (simp only [n_i64, n_u8, lnA]; omega) | (simp only [lnA]; done))
      have g2 : (kpL p (L.take j)).length ≤ (List.take (kpL p (L.take j)).length Y).length := by rw [List.length_take]; omega
      rw [List.take_append_of_le_length g2, List.take_take, Nat.min_self, c1_3, List.take_of_length_le (by omega)]
    · rw [e0, e9]; omega
    · rw [e0, e9]
    · rw [e0, e9]; omega
/-- What is below. -/
def woL (p : List Int) (k : Nat) : List Int := patL (p.take k ++ p.drop (k + 1))
def lowL (p : List Int) : List (List Int) := putL ((List.range p.length).map (woL p))
theorem woL_len {p : List Int} {k : Nat} (h : k < p.length) : (woL p k).length = p.length - 1 := by
  rw [woL, patL_len]; simp; omega
theorem woL_perm {p : List Int} (hp : permB p = true) {k : Nat} : permB (woL p k) = true := by
  refine patL_perm ?_
  have h := (permB_iff.1 hp).2
  refine List.Nodup.sublist ?_ h
  calc List.Sublist (p.take k ++ p.drop (k + 1)) (p.take k ++ p.drop k) := List.Sublist.append (List.Sublist.refl _) (by rw [← List.drop_drop]; exact List.drop_sublist _ _)
    _ = p := List.take_append_drop k p
theorem low_mem {p : List Int} {l : List Int} (h : l ∈ lowL p) : ∃ k, k < p.length ∧ l = woL p k := by
  rw [lowL, putL, put_mem] at h
  rcases h with h | h
  · obtain ⟨k, hk, rfl⟩ := List.mem_map.1 h
    exact ⟨k, by simpa using hk, rfl⟩
  · cases h
theorem lowL_len {p : List Int} : (lowL p).length ≤ p.length := by
  have := put_len ((List.range p.length).map (woL p)) (A := [])
  rw [List.length_nil, Nat.add_zero, List.length_map, List.length_range] at this; exact this
def sgWo : FuncId → List Bool := fun f => if f = 185 then [true] else []
theorem sgWo_eq {f : FuncId} : sgWo f = if f = 185 then [true] else [] := _root_.id rfl
theorem wayE_sgWo : wayE sgWo = false := _root_.id rfl
theorem wayN_sgWo : wayN sgWo = false := _root_.id rfl
theorem wayS_sgWo : wayS sgWo = false := _root_.id rfl
theorem wayZ_sgWo : wayZ sgWo = false := _root_.id rfl
attribute [go_sem] sgWo_eq wayE_sgWo wayN_sgWo wayS_sgWo wayZ_sgWo
theorem impl_without_c {m0 : Bool} (p : List Int) (k : Nat) (hk : k < p.length) (h8 : p.length ≤ 8) : Fun Try.prog 164 [(.sl (.lent m0) (List.map (PV.int .i64) (p))), (.int .i64 (k))] [(.sl .own (List.map (PV.int .i64) (woL p k)))] := by
  refine Fun.of (sg := sgWo) (ts := [4]) mo Try.func164 rfl rfl rfl rfl (by kernel_rfl) (by simp only [go_sem]) rfl ?_
  have e1 : ((k : Int) + 1).toNat = k + 1 := by omega
  have fc : True := trivial
  repeat' first
    | with_reducible first | refine stp ?_ | refine q_blk_o rfl ?_ | (refine hK _ ?_; clear hK) | (refine hA ?_; clear hA hB) | (refine hB ?_; clear hA hB) | exact v_end0 | exact v_end0' | refine v_gb1 ?_ ?_ | refine v_gb0 ?_ ?_ | refine And.intro ?_ ?_
    | (with_reducible refine p_ok ?_; decide)
    | ((first | with_reducible first | refine v_region rfl rfl (fun K hK => ?_) | refine v_draws rfl rfl (fun K hK => ?_) | refine v_if (fun A B hA hB => ?_) | refine v_end rfl ?_ | refine v_fin1 ?_ | refine v_finC1 ?_ | refine v_finR1 ?_ | refine v_callE (slices_Clone_c _ ?_) ?_ | refine v_callE (impl_pattern_c _ ?_) ?_ | refine v_callN (slices_Delete_c _ _ _ ?_ ?_ ?_ ?_) rfl ?_ ?_ | refine v_callT (slices_Delete_c _ _ _ ?_ ?_ ?_ ?_) rfl ?_ ?_ | refine v_callTd (slices_Delete_c _ _ _ ?_ ?_ ?_ ?_) rfl ?_ ?_ | refine v_callR (slices_Delete_c _ _ _ ?_ ?_ ?_ ?_) rfl ?_ ?_ | refine v_callT3 (slices_Delete_c _ _ _ ?_ ?_ ?_ ?_) ?_ ?_ | refine v_callT4 (slices_Delete_c _ _ _ ?_ ?_ ?_ ?_) ?_ ?_ | refine v_finO1 rfl ?_ | refine v_finN1 rfl ?_ ?_ | refine v_apj ?_ (fun j' => ?_) | refine v_stz ?_ ?_ ?_ ?_ ?_ | refine v_stq ?_ | refine v_cv1 ?_ ?_ ?_ | (intro hc; replace fc := And.intro hc fc; try simp only [hcs] at hc)) <;> (try simp (config := { maxSteps := 1000000 }) only [go_sem, ↓reduceIte, reduceCtorEq, Nat.reduceEqDiff, Nat.reduceAdd, Nat.reduceMul, Nat.reduceSub, Nat.reduceLeDiff, Int.reduceLT, Int.reduceLE, Int.reduceEq, Int.reduceSub, Int.reduceAdd, Int.reduceMul, Int.reduceNeg, Int.reduceToNat, e1, fc]) <;> (try with_reducible rfl))
  all_goals try (first | omega | (simp only [n_i64, n_u8]; omega) | (simp only [n_i64, n_u8, lnA]; omega) | (simp only [lnA]; done))
  all_goals first | rfl | (simp; omega) | skip
theorem spec_l7Without_c {m0 : Bool} (p : List Int) (k : Nat) (hk : k < p.length) (h8 : p.length ≤ 8) : Fun Try.prog 165 [(.sl (.lent m0) (List.map (PV.int .i64) (p))), (.int .i64 (k))] [(.sl .own (List.map (PV.int .i64) (woL p k)))] := by
  refine Fun.of (sg := sg0) (ts := [4]) mo Try.func165 rfl rfl rfl rfl (by kernel_rfl) (by simp only [go_sem]) rfl ?_
  have e1 : ((k : Int) + 1).toNat = k + 1 := by omega
  have e2 : (p.take k).length + (p.drop (k + 1)).length = (p.take k ++ p.drop (k + 1)).length := by simp
  have e3 : (p.take k ++ p.drop (k + 1)).length ≤ 8 := by simp; omega
  have e4 : List.take ((p.take k).length + (p.drop (k + 1)).length) (p.take k ++ p.drop (k + 1)) = p.take k ++ p.drop (k + 1) := List.take_of_length_le (by omega)
  have e5 : (p.take k).length ≤ 8 := by simp; omega
  have fc : True := trivial
  repeat' first
    | with_reducible first | refine stp ?_ | refine q_blk_o rfl ?_ | (refine hK _ ?_; clear hK) | (refine hA ?_; clear hA hB) | (refine hB ?_; clear hA hB) | exact v_end0 | exact v_end0' | refine v_gb1 ?_ ?_ | refine v_gb0 ?_ ?_ | refine And.intro ?_ ?_
    | (with_reducible refine hK _ _ ?_ ?_; focus (first | exact clearAll_quiet rfl | (refine clearAll_of [true, false, false, false, true, false, false, false, false, true, true, false] [(0, 1), (0, 2), (0, 3), (0, 5), (4, 5), (0, 6), (4, 6), (0, 7), (4, 7), (0, 8), (4, 8)] rfl (by decide +kernel) ?_; try simp only [go_sem, ↓reduceIte, reduceCtorEq, Nat.reduceEqDiff, Nat.reduceAdd, Nat.reduceMul, Nat.reduceSub, Nat.reduceLeDiff, Int.reduceLT, Int.reduceLE, Int.reduceEq, Int.reduceSub, Int.reduceAdd, Int.reduceMul, Int.reduceNeg, Int.reduceToNat, e1, e4])); all_goals (try clear hK))
    | (with_reducible refine p_ok ?_; decide)
    | ((first | with_reducible first | refine v_region rfl rfl (fun K hK => ?_) | refine v_draws rfl rfl (fun K hK => ?_) | refine v_if (fun A B hA hB => ?_) | refine v_end rfl ?_ | refine v_fin1 ?_ | refine v_finC1 ?_ | refine v_finR1 ?_ | refine v_callE (spec_l2Pattern_c _ ?_) ?_ | refine v_finO1 rfl ?_ | refine v_finN1 rfl ?_ ?_ | refine v_apj ?_ (fun j' => ?_) | refine v_stz ?_ ?_ ?_ ?_ ?_ | refine v_stq ?_ | refine v_cv1 ?_ ?_ ?_ | (intro hc; replace fc := And.intro hc fc; try simp only [hcs] at hc)) <;> (try simp (config := { maxSteps := 1000000 }) only [go_sem, ↓reduceIte, reduceCtorEq, Nat.reduceEqDiff, Nat.reduceAdd, Nat.reduceMul, Nat.reduceSub, Nat.reduceLeDiff, Int.reduceLT, Int.reduceLE, Int.reduceEq, Int.reduceSub, Int.reduceAdd, Int.reduceMul, Int.reduceNeg, Int.reduceToNat, e1, e4, fc]) <;> (try with_reducible rfl))
  all_goals try (first | omega | (simp only [n_i64, n_u8]; omega) | (simp only [n_i64, n_u8, lnA]; omega) | (simp only [lnA]; done))
  rfl
theorem woL_b {p : List Int} (hp : permB p = true) (h8 : p.length ≤ 8) {k : Nat} : ∀ x ∈ woL p k, 0 ≤ x ∧ x ≤ 1048576 := fun x hx => by
  have h1 := (permB_iff.1 (woL_perm hp (k := k))).1 x hx
  have h2 : (woL p k).length ≤ p.length + p.length := by rw [woL, patL_len]; simp; omega
  omega
theorem low_facts {p : List Int} (hp : permB p = true) (h8 : p.length ≤ 8) {l : List Int} (h : l ∈ lowL p) : l.length ≤ 8 ∧ isPermB l = true ∧ ∀ x ∈ l, 0 ≤ x ∧ x ≤ 1048576 := by
  obtain ⟨k, hk, rfl⟩ := low_mem h
  have h1 := woL_len hk
  refine ⟨by omega, ?_, woL_b hp h8⟩
  simp only [isPermB, woL_perm hp, Bool.and_true, decide_eq_true_eq]; omega
theorem impl_lowers_c {m0 : Bool} (p : List Int) (h8 : p.length ≤ 8) : Fun Try.prog 105 [(.sl (.lent m0) (List.map (PV.int .i64) (p)))] [(.sl .own (List.map (elI false) (lowL p)))] := by
  refine Fun.of (sg := sg0) (ts := [2]) mo Try.func105 rfl rfl rfl rfl (by kernel_rfl) (by simp only [go_sem]) rfl ?_
  have q1 : ∀ {k : Nat}, ∀ l ∈ (List.range k).map (woL p), l.length ≤ 1048576 := fun {k} l h => by
    obtain ⟨j, _, rfl⟩ := List.mem_map.1 h
    rw [woL, patL_len]; simp; omega
  have fc : True := trivial
  repeat' first
    | with_reducible first | refine stp ?_ | refine q_blk_o rfl ?_ | (refine hK _ ?_; clear hK) | (refine hA ?_; clear hA hB) | (refine hB ?_; clear hA hB) | exact v_end0 | exact v_end0' | refine v_gb1 ?_ ?_ | refine v_gb0 ?_ ?_ | refine And.intro ?_ ?_
    | (with_reducible refine p_ok ?_; decide)
    | ((first | with_reducible first | refine v_region rfl rfl (fun K hK => ?_) | refine v_draws rfl rfl (fun K hK => ?_) | refine v_if (fun A B hA hB => ?_) | refine v_end rfl ?_ | refine v_fin1 ?_ | refine v_finC1 ?_ | refine v_finR1 ?_ | refine v_callE (impl_without_c _ _ ?_ ?_) ?_ | refine v_callE (impl_ordered_c _ ?_ ?_) ?_ | refine v_finO1 rfl ?_ | refine v_finN1 rfl ?_ ?_ | refine v_apj ?_ (fun j' => ?_) | refine v_stz ?_ ?_ ?_ ?_ ?_ | refine v_stq ?_ | refine v_cv1 ?_ ?_ ?_ | (intro hc; replace fc := And.intro hc fc; try simp only [hcs] at hc)) <;> (try simp (config := { maxSteps := 1000000 }) only [go_sem, ↓reduceIte, reduceCtorEq, Nat.reduceEqDiff, Nat.reduceAdd, Nat.reduceMul, Nat.reduceSub, Nat.reduceLeDiff, Int.reduceLT, Int.reduceLE, Int.reduceEq, Int.reduceSub, Int.reduceAdd, Int.reduceMul, Int.reduceNeg, Int.reduceToNat, fc]) <;> (try with_reducible rfl))
  all_goals try (first | omega | (simp only [n_i64, n_u8]; omega) | (simp only [n_i64, n_u8, lnA]; omega) | (simp only [lnA]; done))
  refine v_loop (fun ms1 S1 => ∃ (k : Nat), S1.e 0 = .p (.sl (.lent m0) (List.map (PV.int .i64) (p))) ∧ OwnL (S1.e 3) S1.h S1.n (elI false) (((List.range k).map (woL p)).length) ((List.range k).map (woL p)) ∧ S1.e 7 = .p (.int .i64 (p.length)) ∧ S1.e 8 = .p (.int .i64 (k)) ∧ (k ≤ p.length) ∧ ms1 = p.length - k) ((fun (k : Nat) => p.length - k) (0)) ?init1_1 ?body1_1
  case' init1_1 =>
    refine ⟨0, ?_, ?_, ?_, ?_, ?_, rfl⟩
    all_goals (try simp only [go_sem, ↓reduceIte, reduceCtorEq, Nat.reduceEqDiff, Nat.reduceAdd, Nat.reduceMul, Nat.reduceSub, Nat.reduceLeDiff, Int.reduceLT, Int.reduceLE, Int.reduceEq, Int.reduceSub, Int.reduceAdd, Int.reduceMul, Int.reduceNeg, Int.reduceToNat])
    repeat' refine And.intro ?_ ?_
    all_goals try first | rfl | omega | (simp only [lnA] <;> omega) | ((first | refine stp ?_ | refine dkz_eq ?_ ?_) <;> first | rfl | omega | (simp only [lnA] <;> omega) | (simp only [lnA, List.append_assoc, List.cons_append, List.nil_append]; done) | skip)
  case' body1_1 =>
    rintro ms1 S1 ⟨k, h1_0, o1_3, h1_7, h1_8, c1_0, hm1⟩
    obtain ⟨i1_3, h1_3, b1_3, l1_3⟩ := o1_3.out
    have ni1_3 : ∀ c, (i1_3 = S1.n + c) = False := fun c => eq_false (by omega)
    have pi1_3 : ∀ c, (S1.n + c = i1_3) = False := fun c => eq_false (by omega)
    have qi1_3 : (i1_3 = S1.n) = False := eq_false (by omega)
    have ri1_3 : (S1.n = i1_3) = False := eq_false (by omega)
  · have b1 : ((List.range k).map (woL p)).length = k := by simp
    have b2 : (List.range k).take k = List.range k := List.take_of_length_le (by simp)
    have fc : True := trivial
    repeat' first
      | with_reducible first | refine stp ?_ | refine q_blk_o rfl ?_ | (refine hK _ ?_; clear hK) | (refine hA ?_; clear hA hB) | (refine hB ?_; clear hA hB) | exact v_end0 | exact v_end0' | refine v_gb1 ?_ ?_ | refine v_gb0 ?_ ?_ | refine And.intro ?_ ?_
      | (with_reducible refine p_ok ?_; decide)
      | ((first | with_reducible first | refine v_region rfl rfl (fun K hK => ?_) | refine v_draws rfl rfl (fun K hK => ?_) | refine v_if (fun A B hA hB => ?_) | refine v_end rfl ?_ | refine v_fin1 ?_ | refine v_finC1 ?_ | refine v_finR1 ?_ | refine v_callE (impl_without_c _ _ ?_ ?_) ?_ | refine v_callE (impl_ordered_c _ ?_ ?_) ?_ | refine v_finO1 rfl ?_ | refine v_finN1 rfl ?_ ?_ | refine v_apj ?_ (fun j' => ?_) | refine v_stz ?_ ?_ ?_ ?_ ?_ | refine v_stq ?_ | refine v_cv1 ?_ ?_ ?_ | (intro hc; replace fc := And.intro hc fc; try simp only [hcs] at hc)) <;> (try simp (config := { maxSteps := 1000000 }) only [go_sem, ↓reduceIte, reduceCtorEq, Nat.reduceEqDiff, Nat.reduceAdd, Nat.reduceMul, Nat.reduceSub, Nat.reduceLeDiff, Int.reduceLT, Int.reduceLE, Int.reduceEq, Int.reduceSub, Int.reduceAdd, Int.reduceMul, Int.reduceNeg, Int.reduceToNat, h1_0, h1_7, h1_8, h1_3, b1_3, ni1_3, pi1_3, qi1_3, ri1_3, fc]) <;> (try with_reducible rfl))
    all_goals try (first | omega | (simp only [n_i64, n_u8]; omega) | (simp only [n_i64, n_u8, lnA]; omega) | (simp only [lnA]; done))
    · focus
        refine q_lp_n ((fun (k : Nat) => p.length - k) (k+1)) ?_ ⟨k+1, ?_, ?_, ?_, ?_, ?_, rfl⟩
        all_goals (try simp only [go_sem, ↓reduceIte, reduceCtorEq, Nat.reduceEqDiff, Nat.reduceAdd, Nat.reduceMul, Nat.reduceSub, Nat.reduceLeDiff, Int.reduceLT, Int.reduceLE, Int.reduceEq, Int.reduceSub, Int.reduceAdd, Int.reduceMul, Int.reduceNeg, Int.reduceToNat, h1_0, h1_7, h1_8, h1_3, b1_3, ni1_3, pi1_3, qi1_3, ri1_3])
        repeat' refine And.intro ?_ ?_
        all_goals try first | rfl | omega | (simp only [lnA] <;> omega) | ((first | refine stp ?_ | refine dkz_eq ?_ ?_) <;> first | rfl | omega | (simp only [lnA] <;> omega) | (simp only [lnA, List.append_assoc, List.cons_append, List.nil_append]; done) | skip)
      · simp
      · rw [List.map_append]; rfl
    · rw [b2]; exact q1
    · obtain rfl : k = p.length := by omega
      rw [b2, lowL]
def sgLow : FuncId → List Bool := fun f => if f = 154 then [true] else []
theorem sgLow_eq {f : FuncId} : sgLow f = if f = 154 then [true] else [] := _root_.id rfl
theorem wayE_sgLow : wayE sgLow = false := _root_.id rfl
theorem wayN_sgLow : wayN sgLow = false := _root_.id rfl
theorem wayS_sgLow : wayS sgLow = false := _root_.id rfl
theorem wayZ_sgLow : wayZ sgLow = false := _root_.id rfl
attribute [go_sem] sgLow_eq wayE_sgLow wayN_sgLow wayS_sgLow wayZ_sgLow
theorem spec_LowersOf_c {m0 : Bool} (p : List Int) (hl : p.length ≤ 1048576) (hp : isPermB p = true) : Fun Try.prog 106 [(.sl (.lent m0) (List.map (PV.int .i64) (p)))] [(.sl .own (List.map (elI false) (lowL p)))] := by
  refine Fun.of (sg := sgLow) (ts := [2]) mo Try.func106 rfl rfl rfl rfl (by kernel_rfl) (by simp only [go_sem]) rfl ?_
  obtain ⟨h8, hq⟩ := isP_8 hp
  have q1 : ∀ {k : Nat}, ∀ l ∈ putL ((List.range k).map (woL p)), l.length ≤ 1048576 := fun {k} => put_lens fun l h => by
    obtain ⟨j, _, rfl⟩ := List.mem_map.1 h
    rw [woL, patL_len]; simp; omega
  have q2 : ∀ {k : Nat}, (woL p k).length ≤ 1048576 := fun {k} => by rw [woL, patL_len]; simp; omega
  have fc : True := trivial
  repeat' first
    | with_reducible first | refine stp ?_ | refine q_blk_o rfl ?_ | (refine hK _ ?_; clear hK) | (refine hA ?_; clear hA hB) | (refine hB ?_; clear hA hB) | exact v_end0 | exact v_end0' | refine v_gb1 ?_ ?_ | refine v_gb0 ?_ ?_ | refine And.intro ?_ ?_
    | (with_reducible refine p_ok ?_; decide)
    | ((first | with_reducible first | refine v_region rfl rfl (fun K hK => ?_) | refine v_draws rfl rfl (fun K hK => ?_) | refine v_if (fun A B hA hB => ?_) | refine v_end rfl ?_ | refine v_fin1 ?_ | refine v_finC1 ?_ | refine v_finR1 ?_ | refine v_callE (spec_IsPerm_c _ ?_) ?_ | refine v_callE (spec_l7Without_c _ _ ?_ ?_) ?_ | refine v_callN (spec_l3Put_c _ _ ?_ ?_ ?_) rfl ?_ ?_ | refine v_callT (spec_l3Put_c _ _ ?_ ?_ ?_) rfl ?_ ?_ | refine v_callTd (spec_l3Put_c _ _ ?_ ?_ ?_) rfl ?_ ?_ | refine v_callR (spec_l3Put_c _ _ ?_ ?_ ?_) rfl ?_ ?_ | refine v_callT3 (spec_l3Put_c _ _ ?_ ?_ ?_) ?_ ?_ | refine v_callT4 (spec_l3Put_c _ _ ?_ ?_ ?_) ?_ ?_ | refine v_finO1 rfl ?_ | refine v_finN1 rfl ?_ ?_ | refine v_apj ?_ (fun j' => ?_) | refine v_stz ?_ ?_ ?_ ?_ ?_ | refine v_stq ?_ | refine v_cv1 ?_ ?_ ?_ | (intro hc; replace fc := And.intro hc fc; try simp only [hcs] at hc)) <;> (try simp (config := { maxSteps := 1000000 }) only [go_sem, ↓reduceIte, reduceCtorEq, Nat.reduceEqDiff, Nat.reduceAdd, Nat.reduceMul, Nat.reduceSub, Nat.reduceLeDiff, Int.reduceLT, Int.reduceLE, Int.reduceEq, Int.reduceSub, Int.reduceAdd, Int.reduceMul, Int.reduceNeg, Int.reduceToNat, hp, fc]) <;> (try with_reducible rfl))
  all_goals try (first | omega | (simp only [n_i64, n_u8]; omega) | (simp only [n_i64, n_u8, lnA]; omega) | (simp only [lnA]; done))
  refine v_loop (fun ms1 S1 => ∃ (k : Nat), S1.e 0 = .p (.sl (.lent m0) (List.map (PV.int .i64) (p))) ∧ OwnL (S1.e 3) S1.h S1.n (elI false) ((putL ((List.range k).map (woL p))).length) (putL ((List.range k).map (woL p))) ∧ S1.e 4 = .p (.int .i64 (k)) ∧ (k ≤ p.length) ∧ ms1 = p.length - k) ((fun (k : Nat) => p.length - k) (0)) ?init1_2 ?body1_2
  case' init1_2 =>
    refine ⟨0, ?_, ?_, ?_, ?_, rfl⟩
    all_goals (try simp only [go_sem, ↓reduceIte, reduceCtorEq, Nat.reduceEqDiff, Nat.reduceAdd, Nat.reduceMul, Nat.reduceSub, Nat.reduceLeDiff, Int.reduceLT, Int.reduceLE, Int.reduceEq, Int.reduceSub, Int.reduceAdd, Int.reduceMul, Int.reduceNeg, Int.reduceToNat])
    repeat' refine And.intro ?_ ?_
    all_goals try first | rfl | omega | (simp only [lnA] <;> omega) | ((first | refine stp ?_ | refine dkz_eq ?_ ?_) <;> first | rfl | omega | (simp only [lnA] <;> omega) | (simp only [lnA, List.append_assoc, List.cons_append, List.nil_append]; done) | skip)
  case' body1_2 =>
    rintro ms1 S1 ⟨k, h1_0, o1_3, h1_4, c1_0, hm1⟩
    obtain ⟨i1_3, h1_3, b1_3, l1_3⟩ := o1_3.out
    have ni1_3 : ∀ c, (i1_3 = S1.n + c) = False := fun c => eq_false (by omega)
    have pi1_3 : ∀ c, (S1.n + c = i1_3) = False := fun c => eq_false (by omega)
    have qi1_3 : (i1_3 = S1.n) = False := eq_false (by omega)
    have ri1_3 : (S1.n = i1_3) = False := eq_false (by omega)
  · have b1 := putL_len (L := (List.range k).map (woL p))
    rw [List.length_map, List.length_range] at b1
    have fc : True := trivial
    repeat' first
      | with_reducible first | refine stp ?_ | refine q_blk_o rfl ?_ | (refine hK _ ?_; clear hK) | (refine hA ?_; clear hA hB) | (refine hB ?_; clear hA hB) | exact v_end0 | exact v_end0' | refine v_gb1 ?_ ?_ | refine v_gb0 ?_ ?_ | refine And.intro ?_ ?_
      | (with_reducible refine p_ok ?_; decide)
      | ((first | with_reducible first | refine v_region rfl rfl (fun K hK => ?_) | refine v_draws rfl rfl (fun K hK => ?_) | refine v_if (fun A B hA hB => ?_) | refine v_end rfl ?_ | refine v_fin1 ?_ | refine v_finC1 ?_ | refine v_finR1 ?_ | refine v_callE (spec_IsPerm_c _ ?_) ?_ | refine v_callE (spec_l7Without_c _ _ ?_ ?_) ?_ | refine v_callN (spec_l3Put_c _ _ ?_ ?_ ?_) rfl ?_ ?_ | refine v_callT (spec_l3Put_c _ _ ?_ ?_ ?_) rfl ?_ ?_ | refine v_callTd (spec_l3Put_c _ _ ?_ ?_ ?_) rfl ?_ ?_ | refine v_callR (spec_l3Put_c _ _ ?_ ?_ ?_) rfl ?_ ?_ | refine v_callT3 (spec_l3Put_c _ _ ?_ ?_ ?_) ?_ ?_ | refine v_callT4 (spec_l3Put_c _ _ ?_ ?_ ?_) ?_ ?_ | refine v_finO1 rfl ?_ | refine v_finN1 rfl ?_ ?_ | refine v_apj ?_ (fun j' => ?_) | refine v_stz ?_ ?_ ?_ ?_ ?_ | refine v_stq ?_ | refine v_cv1 ?_ ?_ ?_ | (intro hc; replace fc := And.intro hc fc; try simp only [hcs] at hc)) <;> (try simp (config := { maxSteps := 1000000 }) only [go_sem, ↓reduceIte, reduceCtorEq, Nat.reduceEqDiff, Nat.reduceAdd, Nat.reduceMul, Nat.reduceSub, Nat.reduceLeDiff, Int.reduceLT, Int.reduceLE, Int.reduceEq, Int.reduceSub, Int.reduceAdd, Int.reduceMul, Int.reduceNeg, Int.reduceToNat, h1_0, h1_4, h1_3, b1_3, ni1_3, pi1_3, qi1_3, ri1_3, hp, fc]) <;> (try with_reducible rfl))
    all_goals try (first | omega | (simp only [n_i64, n_u8]; omega) | (simp only [n_i64, n_u8, lnA]; omega) | (simp only [lnA]; done))
    · exact q1
    · exact q2
    · focus
        refine q_lp_n ((fun (k : Nat) => p.length - k) (k+1)) ?_ ⟨k+1, ?_, ?_, ?_, ?_, rfl⟩
        all_goals (try simp only [go_sem, ↓reduceIte, reduceCtorEq, Nat.reduceEqDiff, Nat.reduceAdd, Nat.reduceMul, Nat.reduceSub, Nat.reduceLeDiff, Int.reduceLT, Int.reduceLE, Int.reduceEq, Int.reduceSub, Int.reduceAdd, Int.reduceMul, Int.reduceNeg, Int.reduceToNat, h1_0, h1_4, h1_3, b1_3, ni1_3, pi1_3, qi1_3, ri1_3])
        repeat' refine And.intro ?_ ?_
        all_goals try first | rfl | omega | (simp only [lnA] <;> omega) | ((first | refine stp ?_ | refine dkz_eq ?_ ?_) <;> first | rfl | omega | (simp only [lnA] <;> omega) | (simp only [lnA, List.append_assoc, List.cons_append, List.nil_append]; done) | skip)
      all_goals rw [← List.range_succ, putL_snoc]
    · obtain rfl : k = p.length := by omega
      rw [lowL]
theorem impl_IsSimple_c {m0 : Bool} (p : List Int) (hl : p.length ≤ 1048576) : Fun Try.prog 103 [(.sl (.lent m0) (List.map (PV.int .i64) (p)))] [(.bool ((isPermB p && isSimB p)))] := by
  refine Fun.of (sg := sg0) (ts := [2]) mo Try.func103 rfl rfl rfl rfl (by kernel_rfl) (by simp only [go_sem]) rfl ?_
  by_cases hp : isPermB p = true
  · have h8 := (isP_8 hp).1
    have hb := perm_bd hp
    have fc : True := trivial
    repeat' first
      | with_reducible first | refine stp ?_ | refine q_blk_o rfl ?_ | (refine hK _ ?_; clear hK) | (refine hA ?_; clear hA hB) | (refine hB ?_; clear hA hB) | exact v_end0 | exact v_end0' | refine v_gb1 ?_ ?_ | refine v_gb0 ?_ ?_ | refine And.intro ?_ ?_
      | (with_reducible refine p_ok ?_; decide)
      | ((first | with_reducible first | refine v_region rfl rfl (fun K hK => ?_) | refine v_draws rfl rfl (fun K hK => ?_) | refine v_if (fun A B hA hB => ?_) | refine v_end rfl ?_ | refine v_fin1 ?_ | refine v_finC1 ?_ | refine v_finR1 ?_ | refine v_callE (impl_IsPerm_c _ ?_) ?_ | refine v_callE (impl_isSimple_c _ ?_ ?_) ?_ | refine v_finO1 rfl ?_ | refine v_finN1 rfl ?_ ?_ | refine v_apj ?_ (fun j' => ?_) | refine v_stz ?_ ?_ ?_ ?_ ?_ | refine v_stq ?_ | refine v_cv1 ?_ ?_ ?_ | (intro hc; replace fc := And.intro hc fc; try simp only [hcs] at hc)) <;> (try simp (config := { maxSteps := 1000000 }) only [go_sem, ↓reduceIte, reduceCtorEq, Nat.reduceEqDiff, Nat.reduceAdd, Nat.reduceMul, Nat.reduceSub, Nat.reduceLeDiff, Int.reduceLT, Int.reduceLE, Int.reduceEq, Int.reduceSub, Int.reduceAdd, Int.reduceMul, Int.reduceNeg, Int.reduceToNat, hp, Bool.true_and, fc]) <;> (try with_reducible rfl))
    all_goals try (first | omega | (simp only [n_i64, n_u8]; omega) | (simp only [n_i64, n_u8, lnA]; omega) | (simp only [lnA]; done))
    all_goals trace_state
  · rw [Bool.not_eq_true] at hp
    have fc : True := trivial
    repeat' first
      | with_reducible first | refine stp ?_ | refine q_blk_o rfl ?_ | (refine hK _ ?_; clear hK) | (refine hA ?_; clear hA hB) | (refine hB ?_; clear hA hB) | exact v_end0 | exact v_end0' | refine v_gb1 ?_ ?_ | refine v_gb0 ?_ ?_ | refine And.intro ?_ ?_
      | (with_reducible refine p_ok ?_; decide)
      | ((first | with_reducible first | refine v_region rfl rfl (fun K hK => ?_) | refine v_draws rfl rfl (fun K hK => ?_) | refine v_if (fun A B hA hB => ?_) | refine v_end rfl ?_ | refine v_fin1 ?_ | refine v_finC1 ?_ | refine v_finR1 ?_ | refine v_callE (impl_IsPerm_c _ ?_) ?_ | refine v_callE (impl_isSimple_c _ ?_ ?_) ?_ | refine v_finO1 rfl ?_ | refine v_finN1 rfl ?_ ?_ | refine v_apj ?_ (fun j' => ?_) | refine v_stz ?_ ?_ ?_ ?_ ?_ | refine v_stq ?_ | refine v_cv1 ?_ ?_ ?_ | (intro hc; replace fc := And.intro hc fc; try simp only [hcs] at hc)) <;> (try simp (config := { maxSteps := 1000000 }) only [go_sem, ↓reduceIte, reduceCtorEq, Nat.reduceEqDiff, Nat.reduceAdd, Nat.reduceMul, Nat.reduceSub, Nat.reduceLeDiff, Int.reduceLT, Int.reduceLE, Int.reduceEq, Int.reduceSub, Int.reduceAdd, Int.reduceMul, Int.reduceNeg, Int.reduceToNat, hp, Bool.false_and, fc]) <;> (try with_reducible rfl))
    all_goals try (first | omega | (simp only [n_i64, n_u8]; omega) | (simp only [n_i64, n_u8, lnA]; omega) | (simp only [lnA]; done))
    all_goals trace_state
theorem impl_simples_1_c {m0 : Bool} (p : List Int) (h8 : p.length ≤ 8) (hb : ∀ x ∈ p, 0 ≤ x ∧ x ≤ 1048576) : Fun Try.prog 163 [(.sl (.lent m0) (List.map (PV.int .i64) (p)))] [(.bool ((!(isSimB p))))] := by
  refine Fun.of (sg := sg0) (ts := [2]) mo Try.func163 rfl rfl rfl rfl (by kernel_rfl) (by simp only [go_sem]) rfl ?_
  have fc : True := trivial
  repeat' first
    | with_reducible first | refine stp ?_ | refine q_blk_o rfl ?_ | (refine hK _ ?_; clear hK) | (refine hA ?_; clear hA hB) | (refine hB ?_; clear hA hB) | exact v_end0 | exact v_end0' | refine v_gb1 ?_ ?_ | refine v_gb0 ?_ ?_ | refine And.intro ?_ ?_
    | (with_reducible refine p_ok ?_; decide)
    | ((first | with_reducible first | refine v_region rfl rfl (fun K hK => ?_) | refine v_draws rfl rfl (fun K hK => ?_) | refine v_if (fun A B hA hB => ?_) | refine v_end rfl ?_ | refine v_fin1 ?_ | refine v_finC1 ?_ | refine v_finR1 ?_ | refine v_callE (impl_isSimple_c _ ?_ ?_) ?_ | refine v_finO1 rfl ?_ | refine v_finN1 rfl ?_ ?_ | refine v_apj ?_ (fun j' => ?_) | refine v_stz ?_ ?_ ?_ ?_ ?_ | refine v_stq ?_ | refine v_cv1 ?_ ?_ ?_ | (intro hc; replace fc := And.intro hc fc; try simp only [hcs] at hc)) <;> (try simp (config := { maxSteps := 1000000 }) only [go_sem, ↓reduceIte, reduceCtorEq, Nat.reduceEqDiff, Nat.reduceAdd, Nat.reduceMul, Nat.reduceSub, Nat.reduceLeDiff, Int.reduceLT, Int.reduceLE, Int.reduceEq, Int.reduceSub, Int.reduceAdd, Int.reduceMul, Int.reduceNeg, Int.reduceToNat, fc]) <;> (try with_reducible rfl))
  all_goals try (first | omega | (simp only [n_i64, n_u8]; omega) | (simp only [n_i64, n_u8, lnA]; omega) | (simp only [lnA]; done))
  all_goals trace_state
def sgSim : FuncId → List Bool := fun f => if f = 162 then [true] else []
theorem sgSim_eq {f : FuncId} : sgSim f = if f = 162 then [true] else [] := _root_.id rfl
theorem wayE_sgSim : wayE sgSim = false := _root_.id rfl
theorem wayN_sgSim : wayN sgSim = false := _root_.id rfl
theorem wayS_sgSim : wayS sgSim = false := _root_.id rfl
theorem wayZ_sgSim : wayZ sgSim = false := _root_.id rfl
attribute [go_sem] sgSim_eq wayE_sgSim wayN_sgSim wayS_sgSim wayZ_sgSim
theorem impl_simples_c (L : List (List Int)) (hL : L.length ≤ 1099511627776) (hl : ∀ l ∈ L, l.length ≤ 8 ∧ ∀ x ∈ l, 0 ≤ x ∧ x ≤ 1048576) : CallT Try.prog true 104 [.mu false (List.map (elI false) (L))] [none] [(.sl .own (List.map (elI false) (L.filter isSimB)))] := by
  refine CallT.of (sg := sgSim) (ts := [2]) mo Try.func104 rfl rfl rfl rfl (by kernel_rfl) (by simp only [go_sem]) rfl (by simp only [go_sem]) ?_
  have e1 : kpL (fun p => !isSimB p) L = L.filter isSimB := by rw [kpL]; congr 1; funext x; rw [Bool.not_not]
  have c1 := slices_DeleteFunc_LLint_int_fr_c L 163 [] (fun p => !isSimB p) hL (fun x hx => impl_simples_1_c (m0 := false) x (hl x hx).1 (hl x hx).2)
  rw [e1] at c1
  have fc : True := trivial
  repeat' first
    | with_reducible first | refine stp ?_ | refine q_blk_o rfl ?_ | (refine hK _ ?_; clear hK) | (refine hA ?_; clear hA hB) | (refine hB ?_; clear hA hB) | exact v_end0 | exact v_end0' | refine v_gb1 ?_ ?_ | refine v_gb0 ?_ ?_ | refine And.intro ?_ ?_
    | (with_reducible refine p_ok ?_; decide)
    | ((first | with_reducible first | refine v_region rfl rfl (fun K hK => ?_) | refine v_draws rfl rfl (fun K hK => ?_) | refine v_if (fun A B hA hB => ?_) | refine v_end rfl ?_ | refine v_fin1 ?_ | refine v_finC1 ?_ | refine v_finR1 ?_ | refine v_callE (impl_simples_1_c _ ?_ ?_) ?_ | refine v_callN (slices_DeleteFunc_LLint_int_fr_c _ _ _ _ ?_) rfl ?_ ?_ | refine v_callT (slices_DeleteFunc_LLint_int_fr_c _ _ _ _ ?_) rfl ?_ ?_ | refine v_callTd (slices_DeleteFunc_LLint_int_fr_c _ _ _ _ ?_) rfl ?_ ?_ | refine v_callR (slices_DeleteFunc_LLint_int_fr_c _ _ _ _ ?_) rfl ?_ ?_ | refine v_callN (c1) rfl ?_ ?_ | refine v_callT (c1) rfl ?_ ?_ | refine v_callTd (c1) rfl ?_ ?_ | refine v_callR (c1) rfl ?_ ?_ | refine v_callT3 (slices_DeleteFunc_LLint_int_fr_c _ _ _ _ ?_) ?_ ?_ | refine v_callT4 (slices_DeleteFunc_LLint_int_fr_c _ _ _ _ ?_) ?_ ?_ | refine v_callT3 (c1) ?_ ?_ | refine v_callT4 (c1) ?_ ?_ | refine v_finO1 rfl ?_ | refine v_finN1 rfl ?_ ?_ | refine v_finT1 rfl ?_ | refine v_apj ?_ (fun j' => ?_) | refine v_stz ?_ ?_ ?_ ?_ ?_ | refine v_stq ?_ | refine v_cv1 ?_ ?_ ?_ | (intro hc; replace fc := And.intro hc fc; try simp only [hcs] at hc)) <;> (try simp (config := { maxSteps := 1000000 }) only [go_sem, ↓reduceIte, reduceCtorEq, Nat.reduceEqDiff, Nat.reduceAdd, Nat.reduceMul, Nat.reduceSub, Nat.reduceLeDiff, Int.reduceLT, Int.reduceLE, Int.reduceEq, Int.reduceSub, Int.reduceAdd, Int.reduceMul, Int.reduceNeg, Int.reduceToNat, fc]) <;> (try with_reducible rfl))
  all_goals try (first | omega | (simp only [n_i64, n_u8]; omega) | (simp only [n_i64, n_u8, lnA]; omega) | (simp only [lnA]; done))
  all_goals trace_state
def smpL (p : List Int) : List (List Int) := (lowL p).filter isSimB
def excB (p : List Int) : Bool := isPermB p && isSimB p && decide (4 ≤ p.length) && decide ((smpL p).length = 0)
def sgExc : FuncId → List Bool := fun f => if f = 104 then [true] else []
theorem sgExc_eq {f : FuncId} : sgExc f = if f = 104 then [true] else [] := _root_.id rfl
theorem wayE_sgExc : wayE sgExc = false := _root_.id rfl
theorem wayN_sgExc : wayN sgExc = false := _root_.id rfl
theorem wayS_sgExc : wayS sgExc = false := _root_.id rfl
theorem wayZ_sgExc : wayZ sgExc = false := _root_.id rfl
attribute [go_sem] sgExc_eq wayE_sgExc wayN_sgExc wayS_sgExc wayZ_sgExc
theorem impl_IsExceptional_c {m0 : Bool} (p : List Int) (hl : p.length ≤ 1048576) : Fun Try.prog 23 [(.sl (.lent m0) (List.map (PV.int .i64) (p)))] [(.bool (excB p))] := by
  refine Fun.of (sg := sgExc) (ts := [2]) mo Try.func23 rfl rfl rfl rfl (by kernel_rfl) (by simp only [go_sem]) rfl ?_
  by_cases hp : isPermB p = true
  · obtain ⟨h8, hq⟩ := isP_8 hp
    have b1 := lowL_len (p := p)
    have b2 : ∀ l ∈ lowL p, l.length ≤ 8 ∧ ∀ x ∈ l, 0 ≤ x ∧ x ≤ 1048576 := fun l h => ⟨(low_facts hq h8 h).1, (low_facts hq h8 h).2.2⟩
    have fc : True := trivial
    repeat' first
      | with_reducible first | refine stp ?_ | refine q_blk_o rfl ?_ | (refine hK _ ?_; clear hK) | (refine hA ?_; clear hA hB) | (refine hB ?_; clear hA hB) | exact v_end0 | exact v_end0' | refine v_gb1 ?_ ?_ | refine v_gb0 ?_ ?_ | refine And.intro ?_ ?_
      | (with_reducible refine p_ok ?_; decide)
      | ((first | with_reducible first | refine v_region rfl rfl (fun K hK => ?_) | refine v_draws rfl rfl (fun K hK => ?_) | refine v_if (fun A B hA hB => ?_) | refine v_end rfl ?_ | refine v_fin1 ?_ | refine v_finC1 ?_ | refine v_finR1 ?_ | refine v_callE (impl_IsSimple_c _ ?_) ?_ | refine v_callE (impl_lowers_c _ ?_) ?_ | refine v_callN (impl_simples_c _ ?_ ?_) rfl ?_ ?_ | refine v_callT (impl_simples_c _ ?_ ?_) rfl ?_ ?_ | refine v_callTd (impl_simples_c _ ?_ ?_) rfl ?_ ?_ | refine v_callR (impl_simples_c _ ?_ ?_) rfl ?_ ?_ | refine v_callT3 (impl_simples_c _ ?_ ?_) ?_ ?_ | refine v_callT4 (impl_simples_c _ ?_ ?_) ?_ ?_ | refine v_finO1 rfl ?_ | refine v_finN1 rfl ?_ ?_ | refine v_apj ?_ (fun j' => ?_) | refine v_stz ?_ ?_ ?_ ?_ ?_ | refine v_stq ?_ | refine v_cv1 ?_ ?_ ?_ | (intro hc; replace fc := And.intro hc fc; try simp only [hcs] at hc)) <;> (try simp (config := { maxSteps := 1000000 }) only [go_sem, ↓reduceIte, reduceCtorEq, Nat.reduceEqDiff, Nat.reduceAdd, Nat.reduceMul, Nat.reduceSub, Nat.reduceLeDiff, Int.reduceLT, Int.reduceLE, Int.reduceEq, Int.reduceSub, Int.reduceAdd, Int.reduceMul, Int.reduceNeg, Int.reduceToNat, hp, Bool.true_and, fc]) <;> (try with_reducible rfl))
    all_goals try (first | omega | (simp only [n_i64, n_u8]; omega) | (simp only [n_i64, n_u8, lnA]; omega) | (simp only [lnA]; done))
    · rename_i h1; rw [excB, hp, h1, decide_eq_true (by omega : 4 ≤ p.length), smpL]; simp
    · rename_i h1; rw [excB, decide_eq_false (by omega : ¬ 4 ≤ p.length)]; simp
    · rw [excB, hc]; simp
  · rw [Bool.not_eq_true] at hp
    have fc : True := trivial
    repeat' first
      | with_reducible first | refine stp ?_ | refine q_blk_o rfl ?_ | (refine hK _ ?_; clear hK) | (refine hA ?_; clear hA hB) | (refine hB ?_; clear hA hB) | exact v_end0 | exact v_end0' | refine v_gb1 ?_ ?_ | refine v_gb0 ?_ ?_ | refine And.intro ?_ ?_
      | (with_reducible refine p_ok ?_; decide)
      | ((first | with_reducible first | refine v_region rfl rfl (fun K hK => ?_) | refine v_draws rfl rfl (fun K hK => ?_) | refine v_if (fun A B hA hB => ?_) | refine v_end rfl ?_ | refine v_fin1 ?_ | refine v_finC1 ?_ | refine v_finR1 ?_ | refine v_callE (impl_IsSimple_c _ ?_) ?_ | refine v_callE (impl_lowers_c _ ?_) ?_ | refine v_callN (impl_simples_c _ ?_ ?_) rfl ?_ ?_ | refine v_callT (impl_simples_c _ ?_ ?_) rfl ?_ ?_ | refine v_callTd (impl_simples_c _ ?_ ?_) rfl ?_ ?_ | refine v_callR (impl_simples_c _ ?_ ?_) rfl ?_ ?_ | refine v_callT3 (impl_simples_c _ ?_ ?_) ?_ ?_ | refine v_callT4 (impl_simples_c _ ?_ ?_) ?_ ?_ | refine v_finO1 rfl ?_ | refine v_finN1 rfl ?_ ?_ | refine v_apj ?_ (fun j' => ?_) | refine v_stz ?_ ?_ ?_ ?_ ?_ | refine v_stq ?_ | refine v_cv1 ?_ ?_ ?_ | (intro hc; replace fc := And.intro hc fc; try simp only [hcs] at hc)) <;> (try simp (config := { maxSteps := 1000000 }) only [go_sem, ↓reduceIte, reduceCtorEq, Nat.reduceEqDiff, Nat.reduceAdd, Nat.reduceMul, Nat.reduceSub, Nat.reduceLeDiff, Int.reduceLT, Int.reduceLE, Int.reduceEq, Int.reduceSub, Int.reduceAdd, Int.reduceMul, Int.reduceNeg, Int.reduceToNat, hp, Bool.false_and, fc]) <;> (try with_reducible rfl))
    all_goals try (first | omega | (simp only [n_i64, n_u8]; omega) | (simp only [n_i64, n_u8, lnA]; omega) | (simp only [lnA]; done))
    rw [excB, hp]; rfl
theorem spec_SimpleLowers_c {m0 : Bool} (p : List Int) (hl : p.length ≤ 1048576) (hp : isPermB p = true) : Fun Try.prog 24 [(.sl (.lent m0) (List.map (PV.int .i64) (p)))] [(.sl .own (List.map (elI false) (smpL p)))] := by
  refine Fun.of (sg := sg0) (ts := [2]) mo Try.func24 rfl rfl rfl rfl (by kernel_rfl) (by simp only [go_sem]) rfl ?_
  obtain ⟨h8, hq⟩ := isP_8 hp
  have b1 := lowL_len (p := p)
  have fc : True := trivial
  repeat' first
    | with_reducible first | refine stp ?_ | refine q_blk_o rfl ?_ | (refine hK _ ?_; clear hK) | (refine hA ?_; clear hA hB) | (refine hB ?_; clear hA hB) | exact v_end0 | exact v_end0' | refine v_gb1 ?_ ?_ | refine v_gb0 ?_ ?_ | refine And.intro ?_ ?_
    | (with_reducible refine p_ok ?_; decide)
    | ((first | with_reducible first | refine v_region rfl rfl (fun K hK => ?_) | refine v_draws rfl rfl (fun K hK => ?_) | refine v_if (fun A B hA hB => ?_) | refine v_end rfl ?_ | refine v_fin1 ?_ | refine v_finC1 ?_ | refine v_finR1 ?_ | refine v_callE (spec_LowersOf_c _ ?_ ?_) ?_ | refine v_callE (spec_IsSimple_c _ ?_) ?_ | refine v_finO1 rfl ?_ | refine v_finN1 rfl ?_ ?_ | refine v_apj ?_ (fun j' => ?_) | refine v_stz ?_ ?_ ?_ ?_ ?_ | refine v_stq ?_ | refine v_cv1 ?_ ?_ ?_ | (intro hc; replace fc := And.intro hc fc; try simp only [hcs] at hc)) <;> (try simp (config := { maxSteps := 1000000 }) only [go_sem, ↓reduceIte, reduceCtorEq, Nat.reduceEqDiff, Nat.reduceAdd, Nat.reduceMul, Nat.reduceSub, Nat.reduceLeDiff, Int.reduceLT, Int.reduceLE, Int.reduceEq, Int.reduceSub, Int.reduceAdd, Int.reduceMul, Int.reduceNeg, Int.reduceToNat, fc]) <;> (try with_reducible rfl))
  all_goals try (first | omega | (simp only [n_i64, n_u8]; omega) | (simp only [n_i64, n_u8, lnA]; omega) | (simp only [lnA]; done))
  refine v_loop (fun ms1 S1 => ∃ (k : Nat), S1.e 0 = .p (.sl (.lent m0) (List.map (PV.int .i64) (p))) ∧ OwnL (S1.e 3) S1.h S1.n (elI false) ((((lowL p).take k).filter isSimB).length) (((lowL p).take k).filter isSimB) ∧ OwnL (S1.e 4) S1.h S1.n (elI false) ((lowL p).length) (lowL p) ∧ S1.e 5 = .p (.int .i64 (k)) ∧ (k ≤ (lowL p).length) ∧ NId (S1.e 4) (S1.e 3) ∧ ms1 = (lowL p).length - k) ((fun (k : Nat) => (lowL p).length - k) (0)) ?init1_3 ?body1_3
  case' init1_3 =>
    refine ⟨0, ?_, ?_, ?_, ?_, ?_, ?_, rfl⟩
    all_goals (try simp only [go_sem, ↓reduceIte, reduceCtorEq, Nat.reduceEqDiff, Nat.reduceAdd, Nat.reduceMul, Nat.reduceSub, Nat.reduceLeDiff, Int.reduceLT, Int.reduceLE, Int.reduceEq, Int.reduceSub, Int.reduceAdd, Int.reduceMul, Int.reduceNeg, Int.reduceToNat])
    repeat' refine And.intro ?_ ?_
    all_goals try first | rfl | omega | (simp only [lnA] <;> omega) | ((first | refine stp ?_ | refine dkz_eq ?_ ?_) <;> first | rfl | omega | (simp only [lnA] <;> omega) | (simp only [lnA, List.append_assoc, List.cons_append, List.nil_append]; done) | skip)
  case' body1_3 =>
    rintro ms1 S1 ⟨k, h1_0, o1_3, o1_4, h1_5, c1_0, u1_0, hm1⟩
    obtain ⟨i1_3, h1_3, b1_3, l1_3⟩ := o1_3.out
    obtain ⟨i1_4, h1_4, b1_4, l1_4⟩ := o1_4.out
    have k1_0 := (u1_0).out h1_4 h1_3
    have ni1_3 : ∀ c, (i1_3 = S1.n + c) = False := fun c => eq_false (by omega)
    have pi1_3 : ∀ c, (S1.n + c = i1_3) = False := fun c => eq_false (by omega)
    have qi1_3 : (i1_3 = S1.n) = False := eq_false (by omega)
    have ri1_3 : (S1.n = i1_3) = False := eq_false (by omega)
    have ni1_4 : ∀ c, (i1_4 = S1.n + c) = False := fun c => eq_false (by omega)
    have pi1_4 : ∀ c, (S1.n + c = i1_4) = False := fun c => eq_false (by omega)
    have qi1_4 : (i1_4 = S1.n) = False := eq_false (by omega)
    have ri1_4 : (S1.n = i1_4) = False := eq_false (by omega)
    have di1_3i1_4 : (i1_3 = i1_4) = False := eq_false (by omega)
    have di1_4i1_3 : (i1_4 = i1_3) = False := eq_false (by omega)
  · have b2 := fil_len (p := isSimB) (L := lowL p) (j := k) (by omega)
    have b3 : k < (lowL p).length → _ := fun h => low_facts hq h8 (getD_mem (d := []) h)
    have fc : True := trivial
    repeat' first
      | with_reducible first | refine stp ?_ | refine q_blk_o rfl ?_ | (refine hK _ ?_; clear hK) | (refine hA ?_; clear hA hB) | (refine hB ?_; clear hA hB) | exact v_end0 | exact v_end0' | refine v_gb1 ?_ ?_ | refine v_gb0 ?_ ?_ | refine And.intro ?_ ?_
      | (with_reducible refine p_ok ?_; decide)
      | ((first | with_reducible first | refine v_region rfl rfl (fun K hK => ?_) | refine v_draws rfl rfl (fun K hK => ?_) | refine v_if (fun A B hA hB => ?_) | refine v_end rfl ?_ | refine v_fin1 ?_ | refine v_finC1 ?_ | refine v_finR1 ?_ | refine v_callE (spec_LowersOf_c _ ?_ ?_) ?_ | refine v_callE (spec_IsSimple_c _ ?_) ?_ | refine v_finO1 rfl ?_ | refine v_finN1 rfl ?_ ?_ | refine v_apj ?_ (fun j' => ?_) | refine v_stz ?_ ?_ ?_ ?_ ?_ | refine v_stq ?_ | refine v_cv1 ?_ ?_ ?_ | (intro hc; replace fc := And.intro hc fc; try simp only [hcs] at hc)) <;> (try simp (config := { maxSteps := 1000000 }) only [go_sem, ↓reduceIte, reduceCtorEq, Nat.reduceEqDiff, Nat.reduceAdd, Nat.reduceMul, Nat.reduceSub, Nat.reduceLeDiff, Int.reduceLT, Int.reduceLE, Int.reduceEq, Int.reduceSub, Int.reduceAdd, Int.reduceMul, Int.reduceNeg, Int.reduceToNat, h1_0, h1_5, h1_3, b1_3, h1_4, b1_4, ni1_3, pi1_3, qi1_3, ri1_3, ni1_4, pi1_4, qi1_4, ri1_4, di1_3i1_4, di1_4i1_3, fc]) <;> (try with_reducible rfl))
    all_goals try (first | omega | (simp only [n_i64, n_u8]; omega) | (simp only [n_i64, n_u8, lnA]; omega) | (simp only [lnA]; done))
    · have d2 := (b3 (by omega)).2.1
      focus
        refine q_lp_n ((fun (k : Nat) => (lowL p).length - k) (k+1)) ?_ ⟨k+1, ?_, ?_, ?_, ?_, ?_, ?_, rfl⟩
        all_goals (try simp only [go_sem, ↓reduceIte, reduceCtorEq, Nat.reduceEqDiff, Nat.reduceAdd, Nat.reduceMul, Nat.reduceSub, Nat.reduceLeDiff, Int.reduceLT, Int.reduceLE, Int.reduceEq, Int.reduceSub, Int.reduceAdd, Int.reduceMul, Int.reduceNeg, Int.reduceToNat, h1_0, h1_5, h1_3, b1_3, h1_4, b1_4, ni1_3, pi1_3, qi1_3, ri1_3, ni1_4, pi1_4, qi1_4, ri1_4, di1_3i1_4, di1_4i1_3])
        repeat' refine And.intro ?_ ?_
        all_goals try first | rfl | omega | (simp only [lnA] <;> omega) | ((first | refine stp ?_ | refine dkz_eq ?_ ?_) <;> first | rfl | omega | (simp only [lnA] <;> omega) | (simp only [lnA, List.append_assoc, List.cons_append, List.nil_append]; done) | skip)
      all_goals rw [fil_snoc (by omega), hc.2]
      · simp
      · simp
    · have d2 := (b3 (by omega)).2.1
      have d3 : isSimB ((lowL p).getD k []) = false := by rw [d2] at hc; simpa using hc
      focus
        refine q_lp_n ((fun (k : Nat) => (lowL p).length - k) (k+1)) ?_ ⟨k+1, ?_, ?_, ?_, ?_, ?_, ?_, rfl⟩
        all_goals (try simp only [go_sem, ↓reduceIte, reduceCtorEq, Nat.reduceEqDiff, Nat.reduceAdd, Nat.reduceMul, Nat.reduceSub, Nat.reduceLeDiff, Int.reduceLT, Int.reduceLE, Int.reduceEq, Int.reduceSub, Int.reduceAdd, Int.reduceMul, Int.reduceNeg, Int.reduceToNat, h1_0, h1_5, h1_3, b1_3, h1_4, b1_4, ni1_3, pi1_3, qi1_3, ri1_3, ni1_4, pi1_4, qi1_4, ri1_4, di1_3i1_4, di1_4i1_3])
        repeat' refine And.intro ?_ ?_
        all_goals try first | rfl | omega | (simp only [lnA] <;> omega) | ((first | refine stp ?_ | refine dkz_eq ?_ ?_) <;> first | rfl | omega | (simp only [lnA] <;> omega) | (simp only [lnA, List.append_assoc, List.cons_append, List.nil_append]; done) | skip)
      all_goals rw [fil_snoc (by omega), d3]
      all_goals simp
    · rw [List.take_of_length_le (by omega), smpL]
theorem spec_IsExceptional_c {m0 : Bool} (p : List Int) (hl : p.length ≤ 1048576) : Fun Try.prog 22 [(.sl (.lent m0) (List.map (PV.int .i64) (p)))] [(.bool (excB p))] := by
  refine Fun.of (sg := sg0) (ts := [2]) mo Try.func22 rfl rfl rfl rfl (by kernel_rfl) (by simp only [go_sem]) rfl ?_
  by_cases hp : isPermB p = true
  · have fc : True := trivial
    repeat' first
      | with_reducible first | refine stp ?_ | refine q_blk_o rfl ?_ | (refine hK _ ?_; clear hK) | (refine hA ?_; clear hA hB) | (refine hB ?_; clear hA hB) | exact v_end0 | exact v_end0' | refine v_gb1 ?_ ?_ | refine v_gb0 ?_ ?_ | refine And.intro ?_ ?_
      | (with_reducible refine p_ok ?_; decide)
      | ((first | with_reducible first | refine v_region rfl rfl (fun K hK => ?_) | refine v_draws rfl rfl (fun K hK => ?_) | refine v_if (fun A B hA hB => ?_) | refine v_end rfl ?_ | refine v_fin1 ?_ | refine v_finC1 ?_ | refine v_finR1 ?_ | refine v_callE (spec_IsSimple_c _ ?_) ?_ | refine v_callE (spec_SimpleLowers_c _ ?_ ?_) ?_ | refine v_finO1 rfl ?_ | refine v_finN1 rfl ?_ ?_ | refine v_apj ?_ (fun j' => ?_) | refine v_stz ?_ ?_ ?_ ?_ ?_ | refine v_stq ?_ | refine v_cv1 ?_ ?_ ?_ | (intro hc; replace fc := And.intro hc fc; try simp only [hcs] at hc)) <;> (try simp (config := { maxSteps := 1000000 }) only [go_sem, ↓reduceIte, reduceCtorEq, Nat.reduceEqDiff, Nat.reduceAdd, Nat.reduceMul, Nat.reduceSub, Nat.reduceLeDiff, Int.reduceLT, Int.reduceLE, Int.reduceEq, Int.reduceSub, Int.reduceAdd, Int.reduceMul, Int.reduceNeg, Int.reduceToNat, hp, Bool.true_and, fc]) <;> (try with_reducible rfl))
    all_goals try (first | omega | (simp only [n_i64, n_u8]; omega) | (simp only [n_i64, n_u8, lnA]; omega) | (simp only [lnA]; done))
    · rename_i h1; rw [excB, hp, h1, decide_eq_true (by omega : 4 ≤ p.length)]; simp
    · rename_i h1; rw [excB, decide_eq_false (by omega : ¬ 4 ≤ p.length)]; simp
    · rw [excB, hc]; simp
  · rw [Bool.not_eq_true] at hp
    have fc : True := trivial
    repeat' first
      | with_reducible first | refine stp ?_ | refine q_blk_o rfl ?_ | (refine hK _ ?_; clear hK) | (refine hA ?_; clear hA hB) | (refine hB ?_; clear hA hB) | exact v_end0 | exact v_end0' | refine v_gb1 ?_ ?_ | refine v_gb0 ?_ ?_ | refine And.intro ?_ ?_
      | (with_reducible refine p_ok ?_; decide)
      | ((first | with_reducible first | refine v_region rfl rfl (fun K hK => ?_) | refine v_draws rfl rfl (fun K hK => ?_) | refine v_if (fun A B hA hB => ?_) | refine v_end rfl ?_ | refine v_fin1 ?_ | refine v_finC1 ?_ | refine v_finR1 ?_ | refine v_callE (spec_IsSimple_c _ ?_) ?_ | refine v_callE (spec_SimpleLowers_c _ ?_ ?_) ?_ | refine v_finO1 rfl ?_ | refine v_finN1 rfl ?_ ?_ | refine v_apj ?_ (fun j' => ?_) | refine v_stz ?_ ?_ ?_ ?_ ?_ | refine v_stq ?_ | refine v_cv1 ?_ ?_ ?_ | (intro hc; replace fc := And.intro hc fc; try simp only [hcs] at hc)) <;> (try simp (config := { maxSteps := 1000000 }) only [go_sem, ↓reduceIte, reduceCtorEq, Nat.reduceEqDiff, Nat.reduceAdd, Nat.reduceMul, Nat.reduceSub, Nat.reduceLeDiff, Int.reduceLT, Int.reduceLE, Int.reduceEq, Int.reduceSub, Int.reduceAdd, Int.reduceMul, Int.reduceNeg, Int.reduceToNat, hp, Bool.false_and, fc]) <;> (try with_reducible rfl))
    all_goals try (first | omega | (simp only [n_i64, n_u8]; omega) | (simp only [n_i64, n_u8, lnA]; omega) | (simp only [lnA]; done))
    rw [excB, hp]; rfl
end Go.Gl
