/-
  Bases read from texts. Conditions: none.
-/
import Derived.Test.YtdpahkppdakenaaDoorSplitS
import Derived.Test.YtdpahkppdakenaaDoorBasis
set_option linter.unusedSimpArgs false
set_option linter.unusedVariables false
set_option maxRecDepth 20000
set_option linter.unusedSectionVars false
namespace Go.Gl
open Go Go.Proofs
variable [Amb]
variable [SplA]
/-- The basis of a text. -/
def pbOk (s : List UInt8) : Bool := decide (s = []) || ((splitC 32 s).all prsB && basisB ((splitC 32 s).map prsL))
def pbL (s : List UInt8) : List (List Int) := if s = [] then [] else if pbOk s = true then (splitC 32 s).map prsL else []
theorem spB_mem {c : UInt8} : ∀ {s cur : List UInt8}, ∀ x ∈ spB c s cur, x.length ≤ s.length + cur.length
  | [], cur, x, h => by simp [spB] at h; subst h; simp
  | b :: l, cur, x, h => by
    rw [spB] at h
    split at h
    · rcases List.mem_cons.1 h with rfl | h
      · simp
      · have := spB_mem x h; simp at this ⊢; omega
    · have := spB_mem x h; simp at this ⊢; omega
theorem prsL_len {s : List UInt8} : (prsL s).length ≤ s.length := by
  unfold prsL; split
  · simp
  · split
    · simp [dgL]
    · simp
theorem all_atB {α : Type} {l : List α} {p : α → Bool} {k : Nat} {d : α} (h : k < l.length) (hf : p (l.getD k d) = false) : l.all p = false := by
  rw [List.all_eq_false]; exact ⟨l.getD k d, getD_mem h, by rw [hf]; decide⟩
theorem pb_no {s : List UInt8} {k : Nat} (hn : ¬ s = []) (hk : k < (splitC 32 s).length) (h : prsB ((splitC 32 s).getD k []) = false) : pbOk s = false := by
  rw [pbOk, decide_eq_false hn, all_atB hk h]; rfl
theorem pb_end {s : List UInt8} (hn : ¬ s = []) (h : (splitC 32 s).all prsB = true) : pbOk s = basisB ((splitC 32 s).map prsL) := by
  rw [pbOk, decide_eq_false hn, h]; simp
theorem pbL_no {s : List UInt8} (h : pbOk s = false) : pbL s = [] := by
  rw [pbL]; split
  · rfl
  · rw [if_neg (by rw [h]; decide)]
theorem pbL_yes {s : List UInt8} (hn : ¬ s = []) (h : pbOk s = true) : pbL s = (splitC 32 s).map prsL := by rw [pbL, if_neg hn, if_pos h]
theorem pb_row {s : List UInt8} (b9 : ∀ x ∈ splitC 32 s, x.length ≤ 1000) {k : Nat} : ∀ l ∈ ((splitC 32 s).take k).map prsL, l.length ≤ 1048576 := fun l hl => by
  obtain ⟨x, hx, rfl⟩ := List.mem_map.1 hl
  have := b9 x (List.mem_of_mem_take hx)
  have := prsL_len (s := x); omega
def sgPB : FuncId → List Bool := fun f => if f = 4294967297 then [true, false, false] else []
theorem sgPB_eq {f : FuncId} : sgPB f = if f = 4294967297 then [true, false, false] else [] := _root_.id rfl
theorem wayE_sgPB : wayE sgPB = false := _root_.id rfl
theorem wayN_sgPB : wayN sgPB = true := _root_.id rfl
theorem wayS_sgPB : wayS sgPB = false := _root_.id rfl
theorem wayZ_sgPB : wayZ sgPB = false := _root_.id rfl
attribute [go_sem] sgPB_eq wayE_sgPB wayN_sgPB wayS_sgPB wayZ_sgPB
theorem spec_ParseBasis_c (s : List UInt8) (hl : s.length ≤ 1000) : Fun Tryd.prog 21 [(.str (s))] [(.dl (List.map (List.map (PV.int .i64)) (pbL s))), (.bool (pbOk s))] := by
  refine Fun.of (sg := sgPB) (ts := [2, 3]) mo Tryd.func21 rfl rfl rfl rfl (by kernel_rfl) (by simp only [go_sem]) rfl ?_
  have b0 := spB_len (c := 32) (s := s) (cur := [])
  have b9 : ∀ x ∈ splitC 32 s, x.length ≤ 1000 := fun x hx => by have := spB_mem x hx; simp at this; omega
  have b8 : (splitC 32 s).length ≤ 1001 := by unfold splitC; omega
  have hS := spec_SplitByte_c s 32 (by omega)
  rw [show (((32 : UInt8).toNat : Nat) : Int) = 32 from rfl] at hS
  have fc : True := trivial
  repeat' first
    | with_reducible first | refine stp ?_ | refine q_blk_o rfl ?_ | (refine hK _ ?_; clear hK) | (refine hA ?_; clear hA hB) | (refine hB ?_; clear hA hB) | exact v_end0 | exact v_end0' | refine v_gb1 ?_ ?_ | refine v_gb0 ?_ ?_ | refine And.intro ?_ ?_
    | (with_reducible refine p_ok ?_; decide)
    | ((first | with_reducible first | refine v_region rfl rfl (fun K hK => ?_) | refine v_draws rfl rfl (fun K hK => ?_) | refine v_if (fun A B hA hB => ?_) | refine v_end rfl ?_ | refine v_fin1 ?_ | refine v_finC1 ?_ | refine v_finR1 ?_ | refine v_callE (hS) ?_ | refine v_callE (spec_SplitByte_c _ _ ?_) ?_ | refine v_callE (spec_ParsePerm_c _ ?_) ?_ | refine v_callE (spec_IsBasis_c _ ?_ ?_) ?_ | refine v_finO1 rfl ?_ | refine v_finN1 rfl ?_ ?_ | refine v_apj ?_ (fun j' => ?_) | refine v_stz ?_ ?_ ?_ ?_ ?_ | refine v_stq ?_ | refine v_cv1 ?_ ?_ ?_ | (intro hc; replace fc := And.intro hc fc; try simp only [hcs] at hc)) <;> (try simp (config := { maxSteps := 1000000 }) only [go_sem, ↓reduceIte, reduceCtorEq, Nat.reduceEqDiff, Nat.reduceAdd, Nat.reduceMul, Nat.reduceSub, Nat.reduceLeDiff, Int.reduceLT, Int.reduceLE, Int.reduceEq, Int.reduceSub, Int.reduceAdd, Int.reduceMul, Int.reduceNeg, Int.reduceToNat, fc]) <;> (try with_reducible rfl))
  all_goals try (first | omega | (simp only [n_i64, n_u8]; omega) | (simp only [n_i64, n_u8, lnA]; omega) | (simp only [lnA]; done))
  · subst hc; rfl
  · subst hc; rfl
  · have hn := hc
    refine v_loop (fun ms1 S1 => ∃ (k : Nat), S1.e 0 = .p (.str (s)) ∧ DwnL (S1.e 4) S1.h S1.n (PV.int .i64) ((((splitC 32 s).take k).map prsL).length) (((splitC 32 s).take k).map prsL) ∧ OwnL (S1.e 5) S1.h S1.n PV.str ((splitC 32 s).length) (splitC 32 s) ∧ S1.e 6 = .p (.int .i64 (k)) ∧ (k ≤ (splitC 32 s).length) ∧ (((splitC 32 s).take k).all prsB = true) ∧ NId (S1.e 5) (S1.e 4) ∧ ms1 = (splitC 32 s).length - k) ((fun (k : Nat) => (splitC 32 s).length - k) (0)) ?init1_0 ?body1_0
    case' init1_0 =>
      refine ⟨0, ?_, ?_, ?_, ?_, ?_, ?_, ?_, rfl⟩
      all_goals (try simp only [go_sem, ↓reduceIte, reduceCtorEq, Nat.reduceEqDiff, Nat.reduceAdd, Nat.reduceMul, Nat.reduceSub, Nat.reduceLeDiff, Int.reduceLT, Int.reduceLE, Int.reduceEq, Int.reduceSub, Int.reduceAdd, Int.reduceMul, Int.reduceNeg, Int.reduceToNat])
      repeat' refine And.intro ?_ ?_
      all_goals try first | rfl | omega | (simp only [lnA] <;> omega) | ((first | refine stp ?_ | refine dkz_eq ?_ ?_) <;> first | rfl | omega | (simp only [lnA] <;> omega) | (simp only [lnA, List.append_assoc, List.cons_append, List.nil_append]; done) | skip)
    case' body1_0 =>
      rintro ms1 S1 ⟨k, h1_0, o1_4, o1_5, h1_6, c1_0, c1_1, u1_0, hm1⟩
      obtain ⟨i1_4, h1_4, b1_4, l1_4⟩ := o1_4.out
      obtain ⟨i1_5, h1_5, b1_5, l1_5⟩ := o1_5.out
      have k1_0 := (u1_0).out h1_5 h1_4
      have ni1_4 : ∀ c, (i1_4 = S1.n + c) = False := fun c => eq_false (by omega)
      have pi1_4 : ∀ c, (S1.n + c = i1_4) = False := fun c => eq_false (by omega)
      have qi1_4 : (i1_4 = S1.n) = False := eq_false (by omega)
      have ri1_4 : (S1.n = i1_4) = False := eq_false (by omega)
      have ni1_5 : ∀ c, (i1_5 = S1.n + c) = False := fun c => eq_false (by omega)
      have pi1_5 : ∀ c, (S1.n + c = i1_5) = False := fun c => eq_false (by omega)
      have qi1_5 : (i1_5 = S1.n) = False := eq_false (by omega)
      have ri1_5 : (S1.n = i1_5) = False := eq_false (by omega)
      have di1_4i1_5 : (i1_4 = i1_5) = False := eq_false (by omega)
      have di1_5i1_4 : (i1_5 = i1_4) = False := eq_false (by omega)
    have b7 : k < (splitC 32 s).length → ((splitC 32 s).getD k []).length ≤ 1048576 := fun h => by have := b9 ((splitC 32 s).getD k []) (getD_mem h); omega
    have r1 := pb_row b9 (k := k)
    by_cases hk : k < (splitC 32 s).length
    · have fc : True := trivial
      repeat' first
        | with_reducible first | refine stp ?_ | refine q_blk_o rfl ?_ | (refine hK _ ?_; clear hK) | (refine hA ?_; clear hA hB) | (refine hB ?_; clear hA hB) | exact v_end0 | exact v_end0' | refine v_gb1 ?_ ?_ | refine v_gb0 ?_ ?_ | refine And.intro ?_ ?_
        | (with_reducible refine p_ok ?_; decide)
        | ((first | with_reducible first | refine v_region rfl rfl (fun K hK => ?_) | refine v_draws rfl rfl (fun K hK => ?_) | refine v_if (fun A B hA hB => ?_) | refine v_end rfl ?_ | refine v_fin1 ?_ | refine v_finC1 ?_ | refine v_finR1 ?_ | refine v_callE (spec_SplitByte_c _ _ ?_) ?_ | refine v_callE (spec_ParsePerm_c _ ?_) ?_ | refine v_callE (spec_IsBasis_c _ ?_ ?_) ?_ | refine v_finO1 rfl ?_ | refine v_finN1 rfl ?_ ?_ | refine v_apj ?_ (fun j' => ?_) | refine v_stz ?_ ?_ ?_ ?_ ?_ | refine v_stq ?_ | refine v_cv1 ?_ ?_ ?_ | (intro hc; replace fc := And.intro hc fc; try simp only [hcs] at hc)) <;> (try simp (config := { maxSteps := 1000000 }) only [go_sem, ↓reduceIte, reduceCtorEq, Nat.reduceEqDiff, Nat.reduceAdd, Nat.reduceMul, Nat.reduceSub, Nat.reduceLeDiff, Int.reduceLT, Int.reduceLE, Int.reduceEq, Int.reduceSub, Int.reduceAdd, Int.reduceMul, Int.reduceNeg, Int.reduceToNat, h1_0, h1_6, h1_4, b1_4, h1_5, b1_5, ni1_4, pi1_4, qi1_4, ri1_4, ni1_5, pi1_5, qi1_5, ri1_5, di1_4i1_5, di1_5i1_4, fc]) <;> (try with_reducible rfl))
      all_goals try (first | omega | (simp only [n_i64, n_u8]; omega) | (simp only [n_i64, n_u8, lnA]; omega) | (simp only [lnA]; done))
      · rw [pbL_no (pb_no hn hk hc)]; rfl
      · exact (pb_no hn hk hc).symm
      · focus
          refine q_lp_n ((fun (k : Nat) => (splitC 32 s).length - k) (k+1)) ?_ ⟨k+1, ?_, ?_, ?_, ?_, ?_, ?_, ?_, rfl⟩
          all_goals (try simp only [go_sem, ↓reduceIte, reduceCtorEq, Nat.reduceEqDiff, Nat.reduceAdd, Nat.reduceMul, Nat.reduceSub, Nat.reduceLeDiff, Int.reduceLT, Int.reduceLE, Int.reduceEq, Int.reduceSub, Int.reduceAdd, Int.reduceMul, Int.reduceNeg, Int.reduceToNat, h1_0, h1_6, h1_4, b1_4, h1_5, b1_5, ni1_4, pi1_4, qi1_4, ri1_4, ni1_5, pi1_5, qi1_5, ri1_5, di1_4i1_5, di1_5i1_4])
          repeat' refine And.intro ?_ ?_
          all_goals try first | rfl | omega | (simp only [lnA] <;> omega) | ((first | refine stp ?_ | refine dkz_eq ?_ ?_) <;> first | rfl | omega | (simp only [lnA] <;> omega) | (simp only [lnA, List.append_assoc, List.cons_append, List.nil_append]; done) | skip)
        all_goals first | (rw [take_getD (d := []) hk]; simp; done) | (rw [take_getD (d := []) hk, List.all_append, c1_1, List.all_cons, hc]; rfl) | skip
    · rw [List.take_of_length_le (by omega)] at c1_1 r1
      have r2 := pb_end hn c1_1
      have e0 : (splitC 32 s).take k = splitC 32 s := List.take_of_length_le (by omega)
      have fc : True := trivial
      repeat' first
        | with_reducible first | refine stp ?_ | refine q_blk_o rfl ?_ | (refine hK _ ?_; clear hK) | (refine hA ?_; clear hA hB) | (refine hB ?_; clear hA hB) | exact v_end0 | exact v_end0' | refine v_gb1 ?_ ?_ | refine v_gb0 ?_ ?_ | refine And.intro ?_ ?_
        | (with_reducible refine p_ok ?_; decide)
        | ((first | with_reducible first | refine v_region rfl rfl (fun K hK => ?_) | refine v_draws rfl rfl (fun K hK => ?_) | refine v_if (fun A B hA hB => ?_) | refine v_end rfl ?_ | refine v_fin1 ?_ | refine v_finC1 ?_ | refine v_finR1 ?_ | refine v_callE (spec_SplitByte_c _ _ ?_) ?_ | refine v_callE (spec_ParsePerm_c _ ?_) ?_ | refine v_callE (spec_IsBasis_c _ ?_ ?_) ?_ | refine v_finO1 rfl ?_ | refine v_finN1 rfl ?_ ?_ | refine v_apj ?_ (fun j' => ?_) | refine v_stz ?_ ?_ ?_ ?_ ?_ | refine v_stq ?_ | refine v_cv1 ?_ ?_ ?_ | (intro hc; replace fc := And.intro hc fc; try simp only [hcs] at hc)) <;> (try simp (config := { maxSteps := 1000000 }) only [go_sem, ↓reduceIte, reduceCtorEq, Nat.reduceEqDiff, Nat.reduceAdd, Nat.reduceMul, Nat.reduceSub, Nat.reduceLeDiff, Int.reduceLT, Int.reduceLE, Int.reduceEq, Int.reduceSub, Int.reduceAdd, Int.reduceMul, Int.reduceNeg, Int.reduceToNat, h1_0, h1_6, h1_4, b1_4, h1_5, b1_5, ni1_4, pi1_4, qi1_4, ri1_4, ni1_5, pi1_5, qi1_5, ri1_5, di1_4i1_5, di1_5i1_4, e0, fc]) <;> (try with_reducible rfl))
      all_goals try exact r1
      all_goals try (first | omega | (simp only [n_i64, n_u8]; omega) | (simp only [n_i64, n_u8, lnA]; omega) | (simp only [lnA]; done))
      · rw [pbL_no (r2.trans hc)]; rfl
      · exact (r2.trans hc).symm
      · rw [pbL_yes hn (r2.trans hc)]
      · exact (r2.trans hc).symm
def sgPZ : FuncId → List Bool := fun f => if f = 4294967297 then [true, false, true] else []
theorem sgPZ_eq {f : FuncId} : sgPZ f = if f = 4294967297 then [true, false, true] else [] := _root_.id rfl
theorem wayE_sgPZ : wayE sgPZ = false := _root_.id rfl
theorem wayN_sgPZ : wayN sgPZ = true := _root_.id rfl
theorem wayS_sgPZ : wayS sgPZ = false := _root_.id rfl
theorem wayZ_sgPZ : wayZ sgPZ = true := _root_.id rfl
attribute [go_sem] sgPZ_eq wayE_sgPZ wayN_sgPZ wayS_sgPZ wayZ_sgPZ
theorem impl_ParseBasis_c (s : List UInt8) (hl : s.length ≤ 1000) : Fun Tryd.prog 23 [(.str (s))] [(.dl (List.map (List.map (PV.int .i64)) (pbL s))), (.bool (pbOk s))] := by
  refine Fun.of (sg := sgPZ) (ts := [2, 3]) mo Tryd.func23 rfl rfl rfl rfl (by kernel_rfl) (by simp only [go_sem]) rfl ?_
  have b0 := spB_len (c := 32) (s := s) (cur := [])
  have b9 : ∀ x ∈ splitC 32 s, x.length ≤ 1000 := fun x hx => by have := spB_mem x hx; simp at this; omega
  have b8 : (splitC 32 s).length ≤ 1001 := by unfold splitC; omega
  have hS := strings_Split_c s 32 (by omega)
  have fc : True := trivial
  repeat' first
    | with_reducible first | refine stp ?_ | refine q_blk_o rfl ?_ | (refine hK _ ?_; clear hK) | (refine hA ?_; clear hA hB) | (refine hB ?_; clear hA hB) | exact v_end0 | exact v_end0' | refine v_gb1 ?_ ?_ | refine v_gb0 ?_ ?_ | refine And.intro ?_ ?_
    | (with_reducible refine p_ok ?_; decide)
    | ((first | with_reducible first | refine v_region rfl rfl (fun K hK => ?_) | refine v_draws rfl rfl (fun K hK => ?_) | refine v_if (fun A B hA hB => ?_) | refine v_end rfl ?_ | refine v_fin1 ?_ | refine v_finC1 ?_ | refine v_finR1 ?_ | refine v_callE (hS) ?_ | refine v_callE (strings_Split_c _ _ ?_) ?_ | refine v_callE (impl_ParsePerm_c _ ?_) ?_ | refine v_callE (impl_IsBasis_c _ ?_ ?_) ?_ | refine v_finO1 rfl ?_ | refine v_finN1 rfl ?_ ?_ | refine v_apj ?_ (fun j' => ?_) | refine v_stz ?_ ?_ ?_ ?_ ?_ | refine v_stq ?_ | refine v_cv1 ?_ ?_ ?_ | (intro hc; replace fc := And.intro hc fc; try simp only [hcs] at hc)) <;> (try simp (config := { maxSteps := 1000000 }) only [go_sem, ↓reduceIte, reduceCtorEq, Nat.reduceEqDiff, Nat.reduceAdd, Nat.reduceMul, Nat.reduceSub, Nat.reduceLeDiff, Int.reduceLT, Int.reduceLE, Int.reduceEq, Int.reduceSub, Int.reduceAdd, Int.reduceMul, Int.reduceNeg, Int.reduceToNat, fc]) <;> (try with_reducible rfl))
  all_goals try (first | omega | (simp only [n_i64, n_u8]; omega) | (simp only [n_i64, n_u8, lnA]; omega) | (simp only [lnA]; done))
  · subst hc; rfl
  · subst hc; rfl
  · have hn := hc
    refine v_loop (fun ms1 S1 => ∃ (k : Nat), DwnL (S1.e 4) S1.h S1.n (PV.int .i64) ((((splitC 32 s).take k).map prsL).length) (((splitC 32 s).take k).map prsL) ∧ OwnL (S1.e 14) S1.h S1.n PV.str ((splitC 32 s).length) (splitC 32 s) ∧ S1.e 15 = .p (.int .i64 ((splitC 32 s).length)) ∧ S1.e 16 = .p (.int .i64 (k)) ∧ (k ≤ (splitC 32 s).length) ∧ (((splitC 32 s).take k).all prsB = true) ∧ NId (S1.e 14) (S1.e 4) ∧ ms1 = (splitC 32 s).length - k) ((fun (k : Nat) => (splitC 32 s).length - k) (0)) ?init1_1 ?body1_1
    case' init1_1 =>
      refine ⟨0, ?_, ?_, ?_, ?_, ?_, ?_, ?_, rfl⟩
      all_goals (try simp only [go_sem, ↓reduceIte, reduceCtorEq, Nat.reduceEqDiff, Nat.reduceAdd, Nat.reduceMul, Nat.reduceSub, Nat.reduceLeDiff, Int.reduceLT, Int.reduceLE, Int.reduceEq, Int.reduceSub, Int.reduceAdd, Int.reduceMul, Int.reduceNeg, Int.reduceToNat])
      repeat' refine And.intro ?_ ?_
      all_goals try first | rfl | omega | (simp only [lnA] <;> omega) | ((first | refine stp ?_ | refine dkz_eq ?_ ?_) <;> first | rfl | omega | (simp only [lnA] <;> omega) | (simp only [lnA, List.append_assoc, List.cons_append, List.nil_append]; done) | skip)
    case' body1_1 =>
      rintro ms1 S1 ⟨k, o1_4, o1_14, h1_15, h1_16, c1_0, c1_1, u1_0, hm1⟩
      obtain ⟨i1_4, h1_4, b1_4, l1_4⟩ := o1_4.out
      obtain ⟨i1_14, h1_14, b1_14, l1_14⟩ := o1_14.out
      have k1_0 := (u1_0).out h1_14 h1_4
      have ni1_4 : ∀ c, (i1_4 = S1.n + c) = False := fun c => eq_false (by omega)
      have pi1_4 : ∀ c, (S1.n + c = i1_4) = False := fun c => eq_false (by omega)
      have qi1_4 : (i1_4 = S1.n) = False := eq_false (by omega)
      have ri1_4 : (S1.n = i1_4) = False := eq_false (by omega)
      have ni1_14 : ∀ c, (i1_14 = S1.n + c) = False := fun c => eq_false (by omega)
      have pi1_14 : ∀ c, (S1.n + c = i1_14) = False := fun c => eq_false (by omega)
      have qi1_14 : (i1_14 = S1.n) = False := eq_false (by omega)
      have ri1_14 : (S1.n = i1_14) = False := eq_false (by omega)
      have di1_4i1_14 : (i1_4 = i1_14) = False := eq_false (by omega)
      have di1_14i1_4 : (i1_14 = i1_4) = False := eq_false (by omega)
    have b7 : k < (splitC 32 s).length → ((splitC 32 s).getD k []).length ≤ 1048576 := fun h => by have := b9 ((splitC 32 s).getD k []) (getD_mem h); omega
    have r1 := pb_row b9 (k := k)
    by_cases hk : k < (splitC 32 s).length
    · have fc : True := trivial
      repeat' first
        | with_reducible first | refine stp ?_ | refine q_blk_o rfl ?_ | (refine hK _ ?_; clear hK) | (refine hA ?_; clear hA hB) | (refine hB ?_; clear hA hB) | exact v_end0 | exact v_end0' | refine v_gb1 ?_ ?_ | refine v_gb0 ?_ ?_ | refine And.intro ?_ ?_
        | (with_reducible refine p_ok ?_; decide)
        | ((first | with_reducible first | refine v_region rfl rfl (fun K hK => ?_) | refine v_draws rfl rfl (fun K hK => ?_) | refine v_if (fun A B hA hB => ?_) | refine v_end rfl ?_ | refine v_fin1 ?_ | refine v_finC1 ?_ | refine v_finR1 ?_ | refine v_callE (strings_Split_c _ _ ?_) ?_ | refine v_callE (impl_ParsePerm_c _ ?_) ?_ | refine v_callE (impl_IsBasis_c _ ?_ ?_) ?_ | refine v_finO1 rfl ?_ | refine v_finN1 rfl ?_ ?_ | refine v_apj ?_ (fun j' => ?_) | refine v_stz ?_ ?_ ?_ ?_ ?_ | refine v_stq ?_ | refine v_cv1 ?_ ?_ ?_ | (intro hc; replace fc := And.intro hc fc; try simp only [hcs] at hc)) <;> (try simp (config := { maxSteps := 1000000 }) only [go_sem, ↓reduceIte, reduceCtorEq, Nat.reduceEqDiff, Nat.reduceAdd, Nat.reduceMul, Nat.reduceSub, Nat.reduceLeDiff, Int.reduceLT, Int.reduceLE, Int.reduceEq, Int.reduceSub, Int.reduceAdd, Int.reduceMul, Int.reduceNeg, Int.reduceToNat, h1_15, h1_16, h1_4, b1_4, h1_14, b1_14, ni1_4, pi1_4, qi1_4, ri1_4, ni1_14, pi1_14, qi1_14, ri1_14, di1_4i1_14, di1_14i1_4, fc]) <;> (try with_reducible rfl))
      all_goals try (first | omega | (simp only [n_i64, n_u8]; omega) | (simp only [n_i64, n_u8, lnA]; omega) | (simp only [lnA]; done))
      · rw [pbL_no (pb_no hn hk hc)]; rfl
      · exact (pb_no hn hk hc).symm
      · focus
          refine q_lp_n ((fun (k : Nat) => (splitC 32 s).length - k) (k+1)) ?_ ⟨k+1, ?_, ?_, ?_, ?_, ?_, ?_, ?_, rfl⟩
          all_goals (try simp only [go_sem, ↓reduceIte, reduceCtorEq, Nat.reduceEqDiff, Nat.reduceAdd, Nat.reduceMul, Nat.reduceSub, Nat.reduceLeDiff, Int.reduceLT, Int.reduceLE, Int.reduceEq, Int.reduceSub, Int.reduceAdd, Int.reduceMul, Int.reduceNeg, Int.reduceToNat, h1_15, h1_16, h1_4, b1_4, h1_14, b1_14, ni1_4, pi1_4, qi1_4, ri1_4, ni1_14, pi1_14, qi1_14, ri1_14, di1_4i1_14, di1_14i1_4])
          repeat' refine And.intro ?_ ?_
          all_goals try first | rfl | omega | (simp only [lnA] <;> omega) | ((first | refine stp ?_ | refine dkz_eq ?_ ?_) <;> first | rfl | omega | (simp only [lnA] <;> omega) | (simp only [lnA, List.append_assoc, List.cons_append, List.nil_append]; done) | skip)
        all_goals first | (rw [take_getD (d := []) hk]; simp; done) | (rw [take_getD (d := []) hk, List.all_append, c1_1, List.all_cons, hc]; rfl) | skip
    · rw [List.take_of_length_le (by omega)] at c1_1 r1
      have r2 := pb_end hn c1_1
      have e0 : (splitC 32 s).take k = splitC 32 s := List.take_of_length_le (by omega)
      have fc : True := trivial
      repeat' first
        | with_reducible first | refine stp ?_ | refine q_blk_o rfl ?_ | (refine hK _ ?_; clear hK) | (refine hA ?_; clear hA hB) | (refine hB ?_; clear hA hB) | exact v_end0 | exact v_end0' | refine v_gb1 ?_ ?_ | refine v_gb0 ?_ ?_ | refine And.intro ?_ ?_
        | (with_reducible refine p_ok ?_; decide)
        | ((first | with_reducible first | refine v_region rfl rfl (fun K hK => ?_) | refine v_draws rfl rfl (fun K hK => ?_) | refine v_if (fun A B hA hB => ?_) | refine v_end rfl ?_ | refine v_fin1 ?_ | refine v_finC1 ?_ | refine v_finR1 ?_ | refine v_callE (strings_Split_c _ _ ?_) ?_ | refine v_callE (impl_ParsePerm_c _ ?_) ?_ | refine v_callE (impl_IsBasis_c _ ?_ ?_) ?_ | refine v_finO1 rfl ?_ | refine v_finN1 rfl ?_ ?_ | refine v_apj ?_ (fun j' => ?_) | refine v_stz ?_ ?_ ?_ ?_ ?_ | refine v_stq ?_ | refine v_cv1 ?_ ?_ ?_ | (intro hc; replace fc := And.intro hc fc; try simp only [hcs] at hc)) <;> (try simp (config := { maxSteps := 1000000 }) only [go_sem, ↓reduceIte, reduceCtorEq, Nat.reduceEqDiff, Nat.reduceAdd, Nat.reduceMul, Nat.reduceSub, Nat.reduceLeDiff, Int.reduceLT, Int.reduceLE, Int.reduceEq, Int.reduceSub, Int.reduceAdd, Int.reduceMul, Int.reduceNeg, Int.reduceToNat, h1_15, h1_16, h1_4, b1_4, h1_14, b1_14, ni1_4, pi1_4, qi1_4, ri1_4, ni1_14, pi1_14, qi1_14, ri1_14, di1_4i1_14, di1_14i1_4, e0, fc]) <;> (try with_reducible rfl))
      all_goals try exact r1
      all_goals try (first | omega | (simp only [n_i64, n_u8]; omega) | (simp only [n_i64, n_u8, lnA]; omega) | (simp only [lnA]; done))
      · rw [pbL_no (r2.trans hc)]; rfl
      · exact (r2.trans hc).symm
      · rw [pbL_yes hn (r2.trans hc)]
      · exact (r2.trans hc).symm
end Go.Gl
