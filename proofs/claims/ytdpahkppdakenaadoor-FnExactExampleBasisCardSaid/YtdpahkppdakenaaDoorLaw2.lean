/-
  The laws' marks in slices of slices. Conditions: none.
-/
import Derived.Test.YtdpahkppdakenaaDoorLaw1
set_option linter.unusedSimpArgs false
set_option linter.unusedVariables false
set_option maxRecDepth 20000
set_option linter.unusedSectionVars false
namespace Go.Gl
open Go Go.Proofs
variable [Amb]
def sumN : List Nat → Nat
  | [] => 0
  | n :: ns => n + sumN ns
def mkLL : List Nat → Int → List (List Int)
  | [], _ => []
  | n :: ns, k => markL n k :: mkLL ns (k + n)
theorem mkLL_len : ∀ {ns : List Nat} {k : Int}, (mkLL ns k).length = ns.length
  | [], _ => rfl
  | _ :: ns, _ => by simp only [mkLL, List.length_cons, mkLL_len]
theorem mkLL_snoc : ∀ {ns : List Nat} {n : Nat} {k : Int}, mkLL (ns ++ [n]) k = mkLL ns k ++ [markL n (k + sumN ns)]
  | [], n, k => by simp [mkLL, sumN]
  | m :: ns, n, k => by
    simp only [List.cons_append, mkLL, mkLL_snoc, sumN]
    congr 4; push_cast; omega
theorem mkLL_getD : ∀ {ns : List Nat} {k : Int} {i : Nat}, (mkLL ns k).getD i [] = markL (ns.getD i 0) (k + sumN (ns.take i))
  | [], k, i => by simp [mkLL, markL]
  | n :: ns, k, 0 => by simp [mkLL, sumN]
  | n :: ns, k, i + 1 => by
    simp only [mkLL, List.getD_cons_succ, List.take_succ_cons, sumN, mkLL_getD]
    congr 1; push_cast; omega
theorem sumN_take : ∀ {ns : List Nat} {i : Nat}, sumN (ns.take (i + 1)) = sumN (ns.take i) + ns.getD i 0
  | [], i => by simp [sumN]
  | n :: ns, 0 => by simp [sumN]
  | n :: ns, i + 1 => by
    simp only [List.take_succ_cons, sumN, List.getD_cons_succ, sumN_take (ns := ns)]; omega
theorem sumN_le : ∀ {ns : List Nat} {i : Nat}, sumN (ns.take i) ≤ sumN ns
  | [], i => by simp [sumN]
  | n :: ns, 0 => by simp [sumN]
  | n :: ns, i + 1 => by
    simp only [List.take_succ_cons, sumN]
    have := sumN_le (ns := ns) (i := i); omega
theorem sumN_at {ns : List Nat} {i : Nat} : ns.getD i 0 ≤ sumN ns := by
  have h1 := sumN_take (ns := ns) (i := i)
  have h2 := sumN_le (ns := ns) (i := i + 1)
  omega
theorem len_getD {L : List (List Int)} {i : Nat} : (L.getD i []).length = (L.map List.length).getD i 0 := by
  rw [List.getD_eq_getElem?_getD, List.getD_eq_getElem?_getD, List.getElem?_map]
  cases L[i]? <;> rfl
theorem sumN_bound {n : Nat} : ∀ {L : List (List Int)}, (∀ l ∈ L, l.length ≤ n) → sumN (L.map List.length) ≤ L.length * n
  | [], _ => by simp [sumN]
  | l :: L, h => by
    have h1 := h l (by simp)
    have h2 := sumN_bound (L := L) (fun x hx => h x (by simp [hx]))
    simp only [List.map_cons, sumN, List.length_cons, Nat.succ_mul]; omega
theorem sumT_succ {L : List (List Int)} {i : Nat} : sumN ((L.take (i + 1)).map List.length) = sumN ((L.take i).map List.length) + (L.getD i []).length := by
  rw [List.map_take, List.map_take, sumN_take, len_getD]
theorem sumT_le {L : List (List Int)} {i : Nat} : sumN ((L.take i).map List.length) ≤ sumN (L.map List.length) := by
  rw [List.map_take]; exact sumN_le
theorem mkLL_step {L : List (List Int)} {i : Nat} {k : Int} (hi : i < L.length) :
    (mkLL ((L.take i).map List.length) k ++ L.drop i).set i (markL (L.getD i []).length (k + sumN ((L.take i).map List.length))) = mkLL ((L.take (i + 1)).map List.length) k ++ L.drop (i + 1) := by
  have hl : (mkLL ((L.take i).map List.length) k).length = i := by rw [mkLL_len]; simp; omega
  rw [List.set_append_right _ _ (by omega), hl, Nat.sub_self, dropL_at hi, List.set_cons_zero, take_getD (d := []) hi, List.map_append, List.map_cons, List.map_nil, mkLL_snoc, List.append_assoc]
  rfl
theorem mkLL_at {L : List (List Int)} {i : Nat} {k : Int} (hi : i < L.length) : (mkLL ((L.take i).map List.length) k ++ L.drop i).getD i [] = L.getD i [] := by
  have hl : (mkLL ((L.take i).map List.length) k).length = i := by rw [mkLL_len]; simp; omega
  rw [List.getD_eq_getElem?_getD, List.getD_eq_getElem?_getD, List.getElem?_append_right (by omega), hl, Nat.sub_self, List.getElem?_drop, Nat.add_zero]
def sgR : FuncId → List Bool := fun f => if f = 24 then [true] else []
theorem sgR_eq {f : FuncId} : sgR f = if f = 24 then [true] else [] := _root_.id rfl
theorem wayE_sgR : wayE sgR = false := _root_.id rfl
theorem wayN_sgR : wayN sgR = false := _root_.id rfl
theorem wayS_sgR : wayS sgR = false := _root_.id rfl
theorem wayZ_sgR : wayZ sgR = false := _root_.id rfl
attribute [go_sem] sgR_eq wayE_sgR wayN_sgR wayS_sgR wayZ_sgR
theorem laws_markIntSS_c (L : List (List Int)) (k : Int) (hL : L.length ≤ 1099511627776) (hk : 0 ≤ k) (hj : k + sumN (L.map List.length) ≤ 1099511627776) : CallT Tryd.prog false 9 [.mu false [.dl (List.map (List.map (PV.int .i64)) (L))], .pv (.int .i64 (k))] [some [.dl (List.map (List.map (PV.int .i64)) (mkLL (L.map List.length) k))], none] [(.int .i64 ((k + sumN (L.map List.length))))] := by
  refine CallT.of (sg := sgR) (ts := [4]) mo Tryd.func9 rfl rfl rfl rfl (by kernel_rfl) (by simp only [go_sem]) rfl (by simp only [go_sem]) ?_
  have fc : True := trivial
  repeat' first
    | with_reducible first | refine stp ?_ | refine q_blk_o rfl ?_ | (refine hK _ ?_; clear hK) | (refine hA ?_; clear hA hB) | (refine hB ?_; clear hA hB) | exact v_end0 | exact v_end0' | refine v_gb1 ?_ ?_ | refine v_gb0 ?_ ?_ | refine And.intro ?_ ?_
    | (with_reducible refine p_ok ?_; decide)
    | ((first | with_reducible first | refine v_region rfl rfl (fun K hK => ?_) | refine v_draws rfl rfl (fun K hK => ?_) | refine v_if (fun A B hA hB => ?_) | refine v_end rfl ?_ | refine v_fin1 ?_ | refine v_finC1 ?_ | refine v_finR1 ?_ | refine v_callN (laws_markIntS_c _ _ ?_ ?_ ?_) rfl ?_ ?_ | refine v_callT (laws_markIntS_c _ _ ?_ ?_ ?_) rfl ?_ ?_ | refine v_callTd (laws_markIntS_c _ _ ?_ ?_ ?_) rfl ?_ ?_ | refine v_callR (laws_markIntS_c _ _ ?_ ?_ ?_) rfl ?_ ?_ | refine v_callT3 (laws_markIntS_c _ _ ?_ ?_ ?_) ?_ ?_ | refine v_callT4 (laws_markIntS_c _ _ ?_ ?_ ?_) ?_ ?_ | refine v_finO1 rfl ?_ | refine v_finN1 rfl ?_ ?_ | refine v_apj ?_ (fun j' => ?_) | refine v_stz ?_ ?_ ?_ ?_ ?_ | refine v_stq ?_ | refine v_cv1 ?_ ?_ ?_ | (intro hc; replace fc := And.intro hc fc; try simp only [hcs] at hc)) <;> (try simp (config := { maxSteps := 1000000 }) only [go_sem, ↓reduceIte, reduceCtorEq, Nat.reduceEqDiff, Nat.reduceAdd, Nat.reduceMul, Nat.reduceSub, Nat.reduceLeDiff, Int.reduceLT, Int.reduceLE, Int.reduceEq, Int.reduceSub, Int.reduceAdd, Int.reduceMul, Int.reduceNeg, Int.reduceToNat, fc]) <;> (try with_reducible rfl))
  refine v_loop (fun ms1 S1 => ∃ (i : Nat) (c : List (List Int)), S1.e 0 = .ref 0 0 (c).length ∧ S1.h 0 = dk (PV.int .i64) true (c) ∧ 0 < S1.n ∧ S1.e 1 = .p (.int .i64 ((k + sumN ((L.take i).map List.length)))) ∧ S1.e 5 = .p (.int .i64 (i)) ∧ (i ≤ L.length) ∧ (c = mkLL ((L.take i).map List.length) k ++ L.drop i) ∧ (c.length = L.length) ∧ ms1 = L.length - i) ((fun (i : Nat) (c : List (List Int)) => L.length - i) (0) (L)) ?init1_0 ?body1_0
  case' init1_0 =>
    refine ⟨0, L, ?_, ?_, ?_, ?_, ?_, ?_, ?_, ?_, rfl⟩
    all_goals (try simp only [go_sem, ↓reduceIte, reduceCtorEq, Nat.reduceEqDiff, Nat.reduceAdd, Nat.reduceMul, Nat.reduceSub, Nat.reduceLeDiff, Int.reduceLT, Int.reduceLE, Int.reduceEq, Int.reduceSub, Int.reduceAdd, Int.reduceMul, Int.reduceNeg, Int.reduceToNat])
    repeat' refine And.intro ?_ ?_
    all_goals try first | rfl | omega | (simp only [lnA] <;> omega) | ((first | refine stp ?_ | refine dkz_eq ?_ ?_) <;> first | rfl | omega | (simp only [lnA] <;> omega) | (simp only [lnA, List.append_assoc, List.cons_append, List.nil_append]; done) | skip)
  case' body1_0 =>
    rintro ms1 S1 ⟨i, c, h1_0, b1_0, l1_0, h1_1, h1_5, c1_0, c1_1, c1_2, hm1⟩
    have n0 : ∀ c, (0 = S1.n + c) = False := fun c => eq_false (by omega)
    have p0 : ∀ c, (S1.n + c = 0) = False := fun c => eq_false (by omega)
    have q0 : (0 = S1.n) = False := eq_false (by omega)
    have r0 : (S1.n = 0) = False := eq_false (by omega)
  have e1 := sumT_succ (L := L) (i := i)
  have e2 := sumT_le (L := L) (i := i)
  have e3 := sumT_le (L := L) (i := i + 1)
  have fc : True := trivial
  repeat' first
    | with_reducible first | refine stp ?_ | refine q_blk_o rfl ?_ | (refine hK _ ?_; clear hK) | (refine hA ?_; clear hA hB) | (refine hB ?_; clear hA hB) | exact v_end0 | exact v_end0' | refine v_gb1 ?_ ?_ | refine v_gb0 ?_ ?_ | refine And.intro ?_ ?_
    | (with_reducible refine p_ok ?_; decide)
    | ((first | with_reducible first | refine v_region rfl rfl (fun K hK => ?_) | refine v_draws rfl rfl (fun K hK => ?_) | refine v_if (fun A B hA hB => ?_) | refine v_end rfl ?_ | refine v_fin1 ?_ | refine v_finC1 ?_ | refine v_finR1 ?_ | refine v_callN (laws_markIntS_c _ _ ?_ ?_ ?_) rfl ?_ ?_ | refine v_callT (laws_markIntS_c _ _ ?_ ?_ ?_) rfl ?_ ?_ | refine v_callTd (laws_markIntS_c _ _ ?_ ?_ ?_) rfl ?_ ?_ | refine v_callR (laws_markIntS_c _ _ ?_ ?_ ?_) rfl ?_ ?_ | refine v_callT3 (laws_markIntS_c _ _ ?_ ?_ ?_) ?_ ?_ | refine v_callT4 (laws_markIntS_c _ _ ?_ ?_ ?_) ?_ ?_ | refine v_finO1 rfl ?_ | refine v_finN1 rfl ?_ ?_ | refine v_apj ?_ (fun j' => ?_) | refine v_stz ?_ ?_ ?_ ?_ ?_ | refine v_stq ?_ | refine v_cv1 ?_ ?_ ?_ | (intro hc; replace fc := And.intro hc fc; try simp only [hcs] at hc)) <;> (try simp (config := { maxSteps := 1000000 }) only [go_sem, ↓reduceIte, reduceCtorEq, Nat.reduceEqDiff, Nat.reduceAdd, Nat.reduceMul, Nat.reduceSub, Nat.reduceLeDiff, Int.reduceLT, Int.reduceLE, Int.reduceEq, Int.reduceSub, Int.reduceAdd, Int.reduceMul, Int.reduceNeg, Int.reduceToNat, h1_0, b1_0, h1_1, h1_5, n0, p0, q0, r0, fc]) <;> (try with_reducible rfl))
  all_goals try have e4 := mkLL_at (L := L) (i := i) (k := k) (by omega)
  all_goals try rw [← c1_1] at e4
  all_goals try rw [e4]
  all_goals try (first | omega | (simp only [n_i64, n_u8]; omega) | (simp only [n_i64, n_u8, lnA]; omega) | (simp only [lnA]; done))
  all_goals try (simp [sumN]; done)
  · focus
      refine q_lp_n ((fun (i : Nat) (c : List (List Int)) => L.length - i) (i+1) (c.set i (markL (L.getD i []).length (k + sumN ((L.take i).map List.length))))) ?_ ⟨i+1, c.set i (markL (L.getD i []).length (k + sumN ((L.take i).map List.length))), ?_, ?_, ?_, ?_, ?_, ?_, ?_, ?_, rfl⟩
      all_goals (try simp only [go_sem, ↓reduceIte, reduceCtorEq, Nat.reduceEqDiff, Nat.reduceAdd, Nat.reduceMul, Nat.reduceSub, Nat.reduceLeDiff, Int.reduceLT, Int.reduceLE, Int.reduceEq, Int.reduceSub, Int.reduceAdd, Int.reduceMul, Int.reduceNeg, Int.reduceToNat, h1_0, b1_0, h1_1, h1_5, n0, p0, q0, r0])
      repeat' refine And.intro ?_ ?_
      all_goals try first | rfl | omega | (simp only [lnA] <;> omega) | ((first | refine stp ?_ | refine dkz_eq ?_ ?_) <;> first | rfl | omega | (simp only [lnA] <;> omega) | (simp only [lnA, List.append_assoc, List.cons_append, List.nil_append]; done) | skip)
    all_goals first | exact dkU_eq (by omega) (by rw [e4, markL_length]) | (rw [c1_1, mkLL_step (by omega)])
  · rw [c1_1, List.take_of_length_le (by omega), List.drop_of_length_le (by omega), List.append_nil]
  · rw [List.take_of_length_le (by omega)]
theorem laws_heldIntSS_c {e0 m0 : Bool} (ns : List Nat) (k : Int) (hn : ns.length ≤ 1099511627776) (hk : 0 ≤ k) (hj : k + sumN ns ≤ 1099511627776) : Fun Tryd.prog 10 [(.sl (.lent m0) (List.map (elI e0) (mkLL ns k))), (.int .i64 (k))] [(.int .i64 ((k + sumN ns)))] := by
  refine Fun.of (sg := sg0) (ts := [4]) mo Tryd.func10 rfl rfl rfl rfl (by kernel_rfl) (by simp only [go_sem]) rfl ?_
  have fc : True := trivial
  repeat' first
    | with_reducible first | refine stp ?_ | refine q_blk_o rfl ?_ | (refine hK _ ?_; clear hK) | (refine hA ?_; clear hA hB) | (refine hB ?_; clear hA hB) | exact v_end0 | exact v_end0' | refine v_gb1 ?_ ?_ | refine v_gb0 ?_ ?_ | refine And.intro ?_ ?_
    | (with_reducible refine p_ok ?_; decide)
    | ((first | with_reducible first | refine v_region rfl rfl (fun K hK => ?_) | refine v_draws rfl rfl (fun K hK => ?_) | refine v_if (fun A B hA hB => ?_) | refine v_end rfl ?_ | refine v_fin1 ?_ | refine v_finC1 ?_ | refine v_finR1 ?_ | refine v_callE (laws_heldIntS_c _ _ ?_ ?_ ?_) ?_ | refine v_finO1 rfl ?_ | refine v_finN1 rfl ?_ ?_ | refine v_apj ?_ (fun j' => ?_) | refine v_stz ?_ ?_ ?_ ?_ ?_ | refine v_stq ?_ | refine v_cv1 ?_ ?_ ?_ | (intro hc; replace fc := And.intro hc fc; try simp only [hcs] at hc)) <;> (try simp (config := { maxSteps := 1000000 }) only [go_sem, ↓reduceIte, reduceCtorEq, Nat.reduceEqDiff, Nat.reduceAdd, Nat.reduceMul, Nat.reduceSub, Nat.reduceLeDiff, Int.reduceLT, Int.reduceLE, Int.reduceEq, Int.reduceSub, Int.reduceAdd, Int.reduceMul, Int.reduceNeg, Int.reduceToNat, fc]) <;> (try with_reducible rfl))
  refine v_loop (fun ms1 S1 => ∃ (i : Nat), S1.e 0 = .p (.sl (.lent m0) (List.map (elI e0) (mkLL ns k))) ∧ S1.e 1 = .p (.int .i64 ((k + sumN (ns.take i)))) ∧ S1.e 5 = .p (.int .i64 (i)) ∧ (i ≤ ns.length) ∧ ms1 = ns.length - i) ((fun (i : Nat) => ns.length - i) (0)) ?init1_1 ?body1_1
  case' init1_1 =>
    refine ⟨0, ?_, ?_, ?_, ?_, rfl⟩
    all_goals (try simp only [go_sem, ↓reduceIte, reduceCtorEq, Nat.reduceEqDiff, Nat.reduceAdd, Nat.reduceMul, Nat.reduceSub, Nat.reduceLeDiff, Int.reduceLT, Int.reduceLE, Int.reduceEq, Int.reduceSub, Int.reduceAdd, Int.reduceMul, Int.reduceNeg, Int.reduceToNat])
    repeat' refine And.intro ?_ ?_
    all_goals try first | rfl | omega | (simp only [lnA] <;> omega) | ((first | refine stp ?_ | refine dkz_eq ?_ ?_) <;> first | rfl | omega | (simp only [lnA] <;> omega) | (simp only [lnA, List.append_assoc, List.cons_append, List.nil_append]; done) | skip)
  case' body1_1 =>
    rintro ms1 S1 ⟨i, h1_0, h1_1, h1_5, c1_0, hm1⟩
  have e1 := sumN_take (ns := ns) (i := i)
  have e2 := sumN_le (ns := ns) (i := i)
  have e3 := sumN_le (ns := ns) (i := i + 1)
  have e4 := sumN_at (ns := ns) (i := i)
  have fc : True := trivial
  repeat' first
    | with_reducible first | refine stp ?_ | refine q_blk_o rfl ?_ | (refine hK _ ?_; clear hK) | (refine hA ?_; clear hA hB) | (refine hB ?_; clear hA hB) | exact v_end0 | exact v_end0' | refine v_gb1 ?_ ?_ | refine v_gb0 ?_ ?_ | refine And.intro ?_ ?_
    | (with_reducible refine p_ok ?_; decide)
    | ((first | with_reducible first | refine v_region rfl rfl (fun K hK => ?_) | refine v_draws rfl rfl (fun K hK => ?_) | refine v_if (fun A B hA hB => ?_) | refine v_end rfl ?_ | refine v_fin1 ?_ | refine v_finC1 ?_ | refine v_finR1 ?_ | refine v_callE (laws_heldIntS_c _ _ ?_ ?_ ?_) ?_ | refine v_finO1 rfl ?_ | refine v_finN1 rfl ?_ ?_ | refine v_apj ?_ (fun j' => ?_) | refine v_stz ?_ ?_ ?_ ?_ ?_ | refine v_stq ?_ | refine v_cv1 ?_ ?_ ?_ | (intro hc; replace fc := And.intro hc fc; try simp only [hcs] at hc)) <;> (try simp (config := { maxSteps := 1000000 }) only [go_sem, ↓reduceIte, reduceCtorEq, Nat.reduceEqDiff, Nat.reduceAdd, Nat.reduceMul, Nat.reduceSub, Nat.reduceLeDiff, Int.reduceLT, Int.reduceLE, Int.reduceEq, Int.reduceSub, Int.reduceAdd, Int.reduceMul, Int.reduceNeg, Int.reduceToNat, h1_0, h1_1, h1_5, mkLL_getD, mkLL_len, fc]) <;> (try with_reducible rfl))
  all_goals try (first | omega | (simp only [n_i64, n_u8]; omega) | (simp only [n_i64, n_u8, lnA]; omega) | (simp only [lnA]; done))
  all_goals try (simp [sumN]; done)
  · focus
      refine q_lp_n ((fun (i : Nat) => ns.length - i) (i+1)) ?_ ⟨i+1, ?_, ?_, ?_, ?_, rfl⟩
      all_goals (try simp only [go_sem, ↓reduceIte, reduceCtorEq, Nat.reduceEqDiff, Nat.reduceAdd, Nat.reduceMul, Nat.reduceSub, Nat.reduceLeDiff, Int.reduceLT, Int.reduceLE, Int.reduceEq, Int.reduceSub, Int.reduceAdd, Int.reduceMul, Int.reduceNeg, Int.reduceToNat, h1_0, h1_1, h1_5])
      repeat' refine And.intro ?_ ?_
      all_goals try first | rfl | omega | (simp only [lnA] <;> omega) | ((first | refine stp ?_ | refine dkz_eq ?_ ?_) <;> first | rfl | omega | (simp only [lnA] <;> omega) | (simp only [lnA, List.append_assoc, List.cons_append, List.nil_append]; done) | skip)
  · rw [List.take_of_length_le (by omega)]
theorem mkLL_take {L : List (List Int)} {k : Int} : List.take L.length (mkLL (L.map List.length) k) = mkLL (L.map List.length) k := by
  rw [List.take_of_length_le]; rw [mkLL_len, List.length_map]; exact Nat.le_refl _
attribute [go_sem] mkLL_take mkLL_len
end Go.Gl
