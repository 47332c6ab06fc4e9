/-
  Putting numbers into tables: what the program's functions compute; both as texts. Conditions: none.
-/
import Derived.Test.YtnoedblfedppkaaDoorIns
import Derived.Test.YtnoedblfedppkaaDoorLib
set_option linter.unusedSimpArgs false
set_option linter.unusedVariables false
set_option maxRecDepth 20000
set_option linter.unusedSectionVars false
namespace Go.Gl
open Go Go.Proofs
variable [Amb]
theorem set_perm {row : List Int} {c : Nat} {n : Int} (h : c < row.length) : (row.getD c 0 :: row.set c n).Perm (n :: row) := by
  rw [tcut h]
  conv => rhs; rw [← List.take_append_drop c row, dropI_at h]
  refine (List.Perm.cons _ List.perm_middle).trans ((List.Perm.swap _ _ _).trans ?_)
  exact List.Perm.cons _ List.perm_middle.symm
theorem putT_perm : ∀ {T : List (List Int)} {n : Int}, (putT T n).1.flatten.Perm (n :: T.flatten)
  | [], n => by simp [putT]
  | l :: T, n => by
    rw [putT]
    split
    · simp only [List.flatten_cons]
      rw [List.append_assoc]
      exact List.perm_middle
    · rename_i h
      have hc : fstN n l < l.length := by have := fstN_le (n := n) (l := l); omega
      simp only [List.flatten_cons]
      refine (List.Perm.append_left _ putT_perm).trans ?_
      refine List.perm_middle.trans ?_
      rw [← List.cons_append, ← List.cons_append]
      exact List.Perm.append_right _ (set_perm hc)
theorem insT_perm {p : List Int} : ∀ {k : Nat}, k ≤ p.length → (insT p k).1.flatten.Perm (p.take k)
  | 0, _ => by simp [insT]
  | k + 1, h => by
    rw [insT, take_getD (d := 0) (by omega)]
    refine putT_perm.trans ((List.Perm.cons _ (insT_perm (by omega))).trans ?_)
    exact (List.perm_append_singleton _ _).symm
theorem insT_nd {p : List Int} (hp : p.Nodup) {k : Nat} (h : k < p.length) : (insT p k).1.flatten.Nodup ∧ p.getD k 0 ∉ (insT p k).1.flatten := by
  have h1 := insT_perm (p := p) (k := k) (by omega)
  refine ⟨(h1.nodup_iff).2 (hp.sublist (List.take_sublist _ _)), fun hm => ?_⟩
  have h2 := h1.subset hm
  have h3 : (p.take (k + 1)).Nodup := hp.sublist (List.take_sublist _ _)
  rw [take_getD (d := 0) h, List.nodup_append] at h3
  exact h3.2.2 _ h2 _ (by simp) rfl
/-- The first number above is where the numbers below end. -/
theorem idx_fst {v : Int} : ∀ {l : List Int} {i : Nat}, v ∉ l → idxP (fun x => decide (v < x)) l i = if fstN v l = l.length then -1 else (i : Int) + fstN v l
  | [], i, _ => by simp [idxP, fstN]
  | x :: l, i, h => by
    have hx : x ≠ v := fun e => h (by simp [e])
    have ih := idx_fst (l := l) (i := i + 1) (fun q => h (List.mem_cons_of_mem _ q))
    by_cases q : v < x
    · have hf : fstN v (x :: l) = 0 := by rw [fstN, if_neg (by omega)]
      rw [idxP, if_pos (decide_eq_true q), hf, if_neg (by simp)]; simp
    · have hf : fstN v (x :: l) = fstN v l + 1 := by rw [fstN, if_pos (by omega)]
      have hi : idxP (fun x => decide (v < x)) (x :: l) i = idxP (fun x => decide (v < x)) l (i + 1) := by rw [idxP, if_neg (by simpa using q)]
      rw [hi, hf, ih, List.length_cons]
      by_cases g : fstN v l = l.length
      · rw [if_pos g, if_pos (by omega)]
      · rw [if_neg g, if_neg (by omega)]; omega
theorem impl_InsertPerm_1_c (x v : Int) : Fun Tryd.prog 76 [(.int .i64 (x)), (.pc [.int .i64 v])] [(.bool (decide (v < x)))] := by
  refine Fun.of (sg := sg0) (ts := [3]) mo Tryd.func76 rfl rfl rfl rfl (by kernel_rfl) (by simp only [go_sem]) rfl ?_
  have fc : True := trivial
  repeat' first
    | with_reducible first | refine stp ?_ | refine q_blk_o rfl ?_ | (refine hK _ ?_; clear hK) | (refine hA ?_; clear hA hB) | (refine hB ?_; clear hA hB) | exact v_end0 | exact v_end0' | refine v_gb1 ?_ ?_ | refine v_gb0 ?_ ?_ | refine And.intro ?_ ?_
    | (with_reducible refine p_ok ?_; decide)
    | ((first | with_reducible first | refine v_region rfl rfl (fun K hK => ?_) | refine v_draws rfl rfl (fun K hK => ?_) | refine v_if (fun A B hA hB => ?_) | refine v_end rfl ?_ | refine v_fin1 ?_ | refine v_finC1 ?_ | refine v_finR1 ?_ | refine v_finO1 rfl ?_ | refine v_finN1 rfl ?_ ?_ | refine v_apj ?_ (fun j' => ?_) | refine v_stz ?_ ?_ ?_ ?_ ?_ | refine v_stq ?_ | refine v_cv1 ?_ ?_ ?_ | (intro hc; replace fc := And.intro hc fc; try simp only [hcs] at hc)) <;> (try simp (config := { maxSteps := 1000000 }) only [go_sem, ↓reduceIte, reduceCtorEq, Nat.reduceEqDiff, Nat.reduceAdd, Nat.reduceMul, Nat.reduceSub, Nat.reduceLeDiff, Int.reduceLT, Int.reduceLE, Int.reduceEq, Int.reduceSub, Int.reduceAdd, Int.reduceMul, Int.reduceNeg, Int.reduceToNat, fc]) <;> (try with_reducible rfl))
  all_goals try (first | omega | (simp only [n_i64, n_u8]; omega) | (simp only [n_i64, n_u8, lnA]; omega) | (simp only [lnA]; done) | exact List.take_of_length_le (by simp))
theorem str_n1 {C : R → Prop} {m m' : Bool} {cs : List Nat} {L : List (Option (List Int))} {n : Int} {id off id' off' len : Nat} (h : off = cs.length) : stRB (dgn (PV.int .i64) m cs L) (.live m' [PV.int .i64 n]) id off id' off' len C = ((m' = true → m = true) ∧ off' = 0 ∧ len = 1 ∧ id' ≠ id ∧ C ⟨.p .any, [(id', .dead), (id, dgo (PV.int .i64) m (cs ++ [L.length]) (L ++ [some [n]]))], [id, id']⟩) := str_gn (l := [n]) h
def sgInp : FuncId → List Bool := fun f => if f = 4294967297 then [true, false, false] else []
theorem sgInp_eq {f : FuncId} : sgInp f = if f = 4294967297 then [true, false, false] else [] := _root_.id rfl
theorem wayE_sgInp : wayE sgInp = false := _root_.id rfl
theorem wayN_sgInp : wayN sgInp = true := _root_.id rfl
theorem wayS_sgInp : wayS sgInp = false := _root_.id rfl
theorem wayZ_sgInp : wayZ sgInp = false := _root_.id rfl
attribute [go_sem] sgInp_eq wayE_sgInp wayN_sgInp wayS_sgInp wayZ_sgInp
set_option maxHeartbeats 4000000 in
theorem impl_InsertPerm_c {m0 : Bool} (p : List Int) (hl : p.length ≤ 1048576) (hp : isPermB p = true) : Fun Tryd.prog 41 [(.sl (.lent m0) (List.map (PV.int .i64) (p)))] [(.dl (List.map (List.map (PV.int .i64)) ((insT p p.length).1))), (.dl (List.map (List.map (PV.int .i64)) ((insT p p.length).2))), (.bool (true))] := by
  refine Fun.of (sg := sgInp) (ts := [2, 3, 4]) mo Tryd.func41 rfl rfl rfl rfl (by kernel_rfl) (by simp only [go_sem]) rfl ?_
  have h8 : p.length ≤ 8 := by simp [isPermB] at hp; exact hp.1
  have hnd : p.Nodup := (permB_iff.1 (by simp [isPermB] at hp; exact hp.2)).2
  have fc : True := trivial
  repeat' first
    | with_reducible first | refine stp ?_ | refine q_blk_o rfl ?_ | (refine hK _ ?_; clear hK) | (refine hA ?_; clear hA hB) | (refine hB ?_; clear hA hB) | exact v_end0 | exact v_end0' | refine v_gb1 ?_ ?_ | refine v_gb0 ?_ ?_ | refine And.intro ?_ ?_
    | (with_reducible refine hK _ _ ?_ ?_; focus (first | exact clearAll_quiet rfl | (refine clearAll_of [false, false, false, false, false, false, false, false, false, false, false, false, false, false, true, true] [] rfl (by decide +kernel) ?_; try simp only [go_sem, ↓reduceIte, reduceCtorEq, Nat.reduceEqDiff, Nat.reduceAdd, Nat.reduceMul, Nat.reduceSub, Nat.reduceLeDiff, Int.reduceLT, Int.reduceLE, Int.reduceEq, Int.reduceSub, Int.reduceAdd, Int.reduceMul, Int.reduceNeg, Int.reduceToNat, hp]) | (refine clearAll_of [false, false, false, false, false, false, false, false, false, true, true, false, false, false, false, false, false, true, true, false, true, false, true] [(0, 9), (1, 9), (2, 9), (3, 9), (4, 9), (5, 9), (6, 9), (7, 9), (0, 10), (1, 10), (2, 10), (3, 10), (9, 11), (10, 11), (9, 12), (10, 12), (9, 13), (10, 13), (9, 14), (10, 14), (9, 15), (10, 15), (9, 16), (10, 16), (0, 17), (1, 17), (2, 17), (3, 17), (4, 17), (5, 17), (6, 17), (7, 17), (8, 17), (9, 17), (10, 17), (11, 17), (12, 17), (13, 17), (14, 17), (0, 18), (1, 18), (2, 18), (3, 18), (2, 20), (3, 20)] rfl (by decide +kernel) ?_; try simp only [go_sem, ↓reduceIte, reduceCtorEq, Nat.reduceEqDiff, Nat.reduceAdd, Nat.reduceMul, Nat.reduceSub, Nat.reduceLeDiff, Int.reduceLT, Int.reduceLE, Int.reduceEq, Int.reduceSub, Int.reduceAdd, Int.reduceMul, Int.reduceNeg, Int.reduceToNat, hp])); all_goals (try clear hK))
    | (with_reducible refine p_ok ?_; decide)
    | ((first | with_reducible first | refine v_region rfl rfl (fun K hK => ?_) | refine v_draws rfl rfl (fun K hK => ?_) | refine v_if (fun A B hA hB => ?_) | refine v_end rfl ?_ | refine v_fin1 ?_ | refine v_finC1 ?_ | refine v_finR1 ?_ | refine v_callE (impl_IsPerm_c _ ?_) ?_ | refine v_callE (slices_IndexFunc_int_int_c _ _ _ _ ?_ ?_) ?_ | refine v_finO1 rfl ?_ | refine v_finN1 rfl ?_ ?_ | refine v_apj ?_ (fun j' => ?_) | refine v_stz ?_ ?_ ?_ ?_ ?_ | refine v_stq ?_ | refine v_cv1 ?_ ?_ ?_ | (intro hc; replace fc := And.intro hc fc; try simp only [hcs] at hc)) <;> (try simp (config := { maxSteps := 1000000 }) only [go_sem, ↓reduceIte, reduceCtorEq, Nat.reduceEqDiff, Nat.reduceAdd, Nat.reduceMul, Nat.reduceSub, Nat.reduceLeDiff, Int.reduceLT, Int.reduceLE, Int.reduceEq, Int.reduceSub, Int.reduceAdd, Int.reduceMul, Int.reduceNeg, Int.reduceToNat, hp, fc]) <;> (try with_reducible rfl))
  all_goals try (first | omega | (simp only [n_i64, n_u8]; omega) | (simp only [n_i64, n_u8, lnA]; omega) | (simp only [lnA]; done) | exact List.take_of_length_le (by simp))
  refine v_loop (fun ms1 S1 => ∃ (k : Nat) (cs : List Nat) (L : List (Option (List Int))) (cb : List Nat) (N : List (Option (List Int))), S1.e 0 = .p (.sl (.lent m0) (List.map (PV.int .i64) (p))) ∧ GwnL (S1.e 5) S1.h S1.n (PV.int .i64) (cs) (L) ∧ GwnL (S1.e 6) S1.h S1.n (PV.int .i64) (cb) (N) ∧ S1.e 16 = .p (.sl (.lent m0) (List.map (PV.int .i64) (p))) ∧ S1.e 17 = .p (.int .i64 (p.length)) ∧ S1.e 18 = .p (.int .i64 (k)) ∧ (k ≤ p.length) ∧ (Tb cs L (insT p k).1) ∧ (Tb cb N (insT p k).2) ∧ NId (S1.e 6) (S1.e 5) ∧ ms1 = p.length - k) ((fun (k : Nat) (cs : List Nat) (L : List (Option (List Int))) (cb : List Nat) (N : List (Option (List Int))) => p.length - k) (0) ([]) ([]) ([]) ([])) ?init1_0 ?body1_0
  case' init1_0 =>
    refine ⟨0, [], [], [], [], ?_, ?_, ?_, ?_, ?_, ?_, ?_, ?_, ?_, ?_, rfl⟩
    all_goals (try simp only [go_sem, ↓reduceIte, reduceCtorEq, Nat.reduceEqDiff, Nat.reduceAdd, Nat.reduceMul, Nat.reduceSub, Nat.reduceLeDiff, Int.reduceLT, Int.reduceLE, Int.reduceEq, Int.reduceSub, Int.reduceAdd, Int.reduceMul, Int.reduceNeg, Int.reduceToNat])
    repeat' refine And.intro ?_ ?_
    all_goals try first | rfl | omega | (simp only [lnA] <;> omega) | ((first | refine stp ?_ | refine dkz_eq ?_ ?_) <;> first | rfl | omega | (simp only [lnA] <;> omega) | (simp only [lnA, List.append_assoc, List.cons_append, List.nil_append]; done) | skip)
  case' body1_0 =>
    rintro ms1 S1 ⟨k, cs, L, cb, N, h1_0, o1_5, o1_6, h1_16, h1_17, h1_18, c1_0, c1_1, c1_2, u1_0, hm1⟩
    obtain ⟨i1_5, h1_5, b1_5, l1_5⟩ := o1_5.out
    obtain ⟨i1_6, h1_6, b1_6, l1_6⟩ := o1_6.out
    have k1_0 := (u1_0).out h1_6 h1_5
    have ni1_5 : ∀ c, (i1_5 = S1.n + c) = False := fun c => eq_false (by omega)
    have pi1_5 : ∀ c, (S1.n + c = i1_5) = False := fun c => eq_false (by omega)
    have qi1_5 : (i1_5 = S1.n) = False := eq_false (by omega)
    have ri1_5 : (S1.n = i1_5) = False := eq_false (by omega)
    have ni1_6 : ∀ c, (i1_6 = S1.n + c) = False := fun c => eq_false (by omega)
    have pi1_6 : ∀ c, (S1.n + c = i1_6) = False := fun c => eq_false (by omega)
    have qi1_6 : (i1_6 = S1.n) = False := eq_false (by omega)
    have ri1_6 : (S1.n = i1_6) = False := eq_false (by omega)
    have di1_5i1_6 : (i1_5 = i1_6) = False := eq_false (by omega)
    have di1_6i1_5 : (i1_6 = i1_5) = False := eq_false (by omega)
  · obtain ⟨i1, i2, i3⟩ := insT_b (p := p) (k := k)
    have i4 := insT_len (p := p) (k := k)
    by_cases hk : k < p.length
    · have q1 := putT_len (T := (insT p k).1) (n := p.getD k 0)
      have q2 : insT p (k + 1) = ((putT (insT p k).1 (p.getD k 0)).1, if (putT (insT p k).1 (p.getD k 0)).2 = (insT p k).2.length then (insT p k).2 ++ [[(k : Int) + 1]] else (insT p k).2.set (putT (insT p k).1 (p.getD k 0)).2 ((insT p k).2.getD (putT (insT p k).1 (p.getD k 0)).2 [] ++ [(k : Int) + 1])) := rfl
      obtain ⟨n1, n2⟩ := insT_nd hnd hk
      generalize hA : (insT p k).1 = TA at *
      generalize hB : (insT p k).2 = TB at *
      obtain ⟨n, hn⟩ : ∃ n, p.getD k 0 = n := ⟨_, rfl⟩
      rw [hn] at q1 q2 n2
      have lb := c1_2.len
      have la := c1_1.len
      have fc : True := trivial
      repeat' first
        | with_reducible first | refine stp ?_ | refine q_blk_o rfl ?_ | (refine hK _ ?_; clear hK) | (refine hA ?_; clear hA hB) | (refine hB ?_; clear hA hB) | exact v_end0 | exact v_end0' | refine v_gb1 ?_ ?_ | refine v_gb0 ?_ ?_ | refine And.intro ?_ ?_
        | (with_reducible refine hK _ _ ?_ ?_; focus (first | exact clearAll_quiet rfl | (refine clearAll_of [false, false, false, false, false, false, false, false, false, false, false, false, false, false, true, true] [] rfl (by decide +kernel) ?_; try simp only [go_sem, ↓reduceIte, reduceCtorEq, Nat.reduceEqDiff, Nat.reduceAdd, Nat.reduceMul, Nat.reduceSub, Nat.reduceLeDiff, Int.reduceLT, Int.reduceLE, Int.reduceEq, Int.reduceSub, Int.reduceAdd, Int.reduceMul, Int.reduceNeg, Int.reduceToNat, h1_0, h1_16, h1_17, h1_18, h1_5, b1_5, h1_6, b1_6, ni1_5, pi1_5, qi1_5, ri1_5, ni1_6, pi1_6, qi1_6, ri1_6, di1_5i1_6, di1_6i1_5, hn]) | (refine clearAll_of [false, false, false, false, false, false, false, false, false, true, true, false, false, false, false, false, false, true, true, false, true, false, true] [(0, 9), (1, 9), (2, 9), (3, 9), (4, 9), (5, 9), (6, 9), (7, 9), (0, 10), (1, 10), (2, 10), (3, 10), (9, 11), (10, 11), (9, 12), (10, 12), (9, 13), (10, 13), (9, 14), (10, 14), (9, 15), (10, 15), (9, 16), (10, 16), (0, 17), (1, 17), (2, 17), (3, 17), (4, 17), (5, 17), (6, 17), (7, 17), (8, 17), (9, 17), (10, 17), (11, 17), (12, 17), (13, 17), (14, 17), (0, 18), (1, 18), (2, 18), (3, 18), (2, 20), (3, 20)] rfl (by decide +kernel) ?_; try simp only [go_sem, ↓reduceIte, reduceCtorEq, Nat.reduceEqDiff, Nat.reduceAdd, Nat.reduceMul, Nat.reduceSub, Nat.reduceLeDiff, Int.reduceLT, Int.reduceLE, Int.reduceEq, Int.reduceSub, Int.reduceAdd, Int.reduceMul, Int.reduceNeg, Int.reduceToNat, h1_0, h1_16, h1_17, h1_18, h1_5, b1_5, h1_6, b1_6, ni1_5, pi1_5, qi1_5, ri1_5, ni1_6, pi1_6, qi1_6, ri1_6, di1_5i1_6, di1_6i1_5, hn])); all_goals (try clear hK))
        | (with_reducible refine p_ok ?_; decide)
        | ((first | with_reducible first | refine v_region rfl rfl (fun K hK => ?_) | refine v_draws rfl rfl (fun K hK => ?_) | refine v_if (fun A B hA hB => ?_) | refine v_end rfl ?_ | refine v_fin1 ?_ | refine v_finC1 ?_ | refine v_finR1 ?_ | refine v_callE (impl_IsPerm_c _ ?_) ?_ | refine v_callE (slices_IndexFunc_int_int_c _ _ _ _ ?_ ?_) ?_ | refine v_finO1 rfl ?_ | refine v_finN1 rfl ?_ ?_ | refine v_apj ?_ (fun j' => ?_) | refine v_stz ?_ ?_ ?_ ?_ ?_ | refine v_stq ?_ | refine v_cv1 ?_ ?_ ?_ | (intro hc; replace fc := And.intro hc fc; try simp only [hcs] at hc)) <;> (try simp (config := { maxSteps := 1000000 }) only [go_sem, ↓reduceIte, reduceCtorEq, Nat.reduceEqDiff, Nat.reduceAdd, Nat.reduceMul, Nat.reduceSub, Nat.reduceLeDiff, Int.reduceLT, Int.reduceLE, Int.reduceEq, Int.reduceSub, Int.reduceAdd, Int.reduceMul, Int.reduceNeg, Int.reduceToNat, h1_0, h1_16, h1_17, h1_18, h1_5, b1_5, h1_6, b1_6, ni1_5, pi1_5, qi1_5, ri1_5, ni1_6, pi1_6, qi1_6, ri1_6, di1_5i1_6, di1_6i1_5, hn, fc]) <;> (try with_reducible rfl))
      all_goals try (first | omega | (simp only [n_i64, n_u8]; omega) | (simp only [n_i64, n_u8, lnA]; omega) | (simp only [lnA]; done) | exact List.take_of_length_le (by simp))
      refine v_loop (fun ms2 S2 => ∃ (r : Nat) (U : List (List Int)) (M : List (Option (List Int))) (v : Int), S2.e 0 = .p (.sl (.lent m0) (List.map (PV.int .i64) (p))) ∧ GwnL (S2.e 5) S2.h S2.n (PV.int .i64) (cs) (M) ∧ GwnL (S2.e 6) S2.h S2.n (PV.int .i64) (cb) (N) ∧ S2.e 7 = .p (.int .i64 (k)) ∧ PtrL (S2.e 8) S2.h S2.n (.live false [.int .i64 v]) ∧ S2.e 9 = .p (.int .i64 (r)) ∧ S2.e 16 = .p (.sl (.lent m0) (List.map (PV.int .i64) (p))) ∧ S2.e 17 = .p (.int .i64 (p.length)) ∧ S2.e 18 = .p (.int .i64 (k)) ∧ (r ≤ TA.length) ∧ (Tb cs M U) ∧ (U.length = TA.length) ∧ (U.drop r = TA.drop r) ∧ ((putT TA n).1 = U.take r ++ (putT (TA.drop r) v).1) ∧ ((putT TA n).2 = r + (putT (TA.drop r) v).2) ∧ ((TA.drop r).flatten.Nodup) ∧ (v ∉ (TA.drop r).flatten) ∧ NId (S2.e 6) (S2.e 5) ∧ NId (asR (S2.e 8)) (S2.e 5) ∧ NId (asR (S2.e 8)) (S2.e 6) ∧ S1.n ≤ S2.n ∧ ms2 = TA.length - r) ((fun (r : Nat) (U : List (List Int)) (M : List (Option (List Int))) (v : Int) => TA.length - r) (0) (TA) (L) (n)) ?init2_1 ?body2_1
      case' init2_1 =>
        refine ⟨0, TA, L, n, ?_, ?_, ?_, ?_, ?_, ?_, ?_, ?_, ?_, ?_, ?_, ?_, ?_, ?_, ?_, ?_, ?_, ?_, ?_, ?_, ?_, rfl⟩
        all_goals (try simp only [go_sem, ↓reduceIte, reduceCtorEq, Nat.reduceEqDiff, Nat.reduceAdd, Nat.reduceMul, Nat.reduceSub, Nat.reduceLeDiff, Int.reduceLT, Int.reduceLE, Int.reduceEq, Int.reduceSub, Int.reduceAdd, Int.reduceMul, Int.reduceNeg, Int.reduceToNat, h1_0, h1_16, h1_17, h1_18, h1_5, b1_5, h1_6, b1_6, ni1_5, pi1_5, qi1_5, ri1_5, ni1_6, pi1_6, qi1_6, ri1_6, di1_5i1_6, di1_6i1_5])
        repeat' refine And.intro ?_ ?_
        all_goals try first | rfl | omega | (simp only [lnA] <;> omega) | ((first | refine stp ?_ | refine dkz_eq ?_ ?_) <;> first | rfl | omega | (simp only [lnA] <;> omega) | (simp only [lnA, List.append_assoc, List.cons_append, List.nil_append]; done) | skip)
      case' body2_1 =>
        rintro ms2 S2 ⟨r, U, M, v, h2_0, o2_5, o2_6, h2_7, o2_8, h2_9, h2_16, h2_17, h2_18, c2_0, c2_1, c2_2, c2_3, c2_4, c2_5, c2_6, c2_7, u2_0, u2_1, u2_2, u2_3, hm2⟩
        obtain ⟨i2_5, h2_5, b2_5, l2_5⟩ := o2_5.out
        obtain ⟨i2_6, h2_6, b2_6, l2_6⟩ := o2_6.out
        obtain ⟨i2_8, h2_8, b2_8, l2_8⟩ := o2_8.out
        have k2_0 := (u2_0).out h2_6 h2_5
        have k2_1 := (u2_1).out (asR_eq h2_8) h2_5
        have k2_2 := (u2_2).out (asR_eq h2_8) h2_6
        have ni2_5 : ∀ c, (i2_5 = S2.n + c) = False := fun c => eq_false (by omega)
        have pi2_5 : ∀ c, (S2.n + c = i2_5) = False := fun c => eq_false (by omega)
        have qi2_5 : (i2_5 = S2.n) = False := eq_false (by omega)
        have ri2_5 : (S2.n = i2_5) = False := eq_false (by omega)
        have ni2_6 : ∀ c, (i2_6 = S2.n + c) = False := fun c => eq_false (by omega)
        have pi2_6 : ∀ c, (S2.n + c = i2_6) = False := fun c => eq_false (by omega)
        have qi2_6 : (i2_6 = S2.n) = False := eq_false (by omega)
        have ri2_6 : (S2.n = i2_6) = False := eq_false (by omega)
        have ni2_8 : ∀ c, (i2_8 = S2.n + c) = False := fun c => eq_false (by omega)
        have pi2_8 : ∀ c, (S2.n + c = i2_8) = False := fun c => eq_false (by omega)
        have qi2_8 : (i2_8 = S2.n) = False := eq_false (by omega)
        have ri2_8 : (S2.n = i2_8) = False := eq_false (by omega)
        have di2_5i2_6 : (i2_5 = i2_6) = False := eq_false (by omega)
        have di2_5i2_8 : (i2_5 = i2_8) = False := eq_false (by omega)
        have di2_6i2_5 : (i2_6 = i2_5) = False := eq_false (by omega)
        have di2_6i2_8 : (i2_6 = i2_8) = False := eq_false (by omega)
        have di2_8i2_5 : (i2_8 = i2_5) = False := eq_false (by omega)
        have di2_8i2_6 : (i2_8 = i2_6) = False := eq_false (by omega)
      · by_cases hr : r < TA.length
        · have d1 : TA.drop r = U.getD r [] :: TA.drop (r + 1) := by
            rw [← c2_3, drop_cons (by omega), show U.drop (r + 1) = TA.drop (r + 1) by rw [← List.drop_drop, ← List.drop_drop, c2_3]]
          obtain ⟨row, hrow⟩ : ∃ row, U.getD r [] = row := ⟨_, rfl⟩
          rw [hrow] at d1
          have d2 : row.length ≤ k := i2 _ (List.mem_of_mem_drop (i := r) (by rw [d1]; exact List.mem_cons_self))
          have e2 := c2_1.at_ r (by omega)
          rw [hrow] at e2
          rw [d1, List.flatten_cons] at c2_6 c2_7
          have nv : v ∉ row := fun q => c2_7 (List.mem_append.2 (.inl q))
          have ix := idx_fst (i := 0) nv
          have s3 := fstN_le (n := v) (l := row)
          have c1 := slices_IndexFunc_int_int_c (m0 := true) row 76 [.pc [.int .i64 v]] (fun x => decide (v < x)) (by omega) (fun x _ => impl_InsertPerm_1_c x v)
          by_cases he : fstN v row = row.length
          · rw [if_pos he] at ix
            rw [ix] at c1
            have p1 : putT (TA.drop r) v = ((row ++ [v]) :: TA.drop (r + 1), 0) := by rw [d1, putT, if_pos he]
            rw [p1] at c2_4 c2_5
            have f0 : (r = cs.length) = False := eq_false (by omega)
            have e3 := c1_2.at_ r (by omega)
            have e4 := i3 (TB.getD r []) (getD_mem (by omega))
            have p2 : (putT TA n).1 = U.set r (row ++ [v]) := by
              rw [c2_4, tcut (by omega), show U.drop (r + 1) = TA.drop (r + 1) by rw [← List.drop_drop, ← List.drop_drop, c2_3]]
            have p3 := tb_grow (i := r) (l := row ++ [v]) c2_1 (by omega)
            have p4 := tb_grow (i := r) (l := TB.getD r [] ++ [(k : Int) + 1]) c1_2 (by omega)
            have p5 : (putT TA n).2 = r := by rw [c2_5]; rfl
            rw [p2, p5, if_neg (by omega)] at q2
            have fc : True := trivial
            repeat' first
              | with_reducible first | refine stp ?_ | refine q_blk_o rfl ?_ | (refine hK _ ?_; clear hK) | (refine hA ?_; clear hA hB) | (refine hB ?_; clear hA hB) | exact v_end0 | exact v_end0' | refine v_gb1 ?_ ?_ | refine v_gb0 ?_ ?_ | refine And.intro ?_ ?_
              | (with_reducible refine hK _ _ ?_ ?_; focus (first | exact clearAll_quiet rfl | (refine clearAll_of [false, false, false, false, false, false, false, false, false, false, false, false, false, false, true, true] [] rfl (by decide +kernel) ?_; try simp only [go_sem, ↓reduceIte, reduceCtorEq, Nat.reduceEqDiff, Nat.reduceAdd, Nat.reduceMul, Nat.reduceSub, Nat.reduceLeDiff, Int.reduceLT, Int.reduceLE, Int.reduceEq, Int.reduceSub, Int.reduceAdd, Int.reduceMul, Int.reduceNeg, Int.reduceToNat, h2_0, h2_7, h2_9, h2_16, h2_17, h2_18, h2_5, b2_5, h2_6, b2_6, h2_8, b2_8, ni2_5, pi2_5, qi2_5, ri2_5, ni2_6, pi2_6, qi2_6, ri2_6, ni2_8, pi2_8, qi2_8, ri2_8, di2_5i2_6, di2_5i2_8, di2_6i2_5, di2_6i2_8, di2_8i2_5, di2_8i2_6, e2, e3, f0]) | (refine clearAll_of [false, false, false, false, false, false, false, false, false, true, true, false, false, false, false, false, false, true, true, false, true, false, true] [(0, 9), (1, 9), (2, 9), (3, 9), (4, 9), (5, 9), (6, 9), (7, 9), (0, 10), (1, 10), (2, 10), (3, 10), (9, 11), (10, 11), (9, 12), (10, 12), (9, 13), (10, 13), (9, 14), (10, 14), (9, 15), (10, 15), (9, 16), (10, 16), (0, 17), (1, 17), (2, 17), (3, 17), (4, 17), (5, 17), (6, 17), (7, 17), (8, 17), (9, 17), (10, 17), (11, 17), (12, 17), (13, 17), (14, 17), (0, 18), (1, 18), (2, 18), (3, 18), (2, 20), (3, 20)] rfl (by decide +kernel) ?_; try simp only [go_sem, ↓reduceIte, reduceCtorEq, Nat.reduceEqDiff, Nat.reduceAdd, Nat.reduceMul, Nat.reduceSub, Nat.reduceLeDiff, Int.reduceLT, Int.reduceLE, Int.reduceEq, Int.reduceSub, Int.reduceAdd, Int.reduceMul, Int.reduceNeg, Int.reduceToNat, h2_0, h2_7, h2_9, h2_16, h2_17, h2_18, h2_5, b2_5, h2_6, b2_6, h2_8, b2_8, ni2_5, pi2_5, qi2_5, ri2_5, ni2_6, pi2_6, qi2_6, ri2_6, ni2_8, pi2_8, qi2_8, ri2_8, di2_5i2_6, di2_5i2_8, di2_6i2_5, di2_6i2_8, di2_8i2_5, di2_8i2_6, e2, e3, f0])); all_goals (try clear hK))
              | (with_reducible refine p_ok ?_; decide)
              | ((first | with_reducible first | refine v_region rfl rfl (fun K hK => ?_) | refine v_draws rfl rfl (fun K hK => ?_) | refine v_if (fun A B hA hB => ?_) | refine v_end rfl ?_ | refine v_fin1 ?_ | refine v_finC1 ?_ | refine v_finR1 ?_ | refine v_callE (c1) ?_ | refine v_callE (impl_IsPerm_c _ ?_) ?_ | refine v_callE (slices_IndexFunc_int_int_c _ _ _ _ ?_ ?_) ?_ | refine v_finO1 rfl ?_ | refine v_finN1 rfl ?_ ?_ | refine v_apj ?_ (fun j' => ?_) | refine v_stz ?_ ?_ ?_ ?_ ?_ | refine v_stq ?_ | refine v_cv1 ?_ ?_ ?_ | (intro hc; replace fc := And.intro hc fc; try simp only [hcs] at hc)) <;> (try simp (config := { maxSteps := 1000000 }) only [go_sem, ↓reduceIte, reduceCtorEq, Nat.reduceEqDiff, Nat.reduceAdd, Nat.reduceMul, Nat.reduceSub, Nat.reduceLeDiff, Int.reduceLT, Int.reduceLE, Int.reduceEq, Int.reduceSub, Int.reduceAdd, Int.reduceMul, Int.reduceNeg, Int.reduceToNat, h2_0, h2_7, h2_9, h2_16, h2_17, h2_18, h2_5, b2_5, h2_6, b2_6, h2_8, b2_8, ni2_5, pi2_5, qi2_5, ri2_5, ni2_6, pi2_6, qi2_6, ri2_6, ni2_8, pi2_8, qi2_8, ri2_8, di2_5i2_6, di2_5i2_8, di2_6i2_5, di2_6i2_8, di2_8i2_5, di2_8i2_6, e2, e3, f0, fc]) <;> (try with_reducible rfl))
            all_goals try (first | omega | (simp only [n_i64, n_u8]; omega) | (simp only [n_i64, n_u8, lnA]; omega) | (simp only [lnA]; done) | exact List.take_of_length_le (by simp))
            focus
              refine q_lp_n ((fun (k : Nat) (cs : List Nat) (L : List (Option (List Int))) (cb : List Nat) (N : List (Option (List Int))) => p.length - k) (k+1) (cs.set r (M.set (cs.getD r 0) none).length) (M.set (cs.getD r 0) none ++ [some (row ++ [v])]) (cb.set r (N.set (cb.getD r 0) none).length) (N.set (cb.getD r 0) none ++ [some (TB.getD r [] ++ [(k : Int) + 1])])) ?_ ⟨k+1, cs.set r (M.set (cs.getD r 0) none).length, M.set (cs.getD r 0) none ++ [some (row ++ [v])], cb.set r (N.set (cb.getD r 0) none).length, N.set (cb.getD r 0) none ++ [some (TB.getD r [] ++ [(k : Int) + 1])], ?_, ?_, ?_, ?_, ?_, ?_, ?_, ?_, ?_, ?_, rfl⟩
              all_goals (try simp only [go_sem, ↓reduceIte, reduceCtorEq, Nat.reduceEqDiff, Nat.reduceAdd, Nat.reduceMul, Nat.reduceSub, Nat.reduceLeDiff, Int.reduceLT, Int.reduceLE, Int.reduceEq, Int.reduceSub, Int.reduceAdd, Int.reduceMul, Int.reduceNeg, Int.reduceToNat, h2_0, h2_7, h2_9, h2_16, h2_17, h2_18, h2_5, b2_5, h2_6, b2_6, h2_8, b2_8, ni2_5, pi2_5, qi2_5, ri2_5, ni2_6, pi2_6, qi2_6, ri2_6, ni2_8, pi2_8, qi2_8, ri2_8, di2_5i2_6, di2_5i2_8, di2_6i2_5, di2_6i2_8, di2_8i2_5, di2_8i2_6])
              repeat' refine And.intro ?_ ?_
              all_goals try first | rfl | omega | (simp only [lnA] <;> omega) | ((first | refine stp ?_ | refine dkz_eq ?_ ?_) <;> first | rfl | omega | (simp only [lnA] <;> omega) | (simp only [lnA, List.append_assoc, List.cons_append, List.nil_append]; done) | skip)
            all_goals first | (rw [q2]; exact p3) | (rw [q2]; exact p4) | trace_state
          · rw [if_neg he] at ix
            rw [ix] at c1
            have p1 : putT (TA.drop r) v = (row.set (fstN v row) v :: (putT (TA.drop (r + 1)) (row.getD (fstN v row) 0)).1, (putT (TA.drop (r + 1)) (row.getD (fstN v row) 0)).2 + 1) := by rw [d1, putT, if_neg he]
            rw [p1] at c2_4 c2_5
            have e5 : ((0 : Nat) + (fstN v row : Int)).toNat = fstN v row := by omega
            have e6 : ((0 : Int) + (fstN v row : Int)).toNat = fstN v row := by omega
            have p3 := tb_set (i := r) (l := row.set (fstN v row) v) c2_1 (by omega)
            have nd2 := List.nodup_append.1 c2_6
            have hmem : row.getD (fstN v row) 0 ∈ row := getD_mem (by omega)
            have fc : True := trivial
            repeat' first
              | with_reducible first | refine stp ?_ | refine q_blk_o rfl ?_ | (refine hK _ ?_; clear hK) | (refine hA ?_; clear hA hB) | (refine hB ?_; clear hA hB) | exact v_end0 | exact v_end0' | refine v_gb1 ?_ ?_ | refine v_gb0 ?_ ?_ | refine And.intro ?_ ?_
              | (with_reducible refine hK _ _ ?_ ?_; focus (first | exact clearAll_quiet rfl | (refine clearAll_of [false, false, false, false, false, false, false, false, false, false, false, false, false, false, true, true] [] rfl (by decide +kernel) ?_; try simp only [go_sem, ↓reduceIte, reduceCtorEq, Nat.reduceEqDiff, Nat.reduceAdd, Nat.reduceMul, Nat.reduceSub, Nat.reduceLeDiff, Int.reduceLT, Int.reduceLE, Int.reduceEq, Int.reduceSub, Int.reduceAdd, Int.reduceMul, Int.reduceNeg, Int.reduceToNat, h2_0, h2_7, h2_9, h2_16, h2_17, h2_18, h2_5, b2_5, h2_6, b2_6, h2_8, b2_8, ni2_5, pi2_5, qi2_5, ri2_5, ni2_6, pi2_6, qi2_6, ri2_6, ni2_8, pi2_8, qi2_8, ri2_8, di2_5i2_6, di2_5i2_8, di2_6i2_5, di2_6i2_8, di2_8i2_5, di2_8i2_6, e2, e5, e6]) | (refine clearAll_of [false, false, false, false, false, false, false, false, false, true, true, false, false, false, false, false, false, true, true, false, true, false, true] [(0, 9), (1, 9), (2, 9), (3, 9), (4, 9), (5, 9), (6, 9), (7, 9), (0, 10), (1, 10), (2, 10), (3, 10), (9, 11), (10, 11), (9, 12), (10, 12), (9, 13), (10, 13), (9, 14), (10, 14), (9, 15), (10, 15), (9, 16), (10, 16), (0, 17), (1, 17), (2, 17), (3, 17), (4, 17), (5, 17), (6, 17), (7, 17), (8, 17), (9, 17), (10, 17), (11, 17), (12, 17), (13, 17), (14, 17), (0, 18), (1, 18), (2, 18), (3, 18), (2, 20), (3, 20)] rfl (by decide +kernel) ?_; try simp only [go_sem, ↓reduceIte, reduceCtorEq, Nat.reduceEqDiff, Nat.reduceAdd, Nat.reduceMul, Nat.reduceSub, Nat.reduceLeDiff, Int.reduceLT, Int.reduceLE, Int.reduceEq, Int.reduceSub, Int.reduceAdd, Int.reduceMul, Int.reduceNeg, Int.reduceToNat, h2_0, h2_7, h2_9, h2_16, h2_17, h2_18, h2_5, b2_5, h2_6, b2_6, h2_8, b2_8, ni2_5, pi2_5, qi2_5, ri2_5, ni2_6, pi2_6, qi2_6, ri2_6, ni2_8, pi2_8, qi2_8, ri2_8, di2_5i2_6, di2_5i2_8, di2_6i2_5, di2_6i2_8, di2_8i2_5, di2_8i2_6, e2, e5, e6])); all_goals (try clear hK))
              | (with_reducible refine p_ok ?_; decide)
              | ((first | with_reducible first | refine v_region rfl rfl (fun K hK => ?_) | refine v_draws rfl rfl (fun K hK => ?_) | refine v_if (fun A B hA hB => ?_) | refine v_end rfl ?_ | refine v_fin1 ?_ | refine v_finC1 ?_ | refine v_finR1 ?_ | refine v_callE (c1) ?_ | refine v_callE (impl_IsPerm_c _ ?_) ?_ | refine v_callE (slices_IndexFunc_int_int_c _ _ _ _ ?_ ?_) ?_ | refine v_finO1 rfl ?_ | refine v_finN1 rfl ?_ ?_ | refine v_apj ?_ (fun j' => ?_) | refine v_stz ?_ ?_ ?_ ?_ ?_ | refine v_stq ?_ | refine v_cv1 ?_ ?_ ?_ | (intro hc; replace fc := And.intro hc fc; try simp only [hcs] at hc)) <;> (try simp (config := { maxSteps := 1000000 }) only [go_sem, ↓reduceIte, reduceCtorEq, Nat.reduceEqDiff, Nat.reduceAdd, Nat.reduceMul, Nat.reduceSub, Nat.reduceLeDiff, Int.reduceLT, Int.reduceLE, Int.reduceEq, Int.reduceSub, Int.reduceAdd, Int.reduceMul, Int.reduceNeg, Int.reduceToNat, h2_0, h2_7, h2_9, h2_16, h2_17, h2_18, h2_5, b2_5, h2_6, b2_6, h2_8, b2_8, ni2_5, pi2_5, qi2_5, ri2_5, ni2_6, pi2_6, qi2_6, ri2_6, ni2_8, pi2_8, qi2_8, ri2_8, di2_5i2_6, di2_5i2_8, di2_6i2_5, di2_6i2_8, di2_8i2_5, di2_8i2_6, e2, e5, e6, fc]) <;> (try with_reducible rfl))
            all_goals try (first | omega | (simp only [n_i64, n_u8]; omega) | (simp only [n_i64, n_u8, lnA]; omega) | (simp only [lnA]; done) | exact List.take_of_length_le (by simp))
            focus
              refine q_lp_n ((fun (r : Nat) (U : List (List Int)) (M : List (Option (List Int))) (v : Int) => TA.length - r) (r+1) (U.set r (row.set (fstN v row) v)) (M.set (cs.getD r 0) (some (row.set (fstN v row) v))) (row.getD (fstN v row) 0)) ?_ ⟨r+1, U.set r (row.set (fstN v row) v), M.set (cs.getD r 0) (some (row.set (fstN v row) v)), row.getD (fstN v row) 0, ?_, ?_, ?_, ?_, ?_, ?_, ?_, ?_, ?_, ?_, ?_, ?_, ?_, ?_, ?_, ?_, ?_, ?_, ?_, ?_, ?_, rfl⟩
              all_goals (try simp only [go_sem, ↓reduceIte, reduceCtorEq, Nat.reduceEqDiff, Nat.reduceAdd, Nat.reduceMul, Nat.reduceSub, Nat.reduceLeDiff, Int.reduceLT, Int.reduceLE, Int.reduceEq, Int.reduceSub, Int.reduceAdd, Int.reduceMul, Int.reduceNeg, Int.reduceToNat, h2_0, h2_7, h2_9, h2_16, h2_17, h2_18, h2_5, b2_5, h2_6, b2_6, h2_8, b2_8, ni2_5, pi2_5, qi2_5, ri2_5, ni2_6, pi2_6, qi2_6, ri2_6, ni2_8, pi2_8, qi2_8, ri2_8, di2_5i2_6, di2_5i2_8, di2_6i2_5, di2_6i2_8, di2_8i2_5, di2_8i2_6])
              repeat' refine And.intro ?_ ?_
              all_goals try first | rfl | omega | (simp only [lnA] <;> omega) | ((first | refine stp ?_ | refine dkz_eq ?_ ?_) <;> first | rfl | omega | (simp only [lnA] <;> omega) | (simp only [lnA, List.append_assoc, List.cons_append, List.nil_append]; done) | skip)
            all_goals first | exact p3 | exact nd2.2.1 | (intro q; exact nd2.2.2 _ hmem _ q rfl) | (rw [tdrop, ← List.drop_drop, ← List.drop_drop, c2_3]; done) | (rw [tset (by omega), c2_4]; simp; done) | (rw [c2_5]; omega) | trace_state
        · have p1 : putT (TA.drop r) v = ([[v]], 0) := by rw [List.drop_of_length_le (by omega), putT]
          rw [p1] at c2_4 c2_5
          have f0 : (r = cs.length) = True := eq_true (by omega)
          have hr1 : r = cs.length := by omega
          have hr2 : r = cb.length := by omega
          have l1 : ∀ {m L id C}, ldB (dgn (PV.int .i64) m cs L) id r C = C ⟨.p (.sl .own []), [], [id]⟩ := fun {m L id C} => ld_gn hr1
          have l2 : ∀ {m L id C}, ldB (dgn (PV.int .i64) m cb L) id r C = C ⟨.p (.sl .own []), [], [id]⟩ := fun {m L id C} => ld_gn hr2
          have g1 := fun {m m' L n id id' off' len C} => str_n1 (m := m) (m' := m') (L := L) (n := n) (id := id) (id' := id') (off' := off') (len := len) (C := C) hr1
          have g2 := fun {m m' L n id id' off' len C} => str_n1 (m := m) (m' := m') (L := L) (n := n) (id := id) (id' := id') (off' := off') (len := len) (C := C) hr2
          have p2 : (putT TA n).1 = U ++ [[v]] := by rw [c2_4, List.take_of_length_le (by omega)]
          have p3 := tb_snoc (l := [v]) c2_1
          have p4 := tb_snoc (l := [(k : Int) + 1]) c1_2
          have p5 : (putT TA n).2 = TB.length := by rw [c2_5]; simp; omega
          rw [p2, p5, if_pos rfl] at q2
          have fc : True := trivial
          repeat' first
            | with_reducible first | refine stp ?_ | refine q_blk_o rfl ?_ | (refine hK _ ?_; clear hK) | (refine hA ?_; clear hA hB) | (refine hB ?_; clear hA hB) | exact v_end0 | exact v_end0' | refine v_gb1 ?_ ?_ | refine v_gb0 ?_ ?_ | refine And.intro ?_ ?_
            | (with_reducible refine hK _ _ ?_ ?_; focus (first | exact clearAll_quiet rfl | (refine clearAll_of [false, false, false, false, false, false, false, false, false, false, false, false, false, false, true, true] [] rfl (by decide +kernel) ?_; try simp only [go_sem, ↓reduceIte, reduceCtorEq, Nat.reduceEqDiff, Nat.reduceAdd, Nat.reduceMul, Nat.reduceSub, Nat.reduceLeDiff, Int.reduceLT, Int.reduceLE, Int.reduceEq, Int.reduceSub, Int.reduceAdd, Int.reduceMul, Int.reduceNeg, Int.reduceToNat, h2_0, h2_7, h2_9, h2_16, h2_17, h2_18, h2_5, b2_5, h2_6, b2_6, h2_8, b2_8, ni2_5, pi2_5, qi2_5, ri2_5, ni2_6, pi2_6, qi2_6, ri2_6, ni2_8, pi2_8, qi2_8, ri2_8, di2_5i2_6, di2_5i2_8, di2_6i2_5, di2_6i2_8, di2_8i2_5, di2_8i2_6, f0, l1, l2, g1, g2]) | (refine clearAll_of [false, false, false, false, false, false, false, false, false, true, true, false, false, false, false, false, false, true, true, false, true, false, true] [(0, 9), (1, 9), (2, 9), (3, 9), (4, 9), (5, 9), (6, 9), (7, 9), (0, 10), (1, 10), (2, 10), (3, 10), (9, 11), (10, 11), (9, 12), (10, 12), (9, 13), (10, 13), (9, 14), (10, 14), (9, 15), (10, 15), (9, 16), (10, 16), (0, 17), (1, 17), (2, 17), (3, 17), (4, 17), (5, 17), (6, 17), (7, 17), (8, 17), (9, 17), (10, 17), (11, 17), (12, 17), (13, 17), (14, 17), (0, 18), (1, 18), (2, 18), (3, 18), (2, 20), (3, 20)] rfl (by decide +kernel) ?_; try simp only [go_sem, ↓reduceIte, reduceCtorEq, Nat.reduceEqDiff, Nat.reduceAdd, Nat.reduceMul, Nat.reduceSub, Nat.reduceLeDiff, Int.reduceLT, Int.reduceLE, Int.reduceEq, Int.reduceSub, Int.reduceAdd, Int.reduceMul, Int.reduceNeg, Int.reduceToNat, h2_0, h2_7, h2_9, h2_16, h2_17, h2_18, h2_5, b2_5, h2_6, b2_6, h2_8, b2_8, ni2_5, pi2_5, qi2_5, ri2_5, ni2_6, pi2_6, qi2_6, ri2_6, ni2_8, pi2_8, qi2_8, ri2_8, di2_5i2_6, di2_5i2_8, di2_6i2_5, di2_6i2_8, di2_8i2_5, di2_8i2_6, f0, l1, l2, g1, g2])); all_goals (try clear hK))
            | (with_reducible refine p_ok ?_; decide)
            | ((first | with_reducible first | refine v_region rfl rfl (fun K hK => ?_) | refine v_draws rfl rfl (fun K hK => ?_) | refine v_if (fun A B hA hB => ?_) | refine v_end rfl ?_ | refine v_fin1 ?_ | refine v_finC1 ?_ | refine v_finR1 ?_ | refine v_callE (impl_IsPerm_c _ ?_) ?_ | refine v_callE (slices_IndexFunc_int_int_c _ _ _ _ ?_ ?_) ?_ | refine v_finO1 rfl ?_ | refine v_finN1 rfl ?_ ?_ | refine v_apj ?_ (fun j' => ?_) | refine v_stz ?_ ?_ ?_ ?_ ?_ | refine v_stq ?_ | refine v_cv1 ?_ ?_ ?_ | (intro hc; replace fc := And.intro hc fc; try simp only [hcs] at hc)) <;> (try simp (config := { maxSteps := 1000000 }) only [go_sem, ↓reduceIte, reduceCtorEq, Nat.reduceEqDiff, Nat.reduceAdd, Nat.reduceMul, Nat.reduceSub, Nat.reduceLeDiff, Int.reduceLT, Int.reduceLE, Int.reduceEq, Int.reduceSub, Int.reduceAdd, Int.reduceMul, Int.reduceNeg, Int.reduceToNat, h2_0, h2_7, h2_9, h2_16, h2_17, h2_18, h2_5, b2_5, h2_6, b2_6, h2_8, b2_8, ni2_5, pi2_5, qi2_5, ri2_5, ni2_6, pi2_6, qi2_6, ri2_6, ni2_8, pi2_8, qi2_8, ri2_8, di2_5i2_6, di2_5i2_8, di2_6i2_5, di2_6i2_8, di2_8i2_5, di2_8i2_6, f0, l1, l2, g1, g2, fc]) <;> (try with_reducible rfl))
          all_goals try (first | omega | (simp only [n_i64, n_u8]; omega) | (simp only [n_i64, n_u8, lnA]; omega) | (simp only [lnA]; done) | exact List.take_of_length_le (by simp))
          focus
            refine q_lp_n ((fun (k : Nat) (cs : List Nat) (L : List (Option (List Int))) (cb : List Nat) (N : List (Option (List Int))) => p.length - k) (k+1) (cs ++ [M.length]) (M ++ [some [v]]) (cb ++ [N.length]) (N ++ [some [(k : Int) + 1]])) ?_ ⟨k+1, cs ++ [M.length], M ++ [some [v]], cb ++ [N.length], N ++ [some [(k : Int) + 1]], ?_, ?_, ?_, ?_, ?_, ?_, ?_, ?_, ?_, ?_, rfl⟩
            all_goals (try simp only [go_sem, ↓reduceIte, reduceCtorEq, Nat.reduceEqDiff, Nat.reduceAdd, Nat.reduceMul, Nat.reduceSub, Nat.reduceLeDiff, Int.reduceLT, Int.reduceLE, Int.reduceEq, Int.reduceSub, Int.reduceAdd, Int.reduceMul, Int.reduceNeg, Int.reduceToNat, h2_0, h2_7, h2_9, h2_16, h2_17, h2_18, h2_5, b2_5, h2_6, b2_6, h2_8, b2_8, ni2_5, pi2_5, qi2_5, ri2_5, ni2_6, pi2_6, qi2_6, ri2_6, ni2_8, pi2_8, qi2_8, ri2_8, di2_5i2_6, di2_5i2_8, di2_6i2_5, di2_6i2_8, di2_8i2_5, di2_8i2_6])
            repeat' refine And.intro ?_ ?_
            all_goals try first | rfl | omega | (simp only [lnA] <;> omega) | ((first | refine stp ?_ | refine dkz_eq ?_ ?_) <;> first | rfl | omega | (simp only [lnA] <;> omega) | (simp only [lnA, List.append_assoc, List.cons_append, List.nil_append]; done) | skip)
          all_goals first | (rw [q2]; exact p3) | (rw [q2]; exact p4) | trace_state
      all_goals first | exact c1_1 | exact n1 | exact n2 | (simp; done) | trace_state
    · obtain rfl : k = p.length := by omega
      have fc : True := trivial
      repeat' first
        | with_reducible first | refine stp ?_ | refine q_blk_o rfl ?_ | (refine hK _ ?_; clear hK) | (refine hA ?_; clear hA hB) | (refine hB ?_; clear hA hB) | exact v_end0 | exact v_end0' | refine v_gb1 ?_ ?_ | refine v_gb0 ?_ ?_ | refine And.intro ?_ ?_
        | (with_reducible refine hK _ _ ?_ ?_; focus (first | exact clearAll_quiet rfl | (refine clearAll_of [false, false, false, false, false, false, false, false, false, false, false, false, false, false, true, true] [] rfl (by decide +kernel) ?_; try simp only [go_sem, ↓reduceIte, reduceCtorEq, Nat.reduceEqDiff, Nat.reduceAdd, Nat.reduceMul, Nat.reduceSub, Nat.reduceLeDiff, Int.reduceLT, Int.reduceLE, Int.reduceEq, Int.reduceSub, Int.reduceAdd, Int.reduceMul, Int.reduceNeg, Int.reduceToNat, h1_0, h1_16, h1_17, h1_18, h1_5, b1_5, h1_6, b1_6, ni1_5, pi1_5, qi1_5, ri1_5, ni1_6, pi1_6, qi1_6, ri1_6, di1_5i1_6, di1_6i1_5]) | (refine clearAll_of [false, false, false, false, false, false, false, false, false, true, true, false, false, false, false, false, false, true, true, false, true, false, true] [(0, 9), (1, 9), (2, 9), (3, 9), (4, 9), (5, 9), (6, 9), (7, 9), (0, 10), (1, 10), (2, 10), (3, 10), (9, 11), (10, 11), (9, 12), (10, 12), (9, 13), (10, 13), (9, 14), (10, 14), (9, 15), (10, 15), (9, 16), (10, 16), (0, 17), (1, 17), (2, 17), (3, 17), (4, 17), (5, 17), (6, 17), (7, 17), (8, 17), (9, 17), (10, 17), (11, 17), (12, 17), (13, 17), (14, 17), (0, 18), (1, 18), (2, 18), (3, 18), (2, 20), (3, 20)] rfl (by decide +kernel) ?_; try simp only [go_sem, ↓reduceIte, reduceCtorEq, Nat.reduceEqDiff, Nat.reduceAdd, Nat.reduceMul, Nat.reduceSub, Nat.reduceLeDiff, Int.reduceLT, Int.reduceLE, Int.reduceEq, Int.reduceSub, Int.reduceAdd, Int.reduceMul, Int.reduceNeg, Int.reduceToNat, h1_0, h1_16, h1_17, h1_18, h1_5, b1_5, h1_6, b1_6, ni1_5, pi1_5, qi1_5, ri1_5, ni1_6, pi1_6, qi1_6, ri1_6, di1_5i1_6, di1_6i1_5])); all_goals (try clear hK))
        | (with_reducible refine p_ok ?_; decide)
        | ((first | with_reducible first | refine v_region rfl rfl (fun K hK => ?_) | refine v_draws rfl rfl (fun K hK => ?_) | refine v_if (fun A B hA hB => ?_) | refine v_end rfl ?_ | refine v_fin1 ?_ | refine v_finC1 ?_ | refine v_finR1 ?_ | refine v_callE (impl_IsPerm_c _ ?_) ?_ | refine v_callE (slices_IndexFunc_int_int_c _ _ _ _ ?_ ?_) ?_ | refine v_finO1 rfl ?_ | refine v_finN1 rfl ?_ ?_ | refine v_apj ?_ (fun j' => ?_) | refine v_stz ?_ ?_ ?_ ?_ ?_ | refine v_stq ?_ | refine v_cv1 ?_ ?_ ?_ | (intro hc; replace fc := And.intro hc fc; try simp only [hcs] at hc)) <;> (try simp (config := { maxSteps := 1000000 }) only [go_sem, ↓reduceIte, reduceCtorEq, Nat.reduceEqDiff, Nat.reduceAdd, Nat.reduceMul, Nat.reduceSub, Nat.reduceLeDiff, Int.reduceLT, Int.reduceLE, Int.reduceEq, Int.reduceSub, Int.reduceAdd, Int.reduceMul, Int.reduceNeg, Int.reduceToNat, h1_0, h1_16, h1_17, h1_18, h1_5, b1_5, h1_6, b1_6, ni1_5, pi1_5, qi1_5, ri1_5, ni1_6, pi1_6, qi1_6, ri1_6, di1_5i1_6, di1_6i1_5, fc]) <;> (try with_reducible rfl))
      all_goals try (first | omega | (simp only [n_i64, n_u8]; omega) | (simp only [n_i64, n_u8, lnA]; omega) | (simp only [lnA]; done) | exact List.take_of_length_le (by simp))
      refine fd_go c1_1 (fun h => by cases h) rfl c1_1.len ?_
      rw [f_fkc]
      simp only [fins, f_dl, b1_6]
      refine fd_go c1_2 (fun h => by cases h) rfl c1_2.len ?_
      simp only [FL, fin, fin1, F0, List.nil_append, List.cons_append, List.append_nil, true_and]
      refine List.Pairwise.cons (fun q hq => ?_) (List.pairwise_singleton _ _)
      rw [List.mem_singleton] at hq
      subst hq
      exact .inl (show i1_5 ≠ i1_6 by omega)
  all_goals exact Tb.nil
