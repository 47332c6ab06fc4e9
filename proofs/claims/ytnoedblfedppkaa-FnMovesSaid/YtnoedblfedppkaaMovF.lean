/-
  Moves for a permutation, moves that sort: what their functions compute. Conditions: none.
-/
import Derived.Test.YtnoedblfedppkaaMovS
import Derived.Test.YtnoedblfedppkaaSym
set_option linter.unusedSimpArgs false
set_option linter.unusedVariables false
set_option maxRecDepth 20000
set_option linter.unusedSectionVars false
namespace Go.Gl
open Go Go.Proofs
variable [Amb]
def mfB (p : List Int) : Bool := isPermB p && (mvF p [] 0).isSome
def mfT (p : List Int) : List UInt8 := if isPermB p then (mvF p [] 0).getD [] else []
theorem mvF_cons {v : Int} {p st : List Int} {k : Nat} (h : st ++ upR k (v.toNat - k) ≠ []) (e : topI (st ++ upR k (v.toNat - k)) = v) : mvF (v :: p) st k = (mvF p ((st ++ upR k (v.toNat - k)).take ((st ++ upR k (v.toNat - k)).length - 1)) (k + (v.toNat - k))).map fun t => List.replicate (v.toNat - k) 73 ++ 79 :: t := by
  rw [mvF, if_pos ⟨e, h⟩]
theorem mvF_no {v : Int} {p st : List Int} {k : Nat} (e : topI (st ++ upR k (v.toNat - k)) ≠ v) : mvF (v :: p) st k = none := by
  rw [mvF, if_neg fun q => e q.1]
theorem getD_app {A B : List Int} {i : Nat} (h : i < A.length) : (A ++ B).getD i 0 = A.getD i 0 := by
  rw [List.getD_eq_getElem?_getD, List.getD_eq_getElem?_getD, List.getElem?_append_left h]
theorem omap_app {o : Option (List UInt8)} {a B : List UInt8} : (o.map fun t => B ++ 79 :: t).map (fun t => a ++ t) = o.map fun t => (a ++ B ++ [79]) ++ t := by
  cases o <;> simp
theorem minv_ne {v : Int} {p st : List Int} {k N : Nat} (h : MInv (v :: p) st k N) : st ++ upR k (v.toNat - k) ≠ [] :=
  List.ne_nil_of_mem (((minv_push h).2 v).2 ⟨List.mem_cons_self, by have := h.rg v List.mem_cons_self; omega⟩)
set_option maxHeartbeats 1600000 in
theorem impl_MovesFor_c {m0 : Bool} (p : List Int) (hl : p.length ≤ 1048576) : Fun Try.prog 29 [(.sl (.lent m0) (List.map (PV.int .i64) (p)))] [(.str (mfT p)), (.bool (mfB p))] := by
  by_cases hp : isPermB p = true
  · obtain ⟨h8, hq⟩ := isP_8 hp
    have e1 : mfB p = (mvF p [] 0).isSome := by rw [mfB, hp, Bool.true_and]
    have e2 : mfT p = (mvF p [] 0).getD [] := if_pos hp
    rw [e1, e2]
    refine Fun.of (sg := sg0) (ts := [2, 3]) mo Try.func29 rfl rfl rfl rfl (by kernel_rfl) (by simp only [go_sem]) rfl ?_
    have fc : True := trivial
    repeat' first
      | with_reducible first | refine stp ?_ | refine q_blk_o rfl ?_ | (refine hK _ ?_; clear hK) | (refine hA ?_; clear hA hB) | (refine hB ?_; clear hA hB) | exact v_end0 | exact v_end0' | refine v_gb1 ?_ ?_ | refine v_gb0 ?_ ?_ | refine And.intro ?_ ?_
      | (with_reducible refine p_ok ?_; decide)
      | ((first | with_reducible first | refine v_region rfl rfl (fun K hK => ?_) | refine v_draws rfl rfl (fun K hK => ?_) | refine v_if (fun A B hA hB => ?_) | refine v_end rfl ?_ | refine v_fin1 ?_ | refine v_finC1 ?_ | refine v_finR1 ?_ | refine v_callE (impl_IsPerm_c _ ?_) ?_ | refine v_finO1 rfl ?_ | refine v_finN1 rfl ?_ ?_ | refine v_apj ?_ (fun j' => ?_) | refine v_stz ?_ ?_ ?_ ?_ ?_ | refine v_stq ?_ | refine v_cv1 ?_ ?_ ?_ | (intro hc; replace fc := And.intro hc fc; try simp only [hcs] at hc)) <;> (try simp (config := { maxSteps := 1000000 }) only [go_sem, ↓reduceIte, reduceCtorEq, Nat.reduceEqDiff, Nat.reduceAdd, Nat.reduceMul, Nat.reduceSub, Nat.reduceLeDiff, Int.reduceLT, Int.reduceLE, Int.reduceEq, Int.reduceSub, Int.reduceAdd, Int.reduceMul, Int.reduceNeg, Int.reduceToNat, hp, fc]) <;> (try with_reducible rfl))
    all_goals try (first | omega | (simp only [n_i64, n_u8]; omega) | (simp only [n_i64, n_u8, lnA]; omega) | (simp only [lnA]; done) | exact List.take_of_length_le (by simp))
    refine v_loop (fun ms1 S1 => ∃ (i : Nat) (k : Nat) (out : List UInt8) (st : List Int) (junk : List Int), S1.e 0 = .p (.sl (.lent m0) (List.map (PV.int .i64) (p))) ∧ S1.e 4 = .p (.str (out)) ∧ OwnL (S1.e 5) S1.h S1.n (PV.int .i64) (st.length) (st ++ junk) ∧ S1.e 6 = .p (.int .i64 (k)) ∧ S1.e 13 = .p (.sl (.lent m0) (List.map (PV.int .i64) (p))) ∧ S1.e 14 = .p (.int .i64 (p.length)) ∧ S1.e 15 = .p (.int .i64 (i)) ∧ (i ≤ p.length) ∧ (MInv (p.drop i) st k p.length) ∧ (mvF p [] 0 = (mvF (p.drop i) st k).map fun t => out ++ t) ∧ (st.length ≤ k) ∧ (k ≤ p.length) ∧ (out.length ≤ i + k) ∧ ms1 = p.length - i) ((fun (i : Nat) (k : Nat) (out : List UInt8) (st : List Int) (junk : List Int) => p.length - i) (0) (0) ([]) ([]) ([])) ?init1_0 ?body1_0
    case' init1_0 =>
      refine ⟨0, 0, [], [], [], ?_, ?_, ?_, ?_, ?_, ?_, ?_, ?_, ?_, ?_, ?_, ?_, ?_, rfl⟩
      all_goals (try simp only [go_sem, ↓reduceIte, reduceCtorEq, Nat.reduceEqDiff, Nat.reduceAdd, Nat.reduceMul, Nat.reduceSub, Nat.reduceLeDiff, Int.reduceLT, Int.reduceLE, Int.reduceEq, Int.reduceSub, Int.reduceAdd, Int.reduceMul, Int.reduceNeg, Int.reduceToNat])
      repeat' refine And.intro ?_ ?_
      all_goals try first | rfl | omega | (simp only [lnA] <;> omega) | ((first | refine stp ?_ | refine dkz_eq ?_ ?_) <;> first | rfl | omega | (simp only [lnA] <;> omega) | (simp only [lnA, List.append_assoc, List.cons_append, List.nil_append]; done) | skip)
    case' body1_0 =>
      rintro ms1 S1 ⟨i, k, out, st, junk, h1_0, h1_4, o1_5, h1_6, h1_13, h1_14, h1_15, c1_0, c1_1, c1_2, c1_3, c1_4, c1_5, hm1⟩
      obtain ⟨i1_5, h1_5, b1_5, l1_5⟩ := o1_5.out
      have ni1_5 : ∀ c, (i1_5 = S1.n + c) = False := fun c => eq_false (by omega)
      have pi1_5 : ∀ c, (S1.n + c = i1_5) = False := fun c => eq_false (by omega)
      have qi1_5 : (i1_5 = S1.n) = False := eq_false (by omega)
      have ri1_5 : (S1.n = i1_5) = False := eq_false (by omega)
    · by_cases hi : i < p.length
      · have hm := c1_1
        rw [dropI_at hi] at hm c1_2
        have hv := hm.rg _ List.mem_cons_self
        obtain ⟨v, ev⟩ : ∃ v, p.getD i 0 = v := ⟨_, rfl⟩
        rw [ev] at hm c1_2 hv
        have fc : True := trivial
        repeat' first
          | with_reducible first | refine stp ?_ | refine q_blk_o rfl ?_ | (refine hK _ ?_; clear hK) | (refine hA ?_; clear hA hB) | (refine hB ?_; clear hA hB) | exact v_end0 | exact v_end0' | refine v_gb1 ?_ ?_ | refine v_gb0 ?_ ?_ | refine And.intro ?_ ?_
          | (with_reducible refine p_ok ?_; decide)
          | ((first | with_reducible first | refine v_region rfl rfl (fun K hK => ?_) | refine v_draws rfl rfl (fun K hK => ?_) | refine v_if (fun A B hA hB => ?_) | refine v_end rfl ?_ | refine v_fin1 ?_ | refine v_finC1 ?_ | refine v_finR1 ?_ | refine v_callE (impl_IsPerm_c _ ?_) ?_ | refine v_finO1 rfl ?_ | refine v_finN1 rfl ?_ ?_ | refine v_apj ?_ (fun j' => ?_) | refine v_stz ?_ ?_ ?_ ?_ ?_ | refine v_stq ?_ | refine v_cv1 ?_ ?_ ?_ | (intro hc; replace fc := And.intro hc fc; try simp only [hcs] at hc)) <;> (try simp (config := { maxSteps := 1000000 }) only [go_sem, ↓reduceIte, reduceCtorEq, Nat.reduceEqDiff, Nat.reduceAdd, Nat.reduceMul, Nat.reduceSub, Nat.reduceLeDiff, Int.reduceLT, Int.reduceLE, Int.reduceEq, Int.reduceSub, Int.reduceAdd, Int.reduceMul, Int.reduceNeg, Int.reduceToNat, h1_0, h1_4, h1_6, h1_13, h1_14, h1_15, h1_5, b1_5, ni1_5, pi1_5, qi1_5, ri1_5, ev, fc]) <;> (try with_reducible rfl))
        all_goals try (first | omega | (simp only [n_i64, n_u8]; omega) | (simp only [n_i64, n_u8, lnA]; omega) | (simp only [lnA]; done) | exact List.take_of_length_le (by simp))
        refine v_loop (fun ms2 S2 => ∃ (d : Nat) (s2 : List Int) (j2 : List Int), S2.e 0 = .p (.sl (.lent m0) (List.map (PV.int .i64) (p))) ∧ S2.e 4 = .p (.str ((out ++ List.replicate d 73))) ∧ OwnL (S2.e 5) S2.h S2.n (PV.int .i64) (s2.length) (s2 ++ j2) ∧ S2.e 6 = .p (.int .i64 ((k + d : Nat))) ∧ S2.e 8 = .p (.int .i64 (v)) ∧ S2.e 13 = .p (.sl (.lent m0) (List.map (PV.int .i64) (p))) ∧ S2.e 14 = .p (.int .i64 (p.length)) ∧ S2.e 15 = .p (.int .i64 (i)) ∧ (d ≤ v.toNat - k) ∧ (s2 = st ++ upR k d) ∧ (s2.length = st.length + d) ∧ S1.n ≤ S2.n ∧ ms2 = v.toNat - k - d) ((fun (d : Nat) (s2 : List Int) (j2 : List Int) => v.toNat - k - d) (0) (st) (junk)) ?init2_1 ?body2_1
        case' init2_1 =>
          refine ⟨0, st, junk, ?_, ?_, ?_, ?_, ?_, ?_, ?_, ?_, ?_, ?_, ?_, ?_, rfl⟩
          all_goals (try simp only [go_sem, ↓reduceIte, reduceCtorEq, Nat.reduceEqDiff, Nat.reduceAdd, Nat.reduceMul, Nat.reduceSub, Nat.reduceLeDiff, Int.reduceLT, Int.reduceLE, Int.reduceEq, Int.reduceSub, Int.reduceAdd, Int.reduceMul, Int.reduceNeg, Int.reduceToNat, h1_0, h1_4, h1_6, h1_13, h1_14, h1_15, h1_5, b1_5, ni1_5, pi1_5, qi1_5, ri1_5])
          repeat' refine And.intro ?_ ?_
          all_goals try first | rfl | omega | (simp only [lnA] <;> omega) | ((first | refine stp ?_ | refine dkz_eq ?_ ?_) <;> first | rfl | omega | (simp only [lnA] <;> omega) | (simp only [lnA, List.append_assoc, List.cons_append, List.nil_append]; done) | skip)
        case' body2_1 =>
          rintro ms2 S2 ⟨d, s2, j2, h2_0, h2_4, o2_5, h2_6, h2_8, h2_13, h2_14, h2_15, c2_0, c2_1, c2_2, u2_0, hm2⟩
          obtain ⟨i2_5, h2_5, b2_5, l2_5⟩ := o2_5.out
          have ni2_5 : ∀ c, (i2_5 = S2.n + c) = False := fun c => eq_false (by omega)
          have pi2_5 : ∀ c, (S2.n + c = i2_5) = False := fun c => eq_false (by omega)
          have qi2_5 : (i2_5 = S2.n) = False := eq_false (by omega)
          have ri2_5 : (S2.n = i2_5) = False := eq_false (by omega)
        · by_cases hd : ((k + d : Nat) : Int) < v
          · have fc : True := trivial
            repeat' first
              | with_reducible first | refine stp ?_ | refine q_blk_o rfl ?_ | (refine hK _ ?_; clear hK) | (refine hA ?_; clear hA hB) | (refine hB ?_; clear hA hB) | exact v_end0 | exact v_end0' | refine v_gb1 ?_ ?_ | refine v_gb0 ?_ ?_ | refine And.intro ?_ ?_
              | (with_reducible refine p_ok ?_; decide)
              | ((first | with_reducible first | refine v_region rfl rfl (fun K hK => ?_) | refine v_draws rfl rfl (fun K hK => ?_) | refine v_if (fun A B hA hB => ?_) | refine v_end rfl ?_ | refine v_fin1 ?_ | refine v_finC1 ?_ | refine v_finR1 ?_ | refine v_callE (impl_IsPerm_c _ ?_) ?_ | refine v_finO1 rfl ?_ | refine v_finN1 rfl ?_ ?_ | refine v_apj ?_ (fun j' => ?_) | refine v_stz ?_ ?_ ?_ ?_ ?_ | refine v_stq ?_ | refine v_cv1 ?_ ?_ ?_ | (intro hc; replace fc := And.intro hc fc; try simp only [hcs] at hc)) <;> (try simp (config := { maxSteps := 1000000 }) only [go_sem, ↓reduceIte, reduceCtorEq, Nat.reduceEqDiff, Nat.reduceAdd, Nat.reduceMul, Nat.reduceSub, Nat.reduceLeDiff, Int.reduceLT, Int.reduceLE, Int.reduceEq, Int.reduceSub, Int.reduceAdd, Int.reduceMul, Int.reduceNeg, Int.reduceToNat, h2_0, h2_4, h2_6, h2_8, h2_13, h2_14, h2_15, h2_5, b2_5, ni2_5, pi2_5, qi2_5, ri2_5, fc]) <;> (try with_reducible rfl))
            all_goals try (first | omega | (simp only [n_i64, n_u8]; omega) | (simp only [n_i64, n_u8, lnA]; omega) | (simp only [lnA]; done) | exact List.take_of_length_le (by simp))
            · focus
                refine q_lp_n ((fun (d : Nat) (s2 : List Int) (j2 : List Int) => v.toNat - k - d) (d+1) (s2 ++ [((k + d : Nat) : Int) + 1]) (j')) ?_ ⟨d+1, s2 ++ [((k + d : Nat) : Int) + 1], j', ?_, ?_, ?_, ?_, ?_, ?_, ?_, ?_, ?_, ?_, ?_, ?_, rfl⟩
                all_goals (try simp only [go_sem, ↓reduceIte, reduceCtorEq, Nat.reduceEqDiff, Nat.reduceAdd, Nat.reduceMul, Nat.reduceSub, Nat.reduceLeDiff, Int.reduceLT, Int.reduceLE, Int.reduceEq, Int.reduceSub, Int.reduceAdd, Int.reduceMul, Int.reduceNeg, Int.reduceToNat, h2_0, h2_4, h2_6, h2_8, h2_13, h2_14, h2_15, h2_5, b2_5, ni2_5, pi2_5, qi2_5, ri2_5])
                repeat' refine And.intro ?_ ?_
                all_goals try first | rfl | omega | (simp only [lnA] <;> omega) | ((first | refine stp ?_ | refine dkz_eq ?_ ?_) <;> first | rfl | omega | (simp only [lnA] <;> omega) | (simp only [lnA, List.append_assoc, List.cons_append, List.nil_append]; done) | skip)
              · rw [List.replicate_succ']
              · rw [c2_1, upR_succ, List.append_assoc]
          · obtain rfl : d = v.toNat - k := by omega
            have hne := minv_ne hm
            rw [← c2_1] at hne
            obtain ⟨s, x, hs⟩ := snoc_of hne
            have ls := congrArg List.length hs
            rw [List.length_append, List.length_singleton] at ls
            have e3 : (s2 ++ j2).getD ((s2.length : Int) - 1).toNat 0 = x := by
              rw [show ((s2.length : Int) - 1).toNat = s2.length - 1 by omega, hs, List.length_append, List.length_singleton, Nat.add_sub_cancel, getD_app (by simp), List.getD_eq_getElem?_getD, List.getElem?_append_right (Nat.le_refl _)]; simp
            have ht : topI s2 = x := by rw [hs, topI_snoc]
            have e9 : s2.take (s2.length - 1) = s := by rw [hs, cutI_snoc]
            by_cases hx : x = v
            · have g1 : mvF (v :: p.drop (i + 1)) st k = (mvF (p.drop (i + 1)) s (k + (v.toNat - k))).map fun t => List.replicate (v.toNat - k) 73 ++ 79 :: t := by
                rw [mvF_cons (by rw [← c2_1]; exact hne) (by rw [← c2_1, ht, hx]), ← c2_1, e9]
              have g2 := minv_pop hm (s := s) (by rw [← c2_1, hs, hx])
              have f0 : (x = v) = True := eq_true hx
              rw [g1, omap_app] at c1_2
              have fc : True := trivial
              repeat' first
                | with_reducible first | refine stp ?_ | refine q_blk_o rfl ?_ | (refine hK _ ?_; clear hK) | (refine hA ?_; clear hA hB) | (refine hB ?_; clear hA hB) | exact v_end0 | exact v_end0' | refine v_gb1 ?_ ?_ | refine v_gb0 ?_ ?_ | refine And.intro ?_ ?_
                | (with_reducible refine p_ok ?_; decide)
                | ((first | with_reducible first | refine v_region rfl rfl (fun K hK => ?_) | refine v_draws rfl rfl (fun K hK => ?_) | refine v_if (fun A B hA hB => ?_) | refine v_end rfl ?_ | refine v_fin1 ?_ | refine v_finC1 ?_ | refine v_finR1 ?_ | refine v_callE (impl_IsPerm_c _ ?_) ?_ | refine v_finO1 rfl ?_ | refine v_finN1 rfl ?_ ?_ | refine v_apj ?_ (fun j' => ?_) | refine v_stz ?_ ?_ ?_ ?_ ?_ | refine v_stq ?_ | refine v_cv1 ?_ ?_ ?_ | (intro hc; replace fc := And.intro hc fc; try simp only [hcs] at hc)) <;> (try simp (config := { maxSteps := 1000000 }) only [go_sem, ↓reduceIte, reduceCtorEq, Nat.reduceEqDiff, Nat.reduceAdd, Nat.reduceMul, Nat.reduceSub, Nat.reduceLeDiff, Int.reduceLT, Int.reduceLE, Int.reduceEq, Int.reduceSub, Int.reduceAdd, Int.reduceMul, Int.reduceNeg, Int.reduceToNat, h2_0, h2_4, h2_6, h2_8, h2_13, h2_14, h2_15, h2_5, b2_5, ni2_5, pi2_5, qi2_5, ri2_5, e3, f0, fc]) <;> (try with_reducible rfl))
              all_goals try (first | omega | (simp only [n_i64, n_u8]; omega) | (simp only [n_i64, n_u8, lnA]; omega) | (simp only [lnA]; done) | exact List.take_of_length_le (by simp))
              · focus
                  refine q_lp_n ((fun (i : Nat) (k : Nat) (out : List UInt8) (st : List Int) (junk : List Int) => p.length - i) (i+1) (k + (v.toNat - k)) (out ++ List.replicate (v.toNat - k) 73 ++ [79]) (s) (s2.drop (s2.length - 1) ++ j2)) ?_ ⟨i+1, k + (v.toNat - k), out ++ List.replicate (v.toNat - k) 73 ++ [79], s, s2.drop (s2.length - 1) ++ j2, ?_, ?_, ?_, ?_, ?_, ?_, ?_, ?_, ?_, ?_, ?_, ?_, ?_, rfl⟩
                  all_goals (try simp only [go_sem, ↓reduceIte, reduceCtorEq, Nat.reduceEqDiff, Nat.reduceAdd, Nat.reduceMul, Nat.reduceSub, Nat.reduceLeDiff, Int.reduceLT, Int.reduceLE, Int.reduceEq, Int.reduceSub, Int.reduceAdd, Int.reduceMul, Int.reduceNeg, Int.reduceToNat, h2_0, h2_4, h2_6, h2_8, h2_13, h2_14, h2_15, h2_5, b2_5, ni2_5, pi2_5, qi2_5, ri2_5])
                  repeat' refine And.intro ?_ ?_
                  all_goals try first | rfl | omega | (simp only [lnA] <;> omega) | ((first | refine stp ?_ | refine dkz_eq ?_ ?_) <;> first | rfl | omega | (simp only [lnA] <;> omega) | (simp only [lnA, List.append_assoc, List.cons_append, List.nil_append]; done) | skip)
                · rw [← List.append_assoc]; congr 1; rw [← e9, List.take_append_drop]
                · rw [c1_2]; simp
            · have f0 : (x = v) = False := eq_false hx
              have g1 := mvF_no (p := p.drop (i + 1)) (st := st) (k := k) (v := v) (by rw [← c2_1, ht]; exact hx)
              rw [g1, Option.map_none] at c1_2
              have fc : True := trivial
              repeat' first
                | with_reducible first | refine stp ?_ | refine q_blk_o rfl ?_ | (refine hK _ ?_; clear hK) | (refine hA ?_; clear hA hB) | (refine hB ?_; clear hA hB) | exact v_end0 | exact v_end0' | refine v_gb1 ?_ ?_ | refine v_gb0 ?_ ?_ | refine And.intro ?_ ?_
                | (with_reducible refine p_ok ?_; decide)
                | ((first | with_reducible first | refine v_region rfl rfl (fun K hK => ?_) | refine v_draws rfl rfl (fun K hK => ?_) | refine v_if (fun A B hA hB => ?_) | refine v_end rfl ?_ | refine v_fin1 ?_ | refine v_finC1 ?_ | refine v_finR1 ?_ | refine v_callE (impl_IsPerm_c _ ?_) ?_ | refine v_finO1 rfl ?_ | refine v_finN1 rfl ?_ ?_ | refine v_apj ?_ (fun j' => ?_) | refine v_stz ?_ ?_ ?_ ?_ ?_ | refine v_stq ?_ | refine v_cv1 ?_ ?_ ?_ | (intro hc; replace fc := And.intro hc fc; try simp only [hcs] at hc)) <;> (try simp (config := { maxSteps := 1000000 }) only [go_sem, ↓reduceIte, reduceCtorEq, Nat.reduceEqDiff, Nat.reduceAdd, Nat.reduceMul, Nat.reduceSub, Nat.reduceLeDiff, Int.reduceLT, Int.reduceLE, Int.reduceEq, Int.reduceSub, Int.reduceAdd, Int.reduceMul, Int.reduceNeg, Int.reduceToNat, h2_0, h2_4, h2_6, h2_8, h2_13, h2_14, h2_15, h2_5, b2_5, ni2_5, pi2_5, qi2_5, ri2_5, e3, f0, fc]) <;> (try with_reducible rfl))
              all_goals try (first | omega | (simp only [n_i64, n_u8]; omega) | (simp only [n_i64, n_u8, lnA]; omega) | (simp only [lnA]; done) | exact List.take_of_length_le (by simp))
              · rw [c1_2]; rfl
              · rw [c1_2]; rfl
        all_goals first | rfl | (simp; done) | (simp [upR]; done) | trace_state
      · rw [List.drop_of_length_le (by omega), mvF, Option.map_some, List.append_nil] at c1_2
        have fc : True := trivial
        repeat' first
          | with_reducible first | refine stp ?_ | refine q_blk_o rfl ?_ | (refine hK _ ?_; clear hK) | (refine hA ?_; clear hA hB) | (refine hB ?_; clear hA hB) | exact v_end0 | exact v_end0' | refine v_gb1 ?_ ?_ | refine v_gb0 ?_ ?_ | refine And.intro ?_ ?_
          | (with_reducible refine p_ok ?_; decide)
          | ((first | with_reducible first | refine v_region rfl rfl (fun K hK => ?_) | refine v_draws rfl rfl (fun K hK => ?_) | refine v_if (fun A B hA hB => ?_) | refine v_end rfl ?_ | refine v_fin1 ?_ | refine v_finC1 ?_ | refine v_finR1 ?_ | refine v_callE (impl_IsPerm_c _ ?_) ?_ | refine v_finO1 rfl ?_ | refine v_finN1 rfl ?_ ?_ | refine v_apj ?_ (fun j' => ?_) | refine v_stz ?_ ?_ ?_ ?_ ?_ | refine v_stq ?_ | refine v_cv1 ?_ ?_ ?_ | (intro hc; replace fc := And.intro hc fc; try simp only [hcs] at hc)) <;> (try simp (config := { maxSteps := 1000000 }) only [go_sem, ↓reduceIte, reduceCtorEq, Nat.reduceEqDiff, Nat.reduceAdd, Nat.reduceMul, Nat.reduceSub, Nat.reduceLeDiff, Int.reduceLT, Int.reduceLE, Int.reduceEq, Int.reduceSub, Int.reduceAdd, Int.reduceMul, Int.reduceNeg, Int.reduceToNat, h1_0, h1_4, h1_6, h1_13, h1_14, h1_15, h1_5, b1_5, ni1_5, pi1_5, qi1_5, ri1_5, fc]) <;> (try with_reducible rfl))
        all_goals try (first | omega | (simp only [n_i64, n_u8]; omega) | (simp only [n_i64, n_u8, lnA]; omega) | (simp only [lnA]; done) | exact List.take_of_length_le (by simp))
        · rw [c1_2]; rfl
        · rw [c1_2]; rfl
    · exact minv_0 hq
    · simp
  · rw [Bool.not_eq_true] at hp
    have e1 : mfB p = false := by rw [mfB, hp, Bool.false_and]
    have e2 : mfT p = [] := by rw [mfT, hp]; rfl
    rw [e1, e2]
    refine Fun.of (sg := sg0) (ts := [2, 3]) mo Try.func29 rfl rfl rfl rfl (by kernel_rfl) (by simp only [go_sem]) rfl ?_
    have fc : True := trivial
    repeat' first
      | with_reducible first | refine stp ?_ | refine q_blk_o rfl ?_ | (refine hK _ ?_; clear hK) | (refine hA ?_; clear hA hB) | (refine hB ?_; clear hA hB) | exact v_end0 | exact v_end0' | refine v_gb1 ?_ ?_ | refine v_gb0 ?_ ?_ | refine And.intro ?_ ?_
      | (with_reducible refine p_ok ?_; decide)
      | ((first | with_reducible first | refine v_region rfl rfl (fun K hK => ?_) | refine v_draws rfl rfl (fun K hK => ?_) | refine v_if (fun A B hA hB => ?_) | refine v_end rfl ?_ | refine v_fin1 ?_ | refine v_finC1 ?_ | refine v_finR1 ?_ | refine v_callE (impl_IsPerm_c _ ?_) ?_ | refine v_finO1 rfl ?_ | refine v_finN1 rfl ?_ ?_ | refine v_apj ?_ (fun j' => ?_) | refine v_stz ?_ ?_ ?_ ?_ ?_ | refine v_stq ?_ | refine v_cv1 ?_ ?_ ?_ | (intro hc; replace fc := And.intro hc fc; try simp only [hcs] at hc)) <;> (try simp (config := { maxSteps := 1000000 }) only [go_sem, ↓reduceIte, reduceCtorEq, Nat.reduceEqDiff, Nat.reduceAdd, Nat.reduceMul, Nat.reduceSub, Nat.reduceLeDiff, Int.reduceLT, Int.reduceLE, Int.reduceEq, Int.reduceSub, Int.reduceAdd, Int.reduceMul, Int.reduceNeg, Int.reduceToNat, hp, fc]) <;> (try with_reducible rfl))
    all_goals try (first | omega | (simp only [n_i64, n_u8]; omega) | (simp only [n_i64, n_u8, lnA]; omega) | (simp only [lnA]; done) | exact List.take_of_length_le (by simp))
set_option maxHeartbeats 1600000 in
theorem spec_MovesFor_c {m0 : Bool} (p : List Int) (hl : p.length ≤ 1048576) : Fun Try.prog 30 [(.sl (.lent m0) (List.map (PV.int .i64) (p)))] [(.str (mfT p)), (.bool (mfB p))] := by
  by_cases hp : isPermB p = true
  · obtain ⟨h8, hq⟩ := isP_8 hp
    have e1 : mfB p = (mvF p [] 0).isSome := by rw [mfB, hp, Bool.true_and]
    have e2 : mfT p = (mvF p [] 0).getD [] := if_pos hp
    rw [e1, e2]
    refine Fun.of (sg := sg0) (ts := [2, 3]) mo Try.func30 rfl rfl rfl rfl (by kernel_rfl) (by simp only [go_sem]) rfl ?_
    have fc : True := trivial
    repeat' first
      | with_reducible first | refine stp ?_ | refine q_blk_o rfl ?_ | (refine hK _ ?_; clear hK) | (refine hA ?_; clear hA hB) | (refine hB ?_; clear hA hB) | exact v_end0 | exact v_end0' | refine v_gb1 ?_ ?_ | refine v_gb0 ?_ ?_ | refine And.intro ?_ ?_
      | (with_reducible refine hK _ _ ?_ ?_; focus (first | exact clearAll_quiet rfl); all_goals (try clear hK))
      | (with_reducible refine p_ok ?_; decide)
      | ((first | with_reducible first | refine v_region rfl rfl (fun K hK => ?_) | refine v_draws rfl rfl (fun K hK => ?_) | refine v_if (fun A B hA hB => ?_) | refine v_end rfl ?_ | refine v_fin1 ?_ | refine v_finC1 ?_ | refine v_finR1 ?_ | refine v_callE (spec_IsPerm_c _ ?_) ?_ | refine v_finO1 rfl ?_ | refine v_finN1 rfl ?_ ?_ | refine v_apj ?_ (fun j' => ?_) | refine v_stz ?_ ?_ ?_ ?_ ?_ | refine v_stq ?_ | refine v_cv1 ?_ ?_ ?_ | (intro hc; replace fc := And.intro hc fc; try simp only [hcs] at hc)) <;> (try simp (config := { maxSteps := 1000000 }) only [go_sem, ↓reduceIte, reduceCtorEq, Nat.reduceEqDiff, Nat.reduceAdd, Nat.reduceMul, Nat.reduceSub, Nat.reduceLeDiff, Int.reduceLT, Int.reduceLE, Int.reduceEq, Int.reduceSub, Int.reduceAdd, Int.reduceMul, Int.reduceNeg, Int.reduceToNat, hp, fc]) <;> (try with_reducible rfl))
    all_goals try (first | omega | (simp only [n_i64, n_u8]; omega) | (simp only [n_i64, n_u8, lnA]; omega) | (simp only [lnA]; done) | exact List.take_of_length_le (by simp))
    refine v_loop (fun ms1 S1 => ∃ (i : Nat) (k : Nat) (out : List UInt8) (st : List Int) (junk : List Int), S1.e 0 = .p (.sl (.lent m0) (List.map (PV.int .i64) (p))) ∧ S1.e 4 = .p (.str (out)) ∧ OwnL (S1.e 5) S1.h S1.n (PV.int .i64) (st.length) (st ++ junk) ∧ S1.e 6 = .p (.int .i64 ((k + 1))) ∧ S1.e 7 = .p (.int .i64 (i)) ∧ (i ≤ p.length) ∧ (MInv (p.drop i) st k p.length) ∧ (mvF p [] 0 = (mvF (p.drop i) st k).map fun t => out ++ t) ∧ (st.length ≤ k) ∧ (k ≤ p.length) ∧ (out.length ≤ i + k) ∧ ms1 = p.length - i) ((fun (i : Nat) (k : Nat) (out : List UInt8) (st : List Int) (junk : List Int) => p.length - i) (0) (0) ([]) ([]) ([])) ?init1_2 ?body1_2
    case' init1_2 =>
      refine ⟨0, 0, [], [], [], ?_, ?_, ?_, ?_, ?_, ?_, ?_, ?_, ?_, ?_, ?_, rfl⟩
      all_goals (try simp only [go_sem, ↓reduceIte, reduceCtorEq, Nat.reduceEqDiff, Nat.reduceAdd, Nat.reduceMul, Nat.reduceSub, Nat.reduceLeDiff, Int.reduceLT, Int.reduceLE, Int.reduceEq, Int.reduceSub, Int.reduceAdd, Int.reduceMul, Int.reduceNeg, Int.reduceToNat])
      repeat' refine And.intro ?_ ?_
      all_goals try first | rfl | omega | (simp only [lnA] <;> omega) | ((first | refine stp ?_ | refine dkz_eq ?_ ?_) <;> first | rfl | omega | (simp only [lnA] <;> omega) | (simp only [lnA, List.append_assoc, List.cons_append, List.nil_append]; done) | skip)
    case' body1_2 =>
      rintro ms1 S1 ⟨i, k, out, st, junk, h1_0, h1_4, o1_5, h1_6, h1_7, c1_0, c1_1, c1_2, c1_3, c1_4, c1_5, hm1⟩
      obtain ⟨i1_5, h1_5, b1_5, l1_5⟩ := o1_5.out
      have ni1_5 : ∀ c, (i1_5 = S1.n + c) = False := fun c => eq_false (by omega)
      have pi1_5 : ∀ c, (S1.n + c = i1_5) = False := fun c => eq_false (by omega)
      have qi1_5 : (i1_5 = S1.n) = False := eq_false (by omega)
      have ri1_5 : (S1.n = i1_5) = False := eq_false (by omega)
    · by_cases hi : i < p.length
      · have hm := c1_1
        rw [dropI_at hi] at hm c1_2
        have hv := hm.rg _ List.mem_cons_self
        obtain ⟨v, ev⟩ : ∃ v, p.getD i 0 = v := ⟨_, rfl⟩
        rw [ev] at hm c1_2 hv
        have fc : True := trivial
        repeat' first
          | with_reducible first | refine stp ?_ | refine q_blk_o rfl ?_ | (refine hK _ ?_; clear hK) | (refine hA ?_; clear hA hB) | (refine hB ?_; clear hA hB) | exact v_end0 | exact v_end0' | refine v_gb1 ?_ ?_ | refine v_gb0 ?_ ?_ | refine And.intro ?_ ?_
          | (with_reducible refine hK _ _ ?_ ?_; focus (first | exact clearAll_quiet rfl); all_goals (try clear hK))
          | (with_reducible refine p_ok ?_; decide)
          | ((first | with_reducible first | refine v_region rfl rfl (fun K hK => ?_) | refine v_draws rfl rfl (fun K hK => ?_) | refine v_if (fun A B hA hB => ?_) | refine v_end rfl ?_ | refine v_fin1 ?_ | refine v_finC1 ?_ | refine v_finR1 ?_ | refine v_callE (spec_IsPerm_c _ ?_) ?_ | refine v_finO1 rfl ?_ | refine v_finN1 rfl ?_ ?_ | refine v_apj ?_ (fun j' => ?_) | refine v_stz ?_ ?_ ?_ ?_ ?_ | refine v_stq ?_ | refine v_cv1 ?_ ?_ ?_ | (intro hc; replace fc := And.intro hc fc; try simp only [hcs] at hc)) <;> (try simp (config := { maxSteps := 1000000 }) only [go_sem, ↓reduceIte, reduceCtorEq, Nat.reduceEqDiff, Nat.reduceAdd, Nat.reduceMul, Nat.reduceSub, Nat.reduceLeDiff, Int.reduceLT, Int.reduceLE, Int.reduceEq, Int.reduceSub, Int.reduceAdd, Int.reduceMul, Int.reduceNeg, Int.reduceToNat, h1_0, h1_4, h1_6, h1_7, h1_5, b1_5, ni1_5, pi1_5, qi1_5, ri1_5, ev, fc]) <;> (try with_reducible rfl))
        all_goals try (first | omega | (simp only [n_i64, n_u8]; omega) | (simp only [n_i64, n_u8, lnA]; omega) | (simp only [lnA]; done) | exact List.take_of_length_le (by simp))
        refine v_loop (fun ms2 S2 => ∃ (d : Nat) (s2 : List Int) (j2 : List Int), S2.e 0 = .p (.sl (.lent m0) (List.map (PV.int .i64) (p))) ∧ S2.e 4 = .p (.str ((out ++ List.replicate d 73))) ∧ OwnL (S2.e 5) S2.h S2.n (PV.int .i64) (s2.length) (s2 ++ j2) ∧ S2.e 6 = .p (.int .i64 (((k + d : Nat) + 1))) ∧ S2.e 7 = .p (.int .i64 (i)) ∧ (d ≤ v.toNat - k) ∧ (s2 = st ++ upR k d) ∧ (s2.length = st.length + d) ∧ S1.n ≤ S2.n ∧ ms2 = v.toNat - k - d) ((fun (d : Nat) (s2 : List Int) (j2 : List Int) => v.toNat - k - d) (0) (st) (junk)) ?init2_3 ?body2_3
        case' init2_3 =>
          refine ⟨0, st, junk, ?_, ?_, ?_, ?_, ?_, ?_, ?_, ?_, ?_, rfl⟩
          all_goals (try simp only [go_sem, ↓reduceIte, reduceCtorEq, Nat.reduceEqDiff, Nat.reduceAdd, Nat.reduceMul, Nat.reduceSub, Nat.reduceLeDiff, Int.reduceLT, Int.reduceLE, Int.reduceEq, Int.reduceSub, Int.reduceAdd, Int.reduceMul, Int.reduceNeg, Int.reduceToNat, h1_0, h1_4, h1_6, h1_7, h1_5, b1_5, ni1_5, pi1_5, qi1_5, ri1_5])
          repeat' refine And.intro ?_ ?_
          all_goals try first | rfl | omega | (simp only [lnA] <;> omega) | ((first | refine stp ?_ | refine dkz_eq ?_ ?_) <;> first | rfl | omega | (simp only [lnA] <;> omega) | (simp only [lnA, List.append_assoc, List.cons_append, List.nil_append]; done) | skip)
        case' body2_3 =>
          rintro ms2 S2 ⟨d, s2, j2, h2_0, h2_4, o2_5, h2_6, h2_7, c2_0, c2_1, c2_2, u2_0, hm2⟩
          obtain ⟨i2_5, h2_5, b2_5, l2_5⟩ := o2_5.out
          have ni2_5 : ∀ c, (i2_5 = S2.n + c) = False := fun c => eq_false (by omega)
          have pi2_5 : ∀ c, (S2.n + c = i2_5) = False := fun c => eq_false (by omega)
          have qi2_5 : (i2_5 = S2.n) = False := eq_false (by omega)
          have ri2_5 : (S2.n = i2_5) = False := eq_false (by omega)
        · by_cases hd : ((k + d : Nat) : Int) + 1 ≤ v
          · have fc : True := trivial
            repeat' first
              | with_reducible first | refine stp ?_ | refine q_blk_o rfl ?_ | (refine hK _ ?_; clear hK) | (refine hA ?_; clear hA hB) | (refine hB ?_; clear hA hB) | exact v_end0 | exact v_end0' | refine v_gb1 ?_ ?_ | refine v_gb0 ?_ ?_ | refine And.intro ?_ ?_
              | (with_reducible refine hK _ _ ?_ ?_; focus (first | exact clearAll_quiet rfl); all_goals (try clear hK))
              | (with_reducible refine p_ok ?_; decide)
              | ((first | with_reducible first | refine v_region rfl rfl (fun K hK => ?_) | refine v_draws rfl rfl (fun K hK => ?_) | refine v_if (fun A B hA hB => ?_) | refine v_end rfl ?_ | refine v_fin1 ?_ | refine v_finC1 ?_ | refine v_finR1 ?_ | refine v_callE (spec_IsPerm_c _ ?_) ?_ | refine v_finO1 rfl ?_ | refine v_finN1 rfl ?_ ?_ | refine v_apj ?_ (fun j' => ?_) | refine v_stz ?_ ?_ ?_ ?_ ?_ | refine v_stq ?_ | refine v_cv1 ?_ ?_ ?_ | (intro hc; replace fc := And.intro hc fc; try simp only [hcs] at hc)) <;> (try simp (config := { maxSteps := 1000000 }) only [go_sem, ↓reduceIte, reduceCtorEq, Nat.reduceEqDiff, Nat.reduceAdd, Nat.reduceMul, Nat.reduceSub, Nat.reduceLeDiff, Int.reduceLT, Int.reduceLE, Int.reduceEq, Int.reduceSub, Int.reduceAdd, Int.reduceMul, Int.reduceNeg, Int.reduceToNat, h2_0, h2_4, h2_6, h2_7, h2_5, b2_5, ni2_5, pi2_5, qi2_5, ri2_5, ev, fc]) <;> (try with_reducible rfl))
            all_goals try (first | omega | (simp only [n_i64, n_u8]; omega) | (simp only [n_i64, n_u8, lnA]; omega) | (simp only [lnA]; done) | exact List.take_of_length_le (by simp))
            · focus
                refine q_lp_n ((fun (d : Nat) (s2 : List Int) (j2 : List Int) => v.toNat - k - d) (d+1) (s2 ++ [((k + d : Nat) : Int) + 1]) (j')) ?_ ⟨d+1, s2 ++ [((k + d : Nat) : Int) + 1], j', ?_, ?_, ?_, ?_, ?_, ?_, ?_, ?_, ?_, rfl⟩
                all_goals (try simp only [go_sem, ↓reduceIte, reduceCtorEq, Nat.reduceEqDiff, Nat.reduceAdd, Nat.reduceMul, Nat.reduceSub, Nat.reduceLeDiff, Int.reduceLT, Int.reduceLE, Int.reduceEq, Int.reduceSub, Int.reduceAdd, Int.reduceMul, Int.reduceNeg, Int.reduceToNat, h2_0, h2_4, h2_6, h2_7, h2_5, b2_5, ni2_5, pi2_5, qi2_5, ri2_5])
                repeat' refine And.intro ?_ ?_
                all_goals try first | rfl | omega | (simp only [lnA] <;> omega) | ((first | refine stp ?_ | refine dkz_eq ?_ ?_) <;> first | rfl | omega | (simp only [lnA] <;> omega) | (simp only [lnA, List.append_assoc, List.cons_append, List.nil_append]; done) | skip)
              · rw [List.replicate_succ']
              · rw [c2_1, upR_succ, List.append_assoc]
          · obtain rfl : d = v.toNat - k := by omega
            have hne := minv_ne hm
            rw [← c2_1] at hne
            obtain ⟨s, x, hs⟩ := snoc_of hne
            have ls := congrArg List.length hs
            rw [List.length_append, List.length_singleton] at ls
            have e3 : (s2 ++ j2).getD ((s2.length : Int) - 1).toNat 0 = x := by
              rw [show ((s2.length : Int) - 1).toNat = s2.length - 1 by omega, hs, List.length_append, List.length_singleton, Nat.add_sub_cancel, getD_app (by simp), List.getD_eq_getElem?_getD, List.getElem?_append_right (Nat.le_refl _)]; simp
            have ht : topI s2 = x := by rw [hs, topI_snoc]
            have e9 : s2.take (s2.length - 1) = s := by rw [hs, cutI_snoc]
            by_cases hx : x = v
            · have g1 : mvF (v :: p.drop (i + 1)) st k = (mvF (p.drop (i + 1)) s (k + (v.toNat - k))).map fun t => List.replicate (v.toNat - k) 73 ++ 79 :: t := by
                rw [mvF_cons (by rw [← c2_1]; exact hne) (by rw [← c2_1, ht, hx]), ← c2_1, e9]
              have g2 := minv_pop hm (s := s) (by rw [← c2_1, hs, hx])
              have f0 : (x = v) = True := eq_true hx
              rw [g1, omap_app] at c1_2
              have fc : True := trivial
              repeat' first
                | with_reducible first | refine stp ?_ | refine q_blk_o rfl ?_ | (refine hK _ ?_; clear hK) | (refine hA ?_; clear hA hB) | (refine hB ?_; clear hA hB) | exact v_end0 | exact v_end0' | refine v_gb1 ?_ ?_ | refine v_gb0 ?_ ?_ | refine And.intro ?_ ?_
                | (with_reducible refine hK _ _ ?_ ?_; focus (first | exact clearAll_quiet rfl); all_goals (try clear hK))
                | (with_reducible refine p_ok ?_; decide)
                | ((first | with_reducible first | refine v_region rfl rfl (fun K hK => ?_) | refine v_draws rfl rfl (fun K hK => ?_) | refine v_if (fun A B hA hB => ?_) | refine v_end rfl ?_ | refine v_fin1 ?_ | refine v_finC1 ?_ | refine v_finR1 ?_ | refine v_callE (spec_IsPerm_c _ ?_) ?_ | refine v_finO1 rfl ?_ | refine v_finN1 rfl ?_ ?_ | refine v_apj ?_ (fun j' => ?_) | refine v_stz ?_ ?_ ?_ ?_ ?_ | refine v_stq ?_ | refine v_cv1 ?_ ?_ ?_ | (intro hc; replace fc := And.intro hc fc; try simp only [hcs] at hc)) <;> (try simp (config := { maxSteps := 1000000 }) only [go_sem, ↓reduceIte, reduceCtorEq, Nat.reduceEqDiff, Nat.reduceAdd, Nat.reduceMul, Nat.reduceSub, Nat.reduceLeDiff, Int.reduceLT, Int.reduceLE, Int.reduceEq, Int.reduceSub, Int.reduceAdd, Int.reduceMul, Int.reduceNeg, Int.reduceToNat, h2_0, h2_4, h2_6, h2_7, h2_5, b2_5, ni2_5, pi2_5, qi2_5, ri2_5, e3, f0, ev, fc]) <;> (try with_reducible rfl))
              all_goals try (first | omega | (simp only [n_i64, n_u8]; omega) | (simp only [n_i64, n_u8, lnA]; omega) | (simp only [lnA]; done) | exact List.take_of_length_le (by simp))
              · focus
                  refine q_lp_n ((fun (i : Nat) (k : Nat) (out : List UInt8) (st : List Int) (junk : List Int) => p.length - i) (i+1) (k + (v.toNat - k)) (out ++ List.replicate (v.toNat - k) 73 ++ [79]) (s) (s2.drop (s2.length - 1) ++ j2)) ?_ ⟨i+1, k + (v.toNat - k), out ++ List.replicate (v.toNat - k) 73 ++ [79], s, s2.drop (s2.length - 1) ++ j2, ?_, ?_, ?_, ?_, ?_, ?_, ?_, ?_, ?_, ?_, ?_, rfl⟩
                  all_goals (try simp only [go_sem, ↓reduceIte, reduceCtorEq, Nat.reduceEqDiff, Nat.reduceAdd, Nat.reduceMul, Nat.reduceSub, Nat.reduceLeDiff, Int.reduceLT, Int.reduceLE, Int.reduceEq, Int.reduceSub, Int.reduceAdd, Int.reduceMul, Int.reduceNeg, Int.reduceToNat, h2_0, h2_4, h2_6, h2_7, h2_5, b2_5, ni2_5, pi2_5, qi2_5, ri2_5])
                  repeat' refine And.intro ?_ ?_
                  all_goals try first | rfl | omega | (simp only [lnA] <;> omega) | ((first | refine stp ?_ | refine dkz_eq ?_ ?_) <;> first | rfl | omega | (simp only [lnA] <;> omega) | (simp only [lnA, List.append_assoc, List.cons_append, List.nil_append]; done) | skip)
                · rw [← List.append_assoc]; congr 1; rw [← e9, List.take_append_drop]
                · rw [c1_2]; simp
            · have f0 : (x = v) = False := eq_false hx
              have g1 := mvF_no (p := p.drop (i + 1)) (st := st) (k := k) (v := v) (by rw [← c2_1, ht]; exact hx)
              rw [g1, Option.map_none] at c1_2
              have fc : True := trivial
              repeat' first
                | with_reducible first | refine stp ?_ | refine q_blk_o rfl ?_ | (refine hK _ ?_; clear hK) | (refine hA ?_; clear hA hB) | (refine hB ?_; clear hA hB) | exact v_end0 | exact v_end0' | refine v_gb1 ?_ ?_ | refine v_gb0 ?_ ?_ | refine And.intro ?_ ?_
                | (with_reducible refine hK _ _ ?_ ?_; focus (first | exact clearAll_quiet rfl); all_goals (try clear hK))
                | (with_reducible refine p_ok ?_; decide)
                | ((first | with_reducible first | refine v_region rfl rfl (fun K hK => ?_) | refine v_draws rfl rfl (fun K hK => ?_) | refine v_if (fun A B hA hB => ?_) | refine v_end rfl ?_ | refine v_fin1 ?_ | refine v_finC1 ?_ | refine v_finR1 ?_ | refine v_callE (spec_IsPerm_c _ ?_) ?_ | refine v_finO1 rfl ?_ | refine v_finN1 rfl ?_ ?_ | refine v_apj ?_ (fun j' => ?_) | refine v_stz ?_ ?_ ?_ ?_ ?_ | refine v_stq ?_ | refine v_cv1 ?_ ?_ ?_ | (intro hc; replace fc := And.intro hc fc; try simp only [hcs] at hc)) <;> (try simp (config := { maxSteps := 1000000 }) only [go_sem, ↓reduceIte, reduceCtorEq, Nat.reduceEqDiff, Nat.reduceAdd, Nat.reduceMul, Nat.reduceSub, Nat.reduceLeDiff, Int.reduceLT, Int.reduceLE, Int.reduceEq, Int.reduceSub, Int.reduceAdd, Int.reduceMul, Int.reduceNeg, Int.reduceToNat, h2_0, h2_4, h2_6, h2_7, h2_5, b2_5, ni2_5, pi2_5, qi2_5, ri2_5, e3, f0, ev, fc]) <;> (try with_reducible rfl))
              all_goals try (first | omega | (simp only [n_i64, n_u8]; omega) | (simp only [n_i64, n_u8, lnA]; omega) | (simp only [lnA]; done) | exact List.take_of_length_le (by simp))
              · rw [c1_2]; rfl
              · rw [c1_2]; rfl
        all_goals first | rfl | (simp; done) | (simp [upR]; done) | trace_state
      · rw [List.drop_of_length_le (by omega), mvF, Option.map_some, List.append_nil] at c1_2
        have fc : True := trivial
        repeat' first
          | with_reducible first | refine stp ?_ | refine q_blk_o rfl ?_ | (refine hK _ ?_; clear hK) | (refine hA ?_; clear hA hB) | (refine hB ?_; clear hA hB) | exact v_end0 | exact v_end0' | refine v_gb1 ?_ ?_ | refine v_gb0 ?_ ?_ | refine And.intro ?_ ?_
          | (with_reducible refine hK _ _ ?_ ?_; focus (first | exact clearAll_quiet rfl); all_goals (try clear hK))
          | (with_reducible refine p_ok ?_; decide)
          | ((first | with_reducible first | refine v_region rfl rfl (fun K hK => ?_) | refine v_draws rfl rfl (fun K hK => ?_) | refine v_if (fun A B hA hB => ?_) | refine v_end rfl ?_ | refine v_fin1 ?_ | refine v_finC1 ?_ | refine v_finR1 ?_ | refine v_callE (spec_IsPerm_c _ ?_) ?_ | refine v_finO1 rfl ?_ | refine v_finN1 rfl ?_ ?_ | refine v_apj ?_ (fun j' => ?_) | refine v_stz ?_ ?_ ?_ ?_ ?_ | refine v_stq ?_ | refine v_cv1 ?_ ?_ ?_ | (intro hc; replace fc := And.intro hc fc; try simp only [hcs] at hc)) <;> (try simp (config := { maxSteps := 1000000 }) only [go_sem, ↓reduceIte, reduceCtorEq, Nat.reduceEqDiff, Nat.reduceAdd, Nat.reduceMul, Nat.reduceSub, Nat.reduceLeDiff, Int.reduceLT, Int.reduceLE, Int.reduceEq, Int.reduceSub, Int.reduceAdd, Int.reduceMul, Int.reduceNeg, Int.reduceToNat, h1_0, h1_4, h1_6, h1_7, h1_5, b1_5, ni1_5, pi1_5, qi1_5, ri1_5, fc]) <;> (try with_reducible rfl))
        all_goals try (first | omega | (simp only [n_i64, n_u8]; omega) | (simp only [n_i64, n_u8, lnA]; omega) | (simp only [lnA]; done) | exact List.take_of_length_le (by simp))
        · rw [c1_2]; rfl
        · rw [c1_2]; rfl
    · exact minv_0 hq
    · simp
  · rw [Bool.not_eq_true] at hp
    have e1 : mfB p = false := by rw [mfB, hp, Bool.false_and]
    have e2 : mfT p = [] := by rw [mfT, hp]; rfl
    rw [e1, e2]
    refine Fun.of (sg := sg0) (ts := [2, 3]) mo Try.func30 rfl rfl rfl rfl (by kernel_rfl) (by simp only [go_sem]) rfl ?_
    have fc : True := trivial
    repeat' first
      | with_reducible first | refine stp ?_ | refine q_blk_o rfl ?_ | (refine hK _ ?_; clear hK) | (refine hA ?_; clear hA hB) | (refine hB ?_; clear hA hB) | exact v_end0 | exact v_end0' | refine v_gb1 ?_ ?_ | refine v_gb0 ?_ ?_ | refine And.intro ?_ ?_
      | (with_reducible refine hK _ _ ?_ ?_; focus (first | exact clearAll_quiet rfl); all_goals (try clear hK))
      | (with_reducible refine p_ok ?_; decide)
      | ((first | with_reducible first | refine v_region rfl rfl (fun K hK => ?_) | refine v_draws rfl rfl (fun K hK => ?_) | refine v_if (fun A B hA hB => ?_) | refine v_end rfl ?_ | refine v_fin1 ?_ | refine v_finC1 ?_ | refine v_finR1 ?_ | refine v_callE (spec_IsPerm_c _ ?_) ?_ | refine v_finO1 rfl ?_ | refine v_finN1 rfl ?_ ?_ | refine v_apj ?_ (fun j' => ?_) | refine v_stz ?_ ?_ ?_ ?_ ?_ | refine v_stq ?_ | refine v_cv1 ?_ ?_ ?_ | (intro hc; replace fc := And.intro hc fc; try simp only [hcs] at hc)) <;> (try simp (config := { maxSteps := 1000000 }) only [go_sem, ↓reduceIte, reduceCtorEq, Nat.reduceEqDiff, Nat.reduceAdd, Nat.reduceMul, Nat.reduceSub, Nat.reduceLeDiff, Int.reduceLT, Int.reduceLE, Int.reduceEq, Int.reduceSub, Int.reduceAdd, Int.reduceMul, Int.reduceNeg, Int.reduceToNat, hp, fc]) <;> (try with_reducible rfl))
    all_goals try (first | omega | (simp only [n_i64, n_u8]; omega) | (simp only [n_i64, n_u8, lnA]; omega) | (simp only [lnA]; done) | exact List.take_of_length_le (by simp))
theorem srF_cons {v : Int} {p st : List Int} {nx : Int} : srF (v :: p) st nx = (73 :: (List.replicate (popN (st.length + 1) (st ++ [v]) nx) 79 ++ (srF p ((st ++ [v]).take (st.length + 1 - popN (st.length + 1) (st ++ [v]) nx)) (nx + popN (st.length + 1) (st ++ [v]) nx)).1), (srF p ((st ++ [v]).take (st.length + 1 - popN (st.length + 1) (st ++ [v]) nx)) (nx + popN (st.length + 1) (st ++ [v]) nx)).2) := rfl
theorem popN_snoc {s : List Int} {x : Int} {f : Nat} : popN (f + 1) (s ++ [x]) x = popN f s (x + 1) + 1 := by
  rw [popN, if_pos ⟨by simp, topI_snoc⟩, cutI_snoc]
theorem popN_stop {s : List Int} {nx : Int} {f : Nat} (h : s = [] ∨ topI s ≠ nx) : popN f s nx = 0 := by
  cases f with
  | zero => rfl
  | succ f =>
    rw [popN, if_neg]
    rintro ⟨a, b⟩
    rcases h with h | h
    · exact a h
    · exact h b
def srB (p : List Int) : Bool := isPermB p && (srF p [] 1).2.isEmpty
def srT (p : List Int) : List UInt8 := if srB p then (srF p [] 1).1 else []
set_option maxHeartbeats 1600000 in
theorem impl_SortingMoves_c {m0 : Bool} (p : List Int) (hl : p.length ≤ 1048576) : Fun Try.prog 32 [(.sl (.lent m0) (List.map (PV.int .i64) (p)))] [(.str (srT p)), (.bool (srB p))] := by
  by_cases hp : isPermB p = true
  · obtain ⟨h8, hq⟩ := isP_8 hp
    have e1 : srB p = (srF p [] 1).2.isEmpty := by rw [srB, hp, Bool.true_and]
    refine Fun.of (sg := sg0) (ts := [2, 3]) mo Try.func32 rfl rfl rfl rfl (by kernel_rfl) (by simp only [go_sem]) rfl ?_
    have fc : True := trivial
    repeat' first
      | with_reducible first | refine stp ?_ | refine q_blk_o rfl ?_ | (refine hK _ ?_; clear hK) | (refine hA ?_; clear hA hB) | (refine hB ?_; clear hA hB) | exact v_end0 | exact v_end0' | refine v_gb1 ?_ ?_ | refine v_gb0 ?_ ?_ | refine And.intro ?_ ?_
      | (with_reducible refine p_ok ?_; decide)
      | ((first | with_reducible first | refine v_region rfl rfl (fun K hK => ?_) | refine v_draws rfl rfl (fun K hK => ?_) | refine v_if (fun A B hA hB => ?_) | refine v_end rfl ?_ | refine v_fin1 ?_ | refine v_finC1 ?_ | refine v_finR1 ?_ | refine v_callE (impl_IsPerm_c _ ?_) ?_ | refine v_finO1 rfl ?_ | refine v_finN1 rfl ?_ ?_ | refine v_apj ?_ (fun j' => ?_) | refine v_stz ?_ ?_ ?_ ?_ ?_ | refine v_stq ?_ | refine v_cv1 ?_ ?_ ?_ | (intro hc; replace fc := And.intro hc fc; try simp only [hcs] at hc)) <;> (try simp (config := { maxSteps := 1000000 }) only [go_sem, ↓reduceIte, reduceCtorEq, Nat.reduceEqDiff, Nat.reduceAdd, Nat.reduceMul, Nat.reduceSub, Nat.reduceLeDiff, Int.reduceLT, Int.reduceLE, Int.reduceEq, Int.reduceSub, Int.reduceAdd, Int.reduceMul, Int.reduceNeg, Int.reduceToNat, hp, fc]) <;> (try with_reducible rfl))
    all_goals try (first | omega | (simp only [n_i64, n_u8]; omega) | (simp only [n_i64, n_u8, lnA]; omega) | (simp only [lnA]; done) | exact List.take_of_length_le (by simp))
    refine v_loop (fun ms1 S1 => ∃ (i : Nat) (out : List UInt8) (st : List Int) (junk : List Int) (nx : Int), S1.e 0 = .p (.sl (.lent m0) (List.map (PV.int .i64) (p))) ∧ S1.e 4 = .p (.str (out)) ∧ OwnL (S1.e 5) S1.h S1.n (PV.int .i64) (st.length) (st ++ junk) ∧ S1.e 6 = .p (.int .i64 (nx)) ∧ S1.e 13 = .p (.sl (.lent m0) (List.map (PV.int .i64) (p))) ∧ S1.e 14 = .p (.int .i64 (p.length)) ∧ S1.e 15 = .p (.int .i64 (i)) ∧ (i ≤ p.length) ∧ ((srF p [] 1).1 = out ++ (srF (p.drop i) st nx).1) ∧ ((srF p [] 1).2 = (srF (p.drop i) st nx).2) ∧ (nx + st.length = i + 1) ∧ (1 ≤ nx) ∧ ((out.length : Int) = i + nx - 1) ∧ ms1 = p.length - i) ((fun (i : Nat) (out : List UInt8) (st : List Int) (junk : List Int) (nx : Int) => p.length - i) (0) ([]) ([]) ([]) (1)) ?init1_4 ?body1_4
    case' init1_4 =>
      refine ⟨0, [], [], [], 1, ?_, ?_, ?_, ?_, ?_, ?_, ?_, ?_, ?_, ?_, ?_, ?_, ?_, rfl⟩
      all_goals (try simp only [go_sem, ↓reduceIte, reduceCtorEq, Nat.reduceEqDiff, Nat.reduceAdd, Nat.reduceMul, Nat.reduceSub, Nat.reduceLeDiff, Int.reduceLT, Int.reduceLE, Int.reduceEq, Int.reduceSub, Int.reduceAdd, Int.reduceMul, Int.reduceNeg, Int.reduceToNat])
      repeat' refine And.intro ?_ ?_
      all_goals try first | rfl | omega | (simp only [lnA] <;> omega) | ((first | refine stp ?_ | refine dkz_eq ?_ ?_) <;> first | rfl | omega | (simp only [lnA] <;> omega) | (simp only [lnA, List.append_assoc, List.cons_append, List.nil_append]; done) | skip)
    case' body1_4 =>
      rintro ms1 S1 ⟨i, out, st, junk, nx, h1_0, h1_4, o1_5, h1_6, h1_13, h1_14, h1_15, c1_0, c1_1, c1_2, c1_3, c1_4, c1_5, hm1⟩
      obtain ⟨i1_5, h1_5, b1_5, l1_5⟩ := o1_5.out
      have ni1_5 : ∀ c, (i1_5 = S1.n + c) = False := fun c => eq_false (by omega)
      have pi1_5 : ∀ c, (S1.n + c = i1_5) = False := fun c => eq_false (by omega)
      have qi1_5 : (i1_5 = S1.n) = False := eq_false (by omega)
      have ri1_5 : (S1.n = i1_5) = False := eq_false (by omega)
    · by_cases hi : i < p.length
      · rw [dropI_at hi, srF_cons] at c1_1 c1_2
        obtain ⟨v, ev⟩ : ∃ v, p.getD i 0 = v := ⟨_, rfl⟩
        rw [ev] at c1_1 c1_2
        obtain ⟨c0, hc0⟩ : ∃ c, popN (st.length + 1) (st ++ [v]) nx = c := ⟨_, rfl⟩
        have hcl := (popN_spec (f := st.length + 1) (st := st ++ [v]) (nx := nx) (by simp)).1
        rw [hc0, List.length_append, List.length_singleton] at hcl
        rw [hc0] at c1_1 c1_2
        have fc : True := trivial
        repeat' first
          | with_reducible first | refine stp ?_ | refine q_blk_o rfl ?_ | (refine hK _ ?_; clear hK) | (refine hA ?_; clear hA hB) | (refine hB ?_; clear hA hB) | exact v_end0 | exact v_end0' | refine v_gb1 ?_ ?_ | refine v_gb0 ?_ ?_ | refine And.intro ?_ ?_
          | (with_reducible refine p_ok ?_; decide)
          | ((first | with_reducible first | refine v_region rfl rfl (fun K hK => ?_) | refine v_draws rfl rfl (fun K hK => ?_) | refine v_if (fun A B hA hB => ?_) | refine v_end rfl ?_ | refine v_fin1 ?_ | refine v_finC1 ?_ | refine v_finR1 ?_ | refine v_callE (impl_IsPerm_c _ ?_) ?_ | refine v_finO1 rfl ?_ | refine v_finN1 rfl ?_ ?_ | refine v_apj ?_ (fun j' => ?_) | refine v_stz ?_ ?_ ?_ ?_ ?_ | refine v_stq ?_ | refine v_cv1 ?_ ?_ ?_ | (intro hc; replace fc := And.intro hc fc; try simp only [hcs] at hc)) <;> (try simp (config := { maxSteps := 1000000 }) only [go_sem, ↓reduceIte, reduceCtorEq, Nat.reduceEqDiff, Nat.reduceAdd, Nat.reduceMul, Nat.reduceSub, Nat.reduceLeDiff, Int.reduceLT, Int.reduceLE, Int.reduceEq, Int.reduceSub, Int.reduceAdd, Int.reduceMul, Int.reduceNeg, Int.reduceToNat, h1_0, h1_4, h1_6, h1_13, h1_14, h1_15, h1_5, b1_5, ni1_5, pi1_5, qi1_5, ri1_5, ev, fc]) <;> (try with_reducible rfl))
        all_goals try (first | omega | (simp only [n_i64, n_u8]; omega) | (simp only [n_i64, n_u8, lnA]; omega) | (simp only [lnA]; done) | exact List.take_of_length_le (by simp))
        refine v_loop (fun ms2 S2 => ∃ (c : Nat) (s2 : List Int) (j2 : List Int), S2.e 0 = .p (.sl (.lent m0) (List.map (PV.int .i64) (p))) ∧ S2.e 4 = .p (.str (((out ++ [73]) ++ List.replicate c 79))) ∧ OwnL (S2.e 5) S2.h S2.n (PV.int .i64) (s2.length) (s2 ++ j2) ∧ S2.e 6 = .p (.int .i64 ((nx + c))) ∧ S2.e 8 = .p (.int .i64 (v)) ∧ S2.e 13 = .p (.sl (.lent m0) (List.map (PV.int .i64) (p))) ∧ S2.e 14 = .p (.int .i64 (p.length)) ∧ S2.e 15 = .p (.int .i64 (i)) ∧ (s2 = (st ++ [v]).take (st.length + 1 - c)) ∧ (c ≤ st.length + 1) ∧ (s2.length = st.length + 1 - c) ∧ (popN s2.length s2 (nx + c) + c = c0) ∧ S1.n ≤ S2.n ∧ ms2 = s2.length) ((fun (c : Nat) (s2 : List Int) (j2 : List Int) => s2.length) (0) (st ++ [v]) (j')) ?init2_5 ?body2_5
        case' init2_5 =>
          refine ⟨0, st ++ [v], j', ?_, ?_, ?_, ?_, ?_, ?_, ?_, ?_, ?_, ?_, ?_, ?_, ?_, rfl⟩
          all_goals (try simp only [go_sem, ↓reduceIte, reduceCtorEq, Nat.reduceEqDiff, Nat.reduceAdd, Nat.reduceMul, Nat.reduceSub, Nat.reduceLeDiff, Int.reduceLT, Int.reduceLE, Int.reduceEq, Int.reduceSub, Int.reduceAdd, Int.reduceMul, Int.reduceNeg, Int.reduceToNat, h1_0, h1_4, h1_6, h1_13, h1_14, h1_15, h1_5, b1_5, ni1_5, pi1_5, qi1_5, ri1_5])
          repeat' refine And.intro ?_ ?_
          all_goals try first | rfl | omega | (simp only [lnA] <;> omega) | ((first | refine stp ?_ | refine dkz_eq ?_ ?_) <;> first | rfl | omega | (simp only [lnA] <;> omega) | (simp only [lnA, List.append_assoc, List.cons_append, List.nil_append]; done) | skip)
        case' body2_5 =>
          rintro ms2 S2 ⟨c, s2, j2, h2_0, h2_4, o2_5, h2_6, h2_8, h2_13, h2_14, h2_15, c2_0, c2_1, c2_2, c2_3, u2_0, hm2⟩
          obtain ⟨i2_5, h2_5, b2_5, l2_5⟩ := o2_5.out
          have ni2_5 : ∀ c, (i2_5 = S2.n + c) = False := fun c => eq_false (by omega)
          have pi2_5 : ∀ c, (S2.n + c = i2_5) = False := fun c => eq_false (by omega)
          have qi2_5 : (i2_5 = S2.n) = False := eq_false (by omega)
          have ri2_5 : (S2.n = i2_5) = False := eq_false (by omega)
        · by_cases hd : s2 ≠ [] ∧ topI s2 = nx + c
          · obtain ⟨s, x, hs⟩ := snoc_of hd.1
            have ls := congrArg List.length hs
            rw [List.length_append, List.length_singleton] at ls
            have e3 : (s2 ++ j2).getD ((s2.length : Int) - 1).toNat 0 = nx + c := by
              rw [show ((s2.length : Int) - 1).toNat = s2.length - 1 by omega, getD_app (by omega)]; exact hd.2
            have e9 : s2.take (s2.length - 1) = s := by rw [hs, cutI_snoc]
            have e8 : popN s2.length s2 (nx + c) = popN s.length s (nx + c + 1) + 1 := by
              have : x = nx + c := by rw [← hd.2, hs, topI_snoc]
              rw [hs, List.length_append, List.length_singleton, ← this, popN_snoc]
            have fc : True := trivial
            repeat' first
              | with_reducible first | refine stp ?_ | refine q_blk_o rfl ?_ | (refine hK _ ?_; clear hK) | (refine hA ?_; clear hA hB) | (refine hB ?_; clear hA hB) | exact v_end0 | exact v_end0' | refine v_gb1 ?_ ?_ | refine v_gb0 ?_ ?_ | refine And.intro ?_ ?_
              | (with_reducible refine p_ok ?_; decide)
              | ((first | with_reducible first | refine v_region rfl rfl (fun K hK => ?_) | refine v_draws rfl rfl (fun K hK => ?_) | refine v_if (fun A B hA hB => ?_) | refine v_end rfl ?_ | refine v_fin1 ?_ | refine v_finC1 ?_ | refine v_finR1 ?_ | refine v_callE (impl_IsPerm_c _ ?_) ?_ | refine v_finO1 rfl ?_ | refine v_finN1 rfl ?_ ?_ | refine v_apj ?_ (fun j' => ?_) | refine v_stz ?_ ?_ ?_ ?_ ?_ | refine v_stq ?_ | refine v_cv1 ?_ ?_ ?_ | (intro hc; replace fc := And.intro hc fc; try simp only [hcs] at hc)) <;> (try simp (config := { maxSteps := 1000000 }) only [go_sem, ↓reduceIte, reduceCtorEq, Nat.reduceEqDiff, Nat.reduceAdd, Nat.reduceMul, Nat.reduceSub, Nat.reduceLeDiff, Int.reduceLT, Int.reduceLE, Int.reduceEq, Int.reduceSub, Int.reduceAdd, Int.reduceMul, Int.reduceNeg, Int.reduceToNat, h2_0, h2_4, h2_6, h2_8, h2_13, h2_14, h2_15, h2_5, b2_5, ni2_5, pi2_5, qi2_5, ri2_5, e3, fc]) <;> (try with_reducible rfl))
            all_goals try (first | omega | (simp only [n_i64, n_u8]; omega) | (simp only [n_i64, n_u8, lnA]; omega) | (simp only [lnA]; done) | exact List.take_of_length_le (by simp))
            · focus
                refine q_lp_n ((fun (c : Nat) (s2 : List Int) (j2 : List Int) => s2.length) (c+1) (s) (s2.drop (s2.length - 1) ++ j2)) ?_ ⟨c+1, s, s2.drop (s2.length - 1) ++ j2, ?_, ?_, ?_, ?_, ?_, ?_, ?_, ?_, ?_, ?_, ?_, ?_, ?_, rfl⟩
                all_goals (try simp only [go_sem, ↓reduceIte, reduceCtorEq, Nat.reduceEqDiff, Nat.reduceAdd, Nat.reduceMul, Nat.reduceSub, Nat.reduceLeDiff, Int.reduceLT, Int.reduceLE, Int.reduceEq, Int.reduceSub, Int.reduceAdd, Int.reduceMul, Int.reduceNeg, Int.reduceToNat, h2_0, h2_4, h2_6, h2_8, h2_13, h2_14, h2_15, h2_5, b2_5, ni2_5, pi2_5, qi2_5, ri2_5])
                repeat' refine And.intro ?_ ?_
                all_goals try first | rfl | omega | (simp only [lnA] <;> omega) | ((first | refine stp ?_ | refine dkz_eq ?_ ?_) <;> first | rfl | omega | (simp only [lnA] <;> omega) | (simp only [lnA, List.append_assoc, List.cons_append, List.nil_append]; done) | skip)
              · rw [List.replicate_succ']
              · rw [← List.append_assoc]; congr 1; rw [← e9, List.take_append_drop]
              · rw [← e9, c2_2, c2_0, List.take_take]; congr 1; omega
              · rw [show nx + ((c + 1 : Nat) : Int) = nx + c + 1 by omega]; omega
          · have e4 := popN_stop (f := s2.length) (s := s2) (nx := nx + c) (by
              by_cases q : s2 = []
              · exact .inl q
              · exact .inr fun g => hd ⟨q, g⟩)
            obtain rfl : c = c0 := by omega
            by_cases hz : s2 = []
            · have f0 : s2.length = 0 := by rw [hz]; rfl
              have fc : True := trivial
              repeat' first
                | with_reducible first | refine stp ?_ | refine q_blk_o rfl ?_ | (refine hK _ ?_; clear hK) | (refine hA ?_; clear hA hB) | (refine hB ?_; clear hA hB) | exact v_end0 | exact v_end0' | refine v_gb1 ?_ ?_ | refine v_gb0 ?_ ?_ | refine And.intro ?_ ?_
                | (with_reducible refine p_ok ?_; decide)
                | ((first | with_reducible first | refine v_region rfl rfl (fun K hK => ?_) | refine v_draws rfl rfl (fun K hK => ?_) | refine v_if (fun A B hA hB => ?_) | refine v_end rfl ?_ | refine v_fin1 ?_ | refine v_finC1 ?_ | refine v_finR1 ?_ | refine v_callE (impl_IsPerm_c _ ?_) ?_ | refine v_finO1 rfl ?_ | refine v_finN1 rfl ?_ ?_ | refine v_apj ?_ (fun j' => ?_) | refine v_stz ?_ ?_ ?_ ?_ ?_ | refine v_stq ?_ | refine v_cv1 ?_ ?_ ?_ | (intro hc; replace fc := And.intro hc fc; try simp only [hcs] at hc)) <;> (try simp (config := { maxSteps := 1000000 }) only [go_sem, ↓reduceIte, reduceCtorEq, Nat.reduceEqDiff, Nat.reduceAdd, Nat.reduceMul, Nat.reduceSub, Nat.reduceLeDiff, Int.reduceLT, Int.reduceLE, Int.reduceEq, Int.reduceSub, Int.reduceAdd, Int.reduceMul, Int.reduceNeg, Int.reduceToNat, h2_0, h2_4, h2_6, h2_8, h2_13, h2_14, h2_15, h2_5, b2_5, ni2_5, pi2_5, qi2_5, ri2_5, fc]) <;> (try with_reducible rfl))
              all_goals try (first | omega | (simp only [n_i64, n_u8]; omega) | (simp only [n_i64, n_u8, lnA]; omega) | (simp only [lnA]; done) | exact List.take_of_length_le (by simp))
              focus
                refine q_lp_n ((fun (i : Nat) (out : List UInt8) (st : List Int) (junk : List Int) (nx : Int) => p.length - i) (i+1) ((out ++ [73]) ++ List.replicate c 79) (s2) (j2) (nx + c)) ?_ ⟨i+1, (out ++ [73]) ++ List.replicate c 79, s2, j2, nx + c, ?_, ?_, ?_, ?_, ?_, ?_, ?_, ?_, ?_, ?_, ?_, ?_, ?_, rfl⟩
                all_goals (try simp only [go_sem, ↓reduceIte, reduceCtorEq, Nat.reduceEqDiff, Nat.reduceAdd, Nat.reduceMul, Nat.reduceSub, Nat.reduceLeDiff, Int.reduceLT, Int.reduceLE, Int.reduceEq, Int.reduceSub, Int.reduceAdd, Int.reduceMul, Int.reduceNeg, Int.reduceToNat, h2_0, h2_4, h2_6, h2_8, h2_13, h2_14, h2_15, h2_5, b2_5, ni2_5, pi2_5, qi2_5, ri2_5])
                repeat' refine And.intro ?_ ?_
                all_goals try first | rfl | omega | (simp only [lnA] <;> omega) | ((first | refine stp ?_ | refine dkz_eq ?_ ?_) <;> first | rfl | omega | (simp only [lnA] <;> omega) | (simp only [lnA, List.append_assoc, List.cons_append, List.nil_append]; done) | skip)
              · rw [c1_1, ← c2_0]
              · rw [c1_2, ← c2_0]
              all_goals first | (simp; omega) | trace_state
            · have hp1 := List.length_pos_iff.2 hz
              have e3 : ((s2 ++ j2).getD ((s2.length : Int) - 1).toNat 0 = nx + c) = False := by
                rw [show ((s2.length : Int) - 1).toNat = s2.length - 1 by omega, getD_app (by omega)]
                exact eq_false fun g => hd ⟨hz, g⟩
              have fc : True := trivial
              repeat' first
                | with_reducible first | refine stp ?_ | refine q_blk_o rfl ?_ | (refine hK _ ?_; clear hK) | (refine hA ?_; clear hA hB) | (refine hB ?_; clear hA hB) | exact v_end0 | exact v_end0' | refine v_gb1 ?_ ?_ | refine v_gb0 ?_ ?_ | refine And.intro ?_ ?_
                | (with_reducible refine p_ok ?_; decide)
                | ((first | with_reducible first | refine v_region rfl rfl (fun K hK => ?_) | refine v_draws rfl rfl (fun K hK => ?_) | refine v_if (fun A B hA hB => ?_) | refine v_end rfl ?_ | refine v_fin1 ?_ | refine v_finC1 ?_ | refine v_finR1 ?_ | refine v_callE (impl_IsPerm_c _ ?_) ?_ | refine v_finO1 rfl ?_ | refine v_finN1 rfl ?_ ?_ | refine v_apj ?_ (fun j' => ?_) | refine v_stz ?_ ?_ ?_ ?_ ?_ | refine v_stq ?_ | refine v_cv1 ?_ ?_ ?_ | (intro hc; replace fc := And.intro hc fc; try simp only [hcs] at hc)) <;> (try simp (config := { maxSteps := 1000000 }) only [go_sem, ↓reduceIte, reduceCtorEq, Nat.reduceEqDiff, Nat.reduceAdd, Nat.reduceMul, Nat.reduceSub, Nat.reduceLeDiff, Int.reduceLT, Int.reduceLE, Int.reduceEq, Int.reduceSub, Int.reduceAdd, Int.reduceMul, Int.reduceNeg, Int.reduceToNat, h2_0, h2_4, h2_6, h2_8, h2_13, h2_14, h2_15, h2_5, b2_5, ni2_5, pi2_5, qi2_5, ri2_5, e3, fc]) <;> (try with_reducible rfl))
              all_goals try (first | omega | (simp only [n_i64, n_u8]; omega) | (simp only [n_i64, n_u8, lnA]; omega) | (simp only [lnA]; done) | exact List.take_of_length_le (by simp))
              focus
                refine q_lp_n ((fun (i : Nat) (out : List UInt8) (st : List Int) (junk : List Int) (nx : Int) => p.length - i) (i+1) ((out ++ [73]) ++ List.replicate c 79) (s2) (j2) (nx + c)) ?_ ⟨i+1, (out ++ [73]) ++ List.replicate c 79, s2, j2, nx + c, ?_, ?_, ?_, ?_, ?_, ?_, ?_, ?_, ?_, ?_, ?_, ?_, ?_, rfl⟩
                all_goals (try simp only [go_sem, ↓reduceIte, reduceCtorEq, Nat.reduceEqDiff, Nat.reduceAdd, Nat.reduceMul, Nat.reduceSub, Nat.reduceLeDiff, Int.reduceLT, Int.reduceLE, Int.reduceEq, Int.reduceSub, Int.reduceAdd, Int.reduceMul, Int.reduceNeg, Int.reduceToNat, h2_0, h2_4, h2_6, h2_8, h2_13, h2_14, h2_15, h2_5, b2_5, ni2_5, pi2_5, qi2_5, ri2_5])
                repeat' refine And.intro ?_ ?_
                all_goals try first | rfl | omega | (simp only [lnA] <;> omega) | ((first | refine stp ?_ | refine dkz_eq ?_ ?_) <;> first | rfl | omega | (simp only [lnA] <;> omega) | (simp only [lnA, List.append_assoc, List.cons_append, List.nil_append]; done) | skip)
              · rw [c1_1, ← c2_0]
              · rw [c1_2, ← c2_0]
              all_goals first | (simp; omega) | trace_state
        · exact (List.take_of_length_le (by simp)).symm
        · rw [List.length_append, List.length_singleton, Int.add_zero, hc0]
      · rw [List.drop_of_length_le (by omega), srF, List.append_nil] at c1_1
        rw [List.drop_of_length_le (by omega), srF] at c1_2
        simp only [] at c1_2
        by_cases hz : st = []
        · have f0 : st.length = 0 := by rw [hz]; rfl
          have e5 : srB p = true := by rw [e1, c1_2, hz]; rfl
          have fc : True := trivial
          repeat' first
            | with_reducible first | refine stp ?_ | refine q_blk_o rfl ?_ | (refine hK _ ?_; clear hK) | (refine hA ?_; clear hA hB) | (refine hB ?_; clear hA hB) | exact v_end0 | exact v_end0' | refine v_gb1 ?_ ?_ | refine v_gb0 ?_ ?_ | refine And.intro ?_ ?_
            | (with_reducible refine p_ok ?_; decide)
            | ((first | with_reducible first | refine v_region rfl rfl (fun K hK => ?_) | refine v_draws rfl rfl (fun K hK => ?_) | refine v_if (fun A B hA hB => ?_) | refine v_end rfl ?_ | refine v_fin1 ?_ | refine v_finC1 ?_ | refine v_finR1 ?_ | refine v_callE (impl_IsPerm_c _ ?_) ?_ | refine v_finO1 rfl ?_ | refine v_finN1 rfl ?_ ?_ | refine v_apj ?_ (fun j' => ?_) | refine v_stz ?_ ?_ ?_ ?_ ?_ | refine v_stq ?_ | refine v_cv1 ?_ ?_ ?_ | (intro hc; replace fc := And.intro hc fc; try simp only [hcs] at hc)) <;> (try simp (config := { maxSteps := 1000000 }) only [go_sem, ↓reduceIte, reduceCtorEq, Nat.reduceEqDiff, Nat.reduceAdd, Nat.reduceMul, Nat.reduceSub, Nat.reduceLeDiff, Int.reduceLT, Int.reduceLE, Int.reduceEq, Int.reduceSub, Int.reduceAdd, Int.reduceMul, Int.reduceNeg, Int.reduceToNat, h1_0, h1_4, h1_6, h1_13, h1_14, h1_15, h1_5, b1_5, ni1_5, pi1_5, qi1_5, ri1_5, fc]) <;> (try with_reducible rfl))
          all_goals try (first | omega | (simp only [n_i64, n_u8]; omega) | (simp only [n_i64, n_u8, lnA]; omega) | (simp only [lnA]; done) | exact List.take_of_length_le (by simp))
          · rw [srT, if_pos e5, c1_1]
          · exact e5.symm
        · have hp1 := List.length_pos_iff.2 hz
          have e5 : srB p = false := by rw [e1, c1_2]; cases st with | nil => exact absurd rfl hz | cons => rfl
          have fc : True := trivial
          repeat' first
            | with_reducible first | refine stp ?_ | refine q_blk_o rfl ?_ | (refine hK _ ?_; clear hK) | (refine hA ?_; clear hA hB) | (refine hB ?_; clear hA hB) | exact v_end0 | exact v_end0' | refine v_gb1 ?_ ?_ | refine v_gb0 ?_ ?_ | refine And.intro ?_ ?_
            | (with_reducible refine p_ok ?_; decide)
            | ((first | with_reducible first | refine v_region rfl rfl (fun K hK => ?_) | refine v_draws rfl rfl (fun K hK => ?_) | refine v_if (fun A B hA hB => ?_) | refine v_end rfl ?_ | refine v_fin1 ?_ | refine v_finC1 ?_ | refine v_finR1 ?_ | refine v_callE (impl_IsPerm_c _ ?_) ?_ | refine v_finO1 rfl ?_ | refine v_finN1 rfl ?_ ?_ | refine v_apj ?_ (fun j' => ?_) | refine v_stz ?_ ?_ ?_ ?_ ?_ | refine v_stq ?_ | refine v_cv1 ?_ ?_ ?_ | (intro hc; replace fc := And.intro hc fc; try simp only [hcs] at hc)) <;> (try simp (config := { maxSteps := 1000000 }) only [go_sem, ↓reduceIte, reduceCtorEq, Nat.reduceEqDiff, Nat.reduceAdd, Nat.reduceMul, Nat.reduceSub, Nat.reduceLeDiff, Int.reduceLT, Int.reduceLE, Int.reduceEq, Int.reduceSub, Int.reduceAdd, Int.reduceMul, Int.reduceNeg, Int.reduceToNat, h1_0, h1_4, h1_6, h1_13, h1_14, h1_15, h1_5, b1_5, ni1_5, pi1_5, qi1_5, ri1_5, fc]) <;> (try with_reducible rfl))
          all_goals try (first | omega | (simp only [n_i64, n_u8]; omega) | (simp only [n_i64, n_u8, lnA]; omega) | (simp only [lnA]; done) | exact List.take_of_length_le (by simp))
          · rw [srT, e5]; rfl
          · exact e5.symm
  · rw [Bool.not_eq_true] at hp
    have e1 : srB p = false := by rw [srB, hp, Bool.false_and]
    have e2 : srT p = [] := by rw [srT, e1]; rfl
    rw [e1, e2]
    refine Fun.of (sg := sg0) (ts := [2, 3]) mo Try.func32 rfl rfl rfl rfl (by kernel_rfl) (by simp only [go_sem]) rfl ?_
    have fc : True := trivial
    repeat' first
      | with_reducible first | refine stp ?_ | refine q_blk_o rfl ?_ | (refine hK _ ?_; clear hK) | (refine hA ?_; clear hA hB) | (refine hB ?_; clear hA hB) | exact v_end0 | exact v_end0' | refine v_gb1 ?_ ?_ | refine v_gb0 ?_ ?_ | refine And.intro ?_ ?_
      | (with_reducible refine p_ok ?_; decide)
      | ((first | with_reducible first | refine v_region rfl rfl (fun K hK => ?_) | refine v_draws rfl rfl (fun K hK => ?_) | refine v_if (fun A B hA hB => ?_) | refine v_end rfl ?_ | refine v_fin1 ?_ | refine v_finC1 ?_ | refine v_finR1 ?_ | refine v_callE (impl_IsPerm_c _ ?_) ?_ | refine v_finO1 rfl ?_ | refine v_finN1 rfl ?_ ?_ | refine v_apj ?_ (fun j' => ?_) | refine v_stz ?_ ?_ ?_ ?_ ?_ | refine v_stq ?_ | refine v_cv1 ?_ ?_ ?_ | (intro hc; replace fc := And.intro hc fc; try simp only [hcs] at hc)) <;> (try simp (config := { maxSteps := 1000000 }) only [go_sem, ↓reduceIte, reduceCtorEq, Nat.reduceEqDiff, Nat.reduceAdd, Nat.reduceMul, Nat.reduceSub, Nat.reduceLeDiff, Int.reduceLT, Int.reduceLE, Int.reduceEq, Int.reduceSub, Int.reduceAdd, Int.reduceMul, Int.reduceNeg, Int.reduceToNat, hp, fc]) <;> (try with_reducible rfl))
    all_goals try (first | omega | (simp only [n_i64, n_u8]; omega) | (simp only [n_i64, n_u8, lnA]; omega) | (simp only [lnA]; done) | exact List.take_of_length_le (by simp))
set_option maxHeartbeats 1600000 in
theorem spec_SortingMoves_c {m0 : Bool} (p : List Int) (hl : p.length ≤ 1048576) : Fun Try.prog 33 [(.sl (.lent m0) (List.map (PV.int .i64) (p)))] [(.str (srT p)), (.bool (srB p))] := by
  by_cases hp : isPermB p = true
  · obtain ⟨h8, hq⟩ := isP_8 hp
    have e1 : srB p = (srF p [] 1).2.isEmpty := by rw [srB, hp, Bool.true_and]
    refine Fun.of (sg := sg0) (ts := [2, 3]) mo Try.func33 rfl rfl rfl rfl (by kernel_rfl) (by simp only [go_sem]) rfl ?_
    have fc : True := trivial
    repeat' first
      | with_reducible first | refine stp ?_ | refine q_blk_o rfl ?_ | (refine hK _ ?_; clear hK) | (refine hA ?_; clear hA hB) | (refine hB ?_; clear hA hB) | exact v_end0 | exact v_end0' | refine v_gb1 ?_ ?_ | refine v_gb0 ?_ ?_ | refine And.intro ?_ ?_
      | (with_reducible refine p_ok ?_; decide)
      | ((first | with_reducible first | refine v_region rfl rfl (fun K hK => ?_) | refine v_draws rfl rfl (fun K hK => ?_) | refine v_if (fun A B hA hB => ?_) | refine v_end rfl ?_ | refine v_fin1 ?_ | refine v_finC1 ?_ | refine v_finR1 ?_ | refine v_callE (spec_IsPerm_c _ ?_) ?_ | refine v_finO1 rfl ?_ | refine v_finN1 rfl ?_ ?_ | refine v_apj ?_ (fun j' => ?_) | refine v_stz ?_ ?_ ?_ ?_ ?_ | refine v_stq ?_ | refine v_cv1 ?_ ?_ ?_ | (intro hc; replace fc := And.intro hc fc; try simp only [hcs] at hc)) <;> (try simp (config := { maxSteps := 1000000 }) only [go_sem, ↓reduceIte, reduceCtorEq, Nat.reduceEqDiff, Nat.reduceAdd, Nat.reduceMul, Nat.reduceSub, Nat.reduceLeDiff, Int.reduceLT, Int.reduceLE, Int.reduceEq, Int.reduceSub, Int.reduceAdd, Int.reduceMul, Int.reduceNeg, Int.reduceToNat, hp, fc]) <;> (try with_reducible rfl))
    all_goals try (first | omega | (simp only [n_i64, n_u8]; omega) | (simp only [n_i64, n_u8, lnA]; omega) | (simp only [lnA]; done) | exact List.take_of_length_le (by simp))
    refine v_loop (fun ms1 S1 => ∃ (i : Nat) (out : List UInt8) (st : List Int) (junk : List Int) (nx : Int), S1.e 0 = .p (.sl (.lent m0) (List.map (PV.int .i64) (p))) ∧ S1.e 4 = .p (.str (out)) ∧ OwnL (S1.e 5) S1.h S1.n (PV.int .i64) (st.length) (st ++ junk) ∧ S1.e 6 = .p (.int .i64 (nx)) ∧ S1.e 7 = .p (.int .i64 (i)) ∧ (i ≤ p.length) ∧ ((srF p [] 1).1 = out ++ (srF (p.drop i) st nx).1) ∧ ((srF p [] 1).2 = (srF (p.drop i) st nx).2) ∧ (nx + st.length = i + 1) ∧ (1 ≤ nx) ∧ ((out.length : Int) = i + nx - 1) ∧ ms1 = p.length - i) ((fun (i : Nat) (out : List UInt8) (st : List Int) (junk : List Int) (nx : Int) => p.length - i) (0) ([]) ([]) ([]) (1)) ?init1_6 ?body1_6
    case' init1_6 =>
      refine ⟨0, [], [], [], 1, ?_, ?_, ?_, ?_, ?_, ?_, ?_, ?_, ?_, ?_, ?_, rfl⟩
      all_goals (try simp only [go_sem, ↓reduceIte, reduceCtorEq, Nat.reduceEqDiff, Nat.reduceAdd, Nat.reduceMul, Nat.reduceSub, Nat.reduceLeDiff, Int.reduceLT, Int.reduceLE, Int.reduceEq, Int.reduceSub, Int.reduceAdd, Int.reduceMul, Int.reduceNeg, Int.reduceToNat])
      repeat' refine And.intro ?_ ?_
      all_goals try first | rfl | omega | (simp only [lnA] <;> omega) | ((first | refine stp ?_ | refine dkz_eq ?_ ?_) <;> first | rfl | omega | (simp only [lnA] <;> omega) | (simp only [lnA, List.append_assoc, List.cons_append, List.nil_append]; done) | skip)
    case' body1_6 =>
      rintro ms1 S1 ⟨i, out, st, junk, nx, h1_0, h1_4, o1_5, h1_6, h1_7, c1_0, c1_1, c1_2, c1_3, c1_4, c1_5, hm1⟩
      obtain ⟨i1_5, h1_5, b1_5, l1_5⟩ := o1_5.out
      have ni1_5 : ∀ c, (i1_5 = S1.n + c) = False := fun c => eq_false (by omega)
      have pi1_5 : ∀ c, (S1.n + c = i1_5) = False := fun c => eq_false (by omega)
      have qi1_5 : (i1_5 = S1.n) = False := eq_false (by omega)
      have ri1_5 : (S1.n = i1_5) = False := eq_false (by omega)
    · by_cases hi : i < p.length
      · rw [dropI_at hi, srF_cons] at c1_1 c1_2
        obtain ⟨v, ev⟩ : ∃ v, p.getD i 0 = v := ⟨_, rfl⟩
        rw [ev] at c1_1 c1_2
        obtain ⟨c0, hc0⟩ : ∃ c, popN (st.length + 1) (st ++ [v]) nx = c := ⟨_, rfl⟩
        have hcl := (popN_spec (f := st.length + 1) (st := st ++ [v]) (nx := nx) (by simp)).1
        rw [hc0, List.length_append, List.length_singleton] at hcl
        rw [hc0] at c1_1 c1_2
        have fc : True := trivial
        repeat' first
          | with_reducible first | refine stp ?_ | refine q_blk_o rfl ?_ | (refine hK _ ?_; clear hK) | (refine hA ?_; clear hA hB) | (refine hB ?_; clear hA hB) | exact v_end0 | exact v_end0' | refine v_gb1 ?_ ?_ | refine v_gb0 ?_ ?_ | refine And.intro ?_ ?_
          | (with_reducible refine p_ok ?_; decide)
          | ((first | with_reducible first | refine v_region rfl rfl (fun K hK => ?_) | refine v_draws rfl rfl (fun K hK => ?_) | refine v_if (fun A B hA hB => ?_) | refine v_end rfl ?_ | refine v_fin1 ?_ | refine v_finC1 ?_ | refine v_finR1 ?_ | refine v_callE (spec_IsPerm_c _ ?_) ?_ | refine v_finO1 rfl ?_ | refine v_finN1 rfl ?_ ?_ | refine v_apj ?_ (fun j' => ?_) | refine v_stz ?_ ?_ ?_ ?_ ?_ | refine v_stq ?_ | refine v_cv1 ?_ ?_ ?_ | (intro hc; replace fc := And.intro hc fc; try simp only [hcs] at hc)) <;> (try simp (config := { maxSteps := 1000000 }) only [go_sem, ↓reduceIte, reduceCtorEq, Nat.reduceEqDiff, Nat.reduceAdd, Nat.reduceMul, Nat.reduceSub, Nat.reduceLeDiff, Int.reduceLT, Int.reduceLE, Int.reduceEq, Int.reduceSub, Int.reduceAdd, Int.reduceMul, Int.reduceNeg, Int.reduceToNat, h1_0, h1_4, h1_6, h1_7, h1_5, b1_5, ni1_5, pi1_5, qi1_5, ri1_5, ev, fc]) <;> (try with_reducible rfl))
        all_goals try (first | omega | (simp only [n_i64, n_u8]; omega) | (simp only [n_i64, n_u8, lnA]; omega) | (simp only [lnA]; done) | exact List.take_of_length_le (by simp))
        refine v_loop (fun ms2 S2 => ∃ (c : Nat) (s2 : List Int) (j2 : List Int), S2.e 0 = .p (.sl (.lent m0) (List.map (PV.int .i64) (p))) ∧ S2.e 4 = .p (.str (((out ++ [73]) ++ List.replicate c 79))) ∧ OwnL (S2.e 5) S2.h S2.n (PV.int .i64) (s2.length) (s2 ++ j2) ∧ S2.e 6 = .p (.int .i64 ((nx + c))) ∧ S2.e 7 = .p (.int .i64 (i)) ∧ (s2 = (st ++ [v]).take (st.length + 1 - c)) ∧ (c ≤ st.length + 1) ∧ (s2.length = st.length + 1 - c) ∧ (popN s2.length s2 (nx + c) + c = c0) ∧ S1.n ≤ S2.n ∧ ms2 = s2.length) ((fun (c : Nat) (s2 : List Int) (j2 : List Int) => s2.length) (0) (st ++ [v]) (j')) ?init2_7 ?body2_7
        case' init2_7 =>
          refine ⟨0, st ++ [v], j', ?_, ?_, ?_, ?_, ?_, ?_, ?_, ?_, ?_, ?_, rfl⟩
          all_goals (try simp only [go_sem, ↓reduceIte, reduceCtorEq, Nat.reduceEqDiff, Nat.reduceAdd, Nat.reduceMul, Nat.reduceSub, Nat.reduceLeDiff, Int.reduceLT, Int.reduceLE, Int.reduceEq, Int.reduceSub, Int.reduceAdd, Int.reduceMul, Int.reduceNeg, Int.reduceToNat, h1_0, h1_4, h1_6, h1_7, h1_5, b1_5, ni1_5, pi1_5, qi1_5, ri1_5])
          repeat' refine And.intro ?_ ?_
          all_goals try first | rfl | omega | (simp only [lnA] <;> omega) | ((first | refine stp ?_ | refine dkz_eq ?_ ?_) <;> first | rfl | omega | (simp only [lnA] <;> omega) | (simp only [lnA, List.append_assoc, List.cons_append, List.nil_append]; done) | skip)
        case' body2_7 =>
          rintro ms2 S2 ⟨c, s2, j2, h2_0, h2_4, o2_5, h2_6, h2_7, c2_0, c2_1, c2_2, c2_3, u2_0, hm2⟩
          obtain ⟨i2_5, h2_5, b2_5, l2_5⟩ := o2_5.out
          have ni2_5 : ∀ c, (i2_5 = S2.n + c) = False := fun c => eq_false (by omega)
          have pi2_5 : ∀ c, (S2.n + c = i2_5) = False := fun c => eq_false (by omega)
          have qi2_5 : (i2_5 = S2.n) = False := eq_false (by omega)
          have ri2_5 : (S2.n = i2_5) = False := eq_false (by omega)
        · by_cases hd : s2 ≠ [] ∧ topI s2 = nx + c
          · obtain ⟨s, x, hs⟩ := snoc_of hd.1
            have ls := congrArg List.length hs
            rw [List.length_append, List.length_singleton] at ls
            have e3 : (s2 ++ j2).getD ((s2.length : Int) - 1).toNat 0 = nx + c := by
              rw [show ((s2.length : Int) - 1).toNat = s2.length - 1 by omega, getD_app (by omega)]; exact hd.2
            have e9 : s2.take (s2.length - 1) = s := by rw [hs, cutI_snoc]
            have e8 : popN s2.length s2 (nx + c) = popN s.length s (nx + c + 1) + 1 := by
              have : x = nx + c := by rw [← hd.2, hs, topI_snoc]
              rw [hs, List.length_append, List.length_singleton, ← this, popN_snoc]
            have fc : True := trivial
            repeat' first
              | with_reducible first | refine stp ?_ | refine q_blk_o rfl ?_ | (refine hK _ ?_; clear hK) | (refine hA ?_; clear hA hB) | (refine hB ?_; clear hA hB) | exact v_end0 | exact v_end0' | refine v_gb1 ?_ ?_ | refine v_gb0 ?_ ?_ | refine And.intro ?_ ?_
              | (with_reducible refine p_ok ?_; decide)
              | ((first | with_reducible first | refine v_region rfl rfl (fun K hK => ?_) | refine v_draws rfl rfl (fun K hK => ?_) | refine v_if (fun A B hA hB => ?_) | refine v_end rfl ?_ | refine v_fin1 ?_ | refine v_finC1 ?_ | refine v_finR1 ?_ | refine v_callE (spec_IsPerm_c _ ?_) ?_ | refine v_finO1 rfl ?_ | refine v_finN1 rfl ?_ ?_ | refine v_apj ?_ (fun j' => ?_) | refine v_stz ?_ ?_ ?_ ?_ ?_ | refine v_stq ?_ | refine v_cv1 ?_ ?_ ?_ | (intro hc; replace fc := And.intro hc fc; try simp only [hcs] at hc)) <;> (try simp (config := { maxSteps := 1000000 }) only [go_sem, ↓reduceIte, reduceCtorEq, Nat.reduceEqDiff, Nat.reduceAdd, Nat.reduceMul, Nat.reduceSub, Nat.reduceLeDiff, Int.reduceLT, Int.reduceLE, Int.reduceEq, Int.reduceSub, Int.reduceAdd, Int.reduceMul, Int.reduceNeg, Int.reduceToNat, h2_0, h2_4, h2_6, h2_7, h2_5, b2_5, ni2_5, pi2_5, qi2_5, ri2_5, e3, ev, fc]) <;> (try with_reducible rfl))
            all_goals try (first | omega | (simp only [n_i64, n_u8]; omega) | (simp only [n_i64, n_u8, lnA]; omega) | (simp only [lnA]; done) | exact List.take_of_length_le (by simp))
            · focus
                refine q_lp_n ((fun (c : Nat) (s2 : List Int) (j2 : List Int) => s2.length) (c+1) (s) (s2.drop (s2.length - 1) ++ j2)) ?_ ⟨c+1, s, s2.drop (s2.length - 1) ++ j2, ?_, ?_, ?_, ?_, ?_, ?_, ?_, ?_, ?_, ?_, rfl⟩
                all_goals (try simp only [go_sem, ↓reduceIte, reduceCtorEq, Nat.reduceEqDiff, Nat.reduceAdd, Nat.reduceMul, Nat.reduceSub, Nat.reduceLeDiff, Int.reduceLT, Int.reduceLE, Int.reduceEq, Int.reduceSub, Int.reduceAdd, Int.reduceMul, Int.reduceNeg, Int.reduceToNat, h2_0, h2_4, h2_6, h2_7, h2_5, b2_5, ni2_5, pi2_5, qi2_5, ri2_5])
                repeat' refine And.intro ?_ ?_
                all_goals try first | rfl | omega | (simp only [lnA] <;> omega) | ((first | refine stp ?_ | refine dkz_eq ?_ ?_) <;> first | rfl | omega | (simp only [lnA] <;> omega) | (simp only [lnA, List.append_assoc, List.cons_append, List.nil_append]; done) | skip)
              · rw [List.replicate_succ']
              · rw [← List.append_assoc]; congr 1; rw [← e9, List.take_append_drop]
              · rw [← e9, c2_2, c2_0, List.take_take]; congr 1; omega
              · rw [show nx + ((c + 1 : Nat) : Int) = nx + c + 1 by omega]; omega
          · have e4 := popN_stop (f := s2.length) (s := s2) (nx := nx + c) (by
              by_cases q : s2 = []
              · exact .inl q
              · exact .inr fun g => hd ⟨q, g⟩)
            obtain rfl : c = c0 := by omega
            by_cases hz : s2 = []
            · have f0 : s2.length = 0 := by rw [hz]; rfl
              have fc : True := trivial
              repeat' first
                | with_reducible first | refine stp ?_ | refine q_blk_o rfl ?_ | (refine hK _ ?_; clear hK) | (refine hA ?_; clear hA hB) | (refine hB ?_; clear hA hB) | exact v_end0 | exact v_end0' | refine v_gb1 ?_ ?_ | refine v_gb0 ?_ ?_ | refine And.intro ?_ ?_
                | (with_reducible refine p_ok ?_; decide)
                | ((first | with_reducible first | refine v_region rfl rfl (fun K hK => ?_) | refine v_draws rfl rfl (fun K hK => ?_) | refine v_if (fun A B hA hB => ?_) | refine v_end rfl ?_ | refine v_fin1 ?_ | refine v_finC1 ?_ | refine v_finR1 ?_ | refine v_callE (spec_IsPerm_c _ ?_) ?_ | refine v_finO1 rfl ?_ | refine v_finN1 rfl ?_ ?_ | refine v_apj ?_ (fun j' => ?_) | refine v_stz ?_ ?_ ?_ ?_ ?_ | refine v_stq ?_ | refine v_cv1 ?_ ?_ ?_ | (intro hc; replace fc := And.intro hc fc; try simp only [hcs] at hc)) <;> (try simp (config := { maxSteps := 1000000 }) only [go_sem, ↓reduceIte, reduceCtorEq, Nat.reduceEqDiff, Nat.reduceAdd, Nat.reduceMul, Nat.reduceSub, Nat.reduceLeDiff, Int.reduceLT, Int.reduceLE, Int.reduceEq, Int.reduceSub, Int.reduceAdd, Int.reduceMul, Int.reduceNeg, Int.reduceToNat, h2_0, h2_4, h2_6, h2_7, h2_5, b2_5, ni2_5, pi2_5, qi2_5, ri2_5, fc]) <;> (try with_reducible rfl))
              all_goals try (first | omega | (simp only [n_i64, n_u8]; omega) | (simp only [n_i64, n_u8, lnA]; omega) | (simp only [lnA]; done) | exact List.take_of_length_le (by simp))
              focus
                refine q_lp_n ((fun (i : Nat) (out : List UInt8) (st : List Int) (junk : List Int) (nx : Int) => p.length - i) (i+1) ((out ++ [73]) ++ List.replicate c 79) (s2) (j2) (nx + c)) ?_ ⟨i+1, (out ++ [73]) ++ List.replicate c 79, s2, j2, nx + c, ?_, ?_, ?_, ?_, ?_, ?_, ?_, ?_, ?_, ?_, ?_, rfl⟩
                all_goals (try simp only [go_sem, ↓reduceIte, reduceCtorEq, Nat.reduceEqDiff, Nat.reduceAdd, Nat.reduceMul, Nat.reduceSub, Nat.reduceLeDiff, Int.reduceLT, Int.reduceLE, Int.reduceEq, Int.reduceSub, Int.reduceAdd, Int.reduceMul, Int.reduceNeg, Int.reduceToNat, h2_0, h2_4, h2_6, h2_7, h2_5, b2_5, ni2_5, pi2_5, qi2_5, ri2_5])
                repeat' refine And.intro ?_ ?_
                all_goals try first | rfl | omega | (simp only [lnA] <;> omega) | ((first | refine stp ?_ | refine dkz_eq ?_ ?_) <;> first | rfl | omega | (simp only [lnA] <;> omega) | (simp only [lnA, List.append_assoc, List.cons_append, List.nil_append]; done) | skip)
              · rw [c1_1, ← c2_0]
              · rw [c1_2, ← c2_0]
              all_goals first | (simp; omega) | trace_state
            · have hp1 := List.length_pos_iff.2 hz
              have e3 : ((s2 ++ j2).getD ((s2.length : Int) - 1).toNat 0 = nx + c) = False := by
                rw [show ((s2.length : Int) - 1).toNat = s2.length - 1 by omega, getD_app (by omega)]
                exact eq_false fun g => hd ⟨hz, g⟩
              have fc : True := trivial
              repeat' first
                | with_reducible first | refine stp ?_ | refine q_blk_o rfl ?_ | (refine hK _ ?_; clear hK) | (refine hA ?_; clear hA hB) | (refine hB ?_; clear hA hB) | exact v_end0 | exact v_end0' | refine v_gb1 ?_ ?_ | refine v_gb0 ?_ ?_ | refine And.intro ?_ ?_
                | (with_reducible refine p_ok ?_; decide)
                | ((first | with_reducible first | refine v_region rfl rfl (fun K hK => ?_) | refine v_draws rfl rfl (fun K hK => ?_) | refine v_if (fun A B hA hB => ?_) | refine v_end rfl ?_ | refine v_fin1 ?_ | refine v_finC1 ?_ | refine v_finR1 ?_ | refine v_callE (spec_IsPerm_c _ ?_) ?_ | refine v_finO1 rfl ?_ | refine v_finN1 rfl ?_ ?_ | refine v_apj ?_ (fun j' => ?_) | refine v_stz ?_ ?_ ?_ ?_ ?_ | refine v_stq ?_ | refine v_cv1 ?_ ?_ ?_ | (intro hc; replace fc := And.intro hc fc; try simp only [hcs] at hc)) <;> (try simp (config := { maxSteps := 1000000 }) only [go_sem, ↓reduceIte, reduceCtorEq, Nat.reduceEqDiff, Nat.reduceAdd, Nat.reduceMul, Nat.reduceSub, Nat.reduceLeDiff, Int.reduceLT, Int.reduceLE, Int.reduceEq, Int.reduceSub, Int.reduceAdd, Int.reduceMul, Int.reduceNeg, Int.reduceToNat, h2_0, h2_4, h2_6, h2_7, h2_5, b2_5, ni2_5, pi2_5, qi2_5, ri2_5, e3, ev, fc]) <;> (try with_reducible rfl))
              all_goals try (first | omega | (simp only [n_i64, n_u8]; omega) | (simp only [n_i64, n_u8, lnA]; omega) | (simp only [lnA]; done) | exact List.take_of_length_le (by simp))
              focus
                refine q_lp_n ((fun (i : Nat) (out : List UInt8) (st : List Int) (junk : List Int) (nx : Int) => p.length - i) (i+1) ((out ++ [73]) ++ List.replicate c 79) (s2) (j2) (nx + c)) ?_ ⟨i+1, (out ++ [73]) ++ List.replicate c 79, s2, j2, nx + c, ?_, ?_, ?_, ?_, ?_, ?_, ?_, ?_, ?_, ?_, ?_, rfl⟩
                all_goals (try simp only [go_sem, ↓reduceIte, reduceCtorEq, Nat.reduceEqDiff, Nat.reduceAdd, Nat.reduceMul, Nat.reduceSub, Nat.reduceLeDiff, Int.reduceLT, Int.reduceLE, Int.reduceEq, Int.reduceSub, Int.reduceAdd, Int.reduceMul, Int.reduceNeg, Int.reduceToNat, h2_0, h2_4, h2_6, h2_7, h2_5, b2_5, ni2_5, pi2_5, qi2_5, ri2_5])
                repeat' refine And.intro ?_ ?_
                all_goals try first | rfl | omega | (simp only [lnA] <;> omega) | ((first | refine stp ?_ | refine dkz_eq ?_ ?_) <;> first | rfl | omega | (simp only [lnA] <;> omega) | (simp only [lnA, List.append_assoc, List.cons_append, List.nil_append]; done) | skip)
              · rw [c1_1, ← c2_0]
              · rw [c1_2, ← c2_0]
              all_goals first | (simp; omega) | trace_state
        · exact (List.take_of_length_le (by simp)).symm
        · rw [List.length_append, List.length_singleton, Int.add_zero, hc0]
      · rw [List.drop_of_length_le (by omega), srF, List.append_nil] at c1_1
        rw [List.drop_of_length_le (by omega), srF] at c1_2
        simp only [] at c1_2
        by_cases hz : st = []
        · have f0 : st.length = 0 := by rw [hz]; rfl
          have e5 : srB p = true := by rw [e1, c1_2, hz]; rfl
          have fc : True := trivial
          repeat' first
            | with_reducible first | refine stp ?_ | refine q_blk_o rfl ?_ | (refine hK _ ?_; clear hK) | (refine hA ?_; clear hA hB) | (refine hB ?_; clear hA hB) | exact v_end0 | exact v_end0' | refine v_gb1 ?_ ?_ | refine v_gb0 ?_ ?_ | refine And.intro ?_ ?_
            | (with_reducible refine p_ok ?_; decide)
            | ((first | with_reducible first | refine v_region rfl rfl (fun K hK => ?_) | refine v_draws rfl rfl (fun K hK => ?_) | refine v_if (fun A B hA hB => ?_) | refine v_end rfl ?_ | refine v_fin1 ?_ | refine v_finC1 ?_ | refine v_finR1 ?_ | refine v_callE (spec_IsPerm_c _ ?_) ?_ | refine v_finO1 rfl ?_ | refine v_finN1 rfl ?_ ?_ | refine v_apj ?_ (fun j' => ?_) | refine v_stz ?_ ?_ ?_ ?_ ?_ | refine v_stq ?_ | refine v_cv1 ?_ ?_ ?_ | (intro hc; replace fc := And.intro hc fc; try simp only [hcs] at hc)) <;> (try simp (config := { maxSteps := 1000000 }) only [go_sem, ↓reduceIte, reduceCtorEq, Nat.reduceEqDiff, Nat.reduceAdd, Nat.reduceMul, Nat.reduceSub, Nat.reduceLeDiff, Int.reduceLT, Int.reduceLE, Int.reduceEq, Int.reduceSub, Int.reduceAdd, Int.reduceMul, Int.reduceNeg, Int.reduceToNat, h1_0, h1_4, h1_6, h1_7, h1_5, b1_5, ni1_5, pi1_5, qi1_5, ri1_5, fc]) <;> (try with_reducible rfl))
          all_goals try (first | omega | (simp only [n_i64, n_u8]; omega) | (simp only [n_i64, n_u8, lnA]; omega) | (simp only [lnA]; done) | exact List.take_of_length_le (by simp))
          · rw [srT, if_pos e5, c1_1]
          · exact e5.symm
        · have hp1 := List.length_pos_iff.2 hz
          have e5 : srB p = false := by rw [e1, c1_2]; cases st with | nil => exact absurd rfl hz | cons => rfl
          have fc : True := trivial
          repeat' first
            | with_reducible first | refine stp ?_ | refine q_blk_o rfl ?_ | (refine hK _ ?_; clear hK) | (refine hA ?_; clear hA hB) | (refine hB ?_; clear hA hB) | exact v_end0 | exact v_end0' | refine v_gb1 ?_ ?_ | refine v_gb0 ?_ ?_ | refine And.intro ?_ ?_
            | (with_reducible refine p_ok ?_; decide)
            | ((first | with_reducible first | refine v_region rfl rfl (fun K hK => ?_) | refine v_draws rfl rfl (fun K hK => ?_) | refine v_if (fun A B hA hB => ?_) | refine v_end rfl ?_ | refine v_fin1 ?_ | refine v_finC1 ?_ | refine v_finR1 ?_ | refine v_callE (spec_IsPerm_c _ ?_) ?_ | refine v_finO1 rfl ?_ | refine v_finN1 rfl ?_ ?_ | refine v_apj ?_ (fun j' => ?_) | refine v_stz ?_ ?_ ?_ ?_ ?_ | refine v_stq ?_ | refine v_cv1 ?_ ?_ ?_ | (intro hc; replace fc := And.intro hc fc; try simp only [hcs] at hc)) <;> (try simp (config := { maxSteps := 1000000 }) only [go_sem, ↓reduceIte, reduceCtorEq, Nat.reduceEqDiff, Nat.reduceAdd, Nat.reduceMul, Nat.reduceSub, Nat.reduceLeDiff, Int.reduceLT, Int.reduceLE, Int.reduceEq, Int.reduceSub, Int.reduceAdd, Int.reduceMul, Int.reduceNeg, Int.reduceToNat, h1_0, h1_4, h1_6, h1_7, h1_5, b1_5, ni1_5, pi1_5, qi1_5, ri1_5, fc]) <;> (try with_reducible rfl))
          all_goals try (first | omega | (simp only [n_i64, n_u8]; omega) | (simp only [n_i64, n_u8, lnA]; omega) | (simp only [lnA]; done) | exact List.take_of_length_le (by simp))
          · rw [srT, e5]; rfl
          · exact e5.symm
  · rw [Bool.not_eq_true] at hp
    have e1 : srB p = false := by rw [srB, hp, Bool.false_and]
    have e2 : srT p = [] := by rw [srT, e1]; rfl
    rw [e1, e2]
    refine Fun.of (sg := sg0) (ts := [2, 3]) mo Try.func33 rfl rfl rfl rfl (by kernel_rfl) (by simp only [go_sem]) rfl ?_
    have fc : True := trivial
    repeat' first
      | with_reducible first | refine stp ?_ | refine q_blk_o rfl ?_ | (refine hK _ ?_; clear hK) | (refine hA ?_; clear hA hB) | (refine hB ?_; clear hA hB) | exact v_end0 | exact v_end0' | refine v_gb1 ?_ ?_ | refine v_gb0 ?_ ?_ | refine And.intro ?_ ?_
      | (with_reducible refine p_ok ?_; decide)
      | ((first | with_reducible first | refine v_region rfl rfl (fun K hK => ?_) | refine v_draws rfl rfl (fun K hK => ?_) | refine v_if (fun A B hA hB => ?_) | refine v_end rfl ?_ | refine v_fin1 ?_ | refine v_finC1 ?_ | refine v_finR1 ?_ | refine v_callE (spec_IsPerm_c _ ?_) ?_ | refine v_finO1 rfl ?_ | refine v_finN1 rfl ?_ ?_ | refine v_apj ?_ (fun j' => ?_) | refine v_stz ?_ ?_ ?_ ?_ ?_ | refine v_stq ?_ | refine v_cv1 ?_ ?_ ?_ | (intro hc; replace fc := And.intro hc fc; try simp only [hcs] at hc)) <;> (try simp (config := { maxSteps := 1000000 }) only [go_sem, ↓reduceIte, reduceCtorEq, Nat.reduceEqDiff, Nat.reduceAdd, Nat.reduceMul, Nat.reduceSub, Nat.reduceLeDiff, Int.reduceLT, Int.reduceLE, Int.reduceEq, Int.reduceSub, Int.reduceAdd, Int.reduceMul, Int.reduceNeg, Int.reduceToNat, hp, fc]) <;> (try with_reducible rfl))
    all_goals try (first | omega | (simp only [n_i64, n_u8]; omega) | (simp only [n_i64, n_u8, lnA]; omega) | (simp only [lnA]; done) | exact List.take_of_length_le (by simp))
