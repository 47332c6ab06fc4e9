/-
  Permutations of a length counted. Conditions: none.
-/
import Derived.Test.YtmgobchehjpmfaaDoorPClass
set_option linter.unusedSimpArgs false
set_option linter.unusedVariables false
set_option maxRecDepth 20000
set_option linter.unusedSectionVars false
namespace Go.Gl
open Go Go.Proofs
variable [Amb]
def cntL (P : List Int → Bool) (L : List (List Int)) : Nat := (L.filter P).length
theorem cntL_succ {P : List Int → Bool} {L : List (List Int)} {k : Nat} (h : k < L.length) : cntL P (L.take (k + 1)) = cntL P (L.take k) + if P (L.getD k []) = true then 1 else 0 := by
  rw [cntL, take_getD (d := []) h, List.filter_append, List.length_append, cntL, List.filter_cons]
  split <;> simp
theorem cntL_le {P : List Int → Bool} {L : List (List Int)} {k : Nat} (h : k ≤ L.length) : cntL P (L.take k) ≤ k := by
  have := List.length_filter_le P (L.take k)
  simp at this; unfold cntL; omega
theorem impl_counted_c (n : Nat) (g : FuncId) (caps : List PV) (P : List Int → Bool) (hn : n ≤ 8) (hp : ∀ x ∈ permL n, Fun Tryd.prog g (.sl (.lent false) (List.map (PV.int .i64) x) :: caps.map PV.cell) [.bool (P x)]) : Fun Tryd.prog 61 [(.int .i64 (n)), (.fn g [] caps)] [(.int .i64 ((cntL P (permL n))))] := by
  refine Fun.of (sg := sg0) (ts := [4]) mo Tryd.func61 rfl rfl rfl rfl (by kernel_rfl) (by simp only [go_sem]) rfl ?_
  have b1 := permL_len hn
  have fc : True := trivial
  repeat' first
    | with_reducible first | refine stp ?_ | refine q_blk_o rfl ?_ | (refine hK _ ?_; clear hK) | (refine hA ?_; clear hA hB) | (refine hB ?_; clear hA hB) | exact v_end0 | exact v_end0' | refine v_gb1 ?_ ?_ | refine v_gb0 ?_ ?_ | refine And.intro ?_ ?_
    | (with_reducible refine p_ok ?_; decide)
    | ((first | with_reducible first | refine v_region rfl rfl (fun K hK => ?_) | refine v_draws rfl rfl (fun K hK => ?_) | refine v_if (fun A B hA hB => ?_) | refine v_end rfl ?_ | refine v_fin1 ?_ | refine v_finC1 ?_ | refine v_finR1 ?_ | refine v_callE (impl_perms_f_c _ ?_) ?_ | refine v_finO1 rfl ?_ | refine v_finN1 rfl ?_ ?_ | refine v_apj ?_ (fun j' => ?_) | refine v_stz ?_ ?_ ?_ ?_ ?_ | refine v_stq ?_ | refine v_cv1 ?_ ?_ ?_ | (intro hc; replace fc := And.intro hc fc; try simp only [hcs] at hc)) <;> (try simp (config := { maxSteps := 1000000 }) only [go_sem, ↓reduceIte, reduceCtorEq, Nat.reduceEqDiff, Nat.reduceAdd, Nat.reduceMul, Nat.reduceSub, Nat.reduceLeDiff, Int.reduceLT, Int.reduceLE, Int.reduceEq, Int.reduceSub, Int.reduceAdd, Int.reduceMul, Int.reduceNeg, Int.reduceToNat, fc]) <;> (try with_reducible rfl))
  all_goals try (first | omega | (simp only [n_i64, n_u8]; omega) | (simp only [n_i64, n_u8, lnA]; omega) | (simp only [lnA]; done))
  refine v_loop (fun ms1 S1 => ∃ (k : Nat), S1.e 1 = .p (.fn g [] caps) ∧ OwnL (S1.e 9) S1.h S1.n (elI false) ((permL n).length) (permL n) ∧ S1.e 10 = .p (.int .i64 ((permL n).length)) ∧ S1.e 5 = .p (.int .i64 ((cntL P ((permL n).take k)))) ∧ S1.e 11 = .p (.int .i64 (k)) ∧ (k ≤ (permL n).length) ∧ ms1 = (permL n).length - k) ((fun (k : Nat) => (permL n).length - k) (0)) ?init1_0 ?body1_0
  case' init1_0 =>
    refine ⟨0, ?_, ?_, ?_, ?_, ?_, ?_, rfl⟩
    all_goals (try simp only [go_sem, ↓reduceIte, reduceCtorEq, Nat.reduceEqDiff, Nat.reduceAdd, Nat.reduceMul, Nat.reduceSub, Nat.reduceLeDiff, Int.reduceLT, Int.reduceLE, Int.reduceEq, Int.reduceSub, Int.reduceAdd, Int.reduceMul, Int.reduceNeg, Int.reduceToNat])
    repeat' refine And.intro ?_ ?_
    all_goals try first | rfl | omega | (simp only [lnA] <;> omega) | ((first | refine stp ?_ | refine dkz_eq ?_ ?_) <;> first | rfl | omega | (simp only [lnA] <;> omega) | (simp only [lnA, List.append_assoc, List.cons_append, List.nil_append]; done) | skip)
  case' body1_0 =>
    rintro ms1 S1 ⟨k, h1_1, o1_9, h1_10, h1_5, h1_11, c1_0, hm1⟩
    obtain ⟨i1_9, h1_9, b1_9, l1_9⟩ := o1_9.out
    have ni1_9 : ∀ c, (i1_9 = S1.n + c) = False := fun c => eq_false (by omega)
    have pi1_9 : ∀ c, (S1.n + c = i1_9) = False := fun c => eq_false (by omega)
    have qi1_9 : (i1_9 = S1.n) = False := eq_false (by omega)
    have ri1_9 : (S1.n = i1_9) = False := eq_false (by omega)
  have b2 := cntL_le (P := P) c1_0
  have b3 : k < (permL n).length → Fun Tryd.prog g (.sl (.lent false) (List.map (PV.int .i64) ((permL n).getD k [])) :: caps.map PV.cell) [.bool (P ((permL n).getD k []))] := fun h => hp _ (getD_mem h)
  by_cases hk : k < (permL n).length
  · have fc : True := trivial
    repeat' first
      | with_reducible first | refine stp ?_ | refine q_blk_o rfl ?_ | (refine hK _ ?_; clear hK) | (refine hA ?_; clear hA hB) | (refine hB ?_; clear hA hB) | exact v_end0 | exact v_end0' | refine v_gb1 ?_ ?_ | refine v_gb0 ?_ ?_ | refine And.intro ?_ ?_
      | (with_reducible refine p_ok ?_; decide)
      | ((first | with_reducible first | refine v_region rfl rfl (fun K hK => ?_) | refine v_draws rfl rfl (fun K hK => ?_) | refine v_if (fun A B hA hB => ?_) | refine v_end rfl ?_ | refine v_fin1 ?_ | refine v_finC1 ?_ | refine v_finR1 ?_ | refine v_callE (b3 hk) ?_ | refine v_callE (impl_perms_c _ ?_) ?_ | refine v_callE (impl_perms_f_c _ ?_) ?_ | refine v_finO1 rfl ?_ | refine v_finN1 rfl ?_ ?_ | refine v_apj ?_ (fun j' => ?_) | refine v_stz ?_ ?_ ?_ ?_ ?_ | refine v_stq ?_ | refine v_cv1 ?_ ?_ ?_ | (intro hc; replace fc := And.intro hc fc; try simp only [hcs] at hc)) <;> (try simp (config := { maxSteps := 1000000 }) only [go_sem, ↓reduceIte, reduceCtorEq, Nat.reduceEqDiff, Nat.reduceAdd, Nat.reduceMul, Nat.reduceSub, Nat.reduceLeDiff, Int.reduceLT, Int.reduceLE, Int.reduceEq, Int.reduceSub, Int.reduceAdd, Int.reduceMul, Int.reduceNeg, Int.reduceToNat, h1_1, h1_10, h1_5, h1_11, h1_9, b1_9, ni1_9, pi1_9, qi1_9, ri1_9, fc]) <;> (try with_reducible rfl))
    all_goals try (first | omega | (simp only [n_i64, n_u8]; omega) | (simp only [n_i64, n_u8, lnA]; omega) | (simp only [lnA]; done))
    · focus
        refine q_lp_n ((fun (k : Nat) => (permL n).length - k) (k+1)) ?_ ⟨k+1, ?_, ?_, ?_, ?_, ?_, ?_, rfl⟩
        all_goals (try simp only [go_sem, ↓reduceIte, reduceCtorEq, Nat.reduceEqDiff, Nat.reduceAdd, Nat.reduceMul, Nat.reduceSub, Nat.reduceLeDiff, Int.reduceLT, Int.reduceLE, Int.reduceEq, Int.reduceSub, Int.reduceAdd, Int.reduceMul, Int.reduceNeg, Int.reduceToNat, h1_1, h1_10, h1_5, h1_11, h1_9, b1_9, ni1_9, pi1_9, qi1_9, ri1_9])
        repeat' refine And.intro ?_ ?_
        all_goals try first | rfl | omega | (simp only [lnA] <;> omega) | ((first | refine stp ?_ | refine dkz_eq ?_ ?_) <;> first | rfl | omega | (simp only [lnA] <;> omega) | (simp only [lnA, List.append_assoc, List.cons_append, List.nil_append]; done) | skip)
      rw [cntL_succ hk, if_pos hc]; rfl
    · focus
        refine q_lp_n ((fun (k : Nat) => (permL n).length - k) (k+1)) ?_ ⟨k+1, ?_, ?_, ?_, ?_, ?_, ?_, rfl⟩
        all_goals (try simp only [go_sem, ↓reduceIte, reduceCtorEq, Nat.reduceEqDiff, Nat.reduceAdd, Nat.reduceMul, Nat.reduceSub, Nat.reduceLeDiff, Int.reduceLT, Int.reduceLE, Int.reduceEq, Int.reduceSub, Int.reduceAdd, Int.reduceMul, Int.reduceNeg, Int.reduceToNat, h1_1, h1_10, h1_5, h1_11, h1_9, b1_9, ni1_9, pi1_9, qi1_9, ri1_9])
        repeat' refine And.intro ?_ ?_
        all_goals try first | rfl | omega | (simp only [lnA] <;> omega) | ((first | refine stp ?_ | refine dkz_eq ?_ ?_) <;> first | rfl | omega | (simp only [lnA] <;> omega) | (simp only [lnA, List.append_assoc, List.cons_append, List.nil_append]; done) | skip)
      rw [cntL_succ hk, if_neg (by rw [hc]; decide)]; rfl
  · have fc : True := trivial
    repeat' first
      | with_reducible first | refine stp ?_ | refine q_blk_o rfl ?_ | (refine hK _ ?_; clear hK) | (refine hA ?_; clear hA hB) | (refine hB ?_; clear hA hB) | exact v_end0 | exact v_end0' | refine v_gb1 ?_ ?_ | refine v_gb0 ?_ ?_ | refine And.intro ?_ ?_
      | (with_reducible refine p_ok ?_; decide)
      | ((first | with_reducible first | refine v_region rfl rfl (fun K hK => ?_) | refine v_draws rfl rfl (fun K hK => ?_) | refine v_if (fun A B hA hB => ?_) | refine v_end rfl ?_ | refine v_fin1 ?_ | refine v_finC1 ?_ | refine v_finR1 ?_ | refine v_callE (impl_perms_c _ ?_) ?_ | refine v_callE (impl_perms_f_c _ ?_) ?_ | refine v_finO1 rfl ?_ | refine v_finN1 rfl ?_ ?_ | refine v_apj ?_ (fun j' => ?_) | refine v_stz ?_ ?_ ?_ ?_ ?_ | refine v_stq ?_ | refine v_cv1 ?_ ?_ ?_ | (intro hc; replace fc := And.intro hc fc; try simp only [hcs] at hc)) <;> (try simp (config := { maxSteps := 1000000 }) only [go_sem, ↓reduceIte, reduceCtorEq, Nat.reduceEqDiff, Nat.reduceAdd, Nat.reduceMul, Nat.reduceSub, Nat.reduceLeDiff, Int.reduceLT, Int.reduceLE, Int.reduceEq, Int.reduceSub, Int.reduceAdd, Int.reduceMul, Int.reduceNeg, Int.reduceToNat, h1_1, h1_10, h1_5, h1_11, h1_9, b1_9, ni1_9, pi1_9, qi1_9, ri1_9, fc]) <;> (try with_reducible rfl))
    all_goals try (first | omega | (simp only [n_i64, n_u8]; omega) | (simp only [n_i64, n_u8, lnA]; omega) | (simp only [lnA]; done))
    rw [List.take_of_length_le (by omega)]
end Go.Gl
