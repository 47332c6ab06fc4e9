/-
  Tables as texts. Conditions: none.
-/
import Derived.Test.YtnoedblfedppkaaDoorItoa
import Derived.Test.YtnoedblfedppkaaDoorLaw2
set_option linter.unusedSimpArgs false
set_option linter.unusedVariables false
set_option maxRecDepth 20000
set_option linter.unusedSectionVars false
namespace Go.Gl
open Go Go.Proofs
variable [Amb]
variable [TabA]
def tabL (L : List (List Int)) : List (List UInt8) := L.map numT
def tabT (L : List (List Int)) : List UInt8 := if L = [] then [45] else Lib.join (tabL L) [47]
theorem joinTail_tab : ∀ {L : List (List Int)}, (∀ l ∈ L, ∀ x ∈ l, -9223372036854775808 ≤ x ∧ x ≤ 9223372036854775807) → (Lib.joinTail [47] (tabL L)).length ≤ 22 * sumN (L.map List.length) + 2 * L.length
  | [], _ => by simp [Lib.joinTail, tabL]
  | l :: L, h => by
    have h1 := joinTail_tab (L := L) fun l hl => h l (by simp [hl])
    have h2 := numT_len (h l (by simp))
    have e : (Lib.joinTail [47] (tabL (l :: L))) = [47] ++ numT l ++ Lib.joinTail [47] (tabL L) := by simp [Lib.joinTail, tabL]
    rw [e]; simp only [List.length_append, List.map_cons, sumN, List.length_cons, List.length_nil]; omega
theorem tabL_len {L : List (List Int)} (h : ∀ l ∈ L, ∀ x ∈ l, -9223372036854775808 ≤ x ∧ x ≤ 9223372036854775807) : (Lib.join (tabL L) [47]).length ≤ 22 * sumN (L.map List.length) + 2 * L.length := by
  cases L with
  | nil => simp [tabL, Lib.join_nil]
  | cons l L =>
    have h1 := joinTail_tab (L := L) fun l hl => h l (by simp [hl])
    have h2 := numT_len (h l (by simp))
    have e : Lib.join (tabL (l :: L)) [47] = numT l ++ Lib.joinTail [47] (tabL L) := by simp [tabL, Lib.join_cons]
    rw [e, List.length_append, List.map_cons, sumN, List.length_cons]; omega
theorem tabT_len {L : List (List Int)} (h : ∀ l ∈ L, ∀ x ∈ l, -9223372036854775808 ≤ x ∧ x ≤ 9223372036854775807) : (tabT L).length ≤ 22 * sumN (L.map List.length) + 2 * L.length + 1 := by
  unfold tabT; split
  · simp
  · have := tabL_len h; omega
theorem tabL_take {L : List (List Int)} {k : Nat} : tabL (L.take k) = (tabL L).take k := by simp [tabL, List.map_take]
theorem tabT_nil {L : List (List Int)} (h : (L.length : Int) = 0) : tabT L = [45] := by rw [tabT, if_pos (List.eq_nil_of_length_eq_zero (by omega))]
theorem tabT_cons {L : List (List Int)} (h : ¬ (L.length : Int) = 0) : tabT L = Lib.join (tabL L) [47] := by rw [tabT, if_neg (by rintro rfl; exact h rfl)]
theorem spec_TableauText_c {e0 m0 : Bool} (L : List (List Int)) (hL : L.length ≤ 1048576) (hl : ∀ l ∈ L, l.length ≤ 1048576) (hs : sumN (L.map List.length) ≤ 1048576) (hb : ∀ l ∈ L, ∀ x ∈ l, -9223372036854775808 ≤ x ∧ x ≤ 9223372036854775807) : Fun Tryd.prog 40 [(.sl (.lent m0) (List.map (elI e0) (L)))] [(.str (tabT L))] := by
  refine Fun.of (sg := sg0) (ts := [2]) mo Tryd.func40 rfl rfl rfl rfl (by kernel_rfl) (by simp only [go_sem]) rfl ?_
  have b9 := tabL_len hb
  have fc : True := trivial
  repeat' first
    | with_reducible first | refine stp ?_ | refine q_blk_o rfl ?_ | (refine hK _ ?_; clear hK) | (refine hA ?_; clear hA hB) | (refine hB ?_; clear hA hB) | exact v_end0 | exact v_end0' | refine v_gb1 ?_ ?_ | refine v_gb0 ?_ ?_ | refine And.intro ?_ ?_
    | (with_reducible refine p_ok ?_; decide)
    | ((first | with_reducible first | refine v_region rfl rfl (fun K hK => ?_) | refine v_draws rfl rfl (fun K hK => ?_) | refine v_if (fun A B hA hB => ?_) | refine v_end rfl ?_ | refine v_fin1 ?_ | refine v_finC1 ?_ | refine v_finR1 ?_ | refine v_callE (spec_NumbersText_c _ ?_ ?_) ?_ | refine v_callE (spec_Join_c _ _ ?_ ?_) ?_ | refine v_finO1 rfl ?_ | refine v_finN1 rfl ?_ ?_ | refine v_apj ?_ (fun j' => ?_) | refine v_stz ?_ ?_ ?_ ?_ ?_ | refine v_stq ?_ | refine v_cv1 ?_ ?_ ?_ | (intro hc; replace fc := And.intro hc fc; try simp only [hcs] at hc)) <;> (try simp (config := { maxSteps := 1000000 }) only [go_sem, ↓reduceIte, reduceCtorEq, Nat.reduceEqDiff, Nat.reduceAdd, Nat.reduceMul, Nat.reduceSub, Nat.reduceLeDiff, Int.reduceLT, Int.reduceLE, Int.reduceEq, Int.reduceSub, Int.reduceAdd, Int.reduceMul, Int.reduceNeg, Int.reduceToNat, fc]) <;> (try with_reducible rfl))
  refine v_loop (fun ms1 S1 => ∃ (k : Nat), S1.e 0 = .p (.sl (.lent m0) (List.map (elI e0) (L))) ∧ OwnL (S1.e 3) S1.h S1.n PV.str ((tabL (L.take k)).length) (tabL (L.take k)) ∧ S1.e 4 = .p (.int .i64 (k)) ∧ (k ≤ L.length) ∧ ms1 = L.length - k) ((fun (k : Nat) => L.length - k) (0)) ?init1_0 ?body1_0
  case' init1_0 =>
    refine ⟨0, ?_, ?_, ?_, ?_, rfl⟩
    all_goals (try simp only [go_sem, ↓reduceIte, reduceCtorEq, Nat.reduceEqDiff, Nat.reduceAdd, Nat.reduceMul, Nat.reduceSub, Nat.reduceLeDiff, Int.reduceLT, Int.reduceLE, Int.reduceEq, Int.reduceSub, Int.reduceAdd, Int.reduceMul, Int.reduceNeg, Int.reduceToNat])
    repeat' refine And.intro ?_ ?_
    all_goals try first | rfl | omega | (simp only [lnA] <;> omega) | ((first | refine stp ?_ | refine dkz_eq ?_ ?_) <;> first | rfl | omega | (simp only [lnA] <;> omega) | (simp only [lnA, List.append_assoc, List.cons_append, List.nil_append]; done) | skip)
  case' body1_0 =>
    rintro ms1 S1 ⟨k, h1_0, o1_3, h1_4, c1_0, hm1⟩
    obtain ⟨i1_3, h1_3, b1_3, l1_3⟩ := o1_3.out
    have ni1_3 : ∀ c, (i1_3 = S1.n + c) = False := fun c => eq_false (by omega)
    have pi1_3 : ∀ c, (S1.n + c = i1_3) = False := fun c => eq_false (by omega)
    have qi1_3 : (i1_3 = S1.n) = False := eq_false (by omega)
    have ri1_3 : (S1.n = i1_3) = False := eq_false (by omega)
  have b7 : (tabL (L.take k)).length = k := by simp [tabL]; omega
  have b6 := join_take_le (l := tabL L) (sep := [47]) (k := k)
  rw [← tabL_take] at b6
  have q : k < L.length → ∀ x ∈ L.getD k [], -9223372036854775808 ≤ x ∧ x ≤ 9223372036854775807 := fun h => hb _ (getD_mem h)
  have q2 : k < L.length → (L.getD k []).length ≤ 1048576 := fun h => hl _ (getD_mem h)
  have fc : True := trivial
  repeat' first
    | with_reducible first | refine stp ?_ | refine q_blk_o rfl ?_ | (refine hK _ ?_; clear hK) | (refine hA ?_; clear hA hB) | (refine hB ?_; clear hA hB) | exact v_end0 | exact v_end0' | refine v_gb1 ?_ ?_ | refine v_gb0 ?_ ?_ | refine And.intro ?_ ?_
    | (with_reducible refine p_ok ?_; decide)
    | ((first | with_reducible first | refine v_region rfl rfl (fun K hK => ?_) | refine v_draws rfl rfl (fun K hK => ?_) | refine v_if (fun A B hA hB => ?_) | refine v_end rfl ?_ | refine v_fin1 ?_ | refine v_finC1 ?_ | refine v_finR1 ?_ | refine v_callE (spec_NumbersText_c _ ?_ ?_) ?_ | refine v_callE (spec_Join_c _ _ ?_ ?_) ?_ | refine v_finO1 rfl ?_ | refine v_finN1 rfl ?_ ?_ | refine v_apj ?_ (fun j' => ?_) | refine v_stz ?_ ?_ ?_ ?_ ?_ | refine v_stq ?_ | refine v_cv1 ?_ ?_ ?_ | (intro hc; replace fc := And.intro hc fc; try simp only [hcs] at hc)) <;> (try simp (config := { maxSteps := 1000000 }) only [go_sem, ↓reduceIte, reduceCtorEq, Nat.reduceEqDiff, Nat.reduceAdd, Nat.reduceMul, Nat.reduceSub, Nat.reduceLeDiff, Int.reduceLT, Int.reduceLE, Int.reduceEq, Int.reduceSub, Int.reduceAdd, Int.reduceMul, Int.reduceNeg, Int.reduceToNat, h1_0, h1_4, h1_3, b1_3, ni1_3, pi1_3, qi1_3, ri1_3, fc]) <;> (try with_reducible rfl))
  all_goals try exact q hc
  all_goals try exact q2 hc
  all_goals try (first | omega | (simp only [n_i64, n_u8]; omega) | (simp only [n_i64, n_u8, lnA]; omega) | (simp only [lnA]; done) | exact List.take_of_length_le (by simp))
  · focus
      refine q_lp_n ((fun (k : Nat) => L.length - k) (k+1)) ?_ ⟨k+1, ?_, ?_, ?_, ?_, rfl⟩
      all_goals (try simp only [go_sem, ↓reduceIte, reduceCtorEq, Nat.reduceEqDiff, Nat.reduceAdd, Nat.reduceMul, Nat.reduceSub, Nat.reduceLeDiff, Int.reduceLT, Int.reduceLE, Int.reduceEq, Int.reduceSub, Int.reduceAdd, Int.reduceMul, Int.reduceNeg, Int.reduceToNat, h1_0, h1_4, h1_3, b1_3, ni1_3, pi1_3, qi1_3, ri1_3])
      repeat' refine And.intro ?_ ?_
      all_goals try first | rfl | omega | (simp only [lnA] <;> omega) | ((first | refine stp ?_ | refine dkz_eq ?_ ?_) <;> first | rfl | omega | (simp only [lnA] <;> omega) | (simp only [lnA, List.append_assoc, List.cons_append, List.nil_append]; done) | skip)
    all_goals simp [tabL, take_getD (d := []) (show k < L.length by omega)]
  · rw [tabT_nil (by omega)]
  · rw [tabT_cons (by omega), List.take_of_length_le (by omega)]
theorem impl_TableauText_c {e0 m0 : Bool} (L : List (List Int)) (hL : L.length ≤ 1048576) (hl : ∀ l ∈ L, l.length ≤ 1048576) (hs : sumN (L.map List.length) ≤ 1048576) (hb : ∀ l ∈ L, ∀ x ∈ l, -9223372036854775808 ≤ x ∧ x ≤ 9223372036854775807) : Fun Tryd.prog 42 [(.sl (.lent m0) (List.map (elI e0) (L)))] [(.str (tabT L))] := by
  refine Fun.of (sg := sg0) (ts := [2]) mo Tryd.func42 rfl rfl rfl rfl (by kernel_rfl) (by simp only [go_sem]) rfl ?_
  have b9 := tabL_len hb
  have fc : True := trivial
  repeat' first
    | with_reducible first | refine stp ?_ | refine q_blk_o rfl ?_ | (refine hK _ ?_; clear hK) | (refine hA ?_; clear hA hB) | (refine hB ?_; clear hA hB) | exact v_end0 | exact v_end0' | refine v_gb1 ?_ ?_ | refine v_gb0 ?_ ?_ | refine And.intro ?_ ?_
    | (with_reducible refine p_ok ?_; decide)
    | ((first | with_reducible first | refine v_region rfl rfl (fun K hK => ?_) | refine v_draws rfl rfl (fun K hK => ?_) | refine v_if (fun A B hA hB => ?_) | refine v_end rfl ?_ | refine v_fin1 ?_ | refine v_finC1 ?_ | refine v_finR1 ?_ | refine v_callE (impl_NumbersText_c _ ?_ ?_) ?_ | refine v_callE (strings_Join_c _ _ ?_ ?_) ?_ | refine v_finO1 rfl ?_ | refine v_finN1 rfl ?_ ?_ | refine v_apj ?_ (fun j' => ?_) | refine v_stz ?_ ?_ ?_ ?_ ?_ | refine v_stq ?_ | refine v_cv1 ?_ ?_ ?_ | (intro hc; replace fc := And.intro hc fc; try simp only [hcs] at hc)) <;> (try simp (config := { maxSteps := 1000000 }) only [go_sem, ↓reduceIte, reduceCtorEq, Nat.reduceEqDiff, Nat.reduceAdd, Nat.reduceMul, Nat.reduceSub, Nat.reduceLeDiff, Int.reduceLT, Int.reduceLE, Int.reduceEq, Int.reduceSub, Int.reduceAdd, Int.reduceMul, Int.reduceNeg, Int.reduceToNat, fc]) <;> (try with_reducible rfl))
  all_goals try (first | omega | (simp only [n_i64, n_u8]; omega) | (simp only [n_i64, n_u8, lnA]; omega) | (simp only [lnA]; done) | exact List.take_of_length_le (by simp))
  · rw [tabT_nil hc]
  · rw [tabT_cons hc]
    have hn := hc
    refine v_loop (fun ms1 S1 => ∃ (k : Nat), S1.e 10 = .p (.sl (.lent m0) (List.map (elI e0) (L))) ∧ OwnL (S1.e 3) S1.h S1.n PV.str ((tabL (L.take k)).length) (tabL (L.take k)) ∧ S1.e 11 = .p (.int .i64 (L.length)) ∧ S1.e 12 = .p (.int .i64 (k)) ∧ (k ≤ L.length) ∧ ms1 = L.length - k) ((fun (k : Nat) => L.length - k) (0)) ?init1_1 ?body1_1
    case' init1_1 =>
      refine ⟨0, ?_, ?_, ?_, ?_, ?_, rfl⟩
      all_goals (try simp only [go_sem, ↓reduceIte, reduceCtorEq, Nat.reduceEqDiff, Nat.reduceAdd, Nat.reduceMul, Nat.reduceSub, Nat.reduceLeDiff, Int.reduceLT, Int.reduceLE, Int.reduceEq, Int.reduceSub, Int.reduceAdd, Int.reduceMul, Int.reduceNeg, Int.reduceToNat])
      repeat' refine And.intro ?_ ?_
      all_goals try first | rfl | omega | (simp only [lnA] <;> omega) | ((first | refine stp ?_ | refine dkz_eq ?_ ?_) <;> first | rfl | omega | (simp only [lnA] <;> omega) | (simp only [lnA, List.append_assoc, List.cons_append, List.nil_append]; done) | skip)
    case' body1_1 =>
      rintro ms1 S1 ⟨k, h1_10, o1_3, h1_11, h1_12, c1_0, hm1⟩
      obtain ⟨i1_3, h1_3, b1_3, l1_3⟩ := o1_3.out
      have ni1_3 : ∀ c, (i1_3 = S1.n + c) = False := fun c => eq_false (by omega)
      have pi1_3 : ∀ c, (S1.n + c = i1_3) = False := fun c => eq_false (by omega)
      have qi1_3 : (i1_3 = S1.n) = False := eq_false (by omega)
      have ri1_3 : (S1.n = i1_3) = False := eq_false (by omega)
    have b7 : (tabL (L.take k)).length = k := by simp [tabL]; omega
    have b6 := join_take_le (l := tabL L) (sep := [47]) (k := k)
    rw [← tabL_take] at b6
    have q : k < L.length → ∀ x ∈ L.getD k [], -9223372036854775808 ≤ x ∧ x ≤ 9223372036854775807 := fun h => hb _ (getD_mem h)
    have q2 : k < L.length → (L.getD k []).length ≤ 1048576 := fun h => hl _ (getD_mem h)
    have fc : True := trivial
    repeat' first
      | with_reducible first | refine stp ?_ | refine q_blk_o rfl ?_ | (refine hK _ ?_; clear hK) | (refine hA ?_; clear hA hB) | (refine hB ?_; clear hA hB) | exact v_end0 | exact v_end0' | refine v_gb1 ?_ ?_ | refine v_gb0 ?_ ?_ | refine And.intro ?_ ?_
      | (with_reducible refine p_ok ?_; decide)
      | ((first | with_reducible first | refine v_region rfl rfl (fun K hK => ?_) | refine v_draws rfl rfl (fun K hK => ?_) | refine v_if (fun A B hA hB => ?_) | refine v_end rfl ?_ | refine v_fin1 ?_ | refine v_finC1 ?_ | refine v_finR1 ?_ | refine v_callE (impl_NumbersText_c _ ?_ ?_) ?_ | refine v_callE (strings_Join_c _ _ ?_ ?_) ?_ | refine v_finO1 rfl ?_ | refine v_finN1 rfl ?_ ?_ | refine v_apj ?_ (fun j' => ?_) | refine v_stz ?_ ?_ ?_ ?_ ?_ | refine v_stq ?_ | refine v_cv1 ?_ ?_ ?_ | (intro hc; replace fc := And.intro hc fc; try simp only [hcs] at hc)) <;> (try simp (config := { maxSteps := 1000000 }) only [go_sem, ↓reduceIte, reduceCtorEq, Nat.reduceEqDiff, Nat.reduceAdd, Nat.reduceMul, Nat.reduceSub, Nat.reduceLeDiff, Int.reduceLT, Int.reduceLE, Int.reduceEq, Int.reduceSub, Int.reduceAdd, Int.reduceMul, Int.reduceNeg, Int.reduceToNat, h1_10, h1_11, h1_12, h1_3, b1_3, ni1_3, pi1_3, qi1_3, ri1_3, fc]) <;> (try with_reducible rfl))
    all_goals try exact q hc
    all_goals try exact q2 hc
    all_goals try (first | omega | (simp only [n_i64, n_u8]; omega) | (simp only [n_i64, n_u8, lnA]; omega) | (simp only [lnA]; done) | exact List.take_of_length_le (by simp))
    · focus
        refine q_lp_n ((fun (k : Nat) => L.length - k) (k+1)) ?_ ⟨k+1, ?_, ?_, ?_, ?_, ?_, rfl⟩
        all_goals (try simp only [go_sem, ↓reduceIte, reduceCtorEq, Nat.reduceEqDiff, Nat.reduceAdd, Nat.reduceMul, Nat.reduceSub, Nat.reduceLeDiff, Int.reduceLT, Int.reduceLE, Int.reduceEq, Int.reduceSub, Int.reduceAdd, Int.reduceMul, Int.reduceNeg, Int.reduceToNat, h1_10, h1_11, h1_12, h1_3, b1_3, ni1_3, pi1_3, qi1_3, ri1_3])
        repeat' refine And.intro ?_ ?_
        all_goals try first | rfl | omega | (simp only [lnA] <;> omega) | ((first | refine stp ?_ | refine dkz_eq ?_ ?_) <;> first | rfl | omega | (simp only [lnA] <;> omega) | (simp only [lnA, List.append_assoc, List.cons_append, List.nil_append]; done) | skip)
      all_goals simp [tabL, take_getD (d := []) (show k < L.length by omega)]
    · rw [List.take_of_length_le (by omega)]
end Go.Gl
