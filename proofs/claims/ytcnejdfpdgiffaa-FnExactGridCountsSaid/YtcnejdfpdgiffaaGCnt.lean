/-
  The numbers of permutations that fit a grid. Conditions: none.
-/
import Derived.Test.YtcnejdfpdgiffaaFindG
import Derived.Test.YtcnejdfpdgiffaaCount
set_option linter.unusedSimpArgs false
set_option linter.unusedVariables false
set_option maxRecDepth 20000
set_option linter.unusedSectionVars false
namespace Go.Gl
open Go Go.Proofs
variable [Amb]
theorem impl_GridCounts_1_c {m0 : Bool} (p : List Int) (m : List (List Int)) {e1 m1 : Bool} (hp : isPermB p = true) (hm : gridB m = true) : Fun Try.prog 84 [(.sl (.lent m0) (List.map (PV.int .i64) (p))), (.pc [.sl (.lent m1) (m.map (elI e1))])] [(.bool ((fndG p m).2))] := by
  refine Fun.of (sg := sg0) (ts := [3]) mo Try.func84 rfl rfl rfl rfl (by kernel_rfl) (by simp only [go_sem]) rfl ?_
  have fc : True := trivial
  repeat' first
    | with_reducible first | refine stp ?_ | refine q_blk_o rfl ?_ | (refine hK _ ?_; clear hK) | (refine hA ?_; clear hA hB) | (refine hB ?_; clear hA hB) | exact v_end0 | exact v_end0' | refine v_gb1 ?_ ?_ | refine v_gb0 ?_ ?_ | refine And.intro ?_ ?_
    | (with_reducible refine p_ok ?_; decide)
    | ((first | with_reducible first | refine v_region rfl rfl (fun K hK => ?_) | refine v_draws rfl rfl (fun K hK => ?_) | refine v_if (fun A B hA hB => ?_) | refine v_end rfl ?_ | refine v_fin1 ?_ | refine v_finC1 ?_ | refine v_finR1 ?_ | refine v_callE (impl_findGrid_c _ _ ?_ ?_) ?_ | refine v_finO1 rfl ?_ | refine v_finN1 rfl ?_ ?_ | refine v_apj ?_ (fun j' => ?_) | refine v_stz ?_ ?_ ?_ ?_ ?_ | refine v_stq ?_ | refine v_cv1 ?_ ?_ ?_ | (intro hc; replace fc := And.intro hc fc; try simp only [hcs] at hc)) <;> (try simp (config := { maxSteps := 1000000 }) only [go_sem, ↓reduceIte, reduceCtorEq, Nat.reduceEqDiff, Nat.reduceAdd, Nat.reduceMul, Nat.reduceSub, Nat.reduceLeDiff, Int.reduceLT, Int.reduceLE, Int.reduceEq, Int.reduceSub, Int.reduceAdd, Int.reduceMul, Int.reduceNeg, Int.reduceToNat, fc]) <;> (try with_reducible rfl))
  all_goals try (first | omega | (simp only [n_i64, n_u8]; omega) | (simp only [n_i64, n_u8, lnA]; omega) | (simp only [lnA]; done))
noncomputable def gcL (m : List (List Int)) (n : Nat) : List Int := (List.range n).map fun k => (cntL (fun p => (fndG p m).2) (permL k) : Int)
theorem gcL_succ {m : List (List Int)} {n : Nat} : gcL m (n + 1) = gcL m n ++ [(cntL (fun p => (fndG p m).2) (permL n) : Int)] := by simp [gcL, List.range_succ]
theorem gcL_len {m : List (List Int)} {n : Nat} : (gcL m n).length = n := by simp [gcL]
noncomputable def gcB (m : List (List Int)) (n : Int) : List Int := if gridB m = true ∧ 0 ≤ n ∧ n ≤ 5 then gcL m (n.toNat + 1) else []
theorem impl_GridCounts_c {e0 m0 : Bool} (m : List (List Int)) (n : Int) (hm : m.length ≤ 1048576) (hml : ∀ l ∈ m, l.length ≤ 1048576) : Fun Try.prog 40 [(.sl (.lent m0) (List.map (elI e0) (m))), (.int .i64 (n))] [(.sl .own (List.map (PV.int .i64) (gcB m n)))] := by
  have hml' : ∀ l ∈ m, l.length ≤ 1099511627776 := fun l h => by have := hml l h; omega
  by_cases hg : gridB m = true
  · by_cases hn : 0 ≤ n ∧ n ≤ 5
    · obtain ⟨N, rfl⟩ : ∃ N : Nat, n = N := ⟨n.toNat, by omega⟩
      have q1 : gcB m N = gcL m (N + 1) := by rw [gcB, if_pos ⟨hg, hn⟩]; rfl
      have q2 := fun (k : Nat) (h : k ≤ 5) => impl_counted_c k 84 [.pc [.sl (.lent m0) (m.map (elI e0))]] (fun p => (fndG p m).2) (by omega) (fun x hx => impl_GridCounts_1_c (m0 := false) x m (permL_isPerm (by omega) hx) hg)
      have q3 := fun (k : Nat) => cntL_le (P := fun p => (fndG p m).2) (L := permL k) (k := (permL k).length) (Nat.le_refl _)
      rw [q1]
      refine Fun.of (sg := sg0) (ts := [4]) mo Try.func40 rfl rfl rfl rfl (by kernel_rfl) (by simp only [go_sem]) rfl ?_
      have fc : True := trivial
      repeat' first
        | with_reducible first | refine stp ?_ | refine q_blk_o rfl ?_ | (refine hK _ ?_; clear hK) | (refine hA ?_; clear hA hB) | (refine hB ?_; clear hA hB) | exact v_end0 | exact v_end0' | refine v_gb1 ?_ ?_ | refine v_gb0 ?_ ?_ | refine And.intro ?_ ?_
        | (with_reducible refine p_ok ?_; decide)
        | ((first | with_reducible first | refine v_region rfl rfl (fun K hK => ?_) | refine v_draws rfl rfl (fun K hK => ?_) | refine v_if (fun A B hA hB => ?_) | refine v_end rfl ?_ | refine v_fin1 ?_ | refine v_finC1 ?_ | refine v_finR1 ?_ | refine v_callE (impl_IsGrid_c _ ?_ ?_) ?_ | refine v_callE (impl_counted_c _ _ _ _ ?_) ?_ | refine v_finO1 rfl ?_ | refine v_finN1 rfl ?_ ?_ | refine v_apj ?_ (fun j' => ?_) | refine v_stz ?_ ?_ ?_ ?_ ?_ | refine v_stq ?_ | refine v_cv1 ?_ ?_ ?_ | (intro hc; replace fc := And.intro hc fc; try simp only [hcs] at hc)) <;> (try simp (config := { maxSteps := 1000000 }) only [go_sem, ↓reduceIte, reduceCtorEq, Nat.reduceEqDiff, Nat.reduceAdd, Nat.reduceMul, Nat.reduceSub, Nat.reduceLeDiff, Int.reduceLT, Int.reduceLE, Int.reduceEq, Int.reduceSub, Int.reduceAdd, Int.reduceMul, Int.reduceNeg, Int.reduceToNat, hg, fc]) <;> (try with_reducible rfl))
      all_goals try (first | omega | (simp only [n_i64, n_u8]; omega) | (simp only [n_i64, n_u8, lnA]; omega) | (simp only [lnA]; done))
      refine v_loop (fun ms1 S1 => ∃ (k : Nat), OwnL (S1.e 5) S1.h S1.n (PV.int .i64) ((gcL m k).length) (gcL m k) ∧ S1.e 20 = .p (.int .i64 ((N : Int) + 1)) ∧ S1.e 21 = .p (.int .i64 (k)) ∧ PtrL (S1.e 2) S1.h S1.n (.live false [.sl (.lent m0) (m.map (elI e0))]) ∧ (k ≤ N + 1) ∧ NId (asR (S1.e 2)) (S1.e 5) ∧ ms1 = N + 1 - k) ((fun (k : Nat) => N + 1 - k) (0)) ?init1_0 ?body1_0
      case' init1_0 =>
        refine ⟨0, ?_, ?_, ?_, ?_, ?_, ?_, rfl⟩
        all_goals (try simp only [go_sem, ↓reduceIte, reduceCtorEq, Nat.reduceEqDiff, Nat.reduceAdd, Nat.reduceMul, Nat.reduceSub, Nat.reduceLeDiff, Int.reduceLT, Int.reduceLE, Int.reduceEq, Int.reduceSub, Int.reduceAdd, Int.reduceMul, Int.reduceNeg, Int.reduceToNat])
        repeat' refine And.intro ?_ ?_
        all_goals try first | rfl | omega | (simp only [lnA] <;> omega) | ((first | refine stp ?_ | refine dkz_eq ?_ ?_) <;> first | rfl | omega | (simp only [lnA] <;> omega) | (simp only [lnA, List.append_assoc, List.cons_append, List.nil_append]; done) | skip)
      case' body1_0 =>
        rintro ms1 S1 ⟨k, o1_5, h1_20, h1_21, o1_2, c1_0, u1_0, hm1⟩
        obtain ⟨i1_5, h1_5, b1_5, l1_5⟩ := o1_5.out
        obtain ⟨i1_2, h1_2, b1_2, l1_2⟩ := o1_2.out
        have k1_0 := (u1_0).out (asR_eq h1_2) h1_5
        have ni1_5 : ∀ c, (i1_5 = S1.n + c) = False := fun c => eq_false (by omega)
        have pi1_5 : ∀ c, (S1.n + c = i1_5) = False := fun c => eq_false (by omega)
        have qi1_5 : (i1_5 = S1.n) = False := eq_false (by omega)
        have ri1_5 : (S1.n = i1_5) = False := eq_false (by omega)
        have ni1_2 : ∀ c, (i1_2 = S1.n + c) = False := fun c => eq_false (by omega)
        have pi1_2 : ∀ c, (S1.n + c = i1_2) = False := fun c => eq_false (by omega)
        have qi1_2 : (i1_2 = S1.n) = False := eq_false (by omega)
        have ri1_2 : (S1.n = i1_2) = False := eq_false (by omega)
        have di1_5i1_2 : (i1_5 = i1_2) = False := eq_false (by omega)
        have di1_2i1_5 : (i1_2 = i1_5) = False := eq_false (by omega)
      have q4 := gcL_len (m := m) (n := k)
      by_cases hk : k < N + 1
      · have q5 := q2 k (by omega)
        have fc : True := trivial
        repeat' first
          | with_reducible first | refine stp ?_ | refine q_blk_o rfl ?_ | (refine hK _ ?_; clear hK) | (refine hA ?_; clear hA hB) | (refine hB ?_; clear hA hB) | exact v_end0 | exact v_end0' | refine v_gb1 ?_ ?_ | refine v_gb0 ?_ ?_ | refine And.intro ?_ ?_
          | (with_reducible refine p_ok ?_; decide)
          | ((first | with_reducible first | refine v_region rfl rfl (fun K hK => ?_) | refine v_draws rfl rfl (fun K hK => ?_) | refine v_if (fun A B hA hB => ?_) | refine v_end rfl ?_ | refine v_fin1 ?_ | refine v_finC1 ?_ | refine v_finR1 ?_ | refine v_callE (q5) ?_ | refine v_callE (impl_IsGrid_c _ ?_ ?_) ?_ | refine v_callE (impl_counted_c _ _ _ _ ?_) ?_ | refine v_finO1 rfl ?_ | refine v_finN1 rfl ?_ ?_ | refine v_apj ?_ (fun j' => ?_) | refine v_stz ?_ ?_ ?_ ?_ ?_ | refine v_stq ?_ | refine v_cv1 ?_ ?_ ?_ | (intro hc; replace fc := And.intro hc fc; try simp only [hcs] at hc)) <;> (try simp (config := { maxSteps := 1000000 }) only [go_sem, ↓reduceIte, reduceCtorEq, Nat.reduceEqDiff, Nat.reduceAdd, Nat.reduceMul, Nat.reduceSub, Nat.reduceLeDiff, Int.reduceLT, Int.reduceLE, Int.reduceEq, Int.reduceSub, Int.reduceAdd, Int.reduceMul, Int.reduceNeg, Int.reduceToNat, h1_20, h1_21, h1_5, b1_5, h1_2, b1_2, ni1_5, pi1_5, qi1_5, ri1_5, ni1_2, pi1_2, qi1_2, ri1_2, di1_5i1_2, di1_2i1_5, fc]) <;> (try with_reducible rfl))
        all_goals try (first | omega | (simp only [n_i64, n_u8]; omega) | (simp only [n_i64, n_u8, lnA]; omega) | (simp only [lnA]; done))
        focus
          refine q_lp_n ((fun (k : Nat) => N + 1 - k) (k+1)) ?_ ⟨k+1, ?_, ?_, ?_, ?_, ?_, ?_, rfl⟩
          all_goals (try simp only [go_sem, ↓reduceIte, reduceCtorEq, Nat.reduceEqDiff, Nat.reduceAdd, Nat.reduceMul, Nat.reduceSub, Nat.reduceLeDiff, Int.reduceLT, Int.reduceLE, Int.reduceEq, Int.reduceSub, Int.reduceAdd, Int.reduceMul, Int.reduceNeg, Int.reduceToNat, h1_20, h1_21, h1_5, b1_5, h1_2, b1_2, ni1_5, pi1_5, qi1_5, ri1_5, ni1_2, pi1_2, qi1_2, ri1_2, di1_5i1_2, di1_2i1_5])
          repeat' refine And.intro ?_ ?_
          all_goals try first | rfl | omega | (simp only [lnA] <;> omega) | ((first | refine stp ?_ | refine dkz_eq ?_ ?_) <;> first | rfl | omega | (simp only [lnA] <;> omega) | (simp only [lnA, List.append_assoc, List.cons_append, List.nil_append]; done) | skip)
        all_goals (rw [gcL_succ]; try simp)
      · have fc : True := trivial
        repeat' first
          | with_reducible first | refine stp ?_ | refine q_blk_o rfl ?_ | (refine hK _ ?_; clear hK) | (refine hA ?_; clear hA hB) | (refine hB ?_; clear hA hB) | exact v_end0 | exact v_end0' | refine v_gb1 ?_ ?_ | refine v_gb0 ?_ ?_ | refine And.intro ?_ ?_
          | (with_reducible refine p_ok ?_; decide)
          | ((first | with_reducible first | refine v_region rfl rfl (fun K hK => ?_) | refine v_draws rfl rfl (fun K hK => ?_) | refine v_if (fun A B hA hB => ?_) | refine v_end rfl ?_ | refine v_fin1 ?_ | refine v_finC1 ?_ | refine v_finR1 ?_ | refine v_callE (impl_IsGrid_c _ ?_ ?_) ?_ | refine v_callE (impl_counted_c _ _ _ _ ?_) ?_ | refine v_finO1 rfl ?_ | refine v_finN1 rfl ?_ ?_ | refine v_apj ?_ (fun j' => ?_) | refine v_stz ?_ ?_ ?_ ?_ ?_ | refine v_stq ?_ | refine v_cv1 ?_ ?_ ?_ | (intro hc; replace fc := And.intro hc fc; try simp only [hcs] at hc)) <;> (try simp (config := { maxSteps := 1000000 }) only [go_sem, ↓reduceIte, reduceCtorEq, Nat.reduceEqDiff, Nat.reduceAdd, Nat.reduceMul, Nat.reduceSub, Nat.reduceLeDiff, Int.reduceLT, Int.reduceLE, Int.reduceEq, Int.reduceSub, Int.reduceAdd, Int.reduceMul, Int.reduceNeg, Int.reduceToNat, h1_20, h1_21, h1_5, b1_5, h1_2, b1_2, ni1_5, pi1_5, qi1_5, ri1_5, ni1_2, pi1_2, qi1_2, ri1_2, di1_5i1_2, di1_2i1_5, fc]) <;> (try with_reducible rfl))
        all_goals try (first | omega | (simp only [n_i64, n_u8]; omega) | (simp only [n_i64, n_u8, lnA]; omega) | (simp only [lnA]; done))
        obtain rfl : k = N + 1 := by omega
        rfl
    · have q1 : gcB m n = [] := by rw [gcB, if_neg (fun h => hn h.2)]
      rw [q1]
      refine Fun.of (sg := sg0) (ts := [4]) mo Try.func40 rfl rfl rfl rfl (by kernel_rfl) (by simp only [go_sem]) rfl ?_
      have fc : True := trivial
      repeat' first
        | with_reducible first | refine stp ?_ | refine q_blk_o rfl ?_ | (refine hK _ ?_; clear hK) | (refine hA ?_; clear hA hB) | (refine hB ?_; clear hA hB) | exact v_end0 | exact v_end0' | refine v_gb1 ?_ ?_ | refine v_gb0 ?_ ?_ | refine And.intro ?_ ?_
        | (with_reducible refine p_ok ?_; decide)
        | ((first | with_reducible first | refine v_region rfl rfl (fun K hK => ?_) | refine v_draws rfl rfl (fun K hK => ?_) | refine v_if (fun A B hA hB => ?_) | refine v_end rfl ?_ | refine v_fin1 ?_ | refine v_finC1 ?_ | refine v_finR1 ?_ | refine v_callE (impl_IsGrid_c _ ?_ ?_) ?_ | refine v_callE (impl_counted_c _ _ _ _ ?_) ?_ | refine v_finO1 rfl ?_ | refine v_finN1 rfl ?_ ?_ | refine v_apj ?_ (fun j' => ?_) | refine v_stz ?_ ?_ ?_ ?_ ?_ | refine v_stq ?_ | refine v_cv1 ?_ ?_ ?_ | (intro hc; replace fc := And.intro hc fc; try simp only [hcs] at hc)) <;> (try simp (config := { maxSteps := 1000000 }) only [go_sem, ↓reduceIte, reduceCtorEq, Nat.reduceEqDiff, Nat.reduceAdd, Nat.reduceMul, Nat.reduceSub, Nat.reduceLeDiff, Int.reduceLT, Int.reduceLE, Int.reduceEq, Int.reduceSub, Int.reduceAdd, Int.reduceMul, Int.reduceNeg, Int.reduceToNat, hg, fc]) <;> (try with_reducible rfl))
      all_goals try (first | omega | (simp only [n_i64, n_u8]; omega) | (simp only [n_i64, n_u8, lnA]; omega) | (simp only [lnA]; done))
  · have hg' : gridB m = false := by simpa using hg
    have q1 : gcB m n = [] := by rw [gcB, if_neg (fun h => hg h.1)]
    rw [q1]
    refine Fun.of (sg := sg0) (ts := [4]) mo Try.func40 rfl rfl rfl rfl (by kernel_rfl) (by simp only [go_sem]) rfl ?_
    have fc : True := trivial
    repeat' first
      | with_reducible first | refine stp ?_ | refine q_blk_o rfl ?_ | (refine hK _ ?_; clear hK) | (refine hA ?_; clear hA hB) | (refine hB ?_; clear hA hB) | exact v_end0 | exact v_end0' | refine v_gb1 ?_ ?_ | refine v_gb0 ?_ ?_ | refine And.intro ?_ ?_
      | (with_reducible refine p_ok ?_; decide)
      | ((first | with_reducible first | refine v_region rfl rfl (fun K hK => ?_) | refine v_draws rfl rfl (fun K hK => ?_) | refine v_if (fun A B hA hB => ?_) | refine v_end rfl ?_ | refine v_fin1 ?_ | refine v_finC1 ?_ | refine v_finR1 ?_ | refine v_callE (impl_IsGrid_c _ ?_ ?_) ?_ | refine v_callE (impl_counted_c _ _ _ _ ?_) ?_ | refine v_finO1 rfl ?_ | refine v_finN1 rfl ?_ ?_ | refine v_apj ?_ (fun j' => ?_) | refine v_stz ?_ ?_ ?_ ?_ ?_ | refine v_stq ?_ | refine v_cv1 ?_ ?_ ?_ | (intro hc; replace fc := And.intro hc fc; try simp only [hcs] at hc)) <;> (try simp (config := { maxSteps := 1000000 }) only [go_sem, ↓reduceIte, reduceCtorEq, Nat.reduceEqDiff, Nat.reduceAdd, Nat.reduceMul, Nat.reduceSub, Nat.reduceLeDiff, Int.reduceLT, Int.reduceLE, Int.reduceEq, Int.reduceSub, Int.reduceAdd, Int.reduceMul, Int.reduceNeg, Int.reduceToNat, hg', fc]) <;> (try with_reducible rfl))
    all_goals try (first | omega | (simp only [n_i64, n_u8]; omega) | (simp only [n_i64, n_u8, lnA]; omega) | (simp only [lnA]; done))
theorem spec_GridCounts_c {e0 m0 : Bool} (m : List (List Int)) (n : Int) (hm : m.length ≤ 1048576) (hml : ∀ l ∈ m, l.length ≤ 1048576) : Fun Try.prog 39 [(.sl (.lent m0) (List.map (elI e0) (m))), (.int .i64 (n))] [(.sl .own (List.map (PV.int .i64) (gcB m n)))] := by
  have hml' : ∀ l ∈ m, l.length ≤ 1099511627776 := fun l h => by have := hml l h; omega
  by_cases hg : gridB m = true
  · by_cases hn : 0 ≤ n ∧ n ≤ 5
    · obtain ⟨N, rfl⟩ : ∃ N : Nat, n = N := ⟨n.toNat, by omega⟩
      have q1 : gcB m N = gcL m (N + 1) := by rw [gcB, if_pos ⟨hg, hn⟩]; rfl
      rw [q1]
      refine Fun.of (sg := sg0) (ts := [4]) mo Try.func39 rfl rfl rfl rfl (by kernel_rfl) (by simp only [go_sem]) rfl ?_
      have fc : True := trivial
      repeat' first
        | with_reducible first | refine stp ?_ | refine q_blk_o rfl ?_ | (refine hK _ ?_; clear hK) | (refine hA ?_; clear hA hB) | (refine hB ?_; clear hA hB) | exact v_end0 | exact v_end0' | refine v_gb1 ?_ ?_ | refine v_gb0 ?_ ?_ | refine And.intro ?_ ?_
        | (with_reducible refine p_ok ?_; decide)
        | ((first | with_reducible first | refine v_region rfl rfl (fun K hK => ?_) | refine v_draws rfl rfl (fun K hK => ?_) | refine v_if (fun A B hA hB => ?_) | refine v_end rfl ?_ | refine v_fin1 ?_ | refine v_finC1 ?_ | refine v_finR1 ?_ | refine v_callE (spec_l1In_c _ _ _) ?_ | refine v_callE (spec_PermsOf_c _) ?_ | refine v_callE (spec_l1Bit_c _) ?_ | refine v_callE (spec_IsGrid_c _ ?_ ?_) ?_ | refine v_callE (spec_FindGrid_c _ _ ?_ ?_ ?_) ?_ | refine v_finO1 rfl ?_ | refine v_finN1 rfl ?_ ?_ | refine v_apj ?_ (fun j' => ?_) | refine v_stz ?_ ?_ ?_ ?_ ?_ | refine v_stq ?_ | refine v_cv1 ?_ ?_ ?_ | (intro hc; replace fc := And.intro hc fc; try simp only [hcs] at hc)) <;> (try simp (config := { maxSteps := 1000000 }) only [go_sem, ↓reduceIte, reduceCtorEq, Nat.reduceEqDiff, Nat.reduceAdd, Nat.reduceMul, Nat.reduceSub, Nat.reduceLeDiff, Int.reduceLT, Int.reduceLE, Int.reduceEq, Int.reduceSub, Int.reduceAdd, Int.reduceMul, Int.reduceNeg, Int.reduceToNat, hg, fc]) <;> (try with_reducible rfl))
      all_goals try (first | omega | (simp only [n_i64, n_u8]; omega) | (simp only [n_i64, n_u8, lnA]; omega) | (simp only [lnA]; done))
      refine v_loop (fun ms1 S1 => ∃ (k : Nat), S1.e 0 = .p (.sl (.lent m0) (List.map (elI e0) (m))) ∧ S1.e 1 = .p (.int .i64 ((N : Int))) ∧ OwnL (S1.e 5) S1.h S1.n (PV.int .i64) ((gcL m k).length) (gcL m k) ∧ S1.e 6 = .p (.int .i64 (k)) ∧ (k ≤ N + 1) ∧ ms1 = N + 1 - k) ((fun (k : Nat) => N + 1 - k) (0)) ?init1_1 ?body1_1
      case' init1_1 =>
        refine ⟨0, ?_, ?_, ?_, ?_, ?_, rfl⟩
        all_goals (try simp only [go_sem, ↓reduceIte, reduceCtorEq, Nat.reduceEqDiff, Nat.reduceAdd, Nat.reduceMul, Nat.reduceSub, Nat.reduceLeDiff, Int.reduceLT, Int.reduceLE, Int.reduceEq, Int.reduceSub, Int.reduceAdd, Int.reduceMul, Int.reduceNeg, Int.reduceToNat])
        repeat' refine And.intro ?_ ?_
        all_goals try first | rfl | omega | (simp only [lnA] <;> omega) | ((first | refine stp ?_ | refine dkz_eq ?_ ?_) <;> first | rfl | omega | (simp only [lnA] <;> omega) | (simp only [lnA, List.append_assoc, List.cons_append, List.nil_append]; done) | skip)
      case' body1_1 =>
        rintro ms1 S1 ⟨k, h1_0, h1_1, o1_5, h1_6, c1_0, hm1⟩
        obtain ⟨i1_5, h1_5, b1_5, l1_5⟩ := o1_5.out
        have ni1_5 : ∀ c, (i1_5 = S1.n + c) = False := fun c => eq_false (by omega)
        have pi1_5 : ∀ c, (S1.n + c = i1_5) = False := fun c => eq_false (by omega)
        have qi1_5 : (i1_5 = S1.n) = False := eq_false (by omega)
        have ri1_5 : (S1.n = i1_5) = False := eq_false (by omega)
      have q4 := gcL_len (m := m) (n := k)
      have q6 : k ≤ 6 → permsB (k : Int) = permL k := fun h => by rw [permsB, if_pos (by omega)]; rfl
      have b1 := permL_len (n := k)
      by_cases hk : k < N + 1
      · have q7 := q6 (by omega)
        have b2 := b1 (by omega)
        have fc : True := trivial
        repeat' first
          | with_reducible first | refine stp ?_ | refine q_blk_o rfl ?_ | (refine hK _ ?_; clear hK) | (refine hA ?_; clear hA hB) | (refine hB ?_; clear hA hB) | exact v_end0 | exact v_end0' | refine v_gb1 ?_ ?_ | refine v_gb0 ?_ ?_ | refine And.intro ?_ ?_
          | (with_reducible refine p_ok ?_; decide)
          | ((first | with_reducible first | refine v_region rfl rfl (fun K hK => ?_) | refine v_draws rfl rfl (fun K hK => ?_) | refine v_if (fun A B hA hB => ?_) | refine v_end rfl ?_ | refine v_fin1 ?_ | refine v_finC1 ?_ | refine v_finR1 ?_ | refine v_callE (spec_l1In_c _ _ _) ?_ | refine v_callE (spec_PermsOf_c _) ?_ | refine v_callE (spec_l1Bit_c _) ?_ | refine v_callE (spec_IsGrid_c _ ?_ ?_) ?_ | refine v_callE (spec_FindGrid_c _ _ ?_ ?_ ?_) ?_ | refine v_finO1 rfl ?_ | refine v_finN1 rfl ?_ ?_ | refine v_apj ?_ (fun j' => ?_) | refine v_stz ?_ ?_ ?_ ?_ ?_ | refine v_stq ?_ | refine v_cv1 ?_ ?_ ?_ | (intro hc; replace fc := And.intro hc fc; try simp only [hcs] at hc)) <;> (try simp (config := { maxSteps := 1000000 }) only [go_sem, ↓reduceIte, reduceCtorEq, Nat.reduceEqDiff, Nat.reduceAdd, Nat.reduceMul, Nat.reduceSub, Nat.reduceLeDiff, Int.reduceLT, Int.reduceLE, Int.reduceEq, Int.reduceSub, Int.reduceAdd, Int.reduceMul, Int.reduceNeg, Int.reduceToNat, h1_0, h1_1, h1_6, h1_5, b1_5, ni1_5, pi1_5, qi1_5, ri1_5, q7, fc]) <;> (try with_reducible rfl))
        all_goals try (first | omega | (simp only [n_i64, n_u8]; omega) | (simp only [n_i64, n_u8, lnA]; omega) | (simp only [lnA]; done))
        refine v_loop (fun ms2 S2 => ∃ (j : Nat), S2.e 0 = .p (.sl (.lent m0) (List.map (elI e0) (m))) ∧ S2.e 1 = .p (.int .i64 ((N : Int))) ∧ OwnL (S2.e 5) S2.h S2.n (PV.int .i64) ((gcL m k).length) (gcL m k) ∧ S2.e 6 = .p (.int .i64 (k)) ∧ S2.e 7 = .p (.int .i64 (cntL (fun p => (fndG p m).2) ((permL k).take j))) ∧ OwnL (S2.e 8) S2.h S2.n (elI false) ((permL k).length) (permL k) ∧ S2.e 9 = .p (.int .i64 (j)) ∧ (j ≤ (permL k).length) ∧ NId (S2.e 8) (S2.e 5) ∧ S1.n ≤ S2.n ∧ ms2 = (permL k).length - j) ((fun (j : Nat) => (permL k).length - j) (0)) ?init2_2 ?body2_2
        case' init2_2 =>
          refine ⟨0, ?_, ?_, ?_, ?_, ?_, ?_, ?_, ?_, ?_, ?_, rfl⟩
          all_goals (try simp only [go_sem, ↓reduceIte, reduceCtorEq, Nat.reduceEqDiff, Nat.reduceAdd, Nat.reduceMul, Nat.reduceSub, Nat.reduceLeDiff, Int.reduceLT, Int.reduceLE, Int.reduceEq, Int.reduceSub, Int.reduceAdd, Int.reduceMul, Int.reduceNeg, Int.reduceToNat, h1_0, h1_1, h1_6, h1_5, b1_5, ni1_5, pi1_5, qi1_5, ri1_5])
          repeat' refine And.intro ?_ ?_
          all_goals try first | rfl | omega | (simp only [lnA] <;> omega) | ((first | refine stp ?_ | refine dkz_eq ?_ ?_) <;> first | rfl | omega | (simp only [lnA] <;> omega) | (simp only [lnA, List.append_assoc, List.cons_append, List.nil_append]; done) | skip)
        case' body2_2 =>
          rintro ms2 S2 ⟨j, h2_0, h2_1, o2_5, h2_6, h2_7, o2_8, h2_9, c2_0, u2_0, u2_1, hm2⟩
          obtain ⟨i2_5, h2_5, b2_5, l2_5⟩ := o2_5.out
          obtain ⟨i2_8, h2_8, b2_8, l2_8⟩ := o2_8.out
          have k2_0 := (u2_0).out h2_8 h2_5
          have ni2_5 : ∀ c, (i2_5 = S2.n + c) = False := fun c => eq_false (by omega)
          have pi2_5 : ∀ c, (S2.n + c = i2_5) = False := fun c => eq_false (by omega)
          have qi2_5 : (i2_5 = S2.n) = False := eq_false (by omega)
          have ri2_5 : (S2.n = i2_5) = False := eq_false (by omega)
          have ni2_8 : ∀ c, (i2_8 = S2.n + c) = False := fun c => eq_false (by omega)
          have pi2_8 : ∀ c, (S2.n + c = i2_8) = False := fun c => eq_false (by omega)
          have qi2_8 : (i2_8 = S2.n) = False := eq_false (by omega)
          have ri2_8 : (S2.n = i2_8) = False := eq_false (by omega)
          have di2_5i2_8 : (i2_5 = i2_8) = False := eq_false (by omega)
          have di2_8i2_5 : (i2_8 = i2_5) = False := eq_false (by omega)
        have b3 := cntL_le (P := fun p => (fndG p m).2) c2_0
        by_cases hj : j < (permL k).length
        · have b4 := permL_isPerm (show k ≤ 8 by omega) (getD_mem (d := []) hj)
          have b5 := (isPerm_facts b4).1
          have b6 : fndB ((permL k).getD j []) m = fndG ((permL k).getD j []) m := by rw [fndB, b4, hg]; rfl
          have b7 : bitI (fndG ((permL k).getD j []) m).2 ≤ 1 ∧ 0 ≤ bitI (fndG ((permL k).getD j []) m).2 := by unfold bitI; split <;> omega
          have fc : True := trivial
          repeat' first
            | with_reducible first | refine stp ?_ | refine q_blk_o rfl ?_ | (refine hK _ ?_; clear hK) | (refine hA ?_; clear hA hB) | (refine hB ?_; clear hA hB) | exact v_end0 | exact v_end0' | refine v_gb1 ?_ ?_ | refine v_gb0 ?_ ?_ | refine And.intro ?_ ?_
            | (with_reducible refine p_ok ?_; decide)
            | ((first | with_reducible first | refine v_region rfl rfl (fun K hK => ?_) | refine v_draws rfl rfl (fun K hK => ?_) | refine v_if (fun A B hA hB => ?_) | refine v_end rfl ?_ | refine v_fin1 ?_ | refine v_finC1 ?_ | refine v_finR1 ?_ | refine v_callE (spec_l1In_c _ _ _) ?_ | refine v_callE (spec_PermsOf_c _) ?_ | refine v_callE (spec_l1Bit_c _) ?_ | refine v_callE (spec_IsGrid_c _ ?_ ?_) ?_ | refine v_callE (spec_FindGrid_c _ _ ?_ ?_ ?_) ?_ | refine v_finO1 rfl ?_ | refine v_finN1 rfl ?_ ?_ | refine v_apj ?_ (fun j' => ?_) | refine v_stz ?_ ?_ ?_ ?_ ?_ | refine v_stq ?_ | refine v_cv1 ?_ ?_ ?_ | (intro hc; replace fc := And.intro hc fc; try simp only [hcs] at hc)) <;> (try simp (config := { maxSteps := 1000000 }) only [go_sem, ↓reduceIte, reduceCtorEq, Nat.reduceEqDiff, Nat.reduceAdd, Nat.reduceMul, Nat.reduceSub, Nat.reduceLeDiff, Int.reduceLT, Int.reduceLE, Int.reduceEq, Int.reduceSub, Int.reduceAdd, Int.reduceMul, Int.reduceNeg, Int.reduceToNat, h2_0, h2_1, h2_6, h2_7, h2_9, h2_5, b2_5, h2_8, b2_8, ni2_5, pi2_5, qi2_5, ri2_5, ni2_8, pi2_8, qi2_8, ri2_8, di2_5i2_8, di2_8i2_5, b6, fc]) <;> (try with_reducible rfl))
          all_goals try (first | omega | (simp only [n_i64, n_u8]; omega) | (simp only [n_i64, n_u8, lnA]; omega) | (simp only [lnA]; done))
          focus
            refine q_lp_n ((fun (j : Nat) => (permL k).length - j) (j+1)) ?_ ⟨j+1, ?_, ?_, ?_, ?_, ?_, ?_, ?_, ?_, ?_, ?_, rfl⟩
            all_goals (try simp only [go_sem, ↓reduceIte, reduceCtorEq, Nat.reduceEqDiff, Nat.reduceAdd, Nat.reduceMul, Nat.reduceSub, Nat.reduceLeDiff, Int.reduceLT, Int.reduceLE, Int.reduceEq, Int.reduceSub, Int.reduceAdd, Int.reduceMul, Int.reduceNeg, Int.reduceToNat, h2_0, h2_1, h2_6, h2_7, h2_9, h2_5, b2_5, h2_8, b2_8, ni2_5, pi2_5, qi2_5, ri2_5, ni2_8, pi2_8, qi2_8, ri2_8, di2_5i2_8, di2_8i2_5])
            repeat' refine And.intro ?_ ?_
            all_goals try first | rfl | omega | (simp only [lnA] <;> omega) | ((first | refine stp ?_ | refine dkz_eq ?_ ?_) <;> first | rfl | omega | (simp only [lnA] <;> omega) | (simp only [lnA, List.append_assoc, List.cons_append, List.nil_append]; done) | skip)
          rw [cntL_succ hj]; unfold bitI; split <;> rfl
        · have fc : True := trivial
          repeat' first
            | with_reducible first | refine stp ?_ | refine q_blk_o rfl ?_ | (refine hK _ ?_; clear hK) | (refine hA ?_; clear hA hB) | (refine hB ?_; clear hA hB) | exact v_end0 | exact v_end0' | refine v_gb1 ?_ ?_ | refine v_gb0 ?_ ?_ | refine And.intro ?_ ?_
            | (with_reducible refine p_ok ?_; decide)
            | ((first | with_reducible first | refine v_region rfl rfl (fun K hK => ?_) | refine v_draws rfl rfl (fun K hK => ?_) | refine v_if (fun A B hA hB => ?_) | refine v_end rfl ?_ | refine v_fin1 ?_ | refine v_finC1 ?_ | refine v_finR1 ?_ | refine v_callE (spec_l1In_c _ _ _) ?_ | refine v_callE (spec_PermsOf_c _) ?_ | refine v_callE (spec_l1Bit_c _) ?_ | refine v_callE (spec_IsGrid_c _ ?_ ?_) ?_ | refine v_callE (spec_FindGrid_c _ _ ?_ ?_ ?_) ?_ | refine v_finO1 rfl ?_ | refine v_finN1 rfl ?_ ?_ | refine v_apj ?_ (fun j' => ?_) | refine v_stz ?_ ?_ ?_ ?_ ?_ | refine v_stq ?_ | refine v_cv1 ?_ ?_ ?_ | (intro hc; replace fc := And.intro hc fc; try simp only [hcs] at hc)) <;> (try simp (config := { maxSteps := 1000000 }) only [go_sem, ↓reduceIte, reduceCtorEq, Nat.reduceEqDiff, Nat.reduceAdd, Nat.reduceMul, Nat.reduceSub, Nat.reduceLeDiff, Int.reduceLT, Int.reduceLE, Int.reduceEq, Int.reduceSub, Int.reduceAdd, Int.reduceMul, Int.reduceNeg, Int.reduceToNat, h2_0, h2_1, h2_6, h2_7, h2_9, h2_5, b2_5, h2_8, b2_8, ni2_5, pi2_5, qi2_5, ri2_5, ni2_8, pi2_8, qi2_8, ri2_8, di2_5i2_8, di2_8i2_5, fc]) <;> (try with_reducible rfl))
          all_goals try (first | omega | (simp only [n_i64, n_u8]; omega) | (simp only [n_i64, n_u8, lnA]; omega) | (simp only [lnA]; done))
          focus
            refine q_lp_n ((fun (k : Nat) => N + 1 - k) (k+1)) ?_ ⟨k+1, ?_, ?_, ?_, ?_, ?_, rfl⟩
            all_goals (try simp only [go_sem, ↓reduceIte, reduceCtorEq, Nat.reduceEqDiff, Nat.reduceAdd, Nat.reduceMul, Nat.reduceSub, Nat.reduceLeDiff, Int.reduceLT, Int.reduceLE, Int.reduceEq, Int.reduceSub, Int.reduceAdd, Int.reduceMul, Int.reduceNeg, Int.reduceToNat, h2_0, h2_1, h2_6, h2_7, h2_9, h2_5, b2_5, h2_8, b2_8, ni2_5, pi2_5, qi2_5, ri2_5, ni2_8, pi2_8, qi2_8, ri2_8, di2_5i2_8, di2_8i2_5])
            repeat' refine And.intro ?_ ?_
            all_goals try first | rfl | omega | (simp only [lnA] <;> omega) | ((first | refine stp ?_ | refine dkz_eq ?_ ?_) <;> first | rfl | omega | (simp only [lnA] <;> omega) | (simp only [lnA, List.append_assoc, List.cons_append, List.nil_append]; done) | skip)
          all_goals (first | (rw [gcL_succ, List.take_of_length_le (by omega)]; done) | (rw [gcL_succ]; simp; done))
      · skip
        have fc : True := trivial
        repeat' first
          | with_reducible first | refine stp ?_ | refine q_blk_o rfl ?_ | (refine hK _ ?_; clear hK) | (refine hA ?_; clear hA hB) | (refine hB ?_; clear hA hB) | exact v_end0 | exact v_end0' | refine v_gb1 ?_ ?_ | refine v_gb0 ?_ ?_ | refine And.intro ?_ ?_
          | (with_reducible refine p_ok ?_; decide)
          | ((first | with_reducible first | refine v_region rfl rfl (fun K hK => ?_) | refine v_draws rfl rfl (fun K hK => ?_) | refine v_if (fun A B hA hB => ?_) | refine v_end rfl ?_ | refine v_fin1 ?_ | refine v_finC1 ?_ | refine v_finR1 ?_ | refine v_callE (spec_l1In_c _ _ _) ?_ | refine v_callE (spec_PermsOf_c _) ?_ | refine v_callE (spec_l1Bit_c _) ?_ | refine v_callE (spec_IsGrid_c _ ?_ ?_) ?_ | refine v_callE (spec_FindGrid_c _ _ ?_ ?_ ?_) ?_ | refine v_finO1 rfl ?_ | refine v_finN1 rfl ?_ ?_ | refine v_apj ?_ (fun j' => ?_) | refine v_stz ?_ ?_ ?_ ?_ ?_ | refine v_stq ?_ | refine v_cv1 ?_ ?_ ?_ | (intro hc; replace fc := And.intro hc fc; try simp only [hcs] at hc)) <;> (try simp (config := { maxSteps := 1000000 }) only [go_sem, ↓reduceIte, reduceCtorEq, Nat.reduceEqDiff, Nat.reduceAdd, Nat.reduceMul, Nat.reduceSub, Nat.reduceLeDiff, Int.reduceLT, Int.reduceLE, Int.reduceEq, Int.reduceSub, Int.reduceAdd, Int.reduceMul, Int.reduceNeg, Int.reduceToNat, h1_0, h1_1, h1_6, h1_5, b1_5, ni1_5, pi1_5, qi1_5, ri1_5, fc]) <;> (try with_reducible rfl))
        all_goals try (first | omega | (simp only [n_i64, n_u8]; omega) | (simp only [n_i64, n_u8, lnA]; omega) | (simp only [lnA]; done))
        obtain rfl : k = N + 1 := by omega
        rfl
    · have q1 : gcB m n = [] := by rw [gcB, if_neg (fun h => hn h.2)]
      rw [q1]
      refine Fun.of (sg := sg0) (ts := [4]) mo Try.func39 rfl rfl rfl rfl (by kernel_rfl) (by simp only [go_sem]) rfl ?_
      have fc : True := trivial
      repeat' first
        | with_reducible first | refine stp ?_ | refine q_blk_o rfl ?_ | (refine hK _ ?_; clear hK) | (refine hA ?_; clear hA hB) | (refine hB ?_; clear hA hB) | exact v_end0 | exact v_end0' | refine v_gb1 ?_ ?_ | refine v_gb0 ?_ ?_ | refine And.intro ?_ ?_
        | (with_reducible refine p_ok ?_; decide)
        | ((first | with_reducible first | refine v_region rfl rfl (fun K hK => ?_) | refine v_draws rfl rfl (fun K hK => ?_) | refine v_if (fun A B hA hB => ?_) | refine v_end rfl ?_ | refine v_fin1 ?_ | refine v_finC1 ?_ | refine v_finR1 ?_ | refine v_callE (spec_l1In_c _ _ _) ?_ | refine v_callE (spec_PermsOf_c _) ?_ | refine v_callE (spec_l1Bit_c _) ?_ | refine v_callE (spec_IsGrid_c _ ?_ ?_) ?_ | refine v_callE (spec_FindGrid_c _ _ ?_ ?_ ?_) ?_ | refine v_finO1 rfl ?_ | refine v_finN1 rfl ?_ ?_ | refine v_apj ?_ (fun j' => ?_) | refine v_stz ?_ ?_ ?_ ?_ ?_ | refine v_stq ?_ | refine v_cv1 ?_ ?_ ?_ | (intro hc; replace fc := And.intro hc fc; try simp only [hcs] at hc)) <;> (try simp (config := { maxSteps := 1000000 }) only [go_sem, ↓reduceIte, reduceCtorEq, Nat.reduceEqDiff, Nat.reduceAdd, Nat.reduceMul, Nat.reduceSub, Nat.reduceLeDiff, Int.reduceLT, Int.reduceLE, Int.reduceEq, Int.reduceSub, Int.reduceAdd, Int.reduceMul, Int.reduceNeg, Int.reduceToNat, hg, fc]) <;> (try with_reducible rfl))
      all_goals try (first | omega | (simp only [n_i64, n_u8]; omega) | (simp only [n_i64, n_u8, lnA]; omega) | (simp only [lnA]; done))
  · have hg' : gridB m = false := by simpa using hg
    have q1 : gcB m n = [] := by rw [gcB, if_neg (fun h => hg h.1)]
    rw [q1]
    refine Fun.of (sg := sg0) (ts := [4]) mo Try.func39 rfl rfl rfl rfl (by kernel_rfl) (by simp only [go_sem]) rfl ?_
    have fc : True := trivial
    repeat' first
      | with_reducible first | refine stp ?_ | refine q_blk_o rfl ?_ | (refine hK _ ?_; clear hK) | (refine hA ?_; clear hA hB) | (refine hB ?_; clear hA hB) | exact v_end0 | exact v_end0' | refine v_gb1 ?_ ?_ | refine v_gb0 ?_ ?_ | refine And.intro ?_ ?_
      | (with_reducible refine p_ok ?_; decide)
      | ((first | with_reducible first | refine v_region rfl rfl (fun K hK => ?_) | refine v_draws rfl rfl (fun K hK => ?_) | refine v_if (fun A B hA hB => ?_) | refine v_end rfl ?_ | refine v_fin1 ?_ | refine v_finC1 ?_ | refine v_finR1 ?_ | refine v_callE (spec_l1In_c _ _ _) ?_ | refine v_callE (spec_PermsOf_c _) ?_ | refine v_callE (spec_l1Bit_c _) ?_ | refine v_callE (spec_IsGrid_c _ ?_ ?_) ?_ | refine v_callE (spec_FindGrid_c _ _ ?_ ?_ ?_) ?_ | refine v_finO1 rfl ?_ | refine v_finN1 rfl ?_ ?_ | refine v_apj ?_ (fun j' => ?_) | refine v_stz ?_ ?_ ?_ ?_ ?_ | refine v_stq ?_ | refine v_cv1 ?_ ?_ ?_ | (intro hc; replace fc := And.intro hc fc; try simp only [hcs] at hc)) <;> (try simp (config := { maxSteps := 1000000 }) only [go_sem, ↓reduceIte, reduceCtorEq, Nat.reduceEqDiff, Nat.reduceAdd, Nat.reduceMul, Nat.reduceSub, Nat.reduceLeDiff, Int.reduceLT, Int.reduceLE, Int.reduceEq, Int.reduceSub, Int.reduceAdd, Int.reduceMul, Int.reduceNeg, Int.reduceToNat, hg', fc]) <;> (try with_reducible rfl))
    all_goals try (first | omega | (simp only [n_i64, n_u8]; omega) | (simp only [n_i64, n_u8, lnA]; omega) | (simp only [lnA]; done))
end Go.Gl
