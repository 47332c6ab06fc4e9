/-
  Draws of moves. Conditions: none.
-/
import Derived.Test.YtnoedblfedppkaaDraw
import Derived.Test.YtnoedblfedppkaaMovN
set_option linter.unusedSimpArgs false
set_option linter.unusedVariables false
set_option maxRecDepth 20000
set_option linter.unusedSectionVars false
namespace Go.Gl
open Go Go.Proofs
variable [Amb]
theorem sml_rev {p : List Int} (h : SmL p) : SmL p.reverse := ⟨by rw [List.length_reverse]; exact h.len, fun x hx => h.rg x (List.mem_reverse.1 hx)⟩
theorem nr_sm {p : List Int} (h : isPermB p = true) : SmL (nrS p p.length).2.2 := by
  obtain ⟨h8, hp⟩ := isP_8 h
  have hi := nr_inv hp (k := p.length) (Nat.le_refl _)
  refine ⟨by rw [hi.ol]; omega, fun x hx => ?_⟩
  have := (permB_iff.1 hp).1 x (hi.os x hx); omega
theorem spec_NearestRest_n_c {m0 : Bool} (p : List Int) (hl : p.length ≤ 1048576) (hp : isPermB p = false) : Fun Try.prog 215 [(.sl (.lent m0) (List.map (PV.int .i64) (p)))] [(.sl .own (List.map (PV.int .i64) (([] : List Int)))), (.bool (false))] := by
  refine Fun.of (sg := sgCu) (ts := [2, 3]) mo Try.func215 rfl rfl rfl rfl (by kernel_rfl) (by simp only [go_sem]) rfl ?_
  have fc : True := trivial
  repeat' first
    | with_reducible first | refine stp ?_ | refine q_blk_o rfl ?_ | (refine hK _ ?_; clear hK) | (refine hA ?_; clear hA hB) | (refine hB ?_; clear hA hB) | exact v_end0 | exact v_end0' | refine v_gb1 ?_ ?_ | refine v_gb0 ?_ ?_ | refine And.intro ?_ ?_
    | (with_reducible refine hK _ _ ?_ ?_; focus (first | exact clearAll_quiet rfl | (refine clearAll_of [true, false, false, false, true, false, false, false, false, true, false] [(0, 1), (0, 2), (0, 3), (0, 5), (4, 5), (0, 6), (4, 6), (0, 7), (4, 7), (0, 8), (4, 8)] rfl (by decide +kernel) ?_; try simp only [go_sem, ↓reduceIte, reduceCtorEq, Nat.reduceEqDiff, Nat.reduceAdd, Nat.reduceMul, Nat.reduceSub, Nat.reduceLeDiff, Int.reduceLT, Int.reduceLE, Int.reduceEq, Int.reduceSub, Int.reduceAdd, Int.reduceMul, Int.reduceNeg, Int.reduceToNat, hp])); all_goals (try clear hK))
    | (with_reducible refine p_ok ?_; decide)
    | ((first | with_reducible first | refine v_region rfl rfl (fun K hK => ?_) | refine v_draws rfl rfl (fun K hK => ?_) | refine v_if (fun A B hA hB => ?_) | refine v_end rfl ?_ | refine v_fin1 ?_ | refine v_finC1 ?_ | refine v_finR1 ?_ | refine v_callE (spec_IsPerm_c _ ?_) ?_ | refine v_callE (spec_LowsOf_c _ ?_ ?_) ?_ | refine v_callE (spec_l17Rest_c _ ?_ ?_) ?_ | refine v_callE (spec_l2Has_c _ _ ?_) ?_ | refine v_finO1 rfl ?_ | refine v_finN1 rfl ?_ ?_ | refine v_apj ?_ (fun j' => ?_) | refine v_stz ?_ ?_ ?_ ?_ ?_ | refine v_stq ?_ | refine v_cv1 ?_ ?_ ?_ | (intro hc; replace fc := And.intro hc fc; try simp only [hcs] at hc)) <;> (try simp (config := { maxSteps := 1000000 }) only [go_sem, ↓reduceIte, reduceCtorEq, Nat.reduceEqDiff, Nat.reduceAdd, Nat.reduceMul, Nat.reduceSub, Nat.reduceLeDiff, Int.reduceLT, Int.reduceLE, Int.reduceEq, Int.reduceSub, Int.reduceAdd, Int.reduceMul, Int.reduceNeg, Int.reduceToNat, hp, fc]) <;> (try with_reducible rfl))
  all_goals try (first | omega | (simp only [n_i64, n_u8]; omega) | (simp only [n_i64, n_u8, lnA]; omega) | (simp only [lnA]; done) | exact List.take_of_length_le (by simp))
theorem spec_l18Avoiding_x (b : List UInt8) (s : Cu) (hb : b.length ≤ 1048576) : ∃ s' p, CallT Try.prog false 136 [.mu true (curC b s)] [some (curC b s')] [.sl .own (List.map (PV.int .i64) p)] ∧ SmL p := by
  obtain ⟨s1, p, c1, hs⟩ := spec_l2Bent_x b s hb
  have hl := hs.len
  by_cases hp : isPermB p = true
  · have c2 := fun m : Bool => spec_NearestRest_c (m0 := m) p (by omega) hp
    have hq := nr_sm hp
    have hl2 := hq.len
    generalize (nrS p p.length).2.2 = q at *
    by_cases h0 : bwX b s1 6 = 0
    · refine ⟨bwS b s1 6, p, ?_, hs⟩
      refine CallT.of (sg := sgCu) (ts := [2]) mo Try.func136 rfl rfl rfl rfl (by kernel_rfl) (by simp only [go_sem]) rfl (by simp only [go_sem]) ?_
      have fc : True := trivial
      repeat' first
        | with_reducible first | refine stp ?_ | refine q_blk_o rfl ?_ | (refine hK _ ?_; clear hK) | (refine hA ?_; clear hA hB) | (refine hB ?_; clear hA hB) | exact v_end0 | exact v_end0' | refine v_gb1 ?_ ?_ | refine v_gb0 ?_ ?_ | refine And.intro ?_ ?_
        | (with_reducible refine p_ok ?_; decide)
        | ((first | with_reducible first | refine v_region rfl rfl (fun K hK => ?_) | refine v_draws rfl rfl (fun K hK => ?_) | refine v_if (fun A B hA hB => ?_) | refine v_end rfl ?_ | refine v_fin1 ?_ | refine v_finC1 ?_ | refine v_finR1 ?_ | refine v_callE (c2 _) ?_ | refine v_callN (spec_l1Once_c _ _ _ ?_ ?_) rfl ?_ ?_ | refine v_callT (spec_l1Once_c _ _ _ ?_ ?_) rfl ?_ ?_ | refine v_callTd (spec_l1Once_c _ _ _ ?_ ?_) rfl ?_ ?_ | refine v_callR (spec_l1Once_c _ _ _ ?_ ?_) rfl ?_ ?_ | refine v_callN (c1) rfl ?_ ?_ | refine v_callT (c1) rfl ?_ ?_ | refine v_callTd (c1) rfl ?_ ?_ | refine v_callR (c1) rfl ?_ ?_ | refine v_callT3 (spec_l1Once_c _ _ _ ?_ ?_) ?_ ?_ | refine v_callT4 (spec_l1Once_c _ _ _ ?_ ?_) ?_ ?_ | refine v_callT3 (c1) ?_ ?_ | refine v_callT4 (c1) ?_ ?_ | refine v_finO1 rfl ?_ | refine v_finN1 rfl ?_ ?_ | refine v_apj ?_ (fun j' => ?_) | refine v_stz ?_ ?_ ?_ ?_ ?_ | refine v_stq ?_ | refine v_cv1 ?_ ?_ ?_ | (intro hc; replace fc := And.intro hc fc; try simp only [hcs] at hc)) <;> (try simp (config := { maxSteps := 1000000 }) only [go_sem, ↓reduceIte, reduceCtorEq, Nat.reduceEqDiff, Nat.reduceAdd, Nat.reduceMul, Nat.reduceSub, Nat.reduceLeDiff, Int.reduceLT, Int.reduceLE, Int.reduceEq, Int.reduceSub, Int.reduceAdd, Int.reduceMul, Int.reduceNeg, Int.reduceToNat, h0, fc]) <;> (try with_reducible rfl))
      all_goals try (first | omega | (simp only [n_i64, n_u8]; omega) | (simp only [n_i64, n_u8, lnA]; omega) | (simp only [lnA]; done) | exact List.take_of_length_le (by simp))
      all_goals trace_state
    · have f0 : (bwX b s1 6 = 0) = False := eq_false h0
      refine ⟨bwS b s1 6, q, ?_, hq⟩
      refine CallT.of (sg := sgCu) (ts := [2]) mo Try.func136 rfl rfl rfl rfl (by kernel_rfl) (by simp only [go_sem]) rfl (by simp only [go_sem]) ?_
      have fc : True := trivial
      repeat' first
        | with_reducible first | refine stp ?_ | refine q_blk_o rfl ?_ | (refine hK _ ?_; clear hK) | (refine hA ?_; clear hA hB) | (refine hB ?_; clear hA hB) | exact v_end0 | exact v_end0' | refine v_gb1 ?_ ?_ | refine v_gb0 ?_ ?_ | refine And.intro ?_ ?_
        | (with_reducible refine p_ok ?_; decide)
        | ((first | with_reducible first | refine v_region rfl rfl (fun K hK => ?_) | refine v_draws rfl rfl (fun K hK => ?_) | refine v_if (fun A B hA hB => ?_) | refine v_end rfl ?_ | refine v_fin1 ?_ | refine v_finC1 ?_ | refine v_finR1 ?_ | refine v_callE (c2 _) ?_ | refine v_callN (spec_l1Once_c _ _ _ ?_ ?_) rfl ?_ ?_ | refine v_callT (spec_l1Once_c _ _ _ ?_ ?_) rfl ?_ ?_ | refine v_callTd (spec_l1Once_c _ _ _ ?_ ?_) rfl ?_ ?_ | refine v_callR (spec_l1Once_c _ _ _ ?_ ?_) rfl ?_ ?_ | refine v_callN (c1) rfl ?_ ?_ | refine v_callT (c1) rfl ?_ ?_ | refine v_callTd (c1) rfl ?_ ?_ | refine v_callR (c1) rfl ?_ ?_ | refine v_callT3 (spec_l1Once_c _ _ _ ?_ ?_) ?_ ?_ | refine v_callT4 (spec_l1Once_c _ _ _ ?_ ?_) ?_ ?_ | refine v_callT3 (c1) ?_ ?_ | refine v_callT4 (c1) ?_ ?_ | refine v_finO1 rfl ?_ | refine v_finN1 rfl ?_ ?_ | refine v_apj ?_ (fun j' => ?_) | refine v_stz ?_ ?_ ?_ ?_ ?_ | refine v_stq ?_ | refine v_cv1 ?_ ?_ ?_ | (intro hc; replace fc := And.intro hc fc; try simp only [hcs] at hc)) <;> (try simp (config := { maxSteps := 1000000 }) only [go_sem, ↓reduceIte, reduceCtorEq, Nat.reduceEqDiff, Nat.reduceAdd, Nat.reduceMul, Nat.reduceSub, Nat.reduceLeDiff, Int.reduceLT, Int.reduceLE, Int.reduceEq, Int.reduceSub, Int.reduceAdd, Int.reduceMul, Int.reduceNeg, Int.reduceToNat, f0, fc]) <;> (try with_reducible rfl))
      all_goals try (first | omega | (simp only [n_i64, n_u8]; omega) | (simp only [n_i64, n_u8, lnA]; omega) | (simp only [lnA]; done) | exact List.take_of_length_le (by simp))
      all_goals trace_state
  · rw [Bool.not_eq_true] at hp
    have c2 := fun m : Bool => spec_NearestRest_n_c (m0 := m) p (by omega) hp
    refine ⟨s1, p, ?_, hs⟩
    refine CallT.of (sg := sgCu) (ts := [2]) mo Try.func136 rfl rfl rfl rfl (by kernel_rfl) (by simp only [go_sem]) rfl (by simp only [go_sem]) ?_
    have fc : True := trivial
    repeat' first
      | with_reducible first | refine stp ?_ | refine q_blk_o rfl ?_ | (refine hK _ ?_; clear hK) | (refine hA ?_; clear hA hB) | (refine hB ?_; clear hA hB) | exact v_end0 | exact v_end0' | refine v_gb1 ?_ ?_ | refine v_gb0 ?_ ?_ | refine And.intro ?_ ?_
      | (with_reducible refine p_ok ?_; decide)
      | ((first | with_reducible first | refine v_region rfl rfl (fun K hK => ?_) | refine v_draws rfl rfl (fun K hK => ?_) | refine v_if (fun A B hA hB => ?_) | refine v_end rfl ?_ | refine v_fin1 ?_ | refine v_finC1 ?_ | refine v_finR1 ?_ | refine v_callE (c2 _) ?_ | refine v_callN (spec_l1Once_c _ _ _ ?_ ?_) rfl ?_ ?_ | refine v_callT (spec_l1Once_c _ _ _ ?_ ?_) rfl ?_ ?_ | refine v_callTd (spec_l1Once_c _ _ _ ?_ ?_) rfl ?_ ?_ | refine v_callR (spec_l1Once_c _ _ _ ?_ ?_) rfl ?_ ?_ | refine v_callN (c1) rfl ?_ ?_ | refine v_callT (c1) rfl ?_ ?_ | refine v_callTd (c1) rfl ?_ ?_ | refine v_callR (c1) rfl ?_ ?_ | refine v_callT3 (spec_l1Once_c _ _ _ ?_ ?_) ?_ ?_ | refine v_callT4 (spec_l1Once_c _ _ _ ?_ ?_) ?_ ?_ | refine v_callT3 (c1) ?_ ?_ | refine v_callT4 (c1) ?_ ?_ | refine v_finO1 rfl ?_ | refine v_finN1 rfl ?_ ?_ | refine v_apj ?_ (fun j' => ?_) | refine v_stz ?_ ?_ ?_ ?_ ?_ | refine v_stq ?_ | refine v_cv1 ?_ ?_ ?_ | (intro hc; replace fc := And.intro hc fc; try simp only [hcs] at hc)) <;> (try simp (config := { maxSteps := 1000000 }) only [go_sem, ↓reduceIte, reduceCtorEq, Nat.reduceEqDiff, Nat.reduceAdd, Nat.reduceMul, Nat.reduceSub, Nat.reduceLeDiff, Int.reduceLT, Int.reduceLE, Int.reduceEq, Int.reduceSub, Int.reduceAdd, Int.reduceMul, Int.reduceNeg, Int.reduceToNat, fc]) <;> (try with_reducible rfl))
    all_goals try (first | omega | (simp only [n_i64, n_u8]; omega) | (simp only [n_i64, n_u8, lnA]; omega) | (simp only [lnA]; done) | exact List.take_of_length_le (by simp))
    all_goals trace_state
theorem spec_l1Turned_x {m0 : Bool} (b : List UInt8) (s : Cu) (t : List UInt8) (l : List (List UInt8)) (hb : b.length ≤ 1048576) (ht : t.length ≤ 1048576) (hl : l.length ≤ 256) (h0 : l ≠ []) (hx : ∀ x ∈ l, x.length ≤ 16) : ∃ s' u, CallT Try.prog false 214 [.mu true (curC b s), .pv (.str t), .pv (.sl (.lent m0) (List.map PV.str l))] [some (curC b s'), none, none] [.str u] ∧ u.length ≤ t.length + 16 := by
  have q := bwX_r (b := b) (s := s) (n := (t.length : Int) + 1)
  obtain ⟨j, hj⟩ : ∃ j : Nat, bwX b s ((t.length : Int) + 1) = j := ⟨_, (Int.toNat_of_nonneg q.1).symm⟩
  rw [hj] at q
  obtain ⟨x, hxx⟩ : ∃ x, bwX b (bwS b s ((t.length : Int) + 1)) 6 = x := ⟨_, rfl⟩
  by_cases g0 : x = 0
  · obtain ⟨s3, y, c3, hy⟩ := spec_l1Pick_x (m0 := m0) b (bwS b (bwS b s ((t.length : Int) + 1)) 6) l hb hl h0
    have hy2 := hx y hy
    refine ⟨s3, (t.take j ++ y) ++ t.drop j, ?_, by simp; omega⟩
    subst g0
    refine CallT.of (sg := sgCu) (ts := [6]) mo Try.func214 rfl rfl rfl rfl (by kernel_rfl) (by simp only [go_sem]) rfl (by simp only [go_sem]) ?_
    have fc : True := trivial
    repeat' first
      | with_reducible first | refine stp ?_ | refine q_blk_o rfl ?_ | (refine hK _ ?_; clear hK) | (refine hA ?_; clear hA hB) | (refine hB ?_; clear hA hB) | exact v_end0 | exact v_end0' | refine v_gb1 ?_ ?_ | refine v_gb0 ?_ ?_ | refine And.intro ?_ ?_
      | (with_reducible refine hK _ _ ?_ ?_; focus (first | exact clearAll_quiet rfl | (refine clearAll_of [false, false, false, false, false, true, false, false, false, false, false, false] [(0, 5), (1, 5), (2, 5), (5, 7), (5, 8), (5, 9)] rfl (by decide +kernel) ?_; try simp only [go_sem, ↓reduceIte, reduceCtorEq, Nat.reduceEqDiff, Nat.reduceAdd, Nat.reduceMul, Nat.reduceSub, Nat.reduceLeDiff, Int.reduceLT, Int.reduceLE, Int.reduceEq, Int.reduceSub, Int.reduceAdd, Int.reduceMul, Int.reduceNeg, Int.reduceToNat, hj, hxx])); all_goals (try clear hK))
      | (with_reducible refine p_ok ?_; decide)
      | ((first | with_reducible first | refine v_region rfl rfl (fun K hK => ?_) | refine v_draws rfl rfl (fun K hK => ?_) | refine v_if (fun A B hA hB => ?_) | refine v_end rfl ?_ | refine v_fin1 ?_ | refine v_finC1 ?_ | refine v_finR1 ?_ | refine v_callN (spec_l1Below_c _ _ _ ?_ ?_) rfl ?_ ?_ | refine v_callT (spec_l1Below_c _ _ _ ?_ ?_) rfl ?_ ?_ | refine v_callTd (spec_l1Below_c _ _ _ ?_ ?_) rfl ?_ ?_ | refine v_callR (spec_l1Below_c _ _ _ ?_ ?_) rfl ?_ ?_ | refine v_callN (c3) rfl ?_ ?_ | refine v_callT (c3) rfl ?_ ?_ | refine v_callTd (c3) rfl ?_ ?_ | refine v_callR (c3) rfl ?_ ?_ | refine v_callT3 (spec_l1Below_c _ _ _ ?_ ?_) ?_ ?_ | refine v_callT4 (spec_l1Below_c _ _ _ ?_ ?_) ?_ ?_ | refine v_callT3 (c3) ?_ ?_ | refine v_callT4 (c3) ?_ ?_ | refine v_finO1 rfl ?_ | refine v_finN1 rfl ?_ ?_ | refine v_apj ?_ (fun j' => ?_) | refine v_stz ?_ ?_ ?_ ?_ ?_ | refine v_stq ?_ | refine v_cv1 ?_ ?_ ?_ | (intro hc; replace fc := And.intro hc fc; try simp only [hcs] at hc)) <;> (try simp (config := { maxSteps := 1000000 }) only [go_sem, ↓reduceIte, reduceCtorEq, Nat.reduceEqDiff, Nat.reduceAdd, Nat.reduceMul, Nat.reduceSub, Nat.reduceLeDiff, Int.reduceLT, Int.reduceLE, Int.reduceEq, Int.reduceSub, Int.reduceAdd, Int.reduceMul, Int.reduceNeg, Int.reduceToNat, hj, hxx, fc]) <;> (try with_reducible rfl))
    all_goals try (first | omega | (simp only [n_i64, n_u8]; omega) | (simp only [n_i64, n_u8, lnA]; omega) | (simp only [lnA]; done) | exact List.take_of_length_le (by simp))
    all_goals trace_state
  · have f0 : (x = 0) = False := eq_false g0
    by_cases g1 : x = 1
    · refine ⟨bwS b (bwS b s ((t.length : Int) + 1)) 6, t.take j, ?_, by simp; omega⟩
      subst g1
      refine CallT.of (sg := sgCu) (ts := [6]) mo Try.func214 rfl rfl rfl rfl (by kernel_rfl) (by simp only [go_sem]) rfl (by simp only [go_sem]) ?_
      have fc : True := trivial
      repeat' first
        | with_reducible first | refine stp ?_ | refine q_blk_o rfl ?_ | (refine hK _ ?_; clear hK) | (refine hA ?_; clear hA hB) | (refine hB ?_; clear hA hB) | exact v_end0 | exact v_end0' | refine v_gb1 ?_ ?_ | refine v_gb0 ?_ ?_ | refine And.intro ?_ ?_
        | (with_reducible refine hK _ _ ?_ ?_; focus (first | exact clearAll_quiet rfl | (refine clearAll_of [false, false, false, false, false, true, false, false, false, false, false, false] [(0, 5), (1, 5), (2, 5), (5, 7), (5, 8), (5, 9)] rfl (by decide +kernel) ?_; try simp only [go_sem, ↓reduceIte, reduceCtorEq, Nat.reduceEqDiff, Nat.reduceAdd, Nat.reduceMul, Nat.reduceSub, Nat.reduceLeDiff, Int.reduceLT, Int.reduceLE, Int.reduceEq, Int.reduceSub, Int.reduceAdd, Int.reduceMul, Int.reduceNeg, Int.reduceToNat, hj, hxx])); all_goals (try clear hK))
        | (with_reducible refine p_ok ?_; decide)
        | ((first | with_reducible first | refine v_region rfl rfl (fun K hK => ?_) | refine v_draws rfl rfl (fun K hK => ?_) | refine v_if (fun A B hA hB => ?_) | refine v_end rfl ?_ | refine v_fin1 ?_ | refine v_finC1 ?_ | refine v_finR1 ?_ | refine v_callN (spec_l1Below_c _ _ _ ?_ ?_) rfl ?_ ?_ | refine v_callT (spec_l1Below_c _ _ _ ?_ ?_) rfl ?_ ?_ | refine v_callTd (spec_l1Below_c _ _ _ ?_ ?_) rfl ?_ ?_ | refine v_callR (spec_l1Below_c _ _ _ ?_ ?_) rfl ?_ ?_ | refine v_callT3 (spec_l1Below_c _ _ _ ?_ ?_) ?_ ?_ | refine v_callT4 (spec_l1Below_c _ _ _ ?_ ?_) ?_ ?_ | refine v_finO1 rfl ?_ | refine v_finN1 rfl ?_ ?_ | refine v_apj ?_ (fun j' => ?_) | refine v_stz ?_ ?_ ?_ ?_ ?_ | refine v_stq ?_ | refine v_cv1 ?_ ?_ ?_ | (intro hc; replace fc := And.intro hc fc; try simp only [hcs] at hc)) <;> (try simp (config := { maxSteps := 1000000 }) only [go_sem, ↓reduceIte, reduceCtorEq, Nat.reduceEqDiff, Nat.reduceAdd, Nat.reduceMul, Nat.reduceSub, Nat.reduceLeDiff, Int.reduceLT, Int.reduceLE, Int.reduceEq, Int.reduceSub, Int.reduceAdd, Int.reduceMul, Int.reduceNeg, Int.reduceToNat, hj, hxx, fc]) <;> (try with_reducible rfl))
      all_goals try (first | omega | (simp only [n_i64, n_u8]; omega) | (simp only [n_i64, n_u8, lnA]; omega) | (simp only [lnA]; done) | exact List.take_of_length_le (by simp))
      all_goals trace_state
    · have f1 : (x = 1) = False := eq_false g1
      refine ⟨bwS b (bwS b s ((t.length : Int) + 1)) 6, t, ?_, by omega⟩
      refine CallT.of (sg := sgCu) (ts := [6]) mo Try.func214 rfl rfl rfl rfl (by kernel_rfl) (by simp only [go_sem]) rfl (by simp only [go_sem]) ?_
      have fc : True := trivial
      repeat' first
        | with_reducible first | refine stp ?_ | refine q_blk_o rfl ?_ | (refine hK _ ?_; clear hK) | (refine hA ?_; clear hA hB) | (refine hB ?_; clear hA hB) | exact v_end0 | exact v_end0' | refine v_gb1 ?_ ?_ | refine v_gb0 ?_ ?_ | refine And.intro ?_ ?_
        | (with_reducible refine hK _ _ ?_ ?_; focus (first | exact clearAll_quiet rfl | (refine clearAll_of [false, false, false, false, false, true, false, false, false, false, false, false] [(0, 5), (1, 5), (2, 5), (5, 7), (5, 8), (5, 9)] rfl (by decide +kernel) ?_; try simp only [go_sem, ↓reduceIte, reduceCtorEq, Nat.reduceEqDiff, Nat.reduceAdd, Nat.reduceMul, Nat.reduceSub, Nat.reduceLeDiff, Int.reduceLT, Int.reduceLE, Int.reduceEq, Int.reduceSub, Int.reduceAdd, Int.reduceMul, Int.reduceNeg, Int.reduceToNat, hj, hxx, f0, f1])); all_goals (try clear hK))
        | (with_reducible refine p_ok ?_; decide)
        | ((first | with_reducible first | refine v_region rfl rfl (fun K hK => ?_) | refine v_draws rfl rfl (fun K hK => ?_) | refine v_if (fun A B hA hB => ?_) | refine v_end rfl ?_ | refine v_fin1 ?_ | refine v_finC1 ?_ | refine v_finR1 ?_ | refine v_callN (spec_l1Below_c _ _ _ ?_ ?_) rfl ?_ ?_ | refine v_callT (spec_l1Below_c _ _ _ ?_ ?_) rfl ?_ ?_ | refine v_callTd (spec_l1Below_c _ _ _ ?_ ?_) rfl ?_ ?_ | refine v_callR (spec_l1Below_c _ _ _ ?_ ?_) rfl ?_ ?_ | refine v_callT3 (spec_l1Below_c _ _ _ ?_ ?_) ?_ ?_ | refine v_callT4 (spec_l1Below_c _ _ _ ?_ ?_) ?_ ?_ | refine v_finO1 rfl ?_ | refine v_finN1 rfl ?_ ?_ | refine v_apj ?_ (fun j' => ?_) | refine v_stz ?_ ?_ ?_ ?_ ?_ | refine v_stq ?_ | refine v_cv1 ?_ ?_ ?_ | (intro hc; replace fc := And.intro hc fc; try simp only [hcs] at hc)) <;> (try simp (config := { maxSteps := 1000000 }) only [go_sem, ↓reduceIte, reduceCtorEq, Nat.reduceEqDiff, Nat.reduceAdd, Nat.reduceMul, Nat.reduceSub, Nat.reduceLeDiff, Int.reduceLT, Int.reduceLE, Int.reduceEq, Int.reduceSub, Int.reduceAdd, Int.reduceMul, Int.reduceNeg, Int.reduceToNat, hj, hxx, f0, f1, fc]) <;> (try with_reducible rfl))
      all_goals try (first | omega | (simp only [n_i64, n_u8]; omega) | (simp only [n_i64, n_u8, lnA]; omega) | (simp only [lnA]; done) | exact List.take_of_length_le (by simp))
      all_goals trace_state
theorem srT_len {p : List Int} : (srT p).length ≤ 16 := by
  unfold srT
  split
  · rename_i h
    rw [srB, Bool.and_eq_true] at h
    have := sr_len (p := p) (st := []) (nx := 1)
    have := (isP_8 h.1).1
    simp at *; omega
  · simp
theorem spec_l24Text_x (b : List UInt8) (s : Cu) (hb : b.length ≤ 1048576) : ∃ s' t, CallT Try.prog false 131 [.mu true (curC b s)] [some (curC b s')] [.str t] ∧ t.length ≤ 32 := by
  obtain ⟨s1, p, c1, hs⟩ := spec_l18Avoiding_x b s hb
  have hl := hs.len
  have hr := (sml_rev hs).len
  have hT := srT_len (p := p.reverse)
  by_cases h1 : srB p.reverse = true ∧ bwX b s1 8 ≠ 0
  · have f0 : (bwX b s1 8 = 0) = False := eq_false h1.2
    have f1 := h1.1
    refine ⟨bwS b s1 8, srT p.reverse, ?_, by omega⟩
    refine CallT.of (sg := sgCu) (ts := [2]) mo Try.func131 rfl rfl rfl rfl (by kernel_rfl) (by simp only [go_sem]) rfl (by simp only [go_sem]) ?_
    have fc : True := trivial
    repeat' first
      | with_reducible first | refine stp ?_ | refine q_blk_o rfl ?_ | (refine hK _ ?_; clear hK) | (refine hA ?_; clear hA hB) | (refine hB ?_; clear hA hB) | exact v_end0 | exact v_end0' | refine v_gb1 ?_ ?_ | refine v_gb0 ?_ ?_ | refine And.intro ?_ ?_
      | (with_reducible refine p_ok ?_; decide)
      | ((first | with_reducible first | refine v_region rfl rfl (fun K hK => ?_) | refine v_draws rfl rfl (fun K hK => ?_) | refine v_if (fun A B hA hB => ?_) | refine v_end rfl ?_ | refine v_fin1 ?_ | refine v_finC1 ?_ | refine v_finR1 ?_ | refine v_callE (spec_l3Reverse_c _ ?_) ?_ | refine v_callE (spec_SortingMoves_c _ ?_) ?_ | refine v_callN (spec_l1Once_c _ _ _ ?_ ?_) rfl ?_ ?_ | refine v_callT (spec_l1Once_c _ _ _ ?_ ?_) rfl ?_ ?_ | refine v_callTd (spec_l1Once_c _ _ _ ?_ ?_) rfl ?_ ?_ | refine v_callR (spec_l1Once_c _ _ _ ?_ ?_) rfl ?_ ?_ | refine v_callN (c1) rfl ?_ ?_ | refine v_callT (c1) rfl ?_ ?_ | refine v_callTd (c1) rfl ?_ ?_ | refine v_callR (c1) rfl ?_ ?_ | refine v_callT3 (spec_l1Once_c _ _ _ ?_ ?_) ?_ ?_ | refine v_callT4 (spec_l1Once_c _ _ _ ?_ ?_) ?_ ?_ | refine v_callT3 (c1) ?_ ?_ | refine v_callT4 (c1) ?_ ?_ | refine v_finO1 rfl ?_ | refine v_finN1 rfl ?_ ?_ | refine v_apj ?_ (fun j' => ?_) | refine v_stz ?_ ?_ ?_ ?_ ?_ | refine v_stq ?_ | refine v_cv1 ?_ ?_ ?_ | (intro hc; replace fc := And.intro hc fc; try simp only [hcs] at hc)) <;> (try simp (config := { maxSteps := 1000000 }) only [go_sem, ↓reduceIte, reduceCtorEq, Nat.reduceEqDiff, Nat.reduceAdd, Nat.reduceMul, Nat.reduceSub, Nat.reduceLeDiff, Int.reduceLT, Int.reduceLE, Int.reduceEq, Int.reduceSub, Int.reduceAdd, Int.reduceMul, Int.reduceNeg, Int.reduceToNat, f0, f1, fc]) <;> (try with_reducible rfl))
    all_goals try (first | omega | (simp only [n_i64, n_u8]; omega) | (simp only [n_i64, n_u8, lnA]; omega) | (simp only [lnA]; done) | exact List.take_of_length_le (by simp))
    all_goals trace_state
  · by_cases h2 : srB p.reverse = true
    · have f0 : bwX b s1 8 = 0 := Classical.byContradiction fun g => h1 ⟨h2, g⟩
      obtain ⟨s3, u, c3, hu⟩ := spec_l1Turned_x (m0 := true) b (bwS b s1 8) [73, 79, 73, 73, 79, 79] [[73], [79], [85], [73, 79]] hb (by decide) (by decide) (by decide) (by decide)
      simp only [List.map_cons, List.map_nil] at c3
      refine ⟨s3, u, ?_, by simp at hu; omega⟩
      refine CallT.of (sg := sgCu) (ts := [2]) mo Try.func131 rfl rfl rfl rfl (by kernel_rfl) (by simp only [go_sem]) rfl (by simp only [go_sem]) ?_
      have fc : True := trivial
      repeat' first
        | with_reducible first | refine stp ?_ | refine q_blk_o rfl ?_ | (refine hK _ ?_; clear hK) | (refine hA ?_; clear hA hB) | (refine hB ?_; clear hA hB) | exact v_end0 | exact v_end0' | refine v_gb1 ?_ ?_ | refine v_gb0 ?_ ?_ | refine And.intro ?_ ?_
        | (with_reducible refine p_ok ?_; decide)
        | ((first | with_reducible first | refine v_region rfl rfl (fun K hK => ?_) | refine v_draws rfl rfl (fun K hK => ?_) | refine v_if (fun A B hA hB => ?_) | refine v_end rfl ?_ | refine v_fin1 ?_ | refine v_finC1 ?_ | refine v_finR1 ?_ | refine v_callE (spec_l3Reverse_c _ ?_) ?_ | refine v_callE (spec_SortingMoves_c _ ?_) ?_ | refine v_callN (spec_l1Once_c _ _ _ ?_ ?_) rfl ?_ ?_ | refine v_callT (spec_l1Once_c _ _ _ ?_ ?_) rfl ?_ ?_ | refine v_callTd (spec_l1Once_c _ _ _ ?_ ?_) rfl ?_ ?_ | refine v_callR (spec_l1Once_c _ _ _ ?_ ?_) rfl ?_ ?_ | refine v_callN (c1) rfl ?_ ?_ | refine v_callT (c1) rfl ?_ ?_ | refine v_callTd (c1) rfl ?_ ?_ | refine v_callR (c1) rfl ?_ ?_ | refine v_callN (c3) rfl ?_ ?_ | refine v_callT (c3) rfl ?_ ?_ | refine v_callTd (c3) rfl ?_ ?_ | refine v_callR (c3) rfl ?_ ?_ | refine v_callT3 (spec_l1Once_c _ _ _ ?_ ?_) ?_ ?_ | refine v_callT4 (spec_l1Once_c _ _ _ ?_ ?_) ?_ ?_ | refine v_callT3 (c1) ?_ ?_ | refine v_callT4 (c1) ?_ ?_ | refine v_callT3 (c3) ?_ ?_ | refine v_callT4 (c3) ?_ ?_ | refine v_finO1 rfl ?_ | refine v_finN1 rfl ?_ ?_ | refine v_apj ?_ (fun j' => ?_) | refine v_stz ?_ ?_ ?_ ?_ ?_ | refine v_stq ?_ | refine v_cv1 ?_ ?_ ?_ | (intro hc; replace fc := And.intro hc fc; try simp only [hcs] at hc)) <;> (try simp (config := { maxSteps := 1000000 }) only [go_sem, ↓reduceIte, reduceCtorEq, Nat.reduceEqDiff, Nat.reduceAdd, Nat.reduceMul, Nat.reduceSub, Nat.reduceLeDiff, Int.reduceLT, Int.reduceLE, Int.reduceEq, Int.reduceSub, Int.reduceAdd, Int.reduceMul, Int.reduceNeg, Int.reduceToNat, f0, h2, fc]) <;> (try with_reducible rfl))
      all_goals try (first | omega | (simp only [n_i64, n_u8]; omega) | (simp only [n_i64, n_u8, lnA]; omega) | (simp only [lnA]; done) | exact List.take_of_length_le (by simp))
      all_goals trace_state
    · rw [Bool.not_eq_true] at h2
      obtain ⟨s3, u, c3, hu⟩ := spec_l1Turned_x (m0 := true) b s1 [73, 79, 73, 73, 79, 79] [[73], [79], [85], [73, 79]] hb (by decide) (by decide) (by decide) (by decide)
      simp only [List.map_cons, List.map_nil] at c3
      refine ⟨s3, u, ?_, by simp at hu; omega⟩
      refine CallT.of (sg := sgCu) (ts := [2]) mo Try.func131 rfl rfl rfl rfl (by kernel_rfl) (by simp only [go_sem]) rfl (by simp only [go_sem]) ?_
      have fc : True := trivial
      repeat' first
        | with_reducible first | refine stp ?_ | refine q_blk_o rfl ?_ | (refine hK _ ?_; clear hK) | (refine hA ?_; clear hA hB) | (refine hB ?_; clear hA hB) | exact v_end0 | exact v_end0' | refine v_gb1 ?_ ?_ | refine v_gb0 ?_ ?_ | refine And.intro ?_ ?_
        | (with_reducible refine p_ok ?_; decide)
        | ((first | with_reducible first | refine v_region rfl rfl (fun K hK => ?_) | refine v_draws rfl rfl (fun K hK => ?_) | refine v_if (fun A B hA hB => ?_) | refine v_end rfl ?_ | refine v_fin1 ?_ | refine v_finC1 ?_ | refine v_finR1 ?_ | refine v_callE (spec_l3Reverse_c _ ?_) ?_ | refine v_callE (spec_SortingMoves_c _ ?_) ?_ | refine v_callN (spec_l1Once_c _ _ _ ?_ ?_) rfl ?_ ?_ | refine v_callT (spec_l1Once_c _ _ _ ?_ ?_) rfl ?_ ?_ | refine v_callTd (spec_l1Once_c _ _ _ ?_ ?_) rfl ?_ ?_ | refine v_callR (spec_l1Once_c _ _ _ ?_ ?_) rfl ?_ ?_ | refine v_callN (c1) rfl ?_ ?_ | refine v_callT (c1) rfl ?_ ?_ | refine v_callTd (c1) rfl ?_ ?_ | refine v_callR (c1) rfl ?_ ?_ | refine v_callN (c3) rfl ?_ ?_ | refine v_callT (c3) rfl ?_ ?_ | refine v_callTd (c3) rfl ?_ ?_ | refine v_callR (c3) rfl ?_ ?_ | refine v_callT3 (spec_l1Once_c _ _ _ ?_ ?_) ?_ ?_ | refine v_callT4 (spec_l1Once_c _ _ _ ?_ ?_) ?_ ?_ | refine v_callT3 (c1) ?_ ?_ | refine v_callT4 (c1) ?_ ?_ | refine v_callT3 (c3) ?_ ?_ | refine v_callT4 (c3) ?_ ?_ | refine v_finO1 rfl ?_ | refine v_finN1 rfl ?_ ?_ | refine v_apj ?_ (fun j' => ?_) | refine v_stz ?_ ?_ ?_ ?_ ?_ | refine v_stq ?_ | refine v_cv1 ?_ ?_ ?_ | (intro hc; replace fc := And.intro hc fc; try simp only [hcs] at hc)) <;> (try simp (config := { maxSteps := 1000000 }) only [go_sem, ↓reduceIte, reduceCtorEq, Nat.reduceEqDiff, Nat.reduceAdd, Nat.reduceMul, Nat.reduceSub, Nat.reduceLeDiff, Int.reduceLT, Int.reduceLE, Int.reduceEq, Int.reduceSub, Int.reduceAdd, Int.reduceMul, Int.reduceNeg, Int.reduceToNat, h2, fc]) <;> (try with_reducible rfl))
      all_goals try (first | omega | (simp only [n_i64, n_u8]; omega) | (simp only [n_i64, n_u8, lnA]; omega) | (simp only [lnA]; done) | exact List.take_of_length_le (by simp))
      all_goals trace_state
