/-
  Classes, and the parts of sums: what their functions compute. Conditions: none.
-/
import Derived.Test.YtcnejdfpdgiffaaBasis
set_option linter.unusedSimpArgs false
set_option linter.unusedVariables false
set_option maxRecDepth 20000
namespace Go.Gl
open Go Go.Proofs

/-- The pattern of a list. -/
def rkI (l : List Int) (x : Int) (k : Nat) : Int := ((l.take k).filter fun y => decide (y < x)).length + 1
def patL (l : List Int) : List Int := l.map fun x => rkI l x l.length
theorem rkI_succ {l : List Int} {x : Int} {k : Nat} (h : k < l.length) : rkI l x (k + 1) = rkI l x k + bitI (decide (l.getD k 0 < x)) := by
  rw [rkI, rkI, take_getD (d := 0) h, List.filter_append, List.length_append, List.filter_cons]
  cases decide (l.getD k 0 < x) <;> simp [bitI] <;> omega
theorem rkI_b {l : List Int} {x : Int} {k : Nat} : 1 ≤ rkI l x k ∧ rkI l x k ≤ l.length + 1 := by
  have := List.length_filter_le (fun y => decide (y < x)) (l.take k)
  rw [List.length_take] at this
  unfold rkI; omega
theorem spec_l2Pattern_c {m0 : Bool} (l : List Int) (hl : l.length ≤ 1048576) : Fun Try.prog 138 [(.sl (.lent m0) (List.map (PV.int .i64) (l)))] [(.sl .own (List.map (PV.int .i64) (patL l)))] := by
  refine Fun.of (sg := sg0) (ts := [2]) mo Try.func138 rfl rfl rfl rfl (by kernel_rfl) (by simp only [go_sem]) rfl ?_
  have fc : True := trivial
  repeat' first
    | with_reducible first | refine stp ?_ | refine q_blk_o rfl ?_ | (refine hK _ ?_; clear hK) | (refine hA ?_; clear hA hB) | (refine hB ?_; clear hA hB) | exact v_end0 | exact v_end0' | refine v_gb1 ?_ ?_ | refine v_gb0 ?_ ?_ | refine And.intro ?_ ?_
    | (with_reducible refine hK _ _ ?_ ?_; focus (first | exact clearAll_quiet rfl | (refine clearAll_of [false, false, false, false, false, false, false, false, false, false, true, false, false] [(0, 10)] rfl (by decide +kernel) ?_; try simp only [go_sem, ↓reduceIte, reduceCtorEq, Nat.reduceEqDiff, Nat.reduceAdd, Nat.reduceMul, Nat.reduceSub, Nat.reduceLeDiff, Int.reduceLT, Int.reduceLE, Int.reduceEq, Int.reduceSub, Int.reduceAdd, Int.reduceMul, Int.reduceNeg, Int.reduceToNat])); all_goals (try clear hK))
    | (with_reducible refine p_ok ?_; decide)
    | ((first | with_reducible first | refine v_region rfl rfl (fun K hK => ?_) | refine v_draws rfl rfl (fun K hK => ?_) | refine v_if (fun A B hA hB => ?_) | refine v_end rfl ?_ | refine v_fin1 ?_ | refine v_finC1 ?_ | refine v_callE (spec_l1Bit_c _) ?_ | refine v_finO1 rfl ?_ | refine v_finN1 rfl ?_ ?_ | refine v_apj ?_ (fun j' => ?_) | refine v_stz ?_ ?_ ?_ ?_ ?_ | refine v_stq ?_ | refine v_cv1 ?_ ?_ ?_ | (intro hc; replace fc := And.intro hc fc; try simp only [hcs] at hc)) <;> (try simp (config := { maxSteps := 1000000 }) only [go_sem, ↓reduceIte, reduceCtorEq, Nat.reduceEqDiff, Nat.reduceAdd, Nat.reduceMul, Nat.reduceSub, Nat.reduceLeDiff, Int.reduceLT, Int.reduceLE, Int.reduceEq, Int.reduceSub, Int.reduceAdd, Int.reduceMul, Int.reduceNeg, Int.reduceToNat, fc]) <;> (try with_reducible rfl))
  all_goals try (first | omega | (simp only [n_i64, n_u8]; omega) | (simp only [n_i64, n_u8, lnA]; omega))
  refine v_loop (fun ms1 S1 => ∃ (k : Nat), S1.e 0 = .p (.sl (.lent m0) (List.map (PV.int .i64) (l))) ∧ OwnL (S1.e 3) S1.h S1.n (PV.int .i64) (((l.take k).map (fun x => rkI l x l.length)).length) ((l.take k).map (fun x => rkI l x l.length)) ∧ S1.e 4 = .p (.int .i64 (k)) ∧ (k ≤ l.length) ∧ ms1 = l.length - k) ((fun (k : Nat) => l.length - k) (0)) ?init1_0 ?body1_0
  case' init1_0 =>
    refine ⟨0, ?_, ?_, ?_, ?_, rfl⟩
    all_goals (try simp only [go_sem, ↓reduceIte, reduceCtorEq, Nat.reduceEqDiff, Nat.reduceAdd, Nat.reduceMul, Nat.reduceSub, Nat.reduceLeDiff, Int.reduceLT, Int.reduceLE, Int.reduceEq, Int.reduceSub, Int.reduceAdd, Int.reduceMul, Int.reduceNeg, Int.reduceToNat])
    repeat' refine And.intro ?_ ?_
    all_goals try first | rfl | omega | (simp only [lnA] <;> omega) | ((first | refine stp ?_ | refine dkz_eq ?_ ?_) <;> first | rfl | omega | (simp only [lnA] <;> omega) | (simp only [lnA, List.append_assoc, List.cons_append, List.nil_append]; done) | skip)
  case' body1_0 =>
    rintro ms1 S1 ⟨k, h1_0, o1_3, h1_4, c1_0, hm1⟩
    obtain ⟨i1_3, h1_3, b1_3, l1_3⟩ := o1_3.out
    have ni1_3 : ∀ c, (i1_3 = S1.n + c) = False := fun c => eq_false (by omega)
    have pi1_3 : ∀ c, (S1.n + c = i1_3) = False := fun c => eq_false (by omega)
    have qi1_3 : (i1_3 = S1.n) = False := eq_false (by omega)
    have ri1_3 : (S1.n = i1_3) = False := eq_false (by omega)
  have fc : True := trivial
  repeat' first
    | with_reducible first | refine stp ?_ | refine q_blk_o rfl ?_ | (refine hK _ ?_; clear hK) | (refine hA ?_; clear hA hB) | (refine hB ?_; clear hA hB) | exact v_end0 | exact v_end0' | refine v_gb1 ?_ ?_ | refine v_gb0 ?_ ?_ | refine And.intro ?_ ?_
    | (with_reducible refine hK _ _ ?_ ?_; focus (first | exact clearAll_quiet rfl | (refine clearAll_of [false, false, false, false, false, false, false, false, false, false, true, false, false] [(0, 10)] rfl (by decide +kernel) ?_; try simp only [go_sem, ↓reduceIte, reduceCtorEq, Nat.reduceEqDiff, Nat.reduceAdd, Nat.reduceMul, Nat.reduceSub, Nat.reduceLeDiff, Int.reduceLT, Int.reduceLE, Int.reduceEq, Int.reduceSub, Int.reduceAdd, Int.reduceMul, Int.reduceNeg, Int.reduceToNat, h1_0, h1_4, h1_3, b1_3, ni1_3, pi1_3, qi1_3, ri1_3])); all_goals (try clear hK))
    | (with_reducible refine p_ok ?_; decide)
    | ((first | with_reducible first | refine v_region rfl rfl (fun K hK => ?_) | refine v_draws rfl rfl (fun K hK => ?_) | refine v_if (fun A B hA hB => ?_) | refine v_end rfl ?_ | refine v_fin1 ?_ | refine v_finC1 ?_ | refine v_callE (spec_l1Bit_c _) ?_ | refine v_finO1 rfl ?_ | refine v_finN1 rfl ?_ ?_ | refine v_apj ?_ (fun j' => ?_) | refine v_stz ?_ ?_ ?_ ?_ ?_ | refine v_stq ?_ | refine v_cv1 ?_ ?_ ?_ | (intro hc; replace fc := And.intro hc fc; try simp only [hcs] at hc)) <;> (try simp (config := { maxSteps := 1000000 }) only [go_sem, ↓reduceIte, reduceCtorEq, Nat.reduceEqDiff, Nat.reduceAdd, Nat.reduceMul, Nat.reduceSub, Nat.reduceLeDiff, Int.reduceLT, Int.reduceLE, Int.reduceEq, Int.reduceSub, Int.reduceAdd, Int.reduceMul, Int.reduceNeg, Int.reduceToNat, h1_0, h1_4, h1_3, b1_3, ni1_3, pi1_3, qi1_3, ri1_3, fc]) <;> (try with_reducible rfl))
  all_goals try (first | omega | (simp only [n_i64, n_u8]; omega) | (simp only [n_i64, n_u8, lnA]; omega))
  · refine v_loop (fun ms2 S2 => ∃ (j : Nat), S2.e 0 = .p (.sl (.lent m0) (List.map (PV.int .i64) (l))) ∧ OwnL (S2.e 3) S2.h S2.n (PV.int .i64) (((l.take k).map (fun x => rkI l x l.length)).length) ((l.take k).map (fun x => rkI l x l.length)) ∧ S2.e 4 = .p (.int .i64 (k)) ∧ S2.e 5 = .p (.int .i64 (rkI l (l.getD k 0) j)) ∧ S2.e 6 = .p (.int .i64 (j)) ∧ (j ≤ l.length) ∧ (k < l.length) ∧ S1.n ≤ S2.n ∧ ms2 = l.length - j) ((fun (j : Nat) => l.length - j) (0)) ?init2_1 ?body2_1
    case' init2_1 =>
      refine ⟨0, ?_, ?_, ?_, ?_, ?_, ?_, ?_, ?_, rfl⟩
      all_goals (try simp only [go_sem, ↓reduceIte, reduceCtorEq, Nat.reduceEqDiff, Nat.reduceAdd, Nat.reduceMul, Nat.reduceSub, Nat.reduceLeDiff, Int.reduceLT, Int.reduceLE, Int.reduceEq, Int.reduceSub, Int.reduceAdd, Int.reduceMul, Int.reduceNeg, Int.reduceToNat, h1_0, h1_4, h1_3, b1_3, ni1_3, pi1_3, qi1_3, ri1_3])
      repeat' refine And.intro ?_ ?_
      all_goals try first | rfl | omega | (simp only [lnA] <;> omega) | ((first | refine stp ?_ | refine dkz_eq ?_ ?_) <;> first | rfl | omega | (simp only [lnA] <;> omega) | (simp only [lnA, List.append_assoc, List.cons_append, List.nil_append]; done) | skip)
    case' body2_1 =>
      rintro ms2 S2 ⟨j, h2_0, o2_3, h2_4, h2_5, h2_6, c2_0, c2_1, u2_0, hm2⟩
      obtain ⟨i2_3, h2_3, b2_3, l2_3⟩ := o2_3.out
      have ni2_3 : ∀ c, (i2_3 = S2.n + c) = False := fun c => eq_false (by omega)
      have pi2_3 : ∀ c, (S2.n + c = i2_3) = False := fun c => eq_false (by omega)
      have qi2_3 : (i2_3 = S2.n) = False := eq_false (by omega)
      have ri2_3 : (S2.n = i2_3) = False := eq_false (by omega)
    have b1 := rkI_b (l := l) (x := l.getD k 0) (k := j)
    have b2 := bitI_r (decide (l.getD j 0 < l.getD k 0))
    have fc : True := trivial
    repeat' first
      | with_reducible first | refine stp ?_ | refine q_blk_o rfl ?_ | (refine hK _ ?_; clear hK) | (refine hA ?_; clear hA hB) | (refine hB ?_; clear hA hB) | exact v_end0 | exact v_end0' | refine v_gb1 ?_ ?_ | refine v_gb0 ?_ ?_ | refine And.intro ?_ ?_
      | (with_reducible refine hK _ _ ?_ ?_; focus (first | exact clearAll_quiet rfl | (refine clearAll_of [false, false, false, false, false, false, false, false, false, false, true, false, false] [(0, 10)] rfl (by decide +kernel) ?_; try simp only [go_sem, ↓reduceIte, reduceCtorEq, Nat.reduceEqDiff, Nat.reduceAdd, Nat.reduceMul, Nat.reduceSub, Nat.reduceLeDiff, Int.reduceLT, Int.reduceLE, Int.reduceEq, Int.reduceSub, Int.reduceAdd, Int.reduceMul, Int.reduceNeg, Int.reduceToNat, h2_0, h2_4, h2_5, h2_6, h2_3, b2_3, ni2_3, pi2_3, qi2_3, ri2_3])); all_goals (try clear hK))
      | (with_reducible refine p_ok ?_; decide)
      | ((first | with_reducible first | refine v_region rfl rfl (fun K hK => ?_) | refine v_draws rfl rfl (fun K hK => ?_) | refine v_if (fun A B hA hB => ?_) | refine v_end rfl ?_ | refine v_fin1 ?_ | refine v_finC1 ?_ | refine v_callE (spec_l1Bit_c _) ?_ | refine v_finO1 rfl ?_ | refine v_finN1 rfl ?_ ?_ | refine v_apj ?_ (fun j' => ?_) | refine v_stz ?_ ?_ ?_ ?_ ?_ | refine v_stq ?_ | refine v_cv1 ?_ ?_ ?_ | (intro hc; replace fc := And.intro hc fc; try simp only [hcs] at hc)) <;> (try simp (config := { maxSteps := 1000000 }) only [go_sem, ↓reduceIte, reduceCtorEq, Nat.reduceEqDiff, Nat.reduceAdd, Nat.reduceMul, Nat.reduceSub, Nat.reduceLeDiff, Int.reduceLT, Int.reduceLE, Int.reduceEq, Int.reduceSub, Int.reduceAdd, Int.reduceMul, Int.reduceNeg, Int.reduceToNat, h2_0, h2_4, h2_5, h2_6, h2_3, b2_3, ni2_3, pi2_3, qi2_3, ri2_3, fc]) <;> (try with_reducible rfl))
    all_goals try (first | omega | (simp only [n_i64, n_u8]; omega) | (simp only [n_i64, n_u8, lnA]; omega))
    · focus
        refine q_lp_n ((fun (j : Nat) => l.length - j) (j+1)) ?_ ⟨j+1, ?_, ?_, ?_, ?_, ?_, ?_, ?_, ?_, rfl⟩
        all_goals (try simp only [go_sem, ↓reduceIte, reduceCtorEq, Nat.reduceEqDiff, Nat.reduceAdd, Nat.reduceMul, Nat.reduceSub, Nat.reduceLeDiff, Int.reduceLT, Int.reduceLE, Int.reduceEq, Int.reduceSub, Int.reduceAdd, Int.reduceMul, Int.reduceNeg, Int.reduceToNat, h2_0, h2_4, h2_5, h2_6, h2_3, b2_3, ni2_3, pi2_3, qi2_3, ri2_3])
        repeat' refine And.intro ?_ ?_
        all_goals try first | rfl | omega | (simp only [lnA] <;> omega) | ((first | refine stp ?_ | refine dkz_eq ?_ ?_) <;> first | rfl | omega | (simp only [lnA] <;> omega) | (simp only [lnA, List.append_assoc, List.cons_append, List.nil_append]; done) | skip)
      rw [rkI_succ (by omega)]
    · focus
        refine q_lp_n ((fun (k : Nat) => l.length - k) (k+1)) ?_ ⟨k+1, ?_, ?_, ?_, ?_, rfl⟩
        all_goals (try simp only [go_sem, ↓reduceIte, reduceCtorEq, Nat.reduceEqDiff, Nat.reduceAdd, Nat.reduceMul, Nat.reduceSub, Nat.reduceLeDiff, Int.reduceLT, Int.reduceLE, Int.reduceEq, Int.reduceSub, Int.reduceAdd, Int.reduceMul, Int.reduceNeg, Int.reduceToNat, h2_0, h2_4, h2_5, h2_6, h2_3, b2_3, ni2_3, pi2_3, qi2_3, ri2_3])
        repeat' refine And.intro ?_ ?_
        all_goals try first | rfl | omega | (simp only [lnA] <;> omega) | ((first | refine stp ?_ | refine dkz_eq ?_ ?_) <;> first | rfl | omega | (simp only [lnA] <;> omega) | (simp only [lnA, List.append_assoc, List.cons_append, List.nil_append]; done) | skip)
      all_goals (obtain rfl : j = l.length := by omega)
      rw [take_getD (d := 0) (by omega), List.map_append]; rfl
  · rw [List.take_of_length_le (by omega)]; rfl
/-- The parts of a sum, the first k places looked at: the parts, where the next begins, the greatest number. -/
def spG (g : List Int → Nat → List Int) (p : List Int) : Nat → List (List Int) × Nat × Int
  | 0 => ([], 0, 0)
  | k + 1 => if max (spG g p k).2.2 (p.getD k 0) = k + 1 then ((spG g p k).1 ++ [g (segL p (spG g p k).2.1 (k + 1)) (spG g p k).2.1], k + 1, max (spG g p k).2.2 (p.getD k 0))
    else ((spG g p k).1, (spG g p k).2.1, max (spG g p k).2.2 (p.getD k 0))
theorem spG_from {g : List Int → Nat → List Int} {p : List Int} : ∀ {k : Nat}, (spG g p k).2.1 ≤ k ∧ (spG g p k).1.length ≤ k
  | 0 => by simp [spG]
  | k + 1 => by have := spG_from (g := g) (p := p) (k := k); rw [spG]; split <;> simp <;> omega
theorem spG_same {g g' : List Int → Nat → List Int} {p : List Int} : ∀ {k : Nat}, (spG g p k).2 = (spG g' p k).2 ∧ (spG g p k).1.length = (spG g' p k).1.length
  | 0 => ⟨rfl, rfl⟩
  | k + 1 => by
    have := spG_same (g := g) (g' := g') (p := p) (k := k)
    rw [spG, spG, this.1]; split <;> simp [this.2]
def shI (s : List Int) (f : Nat) : List Int := s.map fun x => x + -(f : Int)
def ptI (s : List Int) (_ : Nat) : List Int := patL s
theorem impl_raised_c {m0 : Bool} (l : List Int) (d : Int) (hl : l.length ≤ 1048576) (hb : ∀ x ∈ l, -1000000 ≤ x ∧ x ≤ 1000000) (hd : -1000000 ≤ d ∧ d ≤ 1000000) : Fun Try.prog 142 [(.sl (.lent m0) (List.map (PV.int .i64) (l))), (.int .i64 (d))] [(.sl .own (List.map (PV.int .i64) (l.map (fun x => x + d))))] := by
  refine Fun.of (sg := sg0) (ts := [4]) mo Try.func142 rfl rfl rfl rfl (by kernel_rfl) (by simp only [go_sem]) rfl ?_
  have fc : True := trivial
  repeat' first
    | with_reducible first | refine stp ?_ | refine q_blk_o rfl ?_ | (refine hK _ ?_; clear hK) | (refine hA ?_; clear hA hB) | (refine hB ?_; clear hA hB) | exact v_end0 | exact v_end0' | refine v_gb1 ?_ ?_ | refine v_gb0 ?_ ?_ | refine And.intro ?_ ?_
    | (with_reducible refine p_ok ?_; decide)
    | ((first | with_reducible first | refine v_region rfl rfl (fun K hK => ?_) | refine v_draws rfl rfl (fun K hK => ?_) | refine v_if (fun A B hA hB => ?_) | refine v_end rfl ?_ | refine v_fin1 ?_ | refine v_finC1 ?_ | refine v_finO1 rfl ?_ | refine v_finN1 rfl ?_ ?_ | refine v_apj ?_ (fun j' => ?_) | refine v_stz ?_ ?_ ?_ ?_ ?_ | refine v_stq ?_ | refine v_cv1 ?_ ?_ ?_ | (intro hc; replace fc := And.intro hc fc; try simp only [hcs] at hc)) <;> (try simp (config := { maxSteps := 1000000 }) only [go_sem, ↓reduceIte, reduceCtorEq, Nat.reduceEqDiff, Nat.reduceAdd, Nat.reduceMul, Nat.reduceSub, Nat.reduceLeDiff, Int.reduceLT, Int.reduceLE, Int.reduceEq, Int.reduceSub, Int.reduceAdd, Int.reduceMul, Int.reduceNeg, Int.reduceToNat, fc]) <;> (try with_reducible rfl))
  all_goals try (first | omega | (simp only [n_i64, n_u8]; omega) | (simp only [n_i64, n_u8, lnA]; omega))
  refine v_loop (fun ms1 S1 => ∃ (k : Nat), S1.e 1 = .p (.int .i64 (d)) ∧ S1.e 9 = .p (.sl (.lent m0) (List.map (PV.int .i64) (l))) ∧ S1.e 10 = .p (.int .i64 (l.length)) ∧ OwnL (S1.e 5) S1.h S1.n (PV.int .i64) (((l.take k).map (fun x => x + d)).length) ((l.take k).map (fun x => x + d)) ∧ S1.e 11 = .p (.int .i64 (k)) ∧ (k ≤ l.length) ∧ ms1 = l.length - k) ((fun (k : Nat) => l.length - k) (0)) ?init1_2 ?body1_2
  case' init1_2 =>
    refine ⟨0, ?_, ?_, ?_, ?_, ?_, ?_, rfl⟩
    all_goals (try simp only [go_sem, ↓reduceIte, reduceCtorEq, Nat.reduceEqDiff, Nat.reduceAdd, Nat.reduceMul, Nat.reduceSub, Nat.reduceLeDiff, Int.reduceLT, Int.reduceLE, Int.reduceEq, Int.reduceSub, Int.reduceAdd, Int.reduceMul, Int.reduceNeg, Int.reduceToNat])
    repeat' refine And.intro ?_ ?_
    all_goals try first | rfl | omega | (simp only [lnA] <;> omega) | ((first | refine stp ?_ | refine dkz_eq ?_ ?_) <;> first | rfl | omega | (simp only [lnA] <;> omega) | (simp only [lnA, List.append_assoc, List.cons_append, List.nil_append]; done) | skip)
  case' body1_2 =>
    rintro ms1 S1 ⟨k, h1_1, h1_9, h1_10, o1_5, h1_11, c1_0, hm1⟩
    obtain ⟨i1_5, h1_5, b1_5, l1_5⟩ := o1_5.out
    have ni1_5 : ∀ c, (i1_5 = S1.n + c) = False := fun c => eq_false (by omega)
    have pi1_5 : ∀ c, (S1.n + c = i1_5) = False := fun c => eq_false (by omega)
    have qi1_5 : (i1_5 = S1.n) = False := eq_false (by omega)
    have ri1_5 : (S1.n = i1_5) = False := eq_false (by omega)
  have b1 : k < l.length → -1000000 ≤ l.getD k 0 ∧ l.getD k 0 ≤ 1000000 := fun h => hb _ (getD_mem h)
  have fc : True := trivial
  repeat' first
    | with_reducible first | refine stp ?_ | refine q_blk_o rfl ?_ | (refine hK _ ?_; clear hK) | (refine hA ?_; clear hA hB) | (refine hB ?_; clear hA hB) | exact v_end0 | exact v_end0' | refine v_gb1 ?_ ?_ | refine v_gb0 ?_ ?_ | refine And.intro ?_ ?_
    | (with_reducible refine p_ok ?_; decide)
    | ((first | with_reducible first | refine v_region rfl rfl (fun K hK => ?_) | refine v_draws rfl rfl (fun K hK => ?_) | refine v_if (fun A B hA hB => ?_) | refine v_end rfl ?_ | refine v_fin1 ?_ | refine v_finC1 ?_ | refine v_finO1 rfl ?_ | refine v_finN1 rfl ?_ ?_ | refine v_apj ?_ (fun j' => ?_) | refine v_stz ?_ ?_ ?_ ?_ ?_ | refine v_stq ?_ | refine v_cv1 ?_ ?_ ?_ | (intro hc; replace fc := And.intro hc fc; try simp only [hcs] at hc)) <;> (try simp (config := { maxSteps := 1000000 }) only [go_sem, ↓reduceIte, reduceCtorEq, Nat.reduceEqDiff, Nat.reduceAdd, Nat.reduceMul, Nat.reduceSub, Nat.reduceLeDiff, Int.reduceLT, Int.reduceLE, Int.reduceEq, Int.reduceSub, Int.reduceAdd, Int.reduceMul, Int.reduceNeg, Int.reduceToNat, h1_1, h1_9, h1_10, h1_11, h1_5, b1_5, ni1_5, pi1_5, qi1_5, ri1_5, fc]) <;> (try with_reducible rfl))
  all_goals try have b2 := b1 (by omega)
  all_goals try (first | omega | (simp only [n_i64, n_u8]; omega) | (simp only [n_i64, n_u8, lnA]; omega))
  · focus
      refine q_lp_n ((fun (k : Nat) => l.length - k) (k+1)) ?_ ⟨k+1, ?_, ?_, ?_, ?_, ?_, ?_, rfl⟩
      all_goals (try simp only [go_sem, ↓reduceIte, reduceCtorEq, Nat.reduceEqDiff, Nat.reduceAdd, Nat.reduceMul, Nat.reduceSub, Nat.reduceLeDiff, Int.reduceLT, Int.reduceLE, Int.reduceEq, Int.reduceSub, Int.reduceAdd, Int.reduceMul, Int.reduceNeg, Int.reduceToNat, h1_1, h1_9, h1_10, h1_11, h1_5, b1_5, ni1_5, pi1_5, qi1_5, ri1_5])
      repeat' refine And.intro ?_ ?_
      all_goals try first | rfl | omega | (simp only [lnA] <;> omega) | ((first | refine stp ?_ | refine dkz_eq ?_ ?_) <;> first | rfl | omega | (simp only [lnA] <;> omega) | (simp only [lnA, List.append_assoc, List.cons_append, List.nil_append]; done) | skip)
    rw [take_getD (d := 0) (by omega), List.map_append]; rfl
  · rw [List.take_of_length_le (by omega)]
theorem seg_b {p : List Int} {a b : Nat} (hb : ∀ x ∈ p, 0 ≤ x ∧ x ≤ 8) : ∀ x ∈ segL p a b, -1000000 ≤ x ∧ x ≤ 1000000 := fun x hx => by have := hb x (segL_mem hx); omega
theorem perm_b8 {p : List Int} (h : isPermB p = true) : ∀ x ∈ p, 0 ≤ x ∧ x ≤ 8 := fun x hx => by
  simp only [isPermB, Bool.and_eq_true, decide_eq_true_eq] at h
  have := (permB_iff.1 h.2).1 x hx; omega
theorem spG_b {g : List Int → Nat → List Int} {p : List Int} (hb : ∀ x ∈ p, 0 ≤ x ∧ x ≤ 8) : ∀ {k : Nat}, k ≤ p.length → 0 ≤ (spG g p k).2.2 ∧ (spG g p k).2.2 ≤ 8
  | 0, _ => by simp [spG]
  | k + 1, h => by
    have h1 := spG_b (g := g) hb (k := k) (by omega)
    have h2 := hb _ (getD_mem (d := 0) (show k < p.length by omega))
    rw [spG]; split <;> simp only <;> omega
theorem impl_sumParts_c {m0 : Bool} (p : List Int) (hl : p.length ≤ 8) (hb : ∀ x ∈ p, 0 ≤ x ∧ x ≤ 8) : Fun Try.prog 98 [(.sl (.lent m0) (List.map (PV.int .i64) (p)))] [(.sl .own (List.map (elI false) ((spG shI p p.length).1)))] := by
  refine Fun.of (sg := sg0) (ts := [2]) mo Try.func98 rfl rfl rfl rfl (by kernel_rfl) (by simp only [go_sem]) rfl ?_
  have fc : True := trivial
  repeat' first
    | with_reducible first | refine stp ?_ | refine q_blk_o rfl ?_ | (refine hK _ ?_; clear hK) | (refine hA ?_; clear hA hB) | (refine hB ?_; clear hA hB) | exact v_end0 | exact v_end0' | refine v_gb1 ?_ ?_ | refine v_gb0 ?_ ?_ | refine And.intro ?_ ?_
    | (with_reducible refine p_ok ?_; decide)
    | ((first | with_reducible first | refine v_region rfl rfl (fun K hK => ?_) | refine v_draws rfl rfl (fun K hK => ?_) | refine v_if (fun A B hA hB => ?_) | refine v_end rfl ?_ | refine v_fin1 ?_ | refine v_finC1 ?_ | refine v_callE (impl_raised_c _ _ ?_ ?_ ?_) ?_ | refine v_finO1 rfl ?_ | refine v_finN1 rfl ?_ ?_ | refine v_apj ?_ (fun j' => ?_) | refine v_stz ?_ ?_ ?_ ?_ ?_ | refine v_stq ?_ | refine v_cv1 ?_ ?_ ?_ | (intro hc; replace fc := And.intro hc fc; try simp only [hcs] at hc)) <;> (try simp (config := { maxSteps := 1000000 }) only [go_sem, ↓reduceIte, reduceCtorEq, Nat.reduceEqDiff, Nat.reduceAdd, Nat.reduceMul, Nat.reduceSub, Nat.reduceLeDiff, Int.reduceLT, Int.reduceLE, Int.reduceEq, Int.reduceSub, Int.reduceAdd, Int.reduceMul, Int.reduceNeg, Int.reduceToNat, fc]) <;> (try with_reducible rfl))
  all_goals try (first | omega | (simp only [n_i64, n_u8]; omega) | (simp only [n_i64, n_u8, lnA]; omega))
  refine v_loop (fun ms1 S1 => ∃ (k : Nat), S1.e 9 = .p (.sl (.lent m0) (List.map (PV.int .i64) (p))) ∧ S1.e 10 = .p (.int .i64 (p.length)) ∧ S1.e 0 = .p (.sl (.lent m0) (List.map (PV.int .i64) (p))) ∧ OwnL (S1.e 3) S1.h S1.n (elI false) (((spG shI p k).1).length) ((spG shI p k).1) ∧ S1.e 4 = .p (.int .i64 ((spG shI p k).2.1)) ∧ S1.e 5 = .p (.int .i64 ((spG shI p k).2.2)) ∧ S1.e 11 = .p (.int .i64 (k)) ∧ (k ≤ p.length) ∧ ms1 = p.length - k) ((fun (k : Nat) => p.length - k) (0)) ?init1_3 ?body1_3
  case' init1_3 =>
    refine ⟨0, ?_, ?_, ?_, ?_, ?_, ?_, ?_, ?_, rfl⟩
    all_goals (try simp only [go_sem, ↓reduceIte, reduceCtorEq, Nat.reduceEqDiff, Nat.reduceAdd, Nat.reduceMul, Nat.reduceSub, Nat.reduceLeDiff, Int.reduceLT, Int.reduceLE, Int.reduceEq, Int.reduceSub, Int.reduceAdd, Int.reduceMul, Int.reduceNeg, Int.reduceToNat])
    repeat' refine And.intro ?_ ?_
    all_goals try first | rfl | omega | (simp only [lnA] <;> omega) | ((first | refine stp ?_ | refine dkz_eq ?_ ?_) <;> first | rfl | omega | (simp only [lnA] <;> omega) | (simp only [lnA, List.append_assoc, List.cons_append, List.nil_append]; done) | skip)
  case' body1_3 =>
    rintro ms1 S1 ⟨k, h1_9, h1_10, h1_0, o1_3, h1_4, h1_5, h1_11, c1_0, hm1⟩
    obtain ⟨i1_3, h1_3, b1_3, l1_3⟩ := o1_3.out
    have ni1_3 : ∀ c, (i1_3 = S1.n + c) = False := fun c => eq_false (by omega)
    have pi1_3 : ∀ c, (S1.n + c = i1_3) = False := fun c => eq_false (by omega)
    have qi1_3 : (i1_3 = S1.n) = False := eq_false (by omega)
    have ri1_3 : (S1.n = i1_3) = False := eq_false (by omega)
  have b1 := spG_from (g := shI) (p := p) (k := k)
  have b2 := spG_b (g := shI) hb c1_0
  have b3 : List.drop (spG shI p k).2.1 (List.take (k + 1) p) = segL p (spG shI p k).2.1 (k + 1) := rfl
  by_cases hk : k < p.length
  · have b4 := hb _ (getD_mem (d := 0) hk)
    have b5 : (segL p (spG shI p k).2.1 (k + 1)).length = k + 1 - (spG shI p k).2.1 := segL_len (by omega)
    have b6 := seg_b (a := (spG shI p k).2.1) (b := k + 1) hb
    have b7 : ((k : Int) + 1).toNat = k + 1 := by omega
    have fc : True := trivial
    repeat' first
      | with_reducible first | refine stp ?_ | refine q_blk_o rfl ?_ | (refine hK _ ?_; clear hK) | (refine hA ?_; clear hA hB) | (refine hB ?_; clear hA hB) | exact v_end0 | exact v_end0' | refine v_gb1 ?_ ?_ | refine v_gb0 ?_ ?_ | refine And.intro ?_ ?_
      | (with_reducible refine p_ok ?_; decide)
      | ((first | with_reducible first | refine v_region rfl rfl (fun K hK => ?_) | refine v_draws rfl rfl (fun K hK => ?_) | refine v_if (fun A B hA hB => ?_) | refine v_end rfl ?_ | refine v_fin1 ?_ | refine v_finC1 ?_ | refine v_callE (impl_raised_c _ _ ?_ ?_ ?_) ?_ | refine v_finO1 rfl ?_ | refine v_finN1 rfl ?_ ?_ | refine v_apj ?_ (fun j' => ?_) | refine v_stz ?_ ?_ ?_ ?_ ?_ | refine v_stq ?_ | refine v_cv1 ?_ ?_ ?_ | (intro hc; replace fc := And.intro hc fc; try simp only [hcs] at hc)) <;> (try simp (config := { maxSteps := 1000000 }) only [go_sem, ↓reduceIte, reduceCtorEq, Nat.reduceEqDiff, Nat.reduceAdd, Nat.reduceMul, Nat.reduceSub, Nat.reduceLeDiff, Int.reduceLT, Int.reduceLE, Int.reduceEq, Int.reduceSub, Int.reduceAdd, Int.reduceMul, Int.reduceNeg, Int.reduceToNat, h1_9, h1_10, h1_0, h1_4, h1_5, h1_11, h1_3, b1_3, ni1_3, pi1_3, qi1_3, ri1_3, b3, b7, fc]) <;> (try with_reducible rfl))
    all_goals try (first | omega | (simp only [n_i64, n_u8]; omega) | (simp only [n_i64, n_u8, lnA]; omega))
    · have x1 : spG shI p (k + 1) = _ := if_pos hc
      focus
        refine q_lp_n ((fun (k : Nat) => p.length - k) (k+1)) ?_ ⟨k+1, ?_, ?_, ?_, ?_, ?_, ?_, ?_, ?_, rfl⟩
        all_goals (try simp only [go_sem, ↓reduceIte, reduceCtorEq, Nat.reduceEqDiff, Nat.reduceAdd, Nat.reduceMul, Nat.reduceSub, Nat.reduceLeDiff, Int.reduceLT, Int.reduceLE, Int.reduceEq, Int.reduceSub, Int.reduceAdd, Int.reduceMul, Int.reduceNeg, Int.reduceToNat, h1_9, h1_10, h1_0, h1_4, h1_5, h1_11, h1_3, b1_3, ni1_3, pi1_3, qi1_3, ri1_3])
        repeat' refine And.intro ?_ ?_
        all_goals try first | rfl | omega | (simp only [lnA] <;> omega) | ((first | refine stp ?_ | refine dkz_eq ?_ ?_) <;> first | rfl | omega | (simp only [lnA] <;> omega) | (simp only [lnA, List.append_assoc, List.cons_append, List.nil_append]; done) | skip)
      all_goals (rw [x1]; try simp [shI, ptI])
    · have x1 : spG shI p (k + 1) = _ := if_neg hc
      focus
        refine q_lp_n ((fun (k : Nat) => p.length - k) (k+1)) ?_ ⟨k+1, ?_, ?_, ?_, ?_, ?_, ?_, ?_, ?_, rfl⟩
        all_goals (try simp only [go_sem, ↓reduceIte, reduceCtorEq, Nat.reduceEqDiff, Nat.reduceAdd, Nat.reduceMul, Nat.reduceSub, Nat.reduceLeDiff, Int.reduceLT, Int.reduceLE, Int.reduceEq, Int.reduceSub, Int.reduceAdd, Int.reduceMul, Int.reduceNeg, Int.reduceToNat, h1_9, h1_10, h1_0, h1_4, h1_5, h1_11, h1_3, b1_3, ni1_3, pi1_3, qi1_3, ri1_3])
        repeat' refine And.intro ?_ ?_
        all_goals try first | rfl | omega | (simp only [lnA] <;> omega) | ((first | refine stp ?_ | refine dkz_eq ?_ ?_) <;> first | rfl | omega | (simp only [lnA] <;> omega) | (simp only [lnA, List.append_assoc, List.cons_append, List.nil_append]; done) | skip)
      all_goals (rw [x1])
  · have fc : True := trivial
    repeat' first
      | with_reducible first | refine stp ?_ | refine q_blk_o rfl ?_ | (refine hK _ ?_; clear hK) | (refine hA ?_; clear hA hB) | (refine hB ?_; clear hA hB) | exact v_end0 | exact v_end0' | refine v_gb1 ?_ ?_ | refine v_gb0 ?_ ?_ | refine And.intro ?_ ?_
      | (with_reducible refine p_ok ?_; decide)
      | ((first | with_reducible first | refine v_region rfl rfl (fun K hK => ?_) | refine v_draws rfl rfl (fun K hK => ?_) | refine v_if (fun A B hA hB => ?_) | refine v_end rfl ?_ | refine v_fin1 ?_ | refine v_finC1 ?_ | refine v_callE (impl_raised_c _ _ ?_ ?_ ?_) ?_ | refine v_finO1 rfl ?_ | refine v_finN1 rfl ?_ ?_ | refine v_apj ?_ (fun j' => ?_) | refine v_stz ?_ ?_ ?_ ?_ ?_ | refine v_stq ?_ | refine v_cv1 ?_ ?_ ?_ | (intro hc; replace fc := And.intro hc fc; try simp only [hcs] at hc)) <;> (try simp (config := { maxSteps := 1000000 }) only [go_sem, ↓reduceIte, reduceCtorEq, Nat.reduceEqDiff, Nat.reduceAdd, Nat.reduceMul, Nat.reduceSub, Nat.reduceLeDiff, Int.reduceLT, Int.reduceLE, Int.reduceEq, Int.reduceSub, Int.reduceAdd, Int.reduceMul, Int.reduceNeg, Int.reduceToNat, h1_9, h1_10, h1_0, h1_4, h1_5, h1_11, h1_3, b1_3, ni1_3, pi1_3, qi1_3, ri1_3, fc]) <;> (try with_reducible rfl))
    all_goals try (first | omega | (simp only [n_i64, n_u8]; omega) | (simp only [n_i64, n_u8, lnA]; omega))
    obtain rfl : k = p.length := by omega
    rfl
theorem spec_SumParts_c {m0 : Bool} (p : List Int) (hp : isPermB p = true) : Fun Try.prog 95 [(.sl (.lent m0) (List.map (PV.int .i64) (p)))] [(.sl .own (List.map (elI false) ((spG ptI p p.length).1)))] := by
  refine Fun.of (sg := sg0) (ts := [2]) mo Try.func95 rfl rfl rfl rfl (by kernel_rfl) (by simp only [go_sem]) rfl ?_
  have hl := (isPerm_facts hp).1
  have hb := perm_b8 hp
  have fc : True := trivial
  repeat' first
    | with_reducible first | refine stp ?_ | refine q_blk_o rfl ?_ | (refine hK _ ?_; clear hK) | (refine hA ?_; clear hA hB) | (refine hB ?_; clear hA hB) | exact v_end0 | exact v_end0' | refine v_gb1 ?_ ?_ | refine v_gb0 ?_ ?_ | refine And.intro ?_ ?_
    | (with_reducible refine p_ok ?_; decide)
    | ((first | with_reducible first | refine v_region rfl rfl (fun K hK => ?_) | refine v_draws rfl rfl (fun K hK => ?_) | refine v_if (fun A B hA hB => ?_) | refine v_end rfl ?_ | refine v_fin1 ?_ | refine v_finC1 ?_ | refine v_callE (spec_l1Max_c _ _) ?_ | refine v_callE (spec_IsPerm_c _ ?_) ?_ | refine v_callE (spec_l2Pattern_c _ ?_) ?_ | refine v_finO1 rfl ?_ | refine v_finN1 rfl ?_ ?_ | refine v_apj ?_ (fun j' => ?_) | refine v_stz ?_ ?_ ?_ ?_ ?_ | refine v_stq ?_ | refine v_cv1 ?_ ?_ ?_ | (intro hc; replace fc := And.intro hc fc; try simp only [hcs] at hc)) <;> (try simp (config := { maxSteps := 1000000 }) only [go_sem, ↓reduceIte, reduceCtorEq, Nat.reduceEqDiff, Nat.reduceAdd, Nat.reduceMul, Nat.reduceSub, Nat.reduceLeDiff, Int.reduceLT, Int.reduceLE, Int.reduceEq, Int.reduceSub, Int.reduceAdd, Int.reduceMul, Int.reduceNeg, Int.reduceToNat, hp, fc]) <;> (try with_reducible rfl))
  all_goals try (first | omega | (simp only [n_i64, n_u8]; omega) | (simp only [n_i64, n_u8, lnA]; omega))
  refine v_loop (fun ms1 S1 => ∃ (k : Nat), S1.e 0 = .p (.sl (.lent m0) (List.map (PV.int .i64) (p))) ∧ OwnL (S1.e 3) S1.h S1.n (elI false) (((spG ptI p k).1).length) ((spG ptI p k).1) ∧ S1.e 4 = .p (.int .i64 ((spG ptI p k).2.1)) ∧ S1.e 5 = .p (.int .i64 ((spG ptI p k).2.2)) ∧ S1.e 6 = .p (.int .i64 (k)) ∧ (k ≤ p.length) ∧ ms1 = p.length - k) ((fun (k : Nat) => p.length - k) (0)) ?init1_4 ?body1_4
  case' init1_4 =>
    refine ⟨0, ?_, ?_, ?_, ?_, ?_, ?_, rfl⟩
    all_goals (try simp only [go_sem, ↓reduceIte, reduceCtorEq, Nat.reduceEqDiff, Nat.reduceAdd, Nat.reduceMul, Nat.reduceSub, Nat.reduceLeDiff, Int.reduceLT, Int.reduceLE, Int.reduceEq, Int.reduceSub, Int.reduceAdd, Int.reduceMul, Int.reduceNeg, Int.reduceToNat])
    repeat' refine And.intro ?_ ?_
    all_goals try first | rfl | omega | (simp only [lnA] <;> omega) | ((first | refine stp ?_ | refine dkz_eq ?_ ?_) <;> first | rfl | omega | (simp only [lnA] <;> omega) | (simp only [lnA, List.append_assoc, List.cons_append, List.nil_append]; done) | skip)
  case' body1_4 =>
    rintro ms1 S1 ⟨k, h1_0, o1_3, h1_4, h1_5, h1_6, c1_0, hm1⟩
    obtain ⟨i1_3, h1_3, b1_3, l1_3⟩ := o1_3.out
    have ni1_3 : ∀ c, (i1_3 = S1.n + c) = False := fun c => eq_false (by omega)
    have pi1_3 : ∀ c, (S1.n + c = i1_3) = False := fun c => eq_false (by omega)
    have qi1_3 : (i1_3 = S1.n) = False := eq_false (by omega)
    have ri1_3 : (S1.n = i1_3) = False := eq_false (by omega)
  have b1 := spG_from (g := ptI) (p := p) (k := k)
  have b2 := spG_b (g := ptI) hb c1_0
  have b3 : List.drop (spG ptI p k).2.1 (List.take (k + 1) p) = segL p (spG ptI p k).2.1 (k + 1) := rfl
  by_cases hk : k < p.length
  · have b4 := hb _ (getD_mem (d := 0) hk)
    have b5 : (segL p (spG ptI p k).2.1 (k + 1)).length = k + 1 - (spG ptI p k).2.1 := segL_len (by omega)
    have b7 : ((k : Int) + 1).toNat = k + 1 := by omega
    have fc : True := trivial
    repeat' first
      | with_reducible first | refine stp ?_ | refine q_blk_o rfl ?_ | (refine hK _ ?_; clear hK) | (refine hA ?_; clear hA hB) | (refine hB ?_; clear hA hB) | exact v_end0 | exact v_end0' | refine v_gb1 ?_ ?_ | refine v_gb0 ?_ ?_ | refine And.intro ?_ ?_
      | (with_reducible refine p_ok ?_; decide)
      | ((first | with_reducible first | refine v_region rfl rfl (fun K hK => ?_) | refine v_draws rfl rfl (fun K hK => ?_) | refine v_if (fun A B hA hB => ?_) | refine v_end rfl ?_ | refine v_fin1 ?_ | refine v_finC1 ?_ | refine v_callE (spec_l1Max_c _ _) ?_ | refine v_callE (spec_IsPerm_c _ ?_) ?_ | refine v_callE (spec_l2Pattern_c _ ?_) ?_ | refine v_finO1 rfl ?_ | refine v_finN1 rfl ?_ ?_ | refine v_apj ?_ (fun j' => ?_) | refine v_stz ?_ ?_ ?_ ?_ ?_ | refine v_stq ?_ | refine v_cv1 ?_ ?_ ?_ | (intro hc; replace fc := And.intro hc fc; try simp only [hcs] at hc)) <;> (try simp (config := { maxSteps := 1000000 }) only [go_sem, ↓reduceIte, reduceCtorEq, Nat.reduceEqDiff, Nat.reduceAdd, Nat.reduceMul, Nat.reduceSub, Nat.reduceLeDiff, Int.reduceLT, Int.reduceLE, Int.reduceEq, Int.reduceSub, Int.reduceAdd, Int.reduceMul, Int.reduceNeg, Int.reduceToNat, h1_0, h1_4, h1_5, h1_6, h1_3, b1_3, ni1_3, pi1_3, qi1_3, ri1_3, b3, b7, fc]) <;> (try with_reducible rfl))
    all_goals try (first | omega | (simp only [n_i64, n_u8]; omega) | (simp only [n_i64, n_u8, lnA]; omega))
    · have x1 : spG ptI p (k + 1) = _ := if_pos hc
      focus
        refine q_lp_n ((fun (k : Nat) => p.length - k) (k+1)) ?_ ⟨k+1, ?_, ?_, ?_, ?_, ?_, ?_, rfl⟩
        all_goals (try simp only [go_sem, ↓reduceIte, reduceCtorEq, Nat.reduceEqDiff, Nat.reduceAdd, Nat.reduceMul, Nat.reduceSub, Nat.reduceLeDiff, Int.reduceLT, Int.reduceLE, Int.reduceEq, Int.reduceSub, Int.reduceAdd, Int.reduceMul, Int.reduceNeg, Int.reduceToNat, h1_0, h1_4, h1_5, h1_6, h1_3, b1_3, ni1_3, pi1_3, qi1_3, ri1_3])
        repeat' refine And.intro ?_ ?_
        all_goals try first | rfl | omega | (simp only [lnA] <;> omega) | ((first | refine stp ?_ | refine dkz_eq ?_ ?_) <;> first | rfl | omega | (simp only [lnA] <;> omega) | (simp only [lnA, List.append_assoc, List.cons_append, List.nil_append]; done) | skip)
      all_goals (rw [x1]; try simp [shI, ptI])
    · have x1 : spG ptI p (k + 1) = _ := if_neg hc
      focus
        refine q_lp_n ((fun (k : Nat) => p.length - k) (k+1)) ?_ ⟨k+1, ?_, ?_, ?_, ?_, ?_, ?_, rfl⟩
        all_goals (try simp only [go_sem, ↓reduceIte, reduceCtorEq, Nat.reduceEqDiff, Nat.reduceAdd, Nat.reduceMul, Nat.reduceSub, Nat.reduceLeDiff, Int.reduceLT, Int.reduceLE, Int.reduceEq, Int.reduceSub, Int.reduceAdd, Int.reduceMul, Int.reduceNeg, Int.reduceToNat, h1_0, h1_4, h1_5, h1_6, h1_3, b1_3, ni1_3, pi1_3, qi1_3, ri1_3])
        repeat' refine And.intro ?_ ?_
        all_goals try first | rfl | omega | (simp only [lnA] <;> omega) | ((first | refine stp ?_ | refine dkz_eq ?_ ?_) <;> first | rfl | omega | (simp only [lnA] <;> omega) | (simp only [lnA, List.append_assoc, List.cons_append, List.nil_append]; done) | skip)
      all_goals (rw [x1])
  · have fc : True := trivial
    repeat' first
      | with_reducible first | refine stp ?_ | refine q_blk_o rfl ?_ | (refine hK _ ?_; clear hK) | (refine hA ?_; clear hA hB) | (refine hB ?_; clear hA hB) | exact v_end0 | exact v_end0' | refine v_gb1 ?_ ?_ | refine v_gb0 ?_ ?_ | refine And.intro ?_ ?_
      | (with_reducible refine p_ok ?_; decide)
      | ((first | with_reducible first | refine v_region rfl rfl (fun K hK => ?_) | refine v_draws rfl rfl (fun K hK => ?_) | refine v_if (fun A B hA hB => ?_) | refine v_end rfl ?_ | refine v_fin1 ?_ | refine v_finC1 ?_ | refine v_callE (spec_l1Max_c _ _) ?_ | refine v_callE (spec_IsPerm_c _ ?_) ?_ | refine v_callE (spec_l2Pattern_c _ ?_) ?_ | refine v_finO1 rfl ?_ | refine v_finN1 rfl ?_ ?_ | refine v_apj ?_ (fun j' => ?_) | refine v_stz ?_ ?_ ?_ ?_ ?_ | refine v_stq ?_ | refine v_cv1 ?_ ?_ ?_ | (intro hc; replace fc := And.intro hc fc; try simp only [hcs] at hc)) <;> (try simp (config := { maxSteps := 1000000 }) only [go_sem, ↓reduceIte, reduceCtorEq, Nat.reduceEqDiff, Nat.reduceAdd, Nat.reduceMul, Nat.reduceSub, Nat.reduceLeDiff, Int.reduceLT, Int.reduceLE, Int.reduceEq, Int.reduceSub, Int.reduceAdd, Int.reduceMul, Int.reduceNeg, Int.reduceToNat, h1_0, h1_4, h1_5, h1_6, h1_3, b1_3, ni1_3, pi1_3, qi1_3, ri1_3, fc]) <;> (try with_reducible rfl))
    all_goals try (first | omega | (simp only [n_i64, n_u8]; omega) | (simp only [n_i64, n_u8, lnA]; omega))
    obtain rfl : k = p.length := by omega
    rfl
def partN (p : List Int) : Nat := (spG shI p p.length).1.length
theorem partN_pt {p : List Int} : (spG ptI p p.length).1.length = partN p := (spG_same (g := ptI) (g' := shI)).2
theorem partN_le {p : List Int} : partN p ≤ p.length := spG_from.2
theorem impl_perms_f_c (n : Nat) (h1 : n ≤ 8) : Fun Try.prog 78 [(.int .i64 (n))] [(.sl .own (List.map (elI false) (permL n)))] := by
  refine Fun.of (sg := sg0) (ts := [2]) mo Try.func78 rfl rfl rfl rfl (by kernel_rfl) (by simp only [go_sem]) rfl ?_
  have fc : True := trivial
  repeat' first
    | with_reducible first | refine stp ?_ | refine q_blk_o rfl ?_ | (refine hK _ ?_; clear hK) | (refine hA ?_; clear hA hB) | (refine hB ?_; clear hA hB) | exact v_end0 | exact v_end0' | refine v_gb1 ?_ ?_ | refine v_gb0 ?_ ?_ | refine And.intro ?_ ?_
    | (with_reducible refine p_ok ?_; decide)
    | ((first | with_reducible first | refine v_region rfl rfl (fun K hK => ?_) | refine v_draws rfl rfl (fun K hK => ?_) | refine v_if (fun A B hA hB => ?_) | refine v_end rfl ?_ | refine v_fin1 ?_ | refine v_finC1 ?_ | refine v_callE (slices_Contains_int_int_c _ _ ?_) ?_ | refine v_callE (slices_Clone_c _ ?_) ?_ | refine v_finO1 rfl ?_ | refine v_finN1 rfl ?_ ?_ | refine v_apj ?_ (fun j' => ?_) | refine v_stz ?_ ?_ ?_ ?_ ?_ | refine v_stq ?_ | refine v_cv1 ?_ ?_ ?_ | (intro hc; replace fc := And.intro hc fc; try simp only [hcs] at hc)) <;> (try simp (config := { maxSteps := 1000000 }) only [go_sem, ↓reduceIte, reduceCtorEq, Nat.reduceEqDiff, Nat.reduceAdd, Nat.reduceMul, Nat.reduceSub, Nat.reduceLeDiff, Int.reduceLT, Int.reduceLE, Int.reduceEq, Int.reduceSub, Int.reduceAdd, Int.reduceMul, Int.reduceNeg, Int.reduceToNat, fc]) <;> (try with_reducible rfl))
  refine v_loop (fun ms1 S1 => ∃ (i : Nat), S1.e 0 = .p (.int .i64 (n)) ∧ OwnL (S1.e 3) S1.h S1.n (elI false) ((lvl n i [[]]).length) (lvl n i [[]]) ∧ S1.e 10 = .p (.int .i64 (n)) ∧ S1.e 11 = .p (.int .i64 (i)) ∧ (i ≤ n) ∧ ms1 = n - i) ((fun (i : Nat) => n - i) (0)) ?init1_5 ?body1_5
  case' init1_5 =>
    refine ⟨0, ?_, ?_, ?_, ?_, ?_, rfl⟩
    all_goals (try simp only [go_sem, ↓reduceIte, reduceCtorEq, Nat.reduceEqDiff, Nat.reduceAdd, Nat.reduceMul, Nat.reduceSub, Nat.reduceLeDiff, Int.reduceLT, Int.reduceLE, Int.reduceEq, Int.reduceSub, Int.reduceAdd, Int.reduceMul, Int.reduceNeg, Int.reduceToNat])
    repeat' refine And.intro ?_ ?_
    all_goals try first | rfl | omega | (simp only [lnA] <;> omega) | ((first | refine stp ?_ | refine dkz_eq ?_ ?_) <;> first | rfl | omega | (simp only [lnA] <;> omega) | (simp only [lnA, List.append_assoc, List.cons_append, List.nil_append]; done) | skip)
  case' body1_5 =>
    rintro ms1 S1 ⟨i, h1_0, o1_3, h1_10, h1_11, c1_0, hm1⟩
    obtain ⟨i1_3, h1_3, b1_3, l1_3⟩ := o1_3.out
    have ni1_3 : ∀ c, (i1_3 = S1.n + c) = False := fun c => eq_false (by omega)
    have pi1_3 : ∀ c, (S1.n + c = i1_3) = False := fun c => eq_false (by omega)
    have qi1_3 : (i1_3 = S1.n) = False := eq_false (by omega)
    have ri1_3 : (S1.n = i1_3) = False := eq_false (by omega)
  have b1 : (lvl n i [[]]).length ≤ 8 ^ 8 := lvl_b8 h1 (by omega)
  have fc : True := trivial
  repeat' first
    | with_reducible first | refine stp ?_ | refine q_blk_o rfl ?_ | (refine hK _ ?_; clear hK) | (refine hA ?_; clear hA hB) | (refine hB ?_; clear hA hB) | exact v_end0 | exact v_end0' | refine v_gb1 ?_ ?_ | refine v_gb0 ?_ ?_ | refine And.intro ?_ ?_
    | (with_reducible refine p_ok ?_; decide)
    | ((first | with_reducible first | refine v_region rfl rfl (fun K hK => ?_) | refine v_draws rfl rfl (fun K hK => ?_) | refine v_if (fun A B hA hB => ?_) | refine v_end rfl ?_ | refine v_fin1 ?_ | refine v_finC1 ?_ | refine v_callE (slices_Contains_int_int_c _ _ ?_) ?_ | refine v_callE (slices_Clone_c _ ?_) ?_ | refine v_finO1 rfl ?_ | refine v_finN1 rfl ?_ ?_ | refine v_apj ?_ (fun j' => ?_) | refine v_stz ?_ ?_ ?_ ?_ ?_ | refine v_stq ?_ | refine v_cv1 ?_ ?_ ?_ | (intro hc; replace fc := And.intro hc fc; try simp only [hcs] at hc)) <;> (try simp (config := { maxSteps := 1000000 }) only [go_sem, ↓reduceIte, reduceCtorEq, Nat.reduceEqDiff, Nat.reduceAdd, Nat.reduceMul, Nat.reduceSub, Nat.reduceLeDiff, Int.reduceLT, Int.reduceLE, Int.reduceEq, Int.reduceSub, Int.reduceAdd, Int.reduceMul, Int.reduceNeg, Int.reduceToNat, h1_0, h1_10, h1_11, h1_3, b1_3, ni1_3, pi1_3, qi1_3, ri1_3, fc]) <;> (try with_reducible rfl))
  refine v_loop (fun ms2 S2 => ∃ (j : Nat), S2.e 0 = .p (.int .i64 (n)) ∧ OwnL (S2.e 14) S2.h S2.n (elI false) ((lvl n i [[]]).length) (lvl n i [[]]) ∧ OwnL (S2.e 4) S2.h S2.n (elI false) ((((lvl n i [[]]).take j).flatMap (fun p => extL p n)).length) (((lvl n i [[]]).take j).flatMap (fun p => extL p n)) ∧ S2.e 10 = .p (.int .i64 (n)) ∧ S2.e 11 = .p (.int .i64 (i)) ∧ S2.e 15 = .p (.int .i64 ((lvl n i [[]]).length)) ∧ S2.e 16 = .p (.int .i64 (j)) ∧ (j ≤ (lvl n i [[]]).length) ∧ NId (S2.e 4) (S2.e 14) ∧ S1.n ≤ S2.n ∧ ms2 = (lvl n i [[]]).length - j) ((fun (j : Nat) => (lvl n i [[]]).length - j) (0)) ?init2_6 ?body2_6
  case' init2_6 =>
    refine ⟨0, ?_, ?_, ?_, ?_, ?_, ?_, ?_, ?_, ?_, ?_, rfl⟩
    all_goals (try simp only [go_sem, ↓reduceIte, reduceCtorEq, Nat.reduceEqDiff, Nat.reduceAdd, Nat.reduceMul, Nat.reduceSub, Nat.reduceLeDiff, Int.reduceLT, Int.reduceLE, Int.reduceEq, Int.reduceSub, Int.reduceAdd, Int.reduceMul, Int.reduceNeg, Int.reduceToNat, h1_0, h1_10, h1_11, h1_3, b1_3, ni1_3, pi1_3, qi1_3, ri1_3])
    repeat' refine And.intro ?_ ?_
    all_goals try first | rfl | omega | (simp only [lnA] <;> omega) | ((first | refine stp ?_ | refine dkz_eq ?_ ?_) <;> first | rfl | omega | (simp only [lnA] <;> omega) | (simp only [lnA, List.append_assoc, List.cons_append, List.nil_append]; done) | skip)
  case' body2_6 =>
    rintro ms2 S2 ⟨j, h2_0, o2_14, o2_4, h2_10, h2_11, h2_15, h2_16, c2_0, u2_0, u2_1, hm2⟩
    obtain ⟨i2_14, h2_14, b2_14, l2_14⟩ := o2_14.out
    obtain ⟨i2_4, h2_4, b2_4, l2_4⟩ := o2_4.out
    have k2_0 := (u2_0).out h2_4 h2_14
    have ni2_14 : ∀ c, (i2_14 = S2.n + c) = False := fun c => eq_false (by omega)
    have pi2_14 : ∀ c, (S2.n + c = i2_14) = False := fun c => eq_false (by omega)
    have qi2_14 : (i2_14 = S2.n) = False := eq_false (by omega)
    have ri2_14 : (S2.n = i2_14) = False := eq_false (by omega)
    have ni2_4 : ∀ c, (i2_4 = S2.n + c) = False := fun c => eq_false (by omega)
    have pi2_4 : ∀ c, (S2.n + c = i2_4) = False := fun c => eq_false (by omega)
    have qi2_4 : (i2_4 = S2.n) = False := eq_false (by omega)
    have ri2_4 : (S2.n = i2_4) = False := eq_false (by omega)
    have di2_14i2_4 : (i2_14 = i2_4) = False := eq_false (by omega)
    have di2_4i2_14 : (i2_4 = i2_14) = False := eq_false (by omega)
  have b2 : ((lvl n i [[]]).take j).length ≤ 8 ^ 8 := by simp; omega
  have b3 := Nat.le_trans (flat_len (n := n) (L := (lvl n i [[]]).take j)) (Nat.mul_le_mul b2 h1)
  have fc : True := trivial
  repeat' first
    | with_reducible first | refine stp ?_ | refine q_blk_o rfl ?_ | (refine hK _ ?_; clear hK) | (refine hA ?_; clear hA hB) | (refine hB ?_; clear hA hB) | exact v_end0 | exact v_end0' | refine v_gb1 ?_ ?_ | refine v_gb0 ?_ ?_ | refine And.intro ?_ ?_
    | (with_reducible refine p_ok ?_; decide)
    | ((first | with_reducible first | refine v_region rfl rfl (fun K hK => ?_) | refine v_draws rfl rfl (fun K hK => ?_) | refine v_if (fun A B hA hB => ?_) | refine v_end rfl ?_ | refine v_fin1 ?_ | refine v_finC1 ?_ | refine v_callE (slices_Contains_int_int_c _ _ ?_) ?_ | refine v_callE (slices_Clone_c _ ?_) ?_ | refine v_finO1 rfl ?_ | refine v_finN1 rfl ?_ ?_ | refine v_apj ?_ (fun j' => ?_) | refine v_stz ?_ ?_ ?_ ?_ ?_ | refine v_stq ?_ | refine v_cv1 ?_ ?_ ?_ | (intro hc; replace fc := And.intro hc fc; try simp only [hcs] at hc)) <;> (try simp (config := { maxSteps := 1000000 }) only [go_sem, ↓reduceIte, reduceCtorEq, Nat.reduceEqDiff, Nat.reduceAdd, Nat.reduceMul, Nat.reduceSub, Nat.reduceLeDiff, Int.reduceLT, Int.reduceLE, Int.reduceEq, Int.reduceSub, Int.reduceAdd, Int.reduceMul, Int.reduceNeg, Int.reduceToNat, h2_0, h2_10, h2_11, h2_15, h2_16, h2_14, b2_14, h2_4, b2_4, ni2_14, pi2_14, qi2_14, ri2_14, ni2_4, pi2_4, qi2_4, ri2_4, di2_14i2_4, di2_4i2_14, fc]) <;> (try with_reducible rfl))
  all_goals try (first | omega | (simp only [n_i64, n_u8]; omega) | (simp only [n_i64, n_u8, lnA]; omega))
  · refine v_loop (fun ms4 S4 => ∃ (v : Nat), S4.e 0 = .p (.int .i64 (n)) ∧ OwnL (S4.e 14) S4.h S4.n (elI false) ((lvl n i [[]]).length) (lvl n i [[]]) ∧ OwnL (S4.e 4) S4.h S4.n (elI false) ((((lvl n i [[]]).take j).flatMap (fun p => extL p n) ++ extL ((lvl n i [[]]).getD j []) v).length) (((lvl n i [[]]).take j).flatMap (fun p => extL p n) ++ extL ((lvl n i [[]]).getD j []) v) ∧ S4.e 6 = .p (.sl (.lent false) (List.map (PV.int .i64) ((lvl n i [[]]).getD j []))) ∧ S4.e 7 = .p (.int .i64 ((v + 1))) ∧ S4.e 10 = .p (.int .i64 (n)) ∧ S4.e 11 = .p (.int .i64 (i)) ∧ S4.e 15 = .p (.int .i64 ((lvl n i [[]]).length)) ∧ S4.e 16 = .p (.int .i64 (j)) ∧ (v ≤ n) ∧ (j < (lvl n i [[]]).length) ∧ NId (S4.e 4) (S4.e 14) ∧ S2.n ≤ S4.n ∧ ms4 = n - v) ((fun (v : Nat) => n - v) (0)) ?init4_7 ?body4_7
    case' init4_7 =>
      refine ⟨0, ?_, ?_, ?_, ?_, ?_, ?_, ?_, ?_, ?_, ?_, ?_, ?_, ?_, rfl⟩
      all_goals (try simp only [go_sem, ↓reduceIte, reduceCtorEq, Nat.reduceEqDiff, Nat.reduceAdd, Nat.reduceMul, Nat.reduceSub, Nat.reduceLeDiff, Int.reduceLT, Int.reduceLE, Int.reduceEq, Int.reduceSub, Int.reduceAdd, Int.reduceMul, Int.reduceNeg, Int.reduceToNat, h2_0, h2_10, h2_11, h2_15, h2_16, h2_14, b2_14, h2_4, b2_4, ni2_14, pi2_14, qi2_14, ri2_14, ni2_4, pi2_4, qi2_4, ri2_4, di2_14i2_4, di2_4i2_14])
      repeat' refine And.intro ?_ ?_
      all_goals try first | rfl | omega | (simp only [lnA] <;> omega) | ((first | refine stp ?_ | refine dkz_eq ?_ ?_) <;> first | rfl | omega | (simp only [lnA] <;> omega) | (simp only [lnA, List.append_assoc, List.cons_append, List.nil_append]; done) | skip)
    case' body4_7 =>
      rintro ms4 S4 ⟨v, h4_0, o4_14, o4_4, h4_6, h4_7, h4_10, h4_11, h4_15, h4_16, c4_0, c4_1, u4_0, u4_1, hm4⟩
      obtain ⟨i4_14, h4_14, b4_14, l4_14⟩ := o4_14.out
      obtain ⟨i4_4, h4_4, b4_4, l4_4⟩ := o4_4.out
      have k4_0 := (u4_0).out h4_4 h4_14
      have ni4_14 : ∀ c, (i4_14 = S4.n + c) = False := fun c => eq_false (by omega)
      have pi4_14 : ∀ c, (S4.n + c = i4_14) = False := fun c => eq_false (by omega)
      have qi4_14 : (i4_14 = S4.n) = False := eq_false (by omega)
      have ri4_14 : (S4.n = i4_14) = False := eq_false (by omega)
      have ni4_4 : ∀ c, (i4_4 = S4.n + c) = False := fun c => eq_false (by omega)
      have pi4_4 : ∀ c, (S4.n + c = i4_4) = False := fun c => eq_false (by omega)
      have qi4_4 : (i4_4 = S4.n) = False := eq_false (by omega)
      have ri4_4 : (S4.n = i4_4) = False := eq_false (by omega)
      have di4_14i4_4 : (i4_14 = i4_4) = False := eq_false (by omega)
      have di4_4i4_14 : (i4_4 = i4_14) = False := eq_false (by omega)
    have b4 := extL_len (p := (lvl n i [[]]).getD j []) (j := v)
    have b5 : ((lvl n i [[]]).getD j []).length = 0 + i := lvl_row (by simp) _ (getD_mem c4_1)
    have fc : True := trivial
    repeat' first
      | with_reducible first | refine stp ?_ | refine q_blk_o rfl ?_ | (refine hK _ ?_; clear hK) | (refine hA ?_; clear hA hB) | (refine hB ?_; clear hA hB) | exact v_end0 | exact v_end0' | refine v_gb1 ?_ ?_ | refine v_gb0 ?_ ?_ | refine And.intro ?_ ?_
      | (with_reducible refine p_ok ?_; decide)
      | ((first | with_reducible first | refine v_region rfl rfl (fun K hK => ?_) | refine v_draws rfl rfl (fun K hK => ?_) | refine v_if (fun A B hA hB => ?_) | refine v_end rfl ?_ | refine v_fin1 ?_ | refine v_finC1 ?_ | refine v_callE (slices_Contains_int_int_c _ _ ?_) ?_ | refine v_callE (slices_Clone_c _ ?_) ?_ | refine v_finO1 rfl ?_ | refine v_finN1 rfl ?_ ?_ | refine v_apj ?_ (fun j' => ?_) | refine v_stz ?_ ?_ ?_ ?_ ?_ | refine v_stq ?_ | refine v_cv1 ?_ ?_ ?_ | (intro hc; replace fc := And.intro hc fc; try simp only [hcs] at hc)) <;> (try simp (config := { maxSteps := 1000000 }) only [go_sem, ↓reduceIte, reduceCtorEq, Nat.reduceEqDiff, Nat.reduceAdd, Nat.reduceMul, Nat.reduceSub, Nat.reduceLeDiff, Int.reduceLT, Int.reduceLE, Int.reduceEq, Int.reduceSub, Int.reduceAdd, Int.reduceMul, Int.reduceNeg, Int.reduceToNat, h4_0, h4_6, h4_7, h4_10, h4_11, h4_15, h4_16, h4_14, b4_14, h4_4, b4_4, ni4_14, pi4_14, qi4_14, ri4_14, ni4_4, pi4_4, qi4_4, ri4_4, di4_14i4_4, di4_4i4_14, tk1, fc]) <;> (try with_reducible rfl))
    all_goals try (first | omega | (simp only [n_i64, n_u8]; omega) | (simp only [n_i64, n_u8, lnA]; omega))
    · focus
        refine q_lp_n ((fun (v : Nat) => n - v) (v+1)) ?_ ⟨v+1, ?_, ?_, ?_, ?_, ?_, ?_, ?_, ?_, ?_, ?_, ?_, ?_, ?_, rfl⟩
        all_goals (try simp only [go_sem, ↓reduceIte, reduceCtorEq, Nat.reduceEqDiff, Nat.reduceAdd, Nat.reduceMul, Nat.reduceSub, Nat.reduceLeDiff, Int.reduceLT, Int.reduceLE, Int.reduceEq, Int.reduceSub, Int.reduceAdd, Int.reduceMul, Int.reduceNeg, Int.reduceToNat, h4_0, h4_6, h4_7, h4_10, h4_11, h4_15, h4_16, h4_14, b4_14, h4_4, b4_4, ni4_14, pi4_14, qi4_14, ri4_14, ni4_4, pi4_4, qi4_4, ri4_4, di4_14i4_4, di4_4i4_14])
        repeat' refine And.intro ?_ ?_
        all_goals try first | rfl | omega | (simp only [lnA] <;> omega) | ((first | refine stp ?_ | refine dkz_eq ?_ ?_) <;> first | rfl | omega | (simp only [lnA] <;> omega) | (simp only [lnA, List.append_assoc, List.cons_append, List.nil_append]; done) | skip)
      all_goals (rw [extL_succ, hc, if_neg (by decide)] <;> simp only [List.append_assoc, List.length_append, List.length_cons, List.length_nil, Nat.add_assoc])
    · focus
        refine q_lp_n ((fun (v : Nat) => n - v) (v+1)) ?_ ⟨v+1, ?_, ?_, ?_, ?_, ?_, ?_, ?_, ?_, ?_, ?_, ?_, ?_, ?_, rfl⟩
        all_goals (try simp only [go_sem, ↓reduceIte, reduceCtorEq, Nat.reduceEqDiff, Nat.reduceAdd, Nat.reduceMul, Nat.reduceSub, Nat.reduceLeDiff, Int.reduceLT, Int.reduceLE, Int.reduceEq, Int.reduceSub, Int.reduceAdd, Int.reduceMul, Int.reduceNeg, Int.reduceToNat, h4_0, h4_6, h4_7, h4_10, h4_11, h4_15, h4_16, h4_14, b4_14, h4_4, b4_4, ni4_14, pi4_14, qi4_14, ri4_14, ni4_4, pi4_4, qi4_4, ri4_4, di4_14i4_4, di4_4i4_14])
        repeat' refine And.intro ?_ ?_
        all_goals try first | rfl | omega | (simp only [lnA] <;> omega) | ((first | refine stp ?_ | refine dkz_eq ?_ ?_) <;> first | rfl | omega | (simp only [lnA] <;> omega) | (simp only [lnA, List.append_assoc, List.cons_append, List.nil_append]; done) | skip)
      all_goals (rw [extL_succ, hc, if_pos rfl, List.append_nil])
    · focus
        refine q_lp_n ((fun (j : Nat) => (lvl n i [[]]).length - j) (j+1)) ?_ ⟨j+1, ?_, ?_, ?_, ?_, ?_, ?_, ?_, ?_, ?_, ?_, rfl⟩
        all_goals (try simp only [go_sem, ↓reduceIte, reduceCtorEq, Nat.reduceEqDiff, Nat.reduceAdd, Nat.reduceMul, Nat.reduceSub, Nat.reduceLeDiff, Int.reduceLT, Int.reduceLE, Int.reduceEq, Int.reduceSub, Int.reduceAdd, Int.reduceMul, Int.reduceNeg, Int.reduceToNat, h4_0, h4_6, h4_7, h4_10, h4_11, h4_15, h4_16, h4_14, b4_14, h4_4, b4_4, ni4_14, pi4_14, qi4_14, ri4_14, ni4_4, pi4_4, qi4_4, ri4_4, di4_14i4_4, di4_4i4_14])
        repeat' refine And.intro ?_ ?_
        all_goals try first | rfl | omega | (simp only [lnA] <;> omega) | ((first | refine stp ?_ | refine dkz_eq ?_ ?_) <;> first | rfl | omega | (simp only [lnA] <;> omega) | (simp only [lnA, List.append_assoc, List.cons_append, List.nil_append]; done) | skip)
      all_goals (obtain rfl : v = n := by omega)
      all_goals (rw [take_getD (d := []) (by omega), List.flatMap_append]; simp)
    · simp [extL, lackL]
    · simp [extL, lackL]
  · focus
      refine q_lp_n ((fun (i : Nat) => n - i) (i+1)) ?_ ⟨i+1, ?_, ?_, ?_, ?_, ?_, rfl⟩
      all_goals (try simp only [go_sem, ↓reduceIte, reduceCtorEq, Nat.reduceEqDiff, Nat.reduceAdd, Nat.reduceMul, Nat.reduceSub, Nat.reduceLeDiff, Int.reduceLT, Int.reduceLE, Int.reduceEq, Int.reduceSub, Int.reduceAdd, Int.reduceMul, Int.reduceNeg, Int.reduceToNat, h2_0, h2_10, h2_11, h2_15, h2_16, h2_14, b2_14, h2_4, b2_4, ni2_14, pi2_14, qi2_14, ri2_14, ni2_4, pi2_4, qi2_4, ri2_4, di2_14i2_4, di2_4i2_14])
      repeat' refine And.intro ?_ ?_
      all_goals try first | rfl | omega | (simp only [lnA] <;> omega) | ((first | refine stp ?_ | refine dkz_eq ?_ ?_) <;> first | rfl | omega | (simp only [lnA] <;> omega) | (simp only [lnA, List.append_assoc, List.cons_append, List.nil_append]; done) | skip)
    all_goals (rw [lvl_succ, List.take_of_length_le (by omega)])
  · obtain rfl : i = n := by omega
    rfl
theorem impl_isSix_c (n : Int) : Fun Try.prog 90 [(.int .i64 (n))] [(.bool ((decide (0 ≤ n) && decide (n ≤ 6))))] := by
  refine Fun.of (sg := sg0) (ts := [2]) mo Try.func90 rfl rfl rfl rfl (by kernel_rfl) (by simp only [go_sem]) rfl ?_
  have fc : True := trivial
  repeat' first
    | with_reducible first | refine stp ?_ | refine q_blk_o rfl ?_ | (refine hK _ ?_; clear hK) | (refine hA ?_; clear hA hB) | (refine hB ?_; clear hA hB) | exact v_end0 | exact v_end0' | refine v_gb1 ?_ ?_ | refine v_gb0 ?_ ?_ | refine And.intro ?_ ?_
    | (with_reducible refine p_ok ?_; decide)
    | ((first | with_reducible first | refine v_region rfl rfl (fun K hK => ?_) | refine v_draws rfl rfl (fun K hK => ?_) | refine v_if (fun A B hA hB => ?_) | refine v_end rfl ?_ | refine v_fin1 ?_ | refine v_finC1 ?_ | refine v_finO1 rfl ?_ | refine v_finN1 rfl ?_ ?_ | refine v_apj ?_ (fun j' => ?_) | refine v_stz ?_ ?_ ?_ ?_ ?_ | refine v_stq ?_ | refine v_cv1 ?_ ?_ ?_ | (intro hc; replace fc := And.intro hc fc; try simp only [hcs] at hc)) <;> (try simp (config := { maxSteps := 1000000 }) only [go_sem, ↓reduceIte, reduceCtorEq, Nat.reduceEqDiff, Nat.reduceAdd, Nat.reduceMul, Nat.reduceSub, Nat.reduceLeDiff, Int.reduceLT, Int.reduceLE, Int.reduceEq, Int.reduceSub, Int.reduceAdd, Int.reduceMul, Int.reduceNeg, Int.reduceToNat, fc]) <;> (try with_reducible rfl))
  all_goals try (first | omega | (simp only [n_i64, n_u8]; omega) | (simp only [n_i64, n_u8, lnA]; omega))
def classL (L : List (List Int)) (n : Nat) : List (List Int) := (permL n).filter (avB L)
theorem impl_class_c {e0 m0 : Bool} (L : List (List Int)) (n : Nat) (hL : L.length ≤ 1099511627776) (hl : ∀ q ∈ L, q.length ≤ 8) (hn : n ≤ 8) : Fun Try.prog 97 [(.sl (.lent m0) (List.map (elI e0) (L))), (.int .i64 (n))] [(.sl .own (List.map (elI false) (classL L n)))] := by
  refine Fun.of (sg := sg0) (ts := [4]) mo Try.func97 rfl rfl rfl rfl (by kernel_rfl) (by simp only [go_sem]) rfl ?_
  have b1 := permL_len hn
  have fc : True := trivial
  repeat' first
    | with_reducible first | refine stp ?_ | refine q_blk_o rfl ?_ | (refine hK _ ?_; clear hK) | (refine hA ?_; clear hA hB) | (refine hB ?_; clear hA hB) | exact v_end0 | exact v_end0' | refine v_gb1 ?_ ?_ | refine v_gb0 ?_ ?_ | refine And.intro ?_ ?_
    | (with_reducible refine p_ok ?_; decide)
    | ((first | with_reducible first | refine v_region rfl rfl (fun K hK => ?_) | refine v_draws rfl rfl (fun K hK => ?_) | refine v_if (fun A B hA hB => ?_) | refine v_end rfl ?_ | refine v_fin1 ?_ | refine v_finC1 ?_ | refine v_callE (impl_perms_f_c _ ?_) ?_ | refine v_callE (impl_avoids_c _ _ ?_ ?_ ?_) ?_ | refine v_finO1 rfl ?_ | refine v_finN1 rfl ?_ ?_ | refine v_apj ?_ (fun j' => ?_) | refine v_stz ?_ ?_ ?_ ?_ ?_ | refine v_stq ?_ | refine v_cv1 ?_ ?_ ?_ | (intro hc; replace fc := And.intro hc fc; try simp only [hcs] at hc)) <;> (try simp (config := { maxSteps := 1000000 }) only [go_sem, ↓reduceIte, reduceCtorEq, Nat.reduceEqDiff, Nat.reduceAdd, Nat.reduceMul, Nat.reduceSub, Nat.reduceLeDiff, Int.reduceLT, Int.reduceLE, Int.reduceEq, Int.reduceSub, Int.reduceAdd, Int.reduceMul, Int.reduceNeg, Int.reduceToNat, fc]) <;> (try with_reducible rfl))
  all_goals try (first | omega | (simp only [n_i64, n_u8]; omega) | (simp only [n_i64, n_u8, lnA]; omega))
  refine v_loop (fun ms1 S1 => ∃ (k : Nat), S1.e 0 = .p (.sl (.lent m0) (List.map (elI e0) (L))) ∧ OwnL (S1.e 10) S1.h S1.n (elI false) ((permL n).length) (permL n) ∧ S1.e 11 = .p (.int .i64 ((permL n).length)) ∧ OwnL (S1.e 5) S1.h S1.n (elI false) ((((permL n).take k).filter (avB L)).length) (((permL n).take k).filter (avB L)) ∧ S1.e 12 = .p (.int .i64 (k)) ∧ (k ≤ (permL n).length) ∧ NId (S1.e 5) (S1.e 10) ∧ ms1 = (permL n).length - k) ((fun (k : Nat) => (permL n).length - k) (0)) ?init1_8 ?body1_8
  case' init1_8 =>
    refine ⟨0, ?_, ?_, ?_, ?_, ?_, ?_, ?_, rfl⟩
    all_goals (try simp only [go_sem, ↓reduceIte, reduceCtorEq, Nat.reduceEqDiff, Nat.reduceAdd, Nat.reduceMul, Nat.reduceSub, Nat.reduceLeDiff, Int.reduceLT, Int.reduceLE, Int.reduceEq, Int.reduceSub, Int.reduceAdd, Int.reduceMul, Int.reduceNeg, Int.reduceToNat])
    repeat' refine And.intro ?_ ?_
    all_goals try first | rfl | omega | (simp only [lnA] <;> omega) | ((first | refine stp ?_ | refine dkz_eq ?_ ?_) <;> first | rfl | omega | (simp only [lnA] <;> omega) | (simp only [lnA, List.append_assoc, List.cons_append, List.nil_append]; done) | skip)
  case' body1_8 =>
    rintro ms1 S1 ⟨k, h1_0, o1_10, h1_11, o1_5, h1_12, c1_0, u1_0, hm1⟩
    obtain ⟨i1_10, h1_10, b1_10, l1_10⟩ := o1_10.out
    obtain ⟨i1_5, h1_5, b1_5, l1_5⟩ := o1_5.out
    have k1_0 := (u1_0).out h1_5 h1_10
    have ni1_10 : ∀ c, (i1_10 = S1.n + c) = False := fun c => eq_false (by omega)
    have pi1_10 : ∀ c, (S1.n + c = i1_10) = False := fun c => eq_false (by omega)
    have qi1_10 : (i1_10 = S1.n) = False := eq_false (by omega)
    have ri1_10 : (S1.n = i1_10) = False := eq_false (by omega)
    have ni1_5 : ∀ c, (i1_5 = S1.n + c) = False := fun c => eq_false (by omega)
    have pi1_5 : ∀ c, (S1.n + c = i1_5) = False := fun c => eq_false (by omega)
    have qi1_5 : (i1_5 = S1.n) = False := eq_false (by omega)
    have ri1_5 : (S1.n = i1_5) = False := eq_false (by omega)
    have di1_10i1_5 : (i1_10 = i1_5) = False := eq_false (by omega)
    have di1_5i1_10 : (i1_5 = i1_10) = False := eq_false (by omega)
  have b2 : (((permL n).take k).filter (avB L)).length ≤ 8 ^ 8 := Nat.le_trans (List.length_filter_le _ _) (by rw [List.length_take]; omega)
  by_cases hk : k < (permL n).length
  · have b3 := permL_row _ (getD_mem (d := []) hk)
    have fc : True := trivial
    repeat' first
      | with_reducible first | refine stp ?_ | refine q_blk_o rfl ?_ | (refine hK _ ?_; clear hK) | (refine hA ?_; clear hA hB) | (refine hB ?_; clear hA hB) | exact v_end0 | exact v_end0' | refine v_gb1 ?_ ?_ | refine v_gb0 ?_ ?_ | refine And.intro ?_ ?_
      | (with_reducible refine p_ok ?_; decide)
      | ((first | with_reducible first | refine v_region rfl rfl (fun K hK => ?_) | refine v_draws rfl rfl (fun K hK => ?_) | refine v_if (fun A B hA hB => ?_) | refine v_end rfl ?_ | refine v_fin1 ?_ | refine v_finC1 ?_ | refine v_callE (impl_perms_f_c _ ?_) ?_ | refine v_callE (impl_perms_c _ ?_) ?_ | refine v_callE (impl_avoids_c _ _ ?_ ?_ ?_) ?_ | refine v_finO1 rfl ?_ | refine v_finN1 rfl ?_ ?_ | refine v_apj ?_ (fun j' => ?_) | refine v_stz ?_ ?_ ?_ ?_ ?_ | refine v_stq ?_ | refine v_cv1 ?_ ?_ ?_ | (intro hc; replace fc := And.intro hc fc; try simp only [hcs] at hc)) <;> (try simp (config := { maxSteps := 1000000 }) only [go_sem, ↓reduceIte, reduceCtorEq, Nat.reduceEqDiff, Nat.reduceAdd, Nat.reduceMul, Nat.reduceSub, Nat.reduceLeDiff, Int.reduceLT, Int.reduceLE, Int.reduceEq, Int.reduceSub, Int.reduceAdd, Int.reduceMul, Int.reduceNeg, Int.reduceToNat, h1_0, h1_11, h1_12, h1_10, b1_10, h1_5, b1_5, ni1_10, pi1_10, qi1_10, ri1_10, ni1_5, pi1_5, qi1_5, ri1_5, di1_10i1_5, di1_5i1_10, fc]) <;> (try with_reducible rfl))
    all_goals try (first | omega | (simp only [n_i64, n_u8]; omega) | (simp only [n_i64, n_u8, lnA]; omega))
    · focus
        refine q_lp_n ((fun (k : Nat) => (permL n).length - k) (k+1)) ?_ ⟨k+1, ?_, ?_, ?_, ?_, ?_, ?_, ?_, rfl⟩
        all_goals (try simp only [go_sem, ↓reduceIte, reduceCtorEq, Nat.reduceEqDiff, Nat.reduceAdd, Nat.reduceMul, Nat.reduceSub, Nat.reduceLeDiff, Int.reduceLT, Int.reduceLE, Int.reduceEq, Int.reduceSub, Int.reduceAdd, Int.reduceMul, Int.reduceNeg, Int.reduceToNat, h1_0, h1_11, h1_12, h1_10, b1_10, h1_5, b1_5, ni1_10, pi1_10, qi1_10, ri1_10, ni1_5, pi1_5, qi1_5, ri1_5, di1_10i1_5, di1_5i1_10])
        repeat' refine And.intro ?_ ?_
        all_goals try first | rfl | omega | (simp only [lnA] <;> omega) | ((first | refine stp ?_ | refine dkz_eq ?_ ?_) <;> first | rfl | omega | (simp only [lnA] <;> omega) | (simp only [lnA, List.append_assoc, List.cons_append, List.nil_append]; done) | skip)
      all_goals (rw [take_getD (d := []) hk, List.filter_append, List.filter_cons, if_pos hc]; simp)
    · focus
        refine q_lp_n ((fun (k : Nat) => (permL n).length - k) (k+1)) ?_ ⟨k+1, ?_, ?_, ?_, ?_, ?_, ?_, ?_, rfl⟩
        all_goals (try simp only [go_sem, ↓reduceIte, reduceCtorEq, Nat.reduceEqDiff, Nat.reduceAdd, Nat.reduceMul, Nat.reduceSub, Nat.reduceLeDiff, Int.reduceLT, Int.reduceLE, Int.reduceEq, Int.reduceSub, Int.reduceAdd, Int.reduceMul, Int.reduceNeg, Int.reduceToNat, h1_0, h1_11, h1_12, h1_10, b1_10, h1_5, b1_5, ni1_10, pi1_10, qi1_10, ri1_10, ni1_5, pi1_5, qi1_5, ri1_5, di1_10i1_5, di1_5i1_10])
        repeat' refine And.intro ?_ ?_
        all_goals try first | rfl | omega | (simp only [lnA] <;> omega) | ((first | refine stp ?_ | refine dkz_eq ?_ ?_) <;> first | rfl | omega | (simp only [lnA] <;> omega) | (simp only [lnA, List.append_assoc, List.cons_append, List.nil_append]; done) | skip)
      all_goals (rw [take_getD (d := []) hk, List.filter_append, List.filter_cons, if_neg (by rw [hc]; decide)]; simp)
  · have fc : True := trivial
    repeat' first
      | with_reducible first | refine stp ?_ | refine q_blk_o rfl ?_ | (refine hK _ ?_; clear hK) | (refine hA ?_; clear hA hB) | (refine hB ?_; clear hA hB) | exact v_end0 | exact v_end0' | refine v_gb1 ?_ ?_ | refine v_gb0 ?_ ?_ | refine And.intro ?_ ?_
      | (with_reducible refine p_ok ?_; decide)
      | ((first | with_reducible first | refine v_region rfl rfl (fun K hK => ?_) | refine v_draws rfl rfl (fun K hK => ?_) | refine v_if (fun A B hA hB => ?_) | refine v_end rfl ?_ | refine v_fin1 ?_ | refine v_finC1 ?_ | refine v_callE (impl_perms_f_c _ ?_) ?_ | refine v_callE (impl_perms_c _ ?_) ?_ | refine v_callE (impl_avoids_c _ _ ?_ ?_ ?_) ?_ | refine v_finO1 rfl ?_ | refine v_finN1 rfl ?_ ?_ | refine v_apj ?_ (fun j' => ?_) | refine v_stz ?_ ?_ ?_ ?_ ?_ | refine v_stq ?_ | refine v_cv1 ?_ ?_ ?_ | (intro hc; replace fc := And.intro hc fc; try simp only [hcs] at hc)) <;> (try simp (config := { maxSteps := 1000000 }) only [go_sem, ↓reduceIte, reduceCtorEq, Nat.reduceEqDiff, Nat.reduceAdd, Nat.reduceMul, Nat.reduceSub, Nat.reduceLeDiff, Int.reduceLT, Int.reduceLE, Int.reduceEq, Int.reduceSub, Int.reduceAdd, Int.reduceMul, Int.reduceNeg, Int.reduceToNat, h1_0, h1_11, h1_12, h1_10, b1_10, h1_5, b1_5, ni1_10, pi1_10, qi1_10, ri1_10, ni1_5, pi1_5, qi1_5, ri1_5, di1_10i1_5, di1_5i1_10, fc]) <;> (try with_reducible rfl))
    all_goals try (first | omega | (simp only [n_i64, n_u8]; omega) | (simp only [n_i64, n_u8, lnA]; omega))
    rw [List.take_of_length_le (by omega)]; rfl
def classB (L : List (List Int)) (n : Int) : List (List Int) := if basisB L = true ∧ 0 ≤ n ∧ n ≤ 6 then classL L n.toNat else []
theorem basis_row {L : List (List Int)} (h : basisB L = true) : ∀ q ∈ L, q.length ≤ 8 := fun q hq => by
  simp only [basisB, Bool.and_eq_true] at h
  obtain ⟨i, hi, rfl⟩ := List.getElem_of_mem hq
  have := (isPerm_facts (basK_perm h.2 hi)).1
  rwa [List.getD_eq_getElem?_getD, List.getElem?_eq_getElem hi] at this
theorem class_len {L : List (List Int)} {n : Nat} (hn : n ≤ 8) : (classL L n).length ≤ 8 ^ 8 := Nat.le_trans (List.length_filter_le _ _) (permL_len hn)
theorem class_perm {L : List (List Int)} {n : Nat} (hn : n ≤ 8) {p : List Int} (h : p ∈ classL L n) : isPermB p = true ∧ p.length = n := ⟨permL_isPerm hn (List.mem_filter.1 h).1, permL_row _ (List.mem_filter.1 h).1⟩
theorem spec_ClassOf_c {e0 m0 : Bool} (L : List (List Int)) (n : Int) (hL : L.length ≤ 1048576) (hl : ∀ l ∈ L, l.length ≤ 1048576) : Fun Try.prog 94 [(.sl (.lent m0) (List.map (elI e0) (L))), (.int .i64 (n))] [(.sl .own (List.map (elI false) (classB L n)))] := by
  by_cases hc0 : basisB L = true ∧ 0 ≤ n ∧ n ≤ 6
  · have e1 : classB L n = classL L n.toNat := if_pos hc0
    have e2 : permsB n = permL n.toNat := if_pos hc0.2
    have hb := basis_row hc0.1
    have b1 := permL_len (n := n.toNat) (by omega)
    have e3 := hc0.1
    rw [e1]
    refine Fun.of (sg := sg0) (ts := [4]) mo Try.func94 rfl rfl rfl rfl (by kernel_rfl) (by simp only [go_sem]) rfl ?_
    have fc : True := trivial
    repeat' first
      | with_reducible first | refine stp ?_ | refine q_blk_o rfl ?_ | (refine hK _ ?_; clear hK) | (refine hA ?_; clear hA hB) | (refine hB ?_; clear hA hB) | exact v_end0 | exact v_end0' | refine v_gb1 ?_ ?_ | refine v_gb0 ?_ ?_ | refine And.intro ?_ ?_
      | (with_reducible refine p_ok ?_; decide)
      | ((first | with_reducible first | refine v_region rfl rfl (fun K hK => ?_) | refine v_draws rfl rfl (fun K hK => ?_) | refine v_if (fun A B hA hB => ?_) | refine v_end rfl ?_ | refine v_fin1 ?_ | refine v_finC1 ?_ | refine v_callE (spec_l1In_c _ _ _) ?_ | refine v_callE (spec_PermsOf_c _) ?_ | refine v_callE (spec_IsBasis_c _ ?_ ?_) ?_ | refine v_callE (spec_l12Avoids_c _ _ ?_ ?_ ?_) ?_ | refine v_finO1 rfl ?_ | refine v_finN1 rfl ?_ ?_ | refine v_apj ?_ (fun j' => ?_) | refine v_stz ?_ ?_ ?_ ?_ ?_ | refine v_stq ?_ | refine v_cv1 ?_ ?_ ?_ | (intro hc; replace fc := And.intro hc fc; try simp only [hcs] at hc)) <;> (try simp (config := { maxSteps := 1000000 }) only [go_sem, ↓reduceIte, reduceCtorEq, Nat.reduceEqDiff, Nat.reduceAdd, Nat.reduceMul, Nat.reduceSub, Nat.reduceLeDiff, Int.reduceLT, Int.reduceLE, Int.reduceEq, Int.reduceSub, Int.reduceAdd, Int.reduceMul, Int.reduceNeg, Int.reduceToNat, e2, e3, fc]) <;> (try with_reducible rfl))
    all_goals try (first | omega | (simp only [n_i64, n_u8]; omega) | (simp only [n_i64, n_u8, lnA]; omega))
    refine v_loop (fun ms1 S1 => ∃ (k : Nat), S1.e 0 = .p (.sl (.lent m0) (List.map (elI e0) (L))) ∧ OwnL (S1.e 6) S1.h S1.n (elI false) ((permL n.toNat).length) (permL n.toNat) ∧ OwnL (S1.e 5) S1.h S1.n (elI false) ((((permL n.toNat).take k).filter (avB L)).length) (((permL n.toNat).take k).filter (avB L)) ∧ S1.e 7 = .p (.int .i64 (k)) ∧ (k ≤ (permL n.toNat).length) ∧ NId (S1.e 5) (S1.e 6) ∧ ms1 = (permL n.toNat).length - k) ((fun (k : Nat) => (permL n.toNat).length - k) (0)) ?init1_9 ?body1_9
    case' init1_9 =>
      refine ⟨0, ?_, ?_, ?_, ?_, ?_, ?_, rfl⟩
      all_goals (try simp only [go_sem, ↓reduceIte, reduceCtorEq, Nat.reduceEqDiff, Nat.reduceAdd, Nat.reduceMul, Nat.reduceSub, Nat.reduceLeDiff, Int.reduceLT, Int.reduceLE, Int.reduceEq, Int.reduceSub, Int.reduceAdd, Int.reduceMul, Int.reduceNeg, Int.reduceToNat])
      repeat' refine And.intro ?_ ?_
      all_goals try first | rfl | omega | (simp only [lnA] <;> omega) | ((first | refine stp ?_ | refine dkz_eq ?_ ?_) <;> first | rfl | omega | (simp only [lnA] <;> omega) | (simp only [lnA, List.append_assoc, List.cons_append, List.nil_append]; done) | skip)
    case' body1_9 =>
      rintro ms1 S1 ⟨k, h1_0, o1_6, o1_5, h1_7, c1_0, u1_0, hm1⟩
      obtain ⟨i1_6, h1_6, b1_6, l1_6⟩ := o1_6.out
      obtain ⟨i1_5, h1_5, b1_5, l1_5⟩ := o1_5.out
      have k1_0 := (u1_0).out h1_5 h1_6
      have ni1_6 : ∀ c, (i1_6 = S1.n + c) = False := fun c => eq_false (by omega)
      have pi1_6 : ∀ c, (S1.n + c = i1_6) = False := fun c => eq_false (by omega)
      have qi1_6 : (i1_6 = S1.n) = False := eq_false (by omega)
      have ri1_6 : (S1.n = i1_6) = False := eq_false (by omega)
      have ni1_5 : ∀ c, (i1_5 = S1.n + c) = False := fun c => eq_false (by omega)
      have pi1_5 : ∀ c, (S1.n + c = i1_5) = False := fun c => eq_false (by omega)
      have qi1_5 : (i1_5 = S1.n) = False := eq_false (by omega)
      have ri1_5 : (S1.n = i1_5) = False := eq_false (by omega)
      have di1_6i1_5 : (i1_6 = i1_5) = False := eq_false (by omega)
      have di1_5i1_6 : (i1_5 = i1_6) = False := eq_false (by omega)
    have b2 : (((permL n.toNat).take k).filter (avB L)).length ≤ 8 ^ 8 := Nat.le_trans (List.length_filter_le _ _) (by rw [List.length_take]; omega)
    by_cases hk : k < (permL n.toNat).length
    · have b3 := permL_row _ (getD_mem (d := []) hk)
      have fc : True := trivial
      repeat' first
        | with_reducible first | refine stp ?_ | refine q_blk_o rfl ?_ | (refine hK _ ?_; clear hK) | (refine hA ?_; clear hA hB) | (refine hB ?_; clear hA hB) | exact v_end0 | exact v_end0' | refine v_gb1 ?_ ?_ | refine v_gb0 ?_ ?_ | refine And.intro ?_ ?_
        | (with_reducible refine p_ok ?_; decide)
        | ((first | with_reducible first | refine v_region rfl rfl (fun K hK => ?_) | refine v_draws rfl rfl (fun K hK => ?_) | refine v_if (fun A B hA hB => ?_) | refine v_end rfl ?_ | refine v_fin1 ?_ | refine v_finC1 ?_ | refine v_callE (spec_l1In_c _ _ _) ?_ | refine v_callE (spec_PermsOf_c _) ?_ | refine v_callE (spec_IsBasis_c _ ?_ ?_) ?_ | refine v_callE (spec_l12Avoids_c _ _ ?_ ?_ ?_) ?_ | refine v_finO1 rfl ?_ | refine v_finN1 rfl ?_ ?_ | refine v_apj ?_ (fun j' => ?_) | refine v_stz ?_ ?_ ?_ ?_ ?_ | refine v_stq ?_ | refine v_cv1 ?_ ?_ ?_ | (intro hc; replace fc := And.intro hc fc; try simp only [hcs] at hc)) <;> (try simp (config := { maxSteps := 1000000 }) only [go_sem, ↓reduceIte, reduceCtorEq, Nat.reduceEqDiff, Nat.reduceAdd, Nat.reduceMul, Nat.reduceSub, Nat.reduceLeDiff, Int.reduceLT, Int.reduceLE, Int.reduceEq, Int.reduceSub, Int.reduceAdd, Int.reduceMul, Int.reduceNeg, Int.reduceToNat, h1_0, h1_7, h1_6, b1_6, h1_5, b1_5, ni1_6, pi1_6, qi1_6, ri1_6, ni1_5, pi1_5, qi1_5, ri1_5, di1_6i1_5, di1_5i1_6, fc]) <;> (try with_reducible rfl))
      all_goals try (first | omega | (simp only [n_i64, n_u8]; omega) | (simp only [n_i64, n_u8, lnA]; omega))
      · focus
          refine q_lp_n ((fun (k : Nat) => (permL n.toNat).length - k) (k+1)) ?_ ⟨k+1, ?_, ?_, ?_, ?_, ?_, ?_, rfl⟩
          all_goals (try simp only [go_sem, ↓reduceIte, reduceCtorEq, Nat.reduceEqDiff, Nat.reduceAdd, Nat.reduceMul, Nat.reduceSub, Nat.reduceLeDiff, Int.reduceLT, Int.reduceLE, Int.reduceEq, Int.reduceSub, Int.reduceAdd, Int.reduceMul, Int.reduceNeg, Int.reduceToNat, h1_0, h1_7, h1_6, b1_6, h1_5, b1_5, ni1_6, pi1_6, qi1_6, ri1_6, ni1_5, pi1_5, qi1_5, ri1_5, di1_6i1_5, di1_5i1_6])
          repeat' refine And.intro ?_ ?_
          all_goals try first | rfl | omega | (simp only [lnA] <;> omega) | ((first | refine stp ?_ | refine dkz_eq ?_ ?_) <;> first | rfl | omega | (simp only [lnA] <;> omega) | (simp only [lnA, List.append_assoc, List.cons_append, List.nil_append]; done) | skip)
        all_goals (rw [take_getD (d := []) hk, List.filter_append, List.filter_cons, if_pos hc]; simp)
      · focus
          refine q_lp_n ((fun (k : Nat) => (permL n.toNat).length - k) (k+1)) ?_ ⟨k+1, ?_, ?_, ?_, ?_, ?_, ?_, rfl⟩
          all_goals (try simp only [go_sem, ↓reduceIte, reduceCtorEq, Nat.reduceEqDiff, Nat.reduceAdd, Nat.reduceMul, Nat.reduceSub, Nat.reduceLeDiff, Int.reduceLT, Int.reduceLE, Int.reduceEq, Int.reduceSub, Int.reduceAdd, Int.reduceMul, Int.reduceNeg, Int.reduceToNat, h1_0, h1_7, h1_6, b1_6, h1_5, b1_5, ni1_6, pi1_6, qi1_6, ri1_6, ni1_5, pi1_5, qi1_5, ri1_5, di1_6i1_5, di1_5i1_6])
          repeat' refine And.intro ?_ ?_
          all_goals try first | rfl | omega | (simp only [lnA] <;> omega) | ((first | refine stp ?_ | refine dkz_eq ?_ ?_) <;> first | rfl | omega | (simp only [lnA] <;> omega) | (simp only [lnA, List.append_assoc, List.cons_append, List.nil_append]; done) | skip)
        all_goals (rw [take_getD (d := []) hk, List.filter_append, List.filter_cons, if_neg (by rw [hc]; decide)]; simp)
    · have fc : True := trivial
      repeat' first
        | with_reducible first | refine stp ?_ | refine q_blk_o rfl ?_ | (refine hK _ ?_; clear hK) | (refine hA ?_; clear hA hB) | (refine hB ?_; clear hA hB) | exact v_end0 | exact v_end0' | refine v_gb1 ?_ ?_ | refine v_gb0 ?_ ?_ | refine And.intro ?_ ?_
        | (with_reducible refine p_ok ?_; decide)
        | ((first | with_reducible first | refine v_region rfl rfl (fun K hK => ?_) | refine v_draws rfl rfl (fun K hK => ?_) | refine v_if (fun A B hA hB => ?_) | refine v_end rfl ?_ | refine v_fin1 ?_ | refine v_finC1 ?_ | refine v_callE (spec_l1In_c _ _ _) ?_ | refine v_callE (spec_PermsOf_c _) ?_ | refine v_callE (spec_IsBasis_c _ ?_ ?_) ?_ | refine v_callE (spec_l12Avoids_c _ _ ?_ ?_ ?_) ?_ | refine v_finO1 rfl ?_ | refine v_finN1 rfl ?_ ?_ | refine v_apj ?_ (fun j' => ?_) | refine v_stz ?_ ?_ ?_ ?_ ?_ | refine v_stq ?_ | refine v_cv1 ?_ ?_ ?_ | (intro hc; replace fc := And.intro hc fc; try simp only [hcs] at hc)) <;> (try simp (config := { maxSteps := 1000000 }) only [go_sem, ↓reduceIte, reduceCtorEq, Nat.reduceEqDiff, Nat.reduceAdd, Nat.reduceMul, Nat.reduceSub, Nat.reduceLeDiff, Int.reduceLT, Int.reduceLE, Int.reduceEq, Int.reduceSub, Int.reduceAdd, Int.reduceMul, Int.reduceNeg, Int.reduceToNat, h1_0, h1_7, h1_6, b1_6, h1_5, b1_5, ni1_6, pi1_6, qi1_6, ri1_6, ni1_5, pi1_5, qi1_5, ri1_5, di1_6i1_5, di1_5i1_6, fc]) <;> (try with_reducible rfl))
      all_goals try (first | omega | (simp only [n_i64, n_u8]; omega) | (simp only [n_i64, n_u8, lnA]; omega))
      rw [List.take_of_length_le (by omega)]; rfl
  · have e1 : classB L n = [] := if_neg hc0
    rw [e1]
    refine Fun.of (sg := sg0) (ts := [4]) mo Try.func94 rfl rfl rfl rfl (by kernel_rfl) (by simp only [go_sem]) rfl ?_
    have fc : True := trivial
    repeat' first
      | with_reducible first | refine stp ?_ | refine q_blk_o rfl ?_ | (refine hK _ ?_; clear hK) | (refine hA ?_; clear hA hB) | (refine hB ?_; clear hA hB) | exact v_end0 | exact v_end0' | refine v_gb1 ?_ ?_ | refine v_gb0 ?_ ?_ | refine And.intro ?_ ?_
      | (with_reducible refine p_ok ?_; decide)
      | ((first | with_reducible first | refine v_region rfl rfl (fun K hK => ?_) | refine v_draws rfl rfl (fun K hK => ?_) | refine v_if (fun A B hA hB => ?_) | refine v_end rfl ?_ | refine v_fin1 ?_ | refine v_finC1 ?_ | refine v_callE (spec_l1In_c _ _ _) ?_ | refine v_callE (spec_PermsOf_c _) ?_ | refine v_callE (spec_IsBasis_c _ ?_ ?_) ?_ | refine v_callE (spec_l12Avoids_c _ _ ?_ ?_ ?_) ?_ | refine v_finO1 rfl ?_ | refine v_finN1 rfl ?_ ?_ | refine v_apj ?_ (fun j' => ?_) | refine v_stz ?_ ?_ ?_ ?_ ?_ | refine v_stq ?_ | refine v_cv1 ?_ ?_ ?_ | (intro hc; replace fc := And.intro hc fc; try simp only [hcs] at hc)) <;> (try simp (config := { maxSteps := 1000000 }) only [go_sem, ↓reduceIte, reduceCtorEq, Nat.reduceEqDiff, Nat.reduceAdd, Nat.reduceMul, Nat.reduceSub, Nat.reduceLeDiff, Int.reduceLT, Int.reduceLE, Int.reduceEq, Int.reduceSub, Int.reduceAdd, Int.reduceMul, Int.reduceNeg, Int.reduceToNat, fc]) <;> (try with_reducible rfl))
    all_goals try (first | omega | (simp only [n_i64, n_u8]; omega) | (simp only [n_i64, n_u8, lnA]; omega))
    exact absurd ⟨by assumption, by assumption⟩ hc0
def wholeN (L : List (List Int)) (n : Nat) : Int := ((classL L n).filter fun p => decide (partN p = 1)).length
def wholesB (L : List (List Int)) (n : Int) : List Int := if basisB L = true ∧ 0 ≤ n ∧ n ≤ 6 then (List.range (n.toNat + 1)).map (wholeN L) else []
theorem cnt_succ {α : Type} {l : List α} {d : α} {f : α → Bool} {j : Nat} (h : j < l.length) : (((l.take (j + 1)).filter f).length : Int) = ((l.take j).filter f).length + bitI (f (l.getD j d)) := by
  rw [take_getD (d := d) h, List.filter_append, List.length_append, List.filter_cons]
  cases f (l.getD j d) <;> simp [bitI]
theorem cnt_le {α : Type} {l : List α} {f : α → Bool} {j : Nat} : ((l.take j).filter f).length ≤ l.length := Nat.le_trans (List.length_filter_le _ _) (by rw [List.length_take]; omega)
theorem impl_WholeCounts_c {e0 m0 : Bool} (L : List (List Int)) (n : Int) (hL : L.length ≤ 1048576) (hl : ∀ l ∈ L, l.length ≤ 1048576) : Fun Try.prog 48 [(.sl (.lent m0) (List.map (elI e0) (L))), (.int .i64 (n))] [(.sl .own (List.map (PV.int .i64) (wholesB L n)))] := by
  by_cases hc0 : basisB L = true ∧ 0 ≤ n ∧ n ≤ 6
  · have e1 : wholesB L n = (List.range (n.toNat + 1)).map (wholeN L) := if_pos hc0
    obtain ⟨m, hm⟩ : ∃ m : Nat, m = n.toNat + 1 := ⟨_, rfl⟩
    rw [← hm] at e1
    have hb := basis_row hc0.1
    have e3 := hc0.1
    rw [e1]
    refine Fun.of (sg := sg0) (ts := [4]) mo Try.func48 rfl rfl rfl rfl (by kernel_rfl) (by simp only [go_sem]) rfl ?_
    have fc : True := trivial
    repeat' first
      | with_reducible first | refine stp ?_ | refine q_blk_o rfl ?_ | (refine hK _ ?_; clear hK) | (refine hA ?_; clear hA hB) | (refine hB ?_; clear hA hB) | exact v_end0 | exact v_end0' | refine v_gb1 ?_ ?_ | refine v_gb0 ?_ ?_ | refine And.intro ?_ ?_
      | (with_reducible refine p_ok ?_; decide)
      | ((first | with_reducible first | refine v_region rfl rfl (fun K hK => ?_) | refine v_draws rfl rfl (fun K hK => ?_) | refine v_if (fun A B hA hB => ?_) | refine v_end rfl ?_ | refine v_fin1 ?_ | refine v_finC1 ?_ | refine v_callE (impl_isSix_c _) ?_ | refine v_callE (impl_IsBasis_c _ ?_ ?_) ?_ | refine v_callE (impl_class_c _ _ ?_ ?_ ?_) ?_ | refine v_callE (impl_sumParts_c _ ?_ ?_) ?_ | refine v_finO1 rfl ?_ | refine v_finN1 rfl ?_ ?_ | refine v_apj ?_ (fun j' => ?_) | refine v_stz ?_ ?_ ?_ ?_ ?_ | refine v_stq ?_ | refine v_cv1 ?_ ?_ ?_ | (intro hc; replace fc := And.intro hc fc; try simp only [hcs] at hc)) <;> (try simp (config := { maxSteps := 1000000 }) only [go_sem, ↓reduceIte, reduceCtorEq, Nat.reduceEqDiff, Nat.reduceAdd, Nat.reduceMul, Nat.reduceSub, Nat.reduceLeDiff, Int.reduceLT, Int.reduceLE, Int.reduceEq, Int.reduceSub, Int.reduceAdd, Int.reduceMul, Int.reduceNeg, Int.reduceToNat, e3, fc]) <;> (try with_reducible rfl))
    all_goals try (first | omega | (simp only [n_i64, n_u8]; omega) | (simp only [n_i64, n_u8, lnA]; omega))
    refine v_loop (fun ms1 S1 => ∃ (k : Nat), S1.e 0 = .p (.sl (.lent m0) (List.map (elI e0) (L))) ∧ OwnL (S1.e 5) S1.h S1.n (PV.int .i64) (((List.range k).map (wholeN L)).length) ((List.range k).map (wholeN L)) ∧ S1.e 20 = .p (.int .i64 ((n + 1))) ∧ S1.e 21 = .p (.int .i64 (k)) ∧ ((k : Int) ≤ n + 1) ∧ ms1 = n.toNat + 1 - k) ((fun (k : Nat) => n.toNat + 1 - k) (0)) ?init1_10 ?body1_10
    case' init1_10 =>
      refine ⟨0, ?_, ?_, ?_, ?_, ?_, rfl⟩
      all_goals (try simp only [go_sem, ↓reduceIte, reduceCtorEq, Nat.reduceEqDiff, Nat.reduceAdd, Nat.reduceMul, Nat.reduceSub, Nat.reduceLeDiff, Int.reduceLT, Int.reduceLE, Int.reduceEq, Int.reduceSub, Int.reduceAdd, Int.reduceMul, Int.reduceNeg, Int.reduceToNat])
      repeat' refine And.intro ?_ ?_
      all_goals try first | rfl | omega | (simp only [lnA] <;> omega) | ((first | refine stp ?_ | refine dkz_eq ?_ ?_) <;> first | rfl | omega | (simp only [lnA] <;> omega) | (simp only [lnA, List.append_assoc, List.cons_append, List.nil_append]; done) | skip)
    case' body1_10 =>
      rintro ms1 S1 ⟨k, h1_0, o1_5, h1_20, h1_21, c1_0, hm1⟩
      obtain ⟨i1_5, h1_5, b1_5, l1_5⟩ := o1_5.out
      have ni1_5 : ∀ c, (i1_5 = S1.n + c) = False := fun c => eq_false (by omega)
      have pi1_5 : ∀ c, (S1.n + c = i1_5) = False := fun c => eq_false (by omega)
      have qi1_5 : (i1_5 = S1.n) = False := eq_false (by omega)
      have ri1_5 : (S1.n = i1_5) = False := eq_false (by omega)
    by_cases hk : (k : Int) < n + 1
    · have b1 := class_len (L := L) (n := k) (by omega)
      have fc : True := trivial
      repeat' first
        | with_reducible first | refine stp ?_ | refine q_blk_o rfl ?_ | (refine hK _ ?_; clear hK) | (refine hA ?_; clear hA hB) | (refine hB ?_; clear hA hB) | exact v_end0 | exact v_end0' | refine v_gb1 ?_ ?_ | refine v_gb0 ?_ ?_ | refine And.intro ?_ ?_
        | (with_reducible refine p_ok ?_; decide)
        | ((first | with_reducible first | refine v_region rfl rfl (fun K hK => ?_) | refine v_draws rfl rfl (fun K hK => ?_) | refine v_if (fun A B hA hB => ?_) | refine v_end rfl ?_ | refine v_fin1 ?_ | refine v_finC1 ?_ | refine v_callE (impl_isSix_c _) ?_ | refine v_callE (impl_IsBasis_c _ ?_ ?_) ?_ | refine v_callE (impl_class_c _ _ ?_ ?_ ?_) ?_ | refine v_callE (impl_sumParts_c _ ?_ ?_) ?_ | refine v_finO1 rfl ?_ | refine v_finN1 rfl ?_ ?_ | refine v_apj ?_ (fun j' => ?_) | refine v_stz ?_ ?_ ?_ ?_ ?_ | refine v_stq ?_ | refine v_cv1 ?_ ?_ ?_ | (intro hc; replace fc := And.intro hc fc; try simp only [hcs] at hc)) <;> (try simp (config := { maxSteps := 1000000 }) only [go_sem, ↓reduceIte, reduceCtorEq, Nat.reduceEqDiff, Nat.reduceAdd, Nat.reduceMul, Nat.reduceSub, Nat.reduceLeDiff, Int.reduceLT, Int.reduceLE, Int.reduceEq, Int.reduceSub, Int.reduceAdd, Int.reduceMul, Int.reduceNeg, Int.reduceToNat, h1_0, h1_20, h1_21, h1_5, b1_5, ni1_5, pi1_5, qi1_5, ri1_5, fc]) <;> (try with_reducible rfl))
      all_goals try (first | omega | (simp only [n_i64, n_u8]; omega) | (simp only [n_i64, n_u8, lnA]; omega))
      · refine v_loop (fun ms2 S2 => ∃ (j : Nat), S2.e 0 = .p (.sl (.lent m0) (List.map (elI e0) (L))) ∧ OwnL (S2.e 26) S2.h S2.n (elI false) ((classL L k).length) (classL L k) ∧ S2.e 27 = .p (.int .i64 ((classL L k).length)) ∧ S2.e 28 = .p (.int .i64 (j)) ∧ OwnL (S2.e 5) S2.h S2.n (PV.int .i64) (((List.range k).map (wholeN L)).length) ((List.range k).map (wholeN L)) ∧ S2.e 7 = .p (.int .i64 ((((classL L k).take j).filter (fun p => decide (partN p = 1))).length)) ∧ S2.e 20 = .p (.int .i64 ((n + 1))) ∧ S2.e 21 = .p (.int .i64 (k)) ∧ (j ≤ (classL L k).length) ∧ NId (S2.e 5) (S2.e 26) ∧ S1.n ≤ S2.n ∧ ms2 = (classL L k).length - j) ((fun (j : Nat) => (classL L k).length - j) (0)) ?init2_11 ?body2_11
        case' init2_11 =>
          refine ⟨0, ?_, ?_, ?_, ?_, ?_, ?_, ?_, ?_, ?_, ?_, ?_, rfl⟩
          all_goals (try simp only [go_sem, ↓reduceIte, reduceCtorEq, Nat.reduceEqDiff, Nat.reduceAdd, Nat.reduceMul, Nat.reduceSub, Nat.reduceLeDiff, Int.reduceLT, Int.reduceLE, Int.reduceEq, Int.reduceSub, Int.reduceAdd, Int.reduceMul, Int.reduceNeg, Int.reduceToNat, h1_0, h1_20, h1_21, h1_5, b1_5, ni1_5, pi1_5, qi1_5, ri1_5])
          repeat' refine And.intro ?_ ?_
          all_goals try first | rfl | omega | (simp only [lnA] <;> omega) | ((first | refine stp ?_ | refine dkz_eq ?_ ?_) <;> first | rfl | omega | (simp only [lnA] <;> omega) | (simp only [lnA, List.append_assoc, List.cons_append, List.nil_append]; done) | skip)
        case' body2_11 =>
          rintro ms2 S2 ⟨j, h2_0, o2_26, h2_27, h2_28, o2_5, h2_7, h2_20, h2_21, c2_0, u2_0, u2_1, hm2⟩
          obtain ⟨i2_26, h2_26, b2_26, l2_26⟩ := o2_26.out
          obtain ⟨i2_5, h2_5, b2_5, l2_5⟩ := o2_5.out
          have k2_0 := (u2_0).out h2_5 h2_26
          have ni2_26 : ∀ c, (i2_26 = S2.n + c) = False := fun c => eq_false (by omega)
          have pi2_26 : ∀ c, (S2.n + c = i2_26) = False := fun c => eq_false (by omega)
          have qi2_26 : (i2_26 = S2.n) = False := eq_false (by omega)
          have ri2_26 : (S2.n = i2_26) = False := eq_false (by omega)
          have ni2_5 : ∀ c, (i2_5 = S2.n + c) = False := fun c => eq_false (by omega)
          have pi2_5 : ∀ c, (S2.n + c = i2_5) = False := fun c => eq_false (by omega)
          have qi2_5 : (i2_5 = S2.n) = False := eq_false (by omega)
          have ri2_5 : (S2.n = i2_5) = False := eq_false (by omega)
          have di2_26i2_5 : (i2_26 = i2_5) = False := eq_false (by omega)
          have di2_5i2_26 : (i2_5 = i2_26) = False := eq_false (by omega)
        have b2 := cnt_le (l := classL L k) (f := fun p => decide (partN p = 1)) (j := j)
        have b0 : (List.map (wholeN L) (List.range k)).length = k := by simp
        by_cases hj : j < (classL L k).length
        · have b3 := class_perm (by omega) (getD_mem (d := []) hj)
          have b4 := perm_b8 b3.1
          have b5 := cnt_succ (f := fun p => decide (partN p = 1)) (d := []) hj
          have b6 : (spG shI ((classL L k).getD j []) ((classL L k).getD j []).length).1.length = partN ((classL L k).getD j []) := rfl
          have fc : True := trivial
          repeat' first
            | with_reducible first | refine stp ?_ | refine q_blk_o rfl ?_ | (refine hK _ ?_; clear hK) | (refine hA ?_; clear hA hB) | (refine hB ?_; clear hA hB) | exact v_end0 | exact v_end0' | refine v_gb1 ?_ ?_ | refine v_gb0 ?_ ?_ | refine And.intro ?_ ?_
            | (with_reducible refine p_ok ?_; decide)
            | ((first | with_reducible first | refine v_region rfl rfl (fun K hK => ?_) | refine v_draws rfl rfl (fun K hK => ?_) | refine v_if (fun A B hA hB => ?_) | refine v_end rfl ?_ | refine v_fin1 ?_ | refine v_finC1 ?_ | refine v_callE (impl_isSix_c _) ?_ | refine v_callE (impl_IsBasis_c _ ?_ ?_) ?_ | refine v_callE (impl_class_c _ _ ?_ ?_ ?_) ?_ | refine v_callE (impl_sumParts_c _ ?_ ?_) ?_ | refine v_finO1 rfl ?_ | refine v_finN1 rfl ?_ ?_ | refine v_apj ?_ (fun j' => ?_) | refine v_stz ?_ ?_ ?_ ?_ ?_ | refine v_stq ?_ | refine v_cv1 ?_ ?_ ?_ | (intro hc; replace fc := And.intro hc fc; try simp only [hcs] at hc)) <;> (try simp (config := { maxSteps := 1000000 }) only [go_sem, ↓reduceIte, reduceCtorEq, Nat.reduceEqDiff, Nat.reduceAdd, Nat.reduceMul, Nat.reduceSub, Nat.reduceLeDiff, Int.reduceLT, Int.reduceLE, Int.reduceEq, Int.reduceSub, Int.reduceAdd, Int.reduceMul, Int.reduceNeg, Int.reduceToNat, h2_0, h2_27, h2_28, h2_7, h2_20, h2_21, h2_26, b2_26, h2_5, b2_5, ni2_26, pi2_26, qi2_26, ri2_26, ni2_5, pi2_5, qi2_5, ri2_5, di2_26i2_5, di2_5i2_26, b6, fc]) <;> (try with_reducible rfl))
          all_goals try (first | omega | (simp only [n_i64, n_u8]; omega) | (simp only [n_i64, n_u8, lnA]; omega))
          · focus
              refine q_lp_n ((fun (j : Nat) => (classL L k).length - j) (j+1)) ?_ ⟨j+1, ?_, ?_, ?_, ?_, ?_, ?_, ?_, ?_, ?_, ?_, ?_, rfl⟩
              all_goals (try simp only [go_sem, ↓reduceIte, reduceCtorEq, Nat.reduceEqDiff, Nat.reduceAdd, Nat.reduceMul, Nat.reduceSub, Nat.reduceLeDiff, Int.reduceLT, Int.reduceLE, Int.reduceEq, Int.reduceSub, Int.reduceAdd, Int.reduceMul, Int.reduceNeg, Int.reduceToNat, h2_0, h2_27, h2_28, h2_7, h2_20, h2_21, h2_26, b2_26, h2_5, b2_5, ni2_26, pi2_26, qi2_26, ri2_26, ni2_5, pi2_5, qi2_5, ri2_5, di2_26i2_5, di2_5i2_26])
              repeat' refine And.intro ?_ ?_
              all_goals try first | rfl | omega | (simp only [lnA] <;> omega) | ((first | refine stp ?_ | refine dkz_eq ?_ ?_) <;> first | rfl | omega | (simp only [lnA] <;> omega) | (simp only [lnA, List.append_assoc, List.cons_append, List.nil_append]; done) | skip)
            rw [b5, decide_eq_true (by omega)]; rfl
          · focus
              refine q_lp_n ((fun (j : Nat) => (classL L k).length - j) (j+1)) ?_ ⟨j+1, ?_, ?_, ?_, ?_, ?_, ?_, ?_, ?_, ?_, ?_, ?_, rfl⟩
              all_goals (try simp only [go_sem, ↓reduceIte, reduceCtorEq, Nat.reduceEqDiff, Nat.reduceAdd, Nat.reduceMul, Nat.reduceSub, Nat.reduceLeDiff, Int.reduceLT, Int.reduceLE, Int.reduceEq, Int.reduceSub, Int.reduceAdd, Int.reduceMul, Int.reduceNeg, Int.reduceToNat, h2_0, h2_27, h2_28, h2_7, h2_20, h2_21, h2_26, b2_26, h2_5, b2_5, ni2_26, pi2_26, qi2_26, ri2_26, ni2_5, pi2_5, qi2_5, ri2_5, di2_26i2_5, di2_5i2_26])
              repeat' refine And.intro ?_ ?_
              all_goals try first | rfl | omega | (simp only [lnA] <;> omega) | ((first | refine stp ?_ | refine dkz_eq ?_ ?_) <;> first | rfl | omega | (simp only [lnA] <;> omega) | (simp only [lnA, List.append_assoc, List.cons_append, List.nil_append]; done) | skip)
            rw [b5, decide_eq_false (by omega)]; simp [bitI]
        · have fc : True := trivial
          repeat' first
            | with_reducible first | refine stp ?_ | refine q_blk_o rfl ?_ | (refine hK _ ?_; clear hK) | (refine hA ?_; clear hA hB) | (refine hB ?_; clear hA hB) | exact v_end0 | exact v_end0' | refine v_gb1 ?_ ?_ | refine v_gb0 ?_ ?_ | refine And.intro ?_ ?_
            | (with_reducible refine p_ok ?_; decide)
            | ((first | with_reducible first | refine v_region rfl rfl (fun K hK => ?_) | refine v_draws rfl rfl (fun K hK => ?_) | refine v_if (fun A B hA hB => ?_) | refine v_end rfl ?_ | refine v_fin1 ?_ | refine v_finC1 ?_ | refine v_callE (impl_isSix_c _) ?_ | refine v_callE (impl_IsBasis_c _ ?_ ?_) ?_ | refine v_callE (impl_class_c _ _ ?_ ?_ ?_) ?_ | refine v_callE (impl_sumParts_c _ ?_ ?_) ?_ | refine v_finO1 rfl ?_ | refine v_finN1 rfl ?_ ?_ | refine v_apj ?_ (fun j' => ?_) | refine v_stz ?_ ?_ ?_ ?_ ?_ | refine v_stq ?_ | refine v_cv1 ?_ ?_ ?_ | (intro hc; replace fc := And.intro hc fc; try simp only [hcs] at hc)) <;> (try simp (config := { maxSteps := 1000000 }) only [go_sem, ↓reduceIte, reduceCtorEq, Nat.reduceEqDiff, Nat.reduceAdd, Nat.reduceMul, Nat.reduceSub, Nat.reduceLeDiff, Int.reduceLT, Int.reduceLE, Int.reduceEq, Int.reduceSub, Int.reduceAdd, Int.reduceMul, Int.reduceNeg, Int.reduceToNat, h2_0, h2_27, h2_28, h2_7, h2_20, h2_21, h2_26, b2_26, h2_5, b2_5, ni2_26, pi2_26, qi2_26, ri2_26, ni2_5, pi2_5, qi2_5, ri2_5, di2_26i2_5, di2_5i2_26, fc]) <;> (try with_reducible rfl))
          all_goals try (first | omega | (simp only [n_i64, n_u8]; omega) | (simp only [n_i64, n_u8, lnA]; omega))
          · focus
              refine q_lp_n ((fun (k : Nat) => n.toNat + 1 - k) (k+1)) ?_ ⟨k+1, ?_, ?_, ?_, ?_, ?_, rfl⟩
              all_goals (try simp only [go_sem, ↓reduceIte, reduceCtorEq, Nat.reduceEqDiff, Nat.reduceAdd, Nat.reduceMul, Nat.reduceSub, Nat.reduceLeDiff, Int.reduceLT, Int.reduceLE, Int.reduceEq, Int.reduceSub, Int.reduceAdd, Int.reduceMul, Int.reduceNeg, Int.reduceToNat, h2_0, h2_27, h2_28, h2_7, h2_20, h2_21, h2_26, b2_26, h2_5, b2_5, ni2_26, pi2_26, qi2_26, ri2_26, ni2_5, pi2_5, qi2_5, ri2_5, di2_26i2_5, di2_5i2_26])
              repeat' refine And.intro ?_ ?_
              all_goals try first | rfl | omega | (simp only [lnA] <;> omega) | ((first | refine stp ?_ | refine dkz_eq ?_ ?_) <;> first | rfl | omega | (simp only [lnA] <;> omega) | (simp only [lnA, List.append_assoc, List.cons_append, List.nil_append]; done) | skip)
            all_goals (obtain rfl : j = (classL L k).length := by omega)
            all_goals first | (rw [List.range_succ, List.map_append, List.take_length]; rfl) | (simp; done) | (simp; rfl)
    · skip
      have fc : True := trivial
      repeat' first
        | with_reducible first | refine stp ?_ | refine q_blk_o rfl ?_ | (refine hK _ ?_; clear hK) | (refine hA ?_; clear hA hB) | (refine hB ?_; clear hA hB) | exact v_end0 | exact v_end0' | refine v_gb1 ?_ ?_ | refine v_gb0 ?_ ?_ | refine And.intro ?_ ?_
        | (with_reducible refine p_ok ?_; decide)
        | ((first | with_reducible first | refine v_region rfl rfl (fun K hK => ?_) | refine v_draws rfl rfl (fun K hK => ?_) | refine v_if (fun A B hA hB => ?_) | refine v_end rfl ?_ | refine v_fin1 ?_ | refine v_finC1 ?_ | refine v_callE (impl_isSix_c _) ?_ | refine v_callE (impl_IsBasis_c _ ?_ ?_) ?_ | refine v_callE (impl_class_c _ _ ?_ ?_ ?_) ?_ | refine v_callE (impl_sumParts_c _ ?_ ?_) ?_ | refine v_finO1 rfl ?_ | refine v_finN1 rfl ?_ ?_ | refine v_apj ?_ (fun j' => ?_) | refine v_stz ?_ ?_ ?_ ?_ ?_ | refine v_stq ?_ | refine v_cv1 ?_ ?_ ?_ | (intro hc; replace fc := And.intro hc fc; try simp only [hcs] at hc)) <;> (try simp (config := { maxSteps := 1000000 }) only [go_sem, ↓reduceIte, reduceCtorEq, Nat.reduceEqDiff, Nat.reduceAdd, Nat.reduceMul, Nat.reduceSub, Nat.reduceLeDiff, Int.reduceLT, Int.reduceLE, Int.reduceEq, Int.reduceSub, Int.reduceAdd, Int.reduceMul, Int.reduceNeg, Int.reduceToNat, h1_0, h1_20, h1_21, h1_5, b1_5, ni1_5, pi1_5, qi1_5, ri1_5, fc]) <;> (try with_reducible rfl))
      all_goals try (first | omega | (simp only [n_i64, n_u8]; omega) | (simp only [n_i64, n_u8, lnA]; omega))
      obtain rfl : k = m := by omega
      rw [List.take_of_length_le (by simp)]
  · have e1 : wholesB L n = [] := if_neg hc0
    rw [e1]
    refine Fun.of (sg := sg0) (ts := [4]) mo Try.func48 rfl rfl rfl rfl (by kernel_rfl) (by simp only [go_sem]) rfl ?_
    have fc : True := trivial
    repeat' first
      | with_reducible first | refine stp ?_ | refine q_blk_o rfl ?_ | (refine hK _ ?_; clear hK) | (refine hA ?_; clear hA hB) | (refine hB ?_; clear hA hB) | exact v_end0 | exact v_end0' | refine v_gb1 ?_ ?_ | refine v_gb0 ?_ ?_ | refine And.intro ?_ ?_
      | (with_reducible refine p_ok ?_; decide)
      | ((first | with_reducible first | refine v_region rfl rfl (fun K hK => ?_) | refine v_draws rfl rfl (fun K hK => ?_) | refine v_if (fun A B hA hB => ?_) | refine v_end rfl ?_ | refine v_fin1 ?_ | refine v_finC1 ?_ | refine v_callE (impl_isSix_c _) ?_ | refine v_callE (impl_IsBasis_c _ ?_ ?_) ?_ | refine v_callE (impl_class_c _ _ ?_ ?_ ?_) ?_ | refine v_callE (impl_sumParts_c _ ?_ ?_) ?_ | refine v_finO1 rfl ?_ | refine v_finN1 rfl ?_ ?_ | refine v_apj ?_ (fun j' => ?_) | refine v_stz ?_ ?_ ?_ ?_ ?_ | refine v_stq ?_ | refine v_cv1 ?_ ?_ ?_ | (intro hc; replace fc := And.intro hc fc; try simp only [hcs] at hc)) <;> (try simp (config := { maxSteps := 1000000 }) only [go_sem, ↓reduceIte, reduceCtorEq, Nat.reduceEqDiff, Nat.reduceAdd, Nat.reduceMul, Nat.reduceSub, Nat.reduceLeDiff, Int.reduceLT, Int.reduceLE, Int.reduceEq, Int.reduceSub, Int.reduceAdd, Int.reduceMul, Int.reduceNeg, Int.reduceToNat, fc]) <;> (try with_reducible rfl))
    all_goals try (first | omega | (simp only [n_i64, n_u8]; omega) | (simp only [n_i64, n_u8, lnA]; omega))
    exact absurd ⟨by assumption, by assumption⟩ hc0
theorem spec_WholeCounts_c {e0 m0 : Bool} (L : List (List Int)) (n : Int) (hL : L.length ≤ 1048576) (hl : ∀ l ∈ L, l.length ≤ 1048576) : Fun Try.prog 47 [(.sl (.lent m0) (List.map (elI e0) (L))), (.int .i64 (n))] [(.sl .own (List.map (PV.int .i64) (wholesB L n)))] := by
  by_cases hc0 : basisB L = true ∧ 0 ≤ n ∧ n ≤ 6
  · have e1 : wholesB L n = (List.range (n.toNat + 1)).map (wholeN L) := if_pos hc0
    obtain ⟨m, hm⟩ : ∃ m : Nat, m = n.toNat + 1 := ⟨_, rfl⟩
    rw [← hm] at e1
    have hb := basis_row hc0.1
    have e3 := hc0.1
    rw [e1]
    refine Fun.of (sg := sg0) (ts := [4]) mo Try.func47 rfl rfl rfl rfl (by kernel_rfl) (by simp only [go_sem]) rfl ?_
    have fc : True := trivial
    repeat' first
      | with_reducible first | refine stp ?_ | refine q_blk_o rfl ?_ | (refine hK _ ?_; clear hK) | (refine hA ?_; clear hA hB) | (refine hB ?_; clear hA hB) | exact v_end0 | exact v_end0' | refine v_gb1 ?_ ?_ | refine v_gb0 ?_ ?_ | refine And.intro ?_ ?_
      | (with_reducible refine p_ok ?_; decide)
      | ((first | with_reducible first | refine v_region rfl rfl (fun K hK => ?_) | refine v_draws rfl rfl (fun K hK => ?_) | refine v_if (fun A B hA hB => ?_) | refine v_end rfl ?_ | refine v_fin1 ?_ | refine v_finC1 ?_ | refine v_callE (spec_l1In_c _ _ _) ?_ | refine v_callE (spec_l1Bit_c _) ?_ | refine v_callE (spec_IsBasis_c _ ?_ ?_) ?_ | refine v_callE (spec_ClassOf_c _ _ ?_ ?_) ?_ | refine v_callE (spec_SumParts_c _ ?_) ?_ | refine v_finO1 rfl ?_ | refine v_finN1 rfl ?_ ?_ | refine v_apj ?_ (fun j' => ?_) | refine v_stz ?_ ?_ ?_ ?_ ?_ | refine v_stq ?_ | refine v_cv1 ?_ ?_ ?_ | (intro hc; replace fc := And.intro hc fc; try simp only [hcs] at hc)) <;> (try simp (config := { maxSteps := 1000000 }) only [go_sem, ↓reduceIte, reduceCtorEq, Nat.reduceEqDiff, Nat.reduceAdd, Nat.reduceMul, Nat.reduceSub, Nat.reduceLeDiff, Int.reduceLT, Int.reduceLE, Int.reduceEq, Int.reduceSub, Int.reduceAdd, Int.reduceMul, Int.reduceNeg, Int.reduceToNat, e3, fc]) <;> (try with_reducible rfl))
    all_goals try (first | omega | (simp only [n_i64, n_u8]; omega) | (simp only [n_i64, n_u8, lnA]; omega))
    refine v_loop (fun ms1 S1 => ∃ (k : Nat), S1.e 0 = .p (.sl (.lent m0) (List.map (elI e0) (L))) ∧ S1.e 1 = .p (.int .i64 (n)) ∧ OwnL (S1.e 5) S1.h S1.n (PV.int .i64) (((List.range k).map (wholeN L)).length) ((List.range k).map (wholeN L)) ∧ S1.e 6 = .p (.int .i64 (k)) ∧ ((k : Int) ≤ n + 1) ∧ ms1 = n.toNat + 1 - k) ((fun (k : Nat) => n.toNat + 1 - k) (0)) ?init1_12 ?body1_12
    case' init1_12 =>
      refine ⟨0, ?_, ?_, ?_, ?_, ?_, rfl⟩
      all_goals (try simp only [go_sem, ↓reduceIte, reduceCtorEq, Nat.reduceEqDiff, Nat.reduceAdd, Nat.reduceMul, Nat.reduceSub, Nat.reduceLeDiff, Int.reduceLT, Int.reduceLE, Int.reduceEq, Int.reduceSub, Int.reduceAdd, Int.reduceMul, Int.reduceNeg, Int.reduceToNat])
      repeat' refine And.intro ?_ ?_
      all_goals try first | rfl | omega | (simp only [lnA] <;> omega) | ((first | refine stp ?_ | refine dkz_eq ?_ ?_) <;> first | rfl | omega | (simp only [lnA] <;> omega) | (simp only [lnA, List.append_assoc, List.cons_append, List.nil_append]; done) | skip)
    case' body1_12 =>
      rintro ms1 S1 ⟨k, h1_0, h1_1, o1_5, h1_6, c1_0, hm1⟩
      obtain ⟨i1_5, h1_5, b1_5, l1_5⟩ := o1_5.out
      have ni1_5 : ∀ c, (i1_5 = S1.n + c) = False := fun c => eq_false (by omega)
      have pi1_5 : ∀ c, (S1.n + c = i1_5) = False := fun c => eq_false (by omega)
      have qi1_5 : (i1_5 = S1.n) = False := eq_false (by omega)
      have ri1_5 : (S1.n = i1_5) = False := eq_false (by omega)
    by_cases hk : (k : Int) < n + 1
    · have b1 := class_len (L := L) (n := k) (by omega)
      have e2 : classB L k = classL L k := by rw [classB, if_pos ⟨e3, by omega, by omega⟩, Int.toNat_natCast]
      have fc : True := trivial
      repeat' first
        | with_reducible first | refine stp ?_ | refine q_blk_o rfl ?_ | (refine hK _ ?_; clear hK) | (refine hA ?_; clear hA hB) | (refine hB ?_; clear hA hB) | exact v_end0 | exact v_end0' | refine v_gb1 ?_ ?_ | refine v_gb0 ?_ ?_ | refine And.intro ?_ ?_
        | (with_reducible refine p_ok ?_; decide)
        | ((first | with_reducible first | refine v_region rfl rfl (fun K hK => ?_) | refine v_draws rfl rfl (fun K hK => ?_) | refine v_if (fun A B hA hB => ?_) | refine v_end rfl ?_ | refine v_fin1 ?_ | refine v_finC1 ?_ | refine v_callE (spec_l1In_c _ _ _) ?_ | refine v_callE (spec_l1Bit_c _) ?_ | refine v_callE (spec_IsBasis_c _ ?_ ?_) ?_ | refine v_callE (spec_ClassOf_c _ _ ?_ ?_) ?_ | refine v_callE (spec_SumParts_c _ ?_) ?_ | refine v_finO1 rfl ?_ | refine v_finN1 rfl ?_ ?_ | refine v_apj ?_ (fun j' => ?_) | refine v_stz ?_ ?_ ?_ ?_ ?_ | refine v_stq ?_ | refine v_cv1 ?_ ?_ ?_ | (intro hc; replace fc := And.intro hc fc; try simp only [hcs] at hc)) <;> (try simp (config := { maxSteps := 1000000 }) only [go_sem, ↓reduceIte, reduceCtorEq, Nat.reduceEqDiff, Nat.reduceAdd, Nat.reduceMul, Nat.reduceSub, Nat.reduceLeDiff, Int.reduceLT, Int.reduceLE, Int.reduceEq, Int.reduceSub, Int.reduceAdd, Int.reduceMul, Int.reduceNeg, Int.reduceToNat, h1_0, h1_1, h1_6, h1_5, b1_5, ni1_5, pi1_5, qi1_5, ri1_5, e2, fc]) <;> (try with_reducible rfl))
      all_goals try (first | omega | (simp only [n_i64, n_u8]; omega) | (simp only [n_i64, n_u8, lnA]; omega))
      · refine v_loop (fun ms2 S2 => ∃ (j : Nat), S2.e 0 = .p (.sl (.lent m0) (List.map (elI e0) (L))) ∧ S2.e 1 = .p (.int .i64 (n)) ∧ OwnL (S2.e 8) S2.h S2.n (elI false) ((classL L k).length) (classL L k) ∧ S2.e 9 = .p (.int .i64 (j)) ∧ OwnL (S2.e 5) S2.h S2.n (PV.int .i64) (((List.range k).map (wholeN L)).length) ((List.range k).map (wholeN L)) ∧ S2.e 7 = .p (.int .i64 ((((classL L k).take j).filter (fun p => decide (partN p = 1))).length)) ∧ S2.e 6 = .p (.int .i64 (k)) ∧ (j ≤ (classL L k).length) ∧ NId (S2.e 5) (S2.e 8) ∧ S1.n ≤ S2.n ∧ ms2 = (classL L k).length - j) ((fun (j : Nat) => (classL L k).length - j) (0)) ?init2_13 ?body2_13
        case' init2_13 =>
          refine ⟨0, ?_, ?_, ?_, ?_, ?_, ?_, ?_, ?_, ?_, ?_, rfl⟩
          all_goals (try simp only [go_sem, ↓reduceIte, reduceCtorEq, Nat.reduceEqDiff, Nat.reduceAdd, Nat.reduceMul, Nat.reduceSub, Nat.reduceLeDiff, Int.reduceLT, Int.reduceLE, Int.reduceEq, Int.reduceSub, Int.reduceAdd, Int.reduceMul, Int.reduceNeg, Int.reduceToNat, h1_0, h1_1, h1_6, h1_5, b1_5, ni1_5, pi1_5, qi1_5, ri1_5])
          repeat' refine And.intro ?_ ?_
          all_goals try first | rfl | omega | (simp only [lnA] <;> omega) | ((first | refine stp ?_ | refine dkz_eq ?_ ?_) <;> first | rfl | omega | (simp only [lnA] <;> omega) | (simp only [lnA, List.append_assoc, List.cons_append, List.nil_append]; done) | skip)
        case' body2_13 =>
          rintro ms2 S2 ⟨j, h2_0, h2_1, o2_8, h2_9, o2_5, h2_7, h2_6, c2_0, u2_0, u2_1, hm2⟩
          obtain ⟨i2_8, h2_8, b2_8, l2_8⟩ := o2_8.out
          obtain ⟨i2_5, h2_5, b2_5, l2_5⟩ := o2_5.out
          have k2_0 := (u2_0).out h2_5 h2_8
          have ni2_8 : ∀ c, (i2_8 = S2.n + c) = False := fun c => eq_false (by omega)
          have pi2_8 : ∀ c, (S2.n + c = i2_8) = False := fun c => eq_false (by omega)
          have qi2_8 : (i2_8 = S2.n) = False := eq_false (by omega)
          have ri2_8 : (S2.n = i2_8) = False := eq_false (by omega)
          have ni2_5 : ∀ c, (i2_5 = S2.n + c) = False := fun c => eq_false (by omega)
          have pi2_5 : ∀ c, (S2.n + c = i2_5) = False := fun c => eq_false (by omega)
          have qi2_5 : (i2_5 = S2.n) = False := eq_false (by omega)
          have ri2_5 : (S2.n = i2_5) = False := eq_false (by omega)
          have di2_8i2_5 : (i2_8 = i2_5) = False := eq_false (by omega)
          have di2_5i2_8 : (i2_5 = i2_8) = False := eq_false (by omega)
        have b2 := cnt_le (l := classL L k) (f := fun p => decide (partN p = 1)) (j := j)
        have b0 : (List.map (wholeN L) (List.range k)).length = k := by simp
        by_cases hj : j < (classL L k).length
        · have b3 := class_perm (by omega) (getD_mem (d := []) hj)
          have b4 := b3.1
          have b5 := cnt_succ (f := fun p => decide (partN p = 1)) (d := []) hj
          have b6 := partN_pt (p := (classL L k).getD j [])
          have b7 := bitI_r (decide (partN ((classL L k).getD j []) = 1))
          have b8 : decide ((partN ((classL L k).getD j []) : Int) = 1) = decide (partN ((classL L k).getD j []) = 1) := by congr 1; rw [eq_iff_iff]; omega
          have fc : True := trivial
          repeat' first
            | with_reducible first | refine stp ?_ | refine q_blk_o rfl ?_ | (refine hK _ ?_; clear hK) | (refine hA ?_; clear hA hB) | (refine hB ?_; clear hA hB) | exact v_end0 | exact v_end0' | refine v_gb1 ?_ ?_ | refine v_gb0 ?_ ?_ | refine And.intro ?_ ?_
            | (with_reducible refine p_ok ?_; decide)
            | ((first | with_reducible first | refine v_region rfl rfl (fun K hK => ?_) | refine v_draws rfl rfl (fun K hK => ?_) | refine v_if (fun A B hA hB => ?_) | refine v_end rfl ?_ | refine v_fin1 ?_ | refine v_finC1 ?_ | refine v_callE (spec_l1In_c _ _ _) ?_ | refine v_callE (spec_l1Bit_c _) ?_ | refine v_callE (spec_IsBasis_c _ ?_ ?_) ?_ | refine v_callE (spec_ClassOf_c _ _ ?_ ?_) ?_ | refine v_callE (spec_SumParts_c _ ?_) ?_ | refine v_finO1 rfl ?_ | refine v_finN1 rfl ?_ ?_ | refine v_apj ?_ (fun j' => ?_) | refine v_stz ?_ ?_ ?_ ?_ ?_ | refine v_stq ?_ | refine v_cv1 ?_ ?_ ?_ | (intro hc; replace fc := And.intro hc fc; try simp only [hcs] at hc)) <;> (try simp (config := { maxSteps := 1000000 }) only [go_sem, ↓reduceIte, reduceCtorEq, Nat.reduceEqDiff, Nat.reduceAdd, Nat.reduceMul, Nat.reduceSub, Nat.reduceLeDiff, Int.reduceLT, Int.reduceLE, Int.reduceEq, Int.reduceSub, Int.reduceAdd, Int.reduceMul, Int.reduceNeg, Int.reduceToNat, h2_0, h2_1, h2_9, h2_7, h2_6, h2_8, b2_8, h2_5, b2_5, ni2_8, pi2_8, qi2_8, ri2_8, ni2_5, pi2_5, qi2_5, ri2_5, di2_8i2_5, di2_5i2_8, b6, b8, fc]) <;> (try with_reducible rfl))
          all_goals try (first | omega | (simp only [n_i64, n_u8]; omega) | (simp only [n_i64, n_u8, lnA]; omega))
          · focus
              refine q_lp_n ((fun (j : Nat) => (classL L k).length - j) (j+1)) ?_ ⟨j+1, ?_, ?_, ?_, ?_, ?_, ?_, ?_, ?_, ?_, ?_, rfl⟩
              all_goals (try simp only [go_sem, ↓reduceIte, reduceCtorEq, Nat.reduceEqDiff, Nat.reduceAdd, Nat.reduceMul, Nat.reduceSub, Nat.reduceLeDiff, Int.reduceLT, Int.reduceLE, Int.reduceEq, Int.reduceSub, Int.reduceAdd, Int.reduceMul, Int.reduceNeg, Int.reduceToNat, h2_0, h2_1, h2_9, h2_7, h2_6, h2_8, b2_8, h2_5, b2_5, ni2_8, pi2_8, qi2_8, ri2_8, ni2_5, pi2_5, qi2_5, ri2_5, di2_8i2_5, di2_5i2_8])
              repeat' refine And.intro ?_ ?_
              all_goals try first | rfl | omega | (simp only [lnA] <;> omega) | ((first | refine stp ?_ | refine dkz_eq ?_ ?_) <;> first | rfl | omega | (simp only [lnA] <;> omega) | (simp only [lnA, List.append_assoc, List.cons_append, List.nil_append]; done) | skip)
        · have fc : True := trivial
          repeat' first
            | with_reducible first | refine stp ?_ | refine q_blk_o rfl ?_ | (refine hK _ ?_; clear hK) | (refine hA ?_; clear hA hB) | (refine hB ?_; clear hA hB) | exact v_end0 | exact v_end0' | refine v_gb1 ?_ ?_ | refine v_gb0 ?_ ?_ | refine And.intro ?_ ?_
            | (with_reducible refine p_ok ?_; decide)
            | ((first | with_reducible first | refine v_region rfl rfl (fun K hK => ?_) | refine v_draws rfl rfl (fun K hK => ?_) | refine v_if (fun A B hA hB => ?_) | refine v_end rfl ?_ | refine v_fin1 ?_ | refine v_finC1 ?_ | refine v_callE (spec_l1In_c _ _ _) ?_ | refine v_callE (spec_l1Bit_c _) ?_ | refine v_callE (spec_IsBasis_c _ ?_ ?_) ?_ | refine v_callE (spec_ClassOf_c _ _ ?_ ?_) ?_ | refine v_callE (spec_SumParts_c _ ?_) ?_ | refine v_finO1 rfl ?_ | refine v_finN1 rfl ?_ ?_ | refine v_apj ?_ (fun j' => ?_) | refine v_stz ?_ ?_ ?_ ?_ ?_ | refine v_stq ?_ | refine v_cv1 ?_ ?_ ?_ | (intro hc; replace fc := And.intro hc fc; try simp only [hcs] at hc)) <;> (try simp (config := { maxSteps := 1000000 }) only [go_sem, ↓reduceIte, reduceCtorEq, Nat.reduceEqDiff, Nat.reduceAdd, Nat.reduceMul, Nat.reduceSub, Nat.reduceLeDiff, Int.reduceLT, Int.reduceLE, Int.reduceEq, Int.reduceSub, Int.reduceAdd, Int.reduceMul, Int.reduceNeg, Int.reduceToNat, h2_0, h2_1, h2_9, h2_7, h2_6, h2_8, b2_8, h2_5, b2_5, ni2_8, pi2_8, qi2_8, ri2_8, ni2_5, pi2_5, qi2_5, ri2_5, di2_8i2_5, di2_5i2_8, fc]) <;> (try with_reducible rfl))
          all_goals try (first | omega | (simp only [n_i64, n_u8]; omega) | (simp only [n_i64, n_u8, lnA]; omega))
          · focus
              refine q_lp_n ((fun (k : Nat) => n.toNat + 1 - k) (k+1)) ?_ ⟨k+1, ?_, ?_, ?_, ?_, ?_, rfl⟩
              all_goals (try simp only [go_sem, ↓reduceIte, reduceCtorEq, Nat.reduceEqDiff, Nat.reduceAdd, Nat.reduceMul, Nat.reduceSub, Nat.reduceLeDiff, Int.reduceLT, Int.reduceLE, Int.reduceEq, Int.reduceSub, Int.reduceAdd, Int.reduceMul, Int.reduceNeg, Int.reduceToNat, h2_0, h2_1, h2_9, h2_7, h2_6, h2_8, b2_8, h2_5, b2_5, ni2_8, pi2_8, qi2_8, ri2_8, ni2_5, pi2_5, qi2_5, ri2_5, di2_8i2_5, di2_5i2_8])
              repeat' refine And.intro ?_ ?_
              all_goals try first | rfl | omega | (simp only [lnA] <;> omega) | ((first | refine stp ?_ | refine dkz_eq ?_ ?_) <;> first | rfl | omega | (simp only [lnA] <;> omega) | (simp only [lnA, List.append_assoc, List.cons_append, List.nil_append]; done) | skip)
            all_goals (obtain rfl : j = (classL L k).length := by omega)
            all_goals first | (rw [List.range_succ, List.map_append, List.take_length]; rfl) | (simp; done) | (simp; rfl)
    · skip
      have fc : True := trivial
      repeat' first
        | with_reducible first | refine stp ?_ | refine q_blk_o rfl ?_ | (refine hK _ ?_; clear hK) | (refine hA ?_; clear hA hB) | (refine hB ?_; clear hA hB) | exact v_end0 | exact v_end0' | refine v_gb1 ?_ ?_ | refine v_gb0 ?_ ?_ | refine And.intro ?_ ?_
        | (with_reducible refine p_ok ?_; decide)
        | ((first | with_reducible first | refine v_region rfl rfl (fun K hK => ?_) | refine v_draws rfl rfl (fun K hK => ?_) | refine v_if (fun A B hA hB => ?_) | refine v_end rfl ?_ | refine v_fin1 ?_ | refine v_finC1 ?_ | refine v_callE (spec_l1In_c _ _ _) ?_ | refine v_callE (spec_l1Bit_c _) ?_ | refine v_callE (spec_IsBasis_c _ ?_ ?_) ?_ | refine v_callE (spec_ClassOf_c _ _ ?_ ?_) ?_ | refine v_callE (spec_SumParts_c _ ?_) ?_ | refine v_finO1 rfl ?_ | refine v_finN1 rfl ?_ ?_ | refine v_apj ?_ (fun j' => ?_) | refine v_stz ?_ ?_ ?_ ?_ ?_ | refine v_stq ?_ | refine v_cv1 ?_ ?_ ?_ | (intro hc; replace fc := And.intro hc fc; try simp only [hcs] at hc)) <;> (try simp (config := { maxSteps := 1000000 }) only [go_sem, ↓reduceIte, reduceCtorEq, Nat.reduceEqDiff, Nat.reduceAdd, Nat.reduceMul, Nat.reduceSub, Nat.reduceLeDiff, Int.reduceLT, Int.reduceLE, Int.reduceEq, Int.reduceSub, Int.reduceAdd, Int.reduceMul, Int.reduceNeg, Int.reduceToNat, h1_0, h1_1, h1_6, h1_5, b1_5, ni1_5, pi1_5, qi1_5, ri1_5, fc]) <;> (try with_reducible rfl))
      all_goals try (first | omega | (simp only [n_i64, n_u8]; omega) | (simp only [n_i64, n_u8, lnA]; omega))
      obtain rfl : k = m := by omega
      rw [List.take_of_length_le (by simp)]
  · have e1 : wholesB L n = [] := if_neg hc0
    rw [e1]
    refine Fun.of (sg := sg0) (ts := [4]) mo Try.func47 rfl rfl rfl rfl (by kernel_rfl) (by simp only [go_sem]) rfl ?_
    have fc : True := trivial
    repeat' first
      | with_reducible first | refine stp ?_ | refine q_blk_o rfl ?_ | (refine hK _ ?_; clear hK) | (refine hA ?_; clear hA hB) | (refine hB ?_; clear hA hB) | exact v_end0 | exact v_end0' | refine v_gb1 ?_ ?_ | refine v_gb0 ?_ ?_ | refine And.intro ?_ ?_
      | (with_reducible refine p_ok ?_; decide)
      | ((first | with_reducible first | refine v_region rfl rfl (fun K hK => ?_) | refine v_draws rfl rfl (fun K hK => ?_) | refine v_if (fun A B hA hB => ?_) | refine v_end rfl ?_ | refine v_fin1 ?_ | refine v_finC1 ?_ | refine v_callE (spec_l1In_c _ _ _) ?_ | refine v_callE (spec_l1Bit_c _) ?_ | refine v_callE (spec_IsBasis_c _ ?_ ?_) ?_ | refine v_callE (spec_ClassOf_c _ _ ?_ ?_) ?_ | refine v_callE (spec_SumParts_c _ ?_) ?_ | refine v_finO1 rfl ?_ | refine v_finN1 rfl ?_ ?_ | refine v_apj ?_ (fun j' => ?_) | refine v_stz ?_ ?_ ?_ ?_ ?_ | refine v_stq ?_ | refine v_cv1 ?_ ?_ ?_ | (intro hc; replace fc := And.intro hc fc; try simp only [hcs] at hc)) <;> (try simp (config := { maxSteps := 1000000 }) only [go_sem, ↓reduceIte, reduceCtorEq, Nat.reduceEqDiff, Nat.reduceAdd, Nat.reduceMul, Nat.reduceSub, Nat.reduceLeDiff, Int.reduceLT, Int.reduceLE, Int.reduceEq, Int.reduceSub, Int.reduceAdd, Int.reduceMul, Int.reduceNeg, Int.reduceToNat, fc]) <;> (try with_reducible rfl))
    all_goals try (first | omega | (simp only [n_i64, n_u8]; omega) | (simp only [n_i64, n_u8, lnA]; omega))
    exact absurd ⟨by assumption, by assumption⟩ hc0
/-- The numbers of permutations by their parts: of a list. -/
def pcL (m : Nat) (cs : List (List Int)) : List Int := cs.foldl (fun a p => a.set (partN p) (a.getD (partN p) 0 + 1)) (List.replicate m 0)
def partsB (L : List (List Int)) (n : Int) : List Int := if basisB L = true ∧ 0 ≤ n ∧ n ≤ 6 then pcL (n.toNat + 1) (classL L n.toNat) else []
theorem pc_succ {m j : Nat} {cs : List (List Int)} (h : j < cs.length) : pcL m (cs.take (j + 1)) = (pcL m (cs.take j)).set (partN (cs.getD j [])) ((pcL m (cs.take j)).getD (partN (cs.getD j [])) 0 + 1) := by
  rw [pcL, take_getD (d := []) h, List.foldl_append]; rfl
theorem pc_len {m : Nat} {cs : List (List Int)} : ∀ {j : Nat}, j ≤ cs.length → (pcL m (cs.take j)).length = m
  | 0, _ => by simp [pcL]
  | j + 1, h => by rw [pc_succ (by omega), List.length_set, pc_len (by omega)]
theorem pc_b {m : Nat} {cs : List (List Int)} : ∀ {j : Nat}, j ≤ cs.length → ∀ i, 0 ≤ (pcL m (cs.take j)).getD i 0 ∧ (pcL m (cs.take j)).getD i 0 ≤ j
  | 0, _, i => by
    rw [List.take_zero, pcL, List.foldl_nil, List.getD_eq_getElem?_getD, List.getElem?_replicate]; split <;> simp
  | j + 1, h, i => by
    rw [pc_succ (by omega), List.getD_eq_getElem?_getD, List.getElem?_set]
    have h1 := pc_b (m := m) (cs := cs) (j := j) (by omega) i
    split
    · rename_i e
      split
      · have h2 := pc_b (m := m) (cs := cs) (j := j) (by omega) (partN (cs.getD j []))
        simp only [Option.getD_some]; omega
      · simp; omega
    · rw [← List.getD_eq_getElem?_getD]; omega
theorem impl_PartCounts_c {e0 m0 : Bool} (L : List (List Int)) (n : Int) (hL : L.length ≤ 1048576) (hl : ∀ l ∈ L, l.length ≤ 1048576) : Fun Try.prog 46 [(.sl (.lent m0) (List.map (elI e0) (L))), (.int .i64 (n))] [(.sl .own (List.map (PV.int .i64) (partsB L n)))] := by
  by_cases hc0 : basisB L = true ∧ 0 ≤ n ∧ n ≤ 6
  · obtain ⟨k, rfl⟩ : ∃ k : Nat, n = k := ⟨n.toNat, by omega⟩
    have e1 : partsB L k = pcL (k + 1) (classL L k) := by rw [partsB, if_pos hc0, Int.toNat_natCast]
    have hb := basis_row hc0.1
    have e3 := hc0.1
    have b1 := class_len (L := L) (n := k) (by omega)
    have b2 : ((k : Int) + 1).toNat = k + 1 := by omega
    rw [e1]
    refine Fun.of (sg := sg0) (ts := [4]) mo Try.func46 rfl rfl rfl rfl (by kernel_rfl) (by simp only [go_sem]) rfl ?_
    have fc : True := trivial
    repeat' first
      | with_reducible first | refine stp ?_ | refine q_blk_o rfl ?_ | (refine hK _ ?_; clear hK) | (refine hA ?_; clear hA hB) | (refine hB ?_; clear hA hB) | exact v_end0 | exact v_end0' | refine v_gb1 ?_ ?_ | refine v_gb0 ?_ ?_ | refine And.intro ?_ ?_
      | (with_reducible refine p_ok ?_; decide)
      | ((first | with_reducible first | refine v_region rfl rfl (fun K hK => ?_) | refine v_draws rfl rfl (fun K hK => ?_) | refine v_if (fun A B hA hB => ?_) | refine v_end rfl ?_ | refine v_fin1 ?_ | refine v_finC1 ?_ | refine v_callE (impl_isSix_c _) ?_ | refine v_callE (impl_IsBasis_c _ ?_ ?_) ?_ | refine v_callE (impl_class_c _ _ ?_ ?_ ?_) ?_ | refine v_callE (impl_sumParts_c _ ?_ ?_) ?_ | refine v_finO1 rfl ?_ | refine v_finN1 rfl ?_ ?_ | refine v_apj ?_ (fun j' => ?_) | refine v_stz ?_ ?_ ?_ ?_ ?_ | refine v_stq ?_ | refine v_cv1 ?_ ?_ ?_ | (intro hc; replace fc := And.intro hc fc; try simp only [hcs] at hc)) <;> (try simp (config := { maxSteps := 1000000 }) only [go_sem, ↓reduceIte, reduceCtorEq, Nat.reduceEqDiff, Nat.reduceAdd, Nat.reduceMul, Nat.reduceSub, Nat.reduceLeDiff, Int.reduceLT, Int.reduceLE, Int.reduceEq, Int.reduceSub, Int.reduceAdd, Int.reduceMul, Int.reduceNeg, Int.reduceToNat, e3, b2, fc]) <;> (try with_reducible rfl))
    all_goals try (first | omega | (simp only [n_i64, n_u8]; omega) | (simp only [n_i64, n_u8, lnA]; omega))
    refine v_loop (fun ms1 S1 => ∃ (j : Nat), OwnL (S1.e 21) S1.h S1.n (elI false) ((classL L k).length) (classL L k) ∧ S1.e 22 = .p (.int .i64 ((classL L k).length)) ∧ S1.e 23 = .p (.int .i64 (j)) ∧ OwnL (S1.e 5) S1.h S1.n (PV.int .i64) ((k+1)) (pcL (k + 1) ((classL L k).take j)) ∧ (j ≤ (classL L k).length) ∧ NId (S1.e 5) (S1.e 21) ∧ ms1 = (classL L k).length - j) ((fun (j : Nat) => (classL L k).length - j) (0)) ?init1_14 ?body1_14
    case' init1_14 =>
      refine ⟨0, ?_, ?_, ?_, ?_, ?_, ?_, rfl⟩
      all_goals (try simp only [go_sem, ↓reduceIte, reduceCtorEq, Nat.reduceEqDiff, Nat.reduceAdd, Nat.reduceMul, Nat.reduceSub, Nat.reduceLeDiff, Int.reduceLT, Int.reduceLE, Int.reduceEq, Int.reduceSub, Int.reduceAdd, Int.reduceMul, Int.reduceNeg, Int.reduceToNat])
      repeat' refine And.intro ?_ ?_
      all_goals try first | rfl | omega | (simp only [lnA] <;> omega) | ((first | refine stp ?_ | refine dkz_eq ?_ ?_) <;> first | rfl | omega | (simp only [lnA] <;> omega) | (simp only [lnA, List.append_assoc, List.cons_append, List.nil_append]; done) | skip)
    case' body1_14 =>
      rintro ms1 S1 ⟨j, o1_21, h1_22, h1_23, o1_5, c1_0, u1_0, hm1⟩
      obtain ⟨i1_21, h1_21, b1_21, l1_21⟩ := o1_21.out
      obtain ⟨i1_5, h1_5, b1_5, l1_5⟩ := o1_5.out
      have k1_0 := (u1_0).out h1_5 h1_21
      have ni1_21 : ∀ c, (i1_21 = S1.n + c) = False := fun c => eq_false (by omega)
      have pi1_21 : ∀ c, (S1.n + c = i1_21) = False := fun c => eq_false (by omega)
      have qi1_21 : (i1_21 = S1.n) = False := eq_false (by omega)
      have ri1_21 : (S1.n = i1_21) = False := eq_false (by omega)
      have ni1_5 : ∀ c, (i1_5 = S1.n + c) = False := fun c => eq_false (by omega)
      have pi1_5 : ∀ c, (S1.n + c = i1_5) = False := fun c => eq_false (by omega)
      have qi1_5 : (i1_5 = S1.n) = False := eq_false (by omega)
      have ri1_5 : (S1.n = i1_5) = False := eq_false (by omega)
      have di1_21i1_5 : (i1_21 = i1_5) = False := eq_false (by omega)
      have di1_5i1_21 : (i1_5 = i1_21) = False := eq_false (by omega)
    have b7 := pc_len (m := k + 1) c1_0
    by_cases hj : j < (classL L k).length
    · have b3 := class_perm (by omega) (getD_mem (d := []) hj)
      have b4 := perm_b8 b3.1
      have b6 : (spG shI ((classL L k).getD j []) ((classL L k).getD j []).length).1.length = partN ((classL L k).getD j []) := rfl
      have b5 := partN_le (p := (classL L k).getD j [])
      have b8 := pc_b (m := k + 1) c1_0 (partN ((classL L k).getD j []))
      have fc : True := trivial
      repeat' first
        | with_reducible first | refine stp ?_ | refine q_blk_o rfl ?_ | (refine hK _ ?_; clear hK) | (refine hA ?_; clear hA hB) | (refine hB ?_; clear hA hB) | exact v_end0 | exact v_end0' | refine v_gb1 ?_ ?_ | refine v_gb0 ?_ ?_ | refine And.intro ?_ ?_
        | (with_reducible refine p_ok ?_; decide)
        | ((first | with_reducible first | refine v_region rfl rfl (fun K hK => ?_) | refine v_draws rfl rfl (fun K hK => ?_) | refine v_if (fun A B hA hB => ?_) | refine v_end rfl ?_ | refine v_fin1 ?_ | refine v_finC1 ?_ | refine v_callE (impl_isSix_c _) ?_ | refine v_callE (impl_IsBasis_c _ ?_ ?_) ?_ | refine v_callE (impl_class_c _ _ ?_ ?_ ?_) ?_ | refine v_callE (impl_sumParts_c _ ?_ ?_) ?_ | refine v_finO1 rfl ?_ | refine v_finN1 rfl ?_ ?_ | refine v_apj ?_ (fun j' => ?_) | refine v_stz ?_ ?_ ?_ ?_ ?_ | refine v_stq ?_ | refine v_cv1 ?_ ?_ ?_ | (intro hc; replace fc := And.intro hc fc; try simp only [hcs] at hc)) <;> (try simp (config := { maxSteps := 1000000 }) only [go_sem, ↓reduceIte, reduceCtorEq, Nat.reduceEqDiff, Nat.reduceAdd, Nat.reduceMul, Nat.reduceSub, Nat.reduceLeDiff, Int.reduceLT, Int.reduceLE, Int.reduceEq, Int.reduceSub, Int.reduceAdd, Int.reduceMul, Int.reduceNeg, Int.reduceToNat, h1_22, h1_23, h1_21, b1_21, h1_5, b1_5, ni1_21, pi1_21, qi1_21, ri1_21, ni1_5, pi1_5, qi1_5, ri1_5, di1_21i1_5, di1_5i1_21, b6, fc]) <;> (try with_reducible rfl))
      all_goals try (first | omega | (simp only [n_i64, n_u8]; omega) | (simp only [n_i64, n_u8, lnA]; omega))
      · focus
          refine q_lp_n ((fun (j : Nat) => (classL L k).length - j) (j+1)) ?_ ⟨j+1, ?_, ?_, ?_, ?_, ?_, ?_, rfl⟩
          all_goals (try simp only [go_sem, ↓reduceIte, reduceCtorEq, Nat.reduceEqDiff, Nat.reduceAdd, Nat.reduceMul, Nat.reduceSub, Nat.reduceLeDiff, Int.reduceLT, Int.reduceLE, Int.reduceEq, Int.reduceSub, Int.reduceAdd, Int.reduceMul, Int.reduceNeg, Int.reduceToNat, h1_22, h1_23, h1_21, b1_21, h1_5, b1_5, ni1_21, pi1_21, qi1_21, ri1_21, ni1_5, pi1_5, qi1_5, ri1_5, di1_21i1_5, di1_5i1_21])
          repeat' refine And.intro ?_ ?_
          all_goals try first | rfl | omega | (simp only [lnA] <;> omega) | ((first | refine stp ?_ | refine dkz_eq ?_ ?_) <;> first | rfl | omega | (simp only [lnA] <;> omega) | (simp only [lnA, List.append_assoc, List.cons_append, List.nil_append]; done) | skip)
        all_goals first | (rw [pc_succ hj]; done) | (rw [pc_succ hj, List.length_set]; omega)
    · have fc : True := trivial
      repeat' first
        | with_reducible first | refine stp ?_ | refine q_blk_o rfl ?_ | (refine hK _ ?_; clear hK) | (refine hA ?_; clear hA hB) | (refine hB ?_; clear hA hB) | exact v_end0 | exact v_end0' | refine v_gb1 ?_ ?_ | refine v_gb0 ?_ ?_ | refine And.intro ?_ ?_
        | (with_reducible refine p_ok ?_; decide)
        | ((first | with_reducible first | refine v_region rfl rfl (fun K hK => ?_) | refine v_draws rfl rfl (fun K hK => ?_) | refine v_if (fun A B hA hB => ?_) | refine v_end rfl ?_ | refine v_fin1 ?_ | refine v_finC1 ?_ | refine v_callE (impl_isSix_c _) ?_ | refine v_callE (impl_IsBasis_c _ ?_ ?_) ?_ | refine v_callE (impl_class_c _ _ ?_ ?_ ?_) ?_ | refine v_callE (impl_sumParts_c _ ?_ ?_) ?_ | refine v_finO1 rfl ?_ | refine v_finN1 rfl ?_ ?_ | refine v_apj ?_ (fun j' => ?_) | refine v_stz ?_ ?_ ?_ ?_ ?_ | refine v_stq ?_ | refine v_cv1 ?_ ?_ ?_ | (intro hc; replace fc := And.intro hc fc; try simp only [hcs] at hc)) <;> (try simp (config := { maxSteps := 1000000 }) only [go_sem, ↓reduceIte, reduceCtorEq, Nat.reduceEqDiff, Nat.reduceAdd, Nat.reduceMul, Nat.reduceSub, Nat.reduceLeDiff, Int.reduceLT, Int.reduceLE, Int.reduceEq, Int.reduceSub, Int.reduceAdd, Int.reduceMul, Int.reduceNeg, Int.reduceToNat, h1_22, h1_23, h1_21, b1_21, h1_5, b1_5, ni1_21, pi1_21, qi1_21, ri1_21, ni1_5, pi1_5, qi1_5, ri1_5, di1_21i1_5, di1_5i1_21, fc]) <;> (try with_reducible rfl))
      all_goals try (first | omega | (simp only [n_i64, n_u8]; omega) | (simp only [n_i64, n_u8, lnA]; omega))
      rw [List.take_of_length_le (by omega), List.take_of_length_le (by omega)]
  · have e1 : partsB L n = [] := if_neg hc0
    rw [e1]
    refine Fun.of (sg := sg0) (ts := [4]) mo Try.func46 rfl rfl rfl rfl (by kernel_rfl) (by simp only [go_sem]) rfl ?_
    have fc : True := trivial
    repeat' first
      | with_reducible first | refine stp ?_ | refine q_blk_o rfl ?_ | (refine hK _ ?_; clear hK) | (refine hA ?_; clear hA hB) | (refine hB ?_; clear hA hB) | exact v_end0 | exact v_end0' | refine v_gb1 ?_ ?_ | refine v_gb0 ?_ ?_ | refine And.intro ?_ ?_
      | (with_reducible refine p_ok ?_; decide)
      | ((first | with_reducible first | refine v_region rfl rfl (fun K hK => ?_) | refine v_draws rfl rfl (fun K hK => ?_) | refine v_if (fun A B hA hB => ?_) | refine v_end rfl ?_ | refine v_fin1 ?_ | refine v_finC1 ?_ | refine v_callE (impl_isSix_c _) ?_ | refine v_callE (impl_IsBasis_c _ ?_ ?_) ?_ | refine v_callE (impl_class_c _ _ ?_ ?_ ?_) ?_ | refine v_callE (impl_sumParts_c _ ?_ ?_) ?_ | refine v_finO1 rfl ?_ | refine v_finN1 rfl ?_ ?_ | refine v_apj ?_ (fun j' => ?_) | refine v_stz ?_ ?_ ?_ ?_ ?_ | refine v_stq ?_ | refine v_cv1 ?_ ?_ ?_ | (intro hc; replace fc := And.intro hc fc; try simp only [hcs] at hc)) <;> (try simp (config := { maxSteps := 1000000 }) only [go_sem, ↓reduceIte, reduceCtorEq, Nat.reduceEqDiff, Nat.reduceAdd, Nat.reduceMul, Nat.reduceSub, Nat.reduceLeDiff, Int.reduceLT, Int.reduceLE, Int.reduceEq, Int.reduceSub, Int.reduceAdd, Int.reduceMul, Int.reduceNeg, Int.reduceToNat, fc]) <;> (try with_reducible rfl))
    all_goals try (first | omega | (simp only [n_i64, n_u8]; omega) | (simp only [n_i64, n_u8, lnA]; omega))
    exact absurd ⟨by assumption, by assumption⟩ hc0
theorem spec_PartCounts_c {e0 m0 : Bool} (L : List (List Int)) (n : Int) (hL : L.length ≤ 1048576) (hl : ∀ l ∈ L, l.length ≤ 1048576) : Fun Try.prog 45 [(.sl (.lent m0) (List.map (elI e0) (L))), (.int .i64 (n))] [(.sl .own (List.map (PV.int .i64) (partsB L n)))] := by
  by_cases hc0 : basisB L = true ∧ 0 ≤ n ∧ n ≤ 6
  · obtain ⟨k, rfl⟩ : ∃ k : Nat, n = k := ⟨n.toNat, by omega⟩
    have e1 : partsB L k = pcL (k + 1) (classL L k) := by rw [partsB, if_pos hc0, Int.toNat_natCast]
    have e2 : classB L k = classL L k := by rw [classB, if_pos hc0, Int.toNat_natCast]
    have hb := basis_row hc0.1
    have e3 := hc0.1
    have b1 := class_len (L := L) (n := k) (by omega)
    have b2 : ((k : Int) + 1).toNat = k + 1 := by omega
    rw [e1]
    refine Fun.of (sg := sg0) (ts := [4]) mo Try.func45 rfl rfl rfl rfl (by kernel_rfl) (by simp only [go_sem]) rfl ?_
    have fc : True := trivial
    repeat' first
      | with_reducible first | refine stp ?_ | refine q_blk_o rfl ?_ | (refine hK _ ?_; clear hK) | (refine hA ?_; clear hA hB) | (refine hB ?_; clear hA hB) | exact v_end0 | exact v_end0' | refine v_gb1 ?_ ?_ | refine v_gb0 ?_ ?_ | refine And.intro ?_ ?_
      | (with_reducible refine p_ok ?_; decide)
      | ((first | with_reducible first | refine v_region rfl rfl (fun K hK => ?_) | refine v_draws rfl rfl (fun K hK => ?_) | refine v_if (fun A B hA hB => ?_) | refine v_end rfl ?_ | refine v_fin1 ?_ | refine v_finC1 ?_ | refine v_callE (spec_l1In_c _ _ _) ?_ | refine v_callE (spec_IsBasis_c _ ?_ ?_) ?_ | refine v_callE (spec_ClassOf_c _ _ ?_ ?_) ?_ | refine v_callE (spec_SumParts_c _ ?_) ?_ | refine v_finO1 rfl ?_ | refine v_finN1 rfl ?_ ?_ | refine v_apj ?_ (fun j' => ?_) | refine v_stz ?_ ?_ ?_ ?_ ?_ | refine v_stq ?_ | refine v_cv1 ?_ ?_ ?_ | (intro hc; replace fc := And.intro hc fc; try simp only [hcs] at hc)) <;> (try simp (config := { maxSteps := 1000000 }) only [go_sem, ↓reduceIte, reduceCtorEq, Nat.reduceEqDiff, Nat.reduceAdd, Nat.reduceMul, Nat.reduceSub, Nat.reduceLeDiff, Int.reduceLT, Int.reduceLE, Int.reduceEq, Int.reduceSub, Int.reduceAdd, Int.reduceMul, Int.reduceNeg, Int.reduceToNat, e3, b2, e2, fc]) <;> (try with_reducible rfl))
    all_goals try (first | omega | (simp only [n_i64, n_u8]; omega) | (simp only [n_i64, n_u8, lnA]; omega))
    refine v_loop (fun ms1 S1 => ∃ (j : Nat), OwnL (S1.e 6) S1.h S1.n (elI false) ((classL L k).length) (classL L k) ∧ S1.e 7 = .p (.int .i64 (j)) ∧ OwnL (S1.e 5) S1.h S1.n (PV.int .i64) ((k+1)) (pcL (k + 1) ((classL L k).take j)) ∧ (j ≤ (classL L k).length) ∧ NId (S1.e 5) (S1.e 6) ∧ ms1 = (classL L k).length - j) ((fun (j : Nat) => (classL L k).length - j) (0)) ?init1_15 ?body1_15
    case' init1_15 =>
      refine ⟨0, ?_, ?_, ?_, ?_, ?_, rfl⟩
      all_goals (try simp only [go_sem, ↓reduceIte, reduceCtorEq, Nat.reduceEqDiff, Nat.reduceAdd, Nat.reduceMul, Nat.reduceSub, Nat.reduceLeDiff, Int.reduceLT, Int.reduceLE, Int.reduceEq, Int.reduceSub, Int.reduceAdd, Int.reduceMul, Int.reduceNeg, Int.reduceToNat])
      repeat' refine And.intro ?_ ?_
      all_goals try first | rfl | omega | (simp only [lnA] <;> omega) | ((first | refine stp ?_ | refine dkz_eq ?_ ?_) <;> first | rfl | omega | (simp only [lnA] <;> omega) | (simp only [lnA, List.append_assoc, List.cons_append, List.nil_append]; done) | skip)
    case' body1_15 =>
      rintro ms1 S1 ⟨j, o1_6, h1_7, o1_5, c1_0, u1_0, hm1⟩
      obtain ⟨i1_6, h1_6, b1_6, l1_6⟩ := o1_6.out
      obtain ⟨i1_5, h1_5, b1_5, l1_5⟩ := o1_5.out
      have k1_0 := (u1_0).out h1_5 h1_6
      have ni1_6 : ∀ c, (i1_6 = S1.n + c) = False := fun c => eq_false (by omega)
      have pi1_6 : ∀ c, (S1.n + c = i1_6) = False := fun c => eq_false (by omega)
      have qi1_6 : (i1_6 = S1.n) = False := eq_false (by omega)
      have ri1_6 : (S1.n = i1_6) = False := eq_false (by omega)
      have ni1_5 : ∀ c, (i1_5 = S1.n + c) = False := fun c => eq_false (by omega)
      have pi1_5 : ∀ c, (S1.n + c = i1_5) = False := fun c => eq_false (by omega)
      have qi1_5 : (i1_5 = S1.n) = False := eq_false (by omega)
      have ri1_5 : (S1.n = i1_5) = False := eq_false (by omega)
      have di1_6i1_5 : (i1_6 = i1_5) = False := eq_false (by omega)
      have di1_5i1_6 : (i1_5 = i1_6) = False := eq_false (by omega)
    have b7 := pc_len (m := k + 1) c1_0
    by_cases hj : j < (classL L k).length
    · have b3 := class_perm (by omega) (getD_mem (d := []) hj)
      have b4 := b3.1
      have b6 := partN_pt (p := (classL L k).getD j [])
      have b5 := partN_le (p := (classL L k).getD j [])
      have b8 := pc_b (m := k + 1) c1_0 (partN ((classL L k).getD j []))
      have fc : True := trivial
      repeat' first
        | with_reducible first | refine stp ?_ | refine q_blk_o rfl ?_ | (refine hK _ ?_; clear hK) | (refine hA ?_; clear hA hB) | (refine hB ?_; clear hA hB) | exact v_end0 | exact v_end0' | refine v_gb1 ?_ ?_ | refine v_gb0 ?_ ?_ | refine And.intro ?_ ?_
        | (with_reducible refine p_ok ?_; decide)
        | ((first | with_reducible first | refine v_region rfl rfl (fun K hK => ?_) | refine v_draws rfl rfl (fun K hK => ?_) | refine v_if (fun A B hA hB => ?_) | refine v_end rfl ?_ | refine v_fin1 ?_ | refine v_finC1 ?_ | refine v_callE (spec_l1In_c _ _ _) ?_ | refine v_callE (spec_IsBasis_c _ ?_ ?_) ?_ | refine v_callE (spec_ClassOf_c _ _ ?_ ?_) ?_ | refine v_callE (spec_SumParts_c _ ?_) ?_ | refine v_finO1 rfl ?_ | refine v_finN1 rfl ?_ ?_ | refine v_apj ?_ (fun j' => ?_) | refine v_stz ?_ ?_ ?_ ?_ ?_ | refine v_stq ?_ | refine v_cv1 ?_ ?_ ?_ | (intro hc; replace fc := And.intro hc fc; try simp only [hcs] at hc)) <;> (try simp (config := { maxSteps := 1000000 }) only [go_sem, ↓reduceIte, reduceCtorEq, Nat.reduceEqDiff, Nat.reduceAdd, Nat.reduceMul, Nat.reduceSub, Nat.reduceLeDiff, Int.reduceLT, Int.reduceLE, Int.reduceEq, Int.reduceSub, Int.reduceAdd, Int.reduceMul, Int.reduceNeg, Int.reduceToNat, h1_7, h1_6, b1_6, h1_5, b1_5, ni1_6, pi1_6, qi1_6, ri1_6, ni1_5, pi1_5, qi1_5, ri1_5, di1_6i1_5, di1_5i1_6, b6, fc]) <;> (try with_reducible rfl))
      all_goals try (first | omega | (simp only [n_i64, n_u8]; omega) | (simp only [n_i64, n_u8, lnA]; omega))
      · focus
          refine q_lp_n ((fun (j : Nat) => (classL L k).length - j) (j+1)) ?_ ⟨j+1, ?_, ?_, ?_, ?_, ?_, rfl⟩
          all_goals (try simp only [go_sem, ↓reduceIte, reduceCtorEq, Nat.reduceEqDiff, Nat.reduceAdd, Nat.reduceMul, Nat.reduceSub, Nat.reduceLeDiff, Int.reduceLT, Int.reduceLE, Int.reduceEq, Int.reduceSub, Int.reduceAdd, Int.reduceMul, Int.reduceNeg, Int.reduceToNat, h1_7, h1_6, b1_6, h1_5, b1_5, ni1_6, pi1_6, qi1_6, ri1_6, ni1_5, pi1_5, qi1_5, ri1_5, di1_6i1_5, di1_5i1_6])
          repeat' refine And.intro ?_ ?_
          all_goals try first | rfl | omega | (simp only [lnA] <;> omega) | ((first | refine stp ?_ | refine dkz_eq ?_ ?_) <;> first | rfl | omega | (simp only [lnA] <;> omega) | (simp only [lnA, List.append_assoc, List.cons_append, List.nil_append]; done) | skip)
        all_goals first | (rw [pc_succ hj]; done) | (rw [pc_succ hj, List.length_set]; omega)
    · have fc : True := trivial
      repeat' first
        | with_reducible first | refine stp ?_ | refine q_blk_o rfl ?_ | (refine hK _ ?_; clear hK) | (refine hA ?_; clear hA hB) | (refine hB ?_; clear hA hB) | exact v_end0 | exact v_end0' | refine v_gb1 ?_ ?_ | refine v_gb0 ?_ ?_ | refine And.intro ?_ ?_
        | (with_reducible refine p_ok ?_; decide)
        | ((first | with_reducible first | refine v_region rfl rfl (fun K hK => ?_) | refine v_draws rfl rfl (fun K hK => ?_) | refine v_if (fun A B hA hB => ?_) | refine v_end rfl ?_ | refine v_fin1 ?_ | refine v_finC1 ?_ | refine v_callE (spec_l1In_c _ _ _) ?_ | refine v_callE (spec_IsBasis_c _ ?_ ?_) ?_ | refine v_callE (spec_ClassOf_c _ _ ?_ ?_) ?_ | refine v_callE (spec_SumParts_c _ ?_) ?_ | refine v_finO1 rfl ?_ | refine v_finN1 rfl ?_ ?_ | refine v_apj ?_ (fun j' => ?_) | refine v_stz ?_ ?_ ?_ ?_ ?_ | refine v_stq ?_ | refine v_cv1 ?_ ?_ ?_ | (intro hc; replace fc := And.intro hc fc; try simp only [hcs] at hc)) <;> (try simp (config := { maxSteps := 1000000 }) only [go_sem, ↓reduceIte, reduceCtorEq, Nat.reduceEqDiff, Nat.reduceAdd, Nat.reduceMul, Nat.reduceSub, Nat.reduceLeDiff, Int.reduceLT, Int.reduceLE, Int.reduceEq, Int.reduceSub, Int.reduceAdd, Int.reduceMul, Int.reduceNeg, Int.reduceToNat, h1_7, h1_6, b1_6, h1_5, b1_5, ni1_6, pi1_6, qi1_6, ri1_6, ni1_5, pi1_5, qi1_5, ri1_5, di1_6i1_5, di1_5i1_6, fc]) <;> (try with_reducible rfl))
      all_goals try (first | omega | (simp only [n_i64, n_u8]; omega) | (simp only [n_i64, n_u8, lnA]; omega))
      rw [List.take_of_length_le (by omega), List.take_of_length_le (by omega)]
  · have e1 : partsB L n = [] := if_neg hc0
    rw [e1]
    refine Fun.of (sg := sg0) (ts := [4]) mo Try.func45 rfl rfl rfl rfl (by kernel_rfl) (by simp only [go_sem]) rfl ?_
    have fc : True := trivial
    repeat' first
      | with_reducible first | refine stp ?_ | refine q_blk_o rfl ?_ | (refine hK _ ?_; clear hK) | (refine hA ?_; clear hA hB) | (refine hB ?_; clear hA hB) | exact v_end0 | exact v_end0' | refine v_gb1 ?_ ?_ | refine v_gb0 ?_ ?_ | refine And.intro ?_ ?_
      | (with_reducible refine p_ok ?_; decide)
      | ((first | with_reducible first | refine v_region rfl rfl (fun K hK => ?_) | refine v_draws rfl rfl (fun K hK => ?_) | refine v_if (fun A B hA hB => ?_) | refine v_end rfl ?_ | refine v_fin1 ?_ | refine v_finC1 ?_ | refine v_callE (spec_l1In_c _ _ _) ?_ | refine v_callE (spec_IsBasis_c _ ?_ ?_) ?_ | refine v_callE (spec_ClassOf_c _ _ ?_ ?_) ?_ | refine v_callE (spec_SumParts_c _ ?_) ?_ | refine v_finO1 rfl ?_ | refine v_finN1 rfl ?_ ?_ | refine v_apj ?_ (fun j' => ?_) | refine v_stz ?_ ?_ ?_ ?_ ?_ | refine v_stq ?_ | refine v_cv1 ?_ ?_ ?_ | (intro hc; replace fc := And.intro hc fc; try simp only [hcs] at hc)) <;> (try simp (config := { maxSteps := 1000000 }) only [go_sem, ↓reduceIte, reduceCtorEq, Nat.reduceEqDiff, Nat.reduceAdd, Nat.reduceMul, Nat.reduceSub, Nat.reduceLeDiff, Int.reduceLT, Int.reduceLE, Int.reduceEq, Int.reduceSub, Int.reduceAdd, Int.reduceMul, Int.reduceNeg, Int.reduceToNat, fc]) <;> (try with_reducible rfl))
    all_goals try (first | omega | (simp only [n_i64, n_u8]; omega) | (simp only [n_i64, n_u8, lnA]; omega))
    exact absurd ⟨by assumption, by assumption⟩ hc0
end Go.Gl
