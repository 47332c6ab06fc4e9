/-
  Intervals of permutations: what their functions compute. Conditions: none.
-/
import Derived.Test.YtcnejdfpdgiffaaPText
import Derived.Test.YtcnejdfpdgiffaaLaw1
set_option linter.unusedSimpArgs false
set_option linter.unusedVariables false
set_option maxRecDepth 20000
set_option linter.unusedSectionVars false
namespace Go.Gl
open Go Go.Proofs
variable [Amb]
def minT (l : List Int) (k : Nat) : Int := (l.take k).foldl min (l.getD 0 0)
def maxT (l : List Int) (k : Nat) : Int := (l.take k).foldl max (l.getD 0 0)
def minL (l : List Int) : Int := minT l l.length
def maxL (l : List Int) : Int := maxT l l.length
theorem minT_succ {l : List Int} {k : Nat} (h : k < l.length) : minT l (k + 1) = min (minT l k) (l.getD k 0) := by
  rw [minT, take_getD (d := 0) h, List.foldl_append]; rfl
theorem maxT_succ {l : List Int} {k : Nat} (h : k < l.length) : maxT l (k + 1) = max (maxT l k) (l.getD k 0) := by
  rw [maxT, take_getD (d := 0) h, List.foldl_append]; rfl
theorem minT_1 {l : List Int} (h : 0 < l.length) : minT l 1 = l.getD 0 0 := by
  rw [minT_succ h, minT, List.take_zero]; simp
theorem maxT_1 {l : List Int} (h : 0 < l.length) : maxT l 1 = l.getD 0 0 := by
  rw [maxT_succ h, maxT, List.take_zero]; simp
theorem minT_b {l : List Int} {a b : Int} (hb : ∀ x ∈ l, a ≤ x ∧ x ≤ b) (h0 : 0 < l.length) : ∀ {k : Nat}, k ≤ l.length → a ≤ minT l k ∧ minT l k ≤ b
  | 0, _ => by rw [minT, List.take_zero]; exact hb _ (getD_mem h0)
  | k + 1, h => by
    have h1 := minT_b hb h0 (k := k) (by omega)
    have h2 := hb _ (getD_mem (d := 0) (show k < l.length by omega))
    rw [minT_succ (by omega)]; omega
theorem maxT_b {l : List Int} {a b : Int} (hb : ∀ x ∈ l, a ≤ x ∧ x ≤ b) (h0 : 0 < l.length) : ∀ {k : Nat}, k ≤ l.length → a ≤ maxT l k ∧ maxT l k ≤ b
  | 0, _ => by rw [maxT, List.take_zero]; exact hb _ (getD_mem h0)
  | k + 1, h => by
    have h1 := maxT_b hb h0 (k := k) (by omega)
    have h2 := hb _ (getD_mem (d := 0) (show k < l.length by omega))
    rw [maxT_succ (by omega)]; omega
def segL (p : List Int) (a b : Nat) : List Int := (p.take b).drop a
theorem segL_len {p : List Int} {a b : Nat} (h : b ≤ p.length) : (segL p a b).length = b - a := by simp [segL]; omega
theorem segL_at {p : List Int} {a b k : Nat} (h : a + k < b) : (segL p a b).getD k 0 = p.getD (a + k) 0 := by
  simp only [segL, List.getD_eq_getElem?_getD, List.getElem?_drop, List.getElem?_take]
  rw [if_pos h]
theorem segL_mem {p : List Int} {a b : Nat} {x : Int} (h : x ∈ segL p a b) : x ∈ p := List.mem_of_mem_take (List.mem_of_mem_drop h)
def isIntB (p : List Int) (a b : Int) : Bool := decide (maxL (segL p a.toNat b.toNat) - minL (segL p a.toNat b.toNat) = b - a - 1)
theorem slices_Min_int_int_c {m0 : Bool} (l : List Int) (h0 : 0 < l.length) (hl : l.length ≤ 1099511627776) : Fun Try.prog 160 [(.sl (.lent m0) (List.map (PV.int .i64) (l)))] [(.int .i64 (minL l))] := by
  refine Fun.of (sg := sg0) (ts := [2]) mo Try.func160 rfl rfl rfl rfl (by kernel_rfl) (by simp only [go_sem]) rfl ?_
  have fc : True := trivial
  repeat' first
    | with_reducible first | refine stp ?_ | refine q_blk_o rfl ?_ | (refine hK _ ?_; clear hK) | (refine hA ?_; clear hA hB) | (refine hB ?_; clear hA hB) | exact v_end0 | exact v_end0' | refine v_gb1 ?_ ?_ | refine v_gb0 ?_ ?_ | refine And.intro ?_ ?_
    | (with_reducible refine p_ok ?_; decide)
    | ((first | with_reducible first | refine v_region rfl rfl (fun K hK => ?_) | refine v_draws rfl rfl (fun K hK => ?_) | refine v_if (fun A B hA hB => ?_) | refine v_end rfl ?_ | refine v_fin1 ?_ | refine v_finC1 ?_ | refine v_finO1 rfl ?_ | refine v_finN1 rfl ?_ ?_ | refine v_apj ?_ (fun j' => ?_) | refine v_stz ?_ ?_ ?_ ?_ ?_ | refine v_stq ?_ | refine v_cv1 ?_ ?_ ?_ | (intro hc; replace fc := And.intro hc fc; try simp only [hcs] at hc)) <;> (try simp (config := { maxSteps := 1000000 }) only [go_sem, ↓reduceIte, reduceCtorEq, Nat.reduceEqDiff, Nat.reduceAdd, Nat.reduceMul, Nat.reduceSub, Nat.reduceLeDiff, Int.reduceLT, Int.reduceLE, Int.reduceEq, Int.reduceSub, Int.reduceAdd, Int.reduceMul, Int.reduceNeg, Int.reduceToNat, fc]) <;> (try with_reducible rfl))
  all_goals try (first | omega | (simp only [n_i64, n_u8]; omega) | (simp only [n_i64, n_u8, lnA]; omega))
  refine v_loop (fun ms1 S1 => ∃ (k : Nat), S1.e 0 = .p (.sl (.lent m0) (List.map (PV.int .i64) (l))) ∧ S1.e 3 = .p (.int .i64 (minT l k)) ∧ S1.e 4 = .p (.int .i64 (k)) ∧ (1 ≤ k) ∧ (k ≤ l.length) ∧ ms1 = l.length - k) ((fun (k : Nat) => l.length - k) (1)) ?init1_0 ?body1_0
  case' init1_0 =>
    refine ⟨1, ?_, ?_, ?_, ?_, ?_, rfl⟩
    all_goals (try simp only [go_sem, ↓reduceIte, reduceCtorEq, Nat.reduceEqDiff, Nat.reduceAdd, Nat.reduceMul, Nat.reduceSub, Nat.reduceLeDiff, Int.reduceLT, Int.reduceLE, Int.reduceEq, Int.reduceSub, Int.reduceAdd, Int.reduceMul, Int.reduceNeg, Int.reduceToNat])
    repeat' refine And.intro ?_ ?_
    all_goals try first | rfl | omega | (simp only [lnA] <;> omega) | ((first | refine stp ?_ | refine dkz_eq ?_ ?_) <;> first | rfl | omega | (simp only [lnA] <;> omega) | (simp only [lnA, List.append_assoc, List.cons_append, List.nil_append]; done) | skip)
  case' body1_0 =>
    rintro ms1 S1 ⟨k, h1_0, h1_3, h1_4, c1_0, c1_1, hm1⟩
  have fc : True := trivial
  repeat' first
    | with_reducible first | refine stp ?_ | refine q_blk_o rfl ?_ | (refine hK _ ?_; clear hK) | (refine hA ?_; clear hA hB) | (refine hB ?_; clear hA hB) | exact v_end0 | exact v_end0' | refine v_gb1 ?_ ?_ | refine v_gb0 ?_ ?_ | refine And.intro ?_ ?_
    | (with_reducible refine p_ok ?_; decide)
    | ((first | with_reducible first | refine v_region rfl rfl (fun K hK => ?_) | refine v_draws rfl rfl (fun K hK => ?_) | refine v_if (fun A B hA hB => ?_) | refine v_end rfl ?_ | refine v_fin1 ?_ | refine v_finC1 ?_ | refine v_finO1 rfl ?_ | refine v_finN1 rfl ?_ ?_ | refine v_apj ?_ (fun j' => ?_) | refine v_stz ?_ ?_ ?_ ?_ ?_ | refine v_stq ?_ | refine v_cv1 ?_ ?_ ?_ | (intro hc; replace fc := And.intro hc fc; try simp only [hcs] at hc)) <;> (try simp (config := { maxSteps := 1000000 }) only [go_sem, ↓reduceIte, reduceCtorEq, Nat.reduceEqDiff, Nat.reduceAdd, Nat.reduceMul, Nat.reduceSub, Nat.reduceLeDiff, Int.reduceLT, Int.reduceLE, Int.reduceEq, Int.reduceSub, Int.reduceAdd, Int.reduceMul, Int.reduceNeg, Int.reduceToNat, h1_0, h1_3, h1_4, fc]) <;> (try with_reducible rfl))
  all_goals try (first | omega | (simp only [n_i64, n_u8]; omega) | (simp only [n_i64, n_u8, lnA]; omega))
  · focus
      refine q_lp_n ((fun (k : Nat) => l.length - k) (k+1)) ?_ ⟨k+1, ?_, ?_, ?_, ?_, ?_, rfl⟩
      all_goals (try simp only [go_sem, ↓reduceIte, reduceCtorEq, Nat.reduceEqDiff, Nat.reduceAdd, Nat.reduceMul, Nat.reduceSub, Nat.reduceLeDiff, Int.reduceLT, Int.reduceLE, Int.reduceEq, Int.reduceSub, Int.reduceAdd, Int.reduceMul, Int.reduceNeg, Int.reduceToNat, h1_0, h1_3, h1_4])
      repeat' refine And.intro ?_ ?_
      all_goals try first | rfl | omega | (simp only [lnA] <;> omega) | ((first | refine stp ?_ | refine dkz_eq ?_ ?_) <;> first | rfl | omega | (simp only [lnA] <;> omega) | (simp only [lnA, List.append_assoc, List.cons_append, List.nil_append]; done) | skip)
    rw [minT_succ (by omega)]
  · rw [minL]; congr 1; omega
  · rw [minT_1 h0]
theorem slices_Max_int_int_c {m0 : Bool} (l : List Int) (h0 : 0 < l.length) (hl : l.length ≤ 1099511627776) : Fun Try.prog 159 [(.sl (.lent m0) (List.map (PV.int .i64) (l)))] [(.int .i64 (maxL l))] := by
  refine Fun.of (sg := sg0) (ts := [2]) mo Try.func159 rfl rfl rfl rfl (by kernel_rfl) (by simp only [go_sem]) rfl ?_
  have fc : True := trivial
  repeat' first
    | with_reducible first | refine stp ?_ | refine q_blk_o rfl ?_ | (refine hK _ ?_; clear hK) | (refine hA ?_; clear hA hB) | (refine hB ?_; clear hA hB) | exact v_end0 | exact v_end0' | refine v_gb1 ?_ ?_ | refine v_gb0 ?_ ?_ | refine And.intro ?_ ?_
    | (with_reducible refine p_ok ?_; decide)
    | ((first | with_reducible first | refine v_region rfl rfl (fun K hK => ?_) | refine v_draws rfl rfl (fun K hK => ?_) | refine v_if (fun A B hA hB => ?_) | refine v_end rfl ?_ | refine v_fin1 ?_ | refine v_finC1 ?_ | refine v_finO1 rfl ?_ | refine v_finN1 rfl ?_ ?_ | refine v_apj ?_ (fun j' => ?_) | refine v_stz ?_ ?_ ?_ ?_ ?_ | refine v_stq ?_ | refine v_cv1 ?_ ?_ ?_ | (intro hc; replace fc := And.intro hc fc; try simp only [hcs] at hc)) <;> (try simp (config := { maxSteps := 1000000 }) only [go_sem, ↓reduceIte, reduceCtorEq, Nat.reduceEqDiff, Nat.reduceAdd, Nat.reduceMul, Nat.reduceSub, Nat.reduceLeDiff, Int.reduceLT, Int.reduceLE, Int.reduceEq, Int.reduceSub, Int.reduceAdd, Int.reduceMul, Int.reduceNeg, Int.reduceToNat, fc]) <;> (try with_reducible rfl))
  all_goals try (first | omega | (simp only [n_i64, n_u8]; omega) | (simp only [n_i64, n_u8, lnA]; omega))
  refine v_loop (fun ms1 S1 => ∃ (k : Nat), S1.e 0 = .p (.sl (.lent m0) (List.map (PV.int .i64) (l))) ∧ S1.e 3 = .p (.int .i64 (maxT l k)) ∧ S1.e 4 = .p (.int .i64 (k)) ∧ (1 ≤ k) ∧ (k ≤ l.length) ∧ ms1 = l.length - k) ((fun (k : Nat) => l.length - k) (1)) ?init1_1 ?body1_1
  case' init1_1 =>
    refine ⟨1, ?_, ?_, ?_, ?_, ?_, rfl⟩
    all_goals (try simp only [go_sem, ↓reduceIte, reduceCtorEq, Nat.reduceEqDiff, Nat.reduceAdd, Nat.reduceMul, Nat.reduceSub, Nat.reduceLeDiff, Int.reduceLT, Int.reduceLE, Int.reduceEq, Int.reduceSub, Int.reduceAdd, Int.reduceMul, Int.reduceNeg, Int.reduceToNat])
    repeat' refine And.intro ?_ ?_
    all_goals try first | rfl | omega | (simp only [lnA] <;> omega) | ((first | refine stp ?_ | refine dkz_eq ?_ ?_) <;> first | rfl | omega | (simp only [lnA] <;> omega) | (simp only [lnA, List.append_assoc, List.cons_append, List.nil_append]; done) | skip)
  case' body1_1 =>
    rintro ms1 S1 ⟨k, h1_0, h1_3, h1_4, c1_0, c1_1, hm1⟩
  have fc : True := trivial
  repeat' first
    | with_reducible first | refine stp ?_ | refine q_blk_o rfl ?_ | (refine hK _ ?_; clear hK) | (refine hA ?_; clear hA hB) | (refine hB ?_; clear hA hB) | exact v_end0 | exact v_end0' | refine v_gb1 ?_ ?_ | refine v_gb0 ?_ ?_ | refine And.intro ?_ ?_
    | (with_reducible refine p_ok ?_; decide)
    | ((first | with_reducible first | refine v_region rfl rfl (fun K hK => ?_) | refine v_draws rfl rfl (fun K hK => ?_) | refine v_if (fun A B hA hB => ?_) | refine v_end rfl ?_ | refine v_fin1 ?_ | refine v_finC1 ?_ | refine v_finO1 rfl ?_ | refine v_finN1 rfl ?_ ?_ | refine v_apj ?_ (fun j' => ?_) | refine v_stz ?_ ?_ ?_ ?_ ?_ | refine v_stq ?_ | refine v_cv1 ?_ ?_ ?_ | (intro hc; replace fc := And.intro hc fc; try simp only [hcs] at hc)) <;> (try simp (config := { maxSteps := 1000000 }) only [go_sem, ↓reduceIte, reduceCtorEq, Nat.reduceEqDiff, Nat.reduceAdd, Nat.reduceMul, Nat.reduceSub, Nat.reduceLeDiff, Int.reduceLT, Int.reduceLE, Int.reduceEq, Int.reduceSub, Int.reduceAdd, Int.reduceMul, Int.reduceNeg, Int.reduceToNat, h1_0, h1_3, h1_4, fc]) <;> (try with_reducible rfl))
  all_goals try (first | omega | (simp only [n_i64, n_u8]; omega) | (simp only [n_i64, n_u8, lnA]; omega))
  · focus
      refine q_lp_n ((fun (k : Nat) => l.length - k) (k+1)) ?_ ⟨k+1, ?_, ?_, ?_, ?_, ?_, rfl⟩
      all_goals (try simp only [go_sem, ↓reduceIte, reduceCtorEq, Nat.reduceEqDiff, Nat.reduceAdd, Nat.reduceMul, Nat.reduceSub, Nat.reduceLeDiff, Int.reduceLT, Int.reduceLE, Int.reduceEq, Int.reduceSub, Int.reduceAdd, Int.reduceMul, Int.reduceNeg, Int.reduceToNat, h1_0, h1_3, h1_4])
      repeat' refine And.intro ?_ ?_
      all_goals try first | rfl | omega | (simp only [lnA] <;> omega) | ((first | refine stp ?_ | refine dkz_eq ?_ ?_) <;> first | rfl | omega | (simp only [lnA] <;> omega) | (simp only [lnA, List.append_assoc, List.cons_append, List.nil_append]; done) | skip)
    rw [maxT_succ (by omega)]
  · rw [maxL]; congr 1; omega
  · rw [maxT_1 h0]
theorem impl_isInterval_c {m0 : Bool} (p : List Int) (a b : Int) (h0 : 0 ≤ a) (h1 : a < b) (h2 : b ≤ p.length) (hl : p.length ≤ 8) (hb : ∀ x ∈ p, 0 ≤ x ∧ x ≤ 1048576) : Fun Try.prog 132 [(.sl (.lent m0) (List.map (PV.int .i64) (p))), (.int .i64 (a)), (.int .i64 (b))] [(.bool (isIntB p a b))] := by
  refine Fun.of (sg := sg0) (ts := [6]) mo Try.func132 rfl rfl rfl rfl (by kernel_rfl) (by simp only [go_sem]) rfl ?_
  have e1 : List.drop a.toNat (List.take b.toNat p) = segL p a.toNat b.toNat := rfl
  have e2 : (segL p a.toNat b.toNat).length = b.toNat - a.toNat := segL_len (by omega)
  have b1 := minT_b (fun x hx => hb x (segL_mem (a := a.toNat) (b := b.toNat) hx)) (by omega) (Nat.le_refl _)
  have b2 := maxT_b (fun x hx => hb x (segL_mem (a := a.toNat) (b := b.toNat) hx)) (by omega) (Nat.le_refl _)
  rw [← minL] at b1
  rw [← maxL] at b2
  have fc : True := trivial
  repeat' first
    | with_reducible first | refine stp ?_ | refine q_blk_o rfl ?_ | (refine hK _ ?_; clear hK) | (refine hA ?_; clear hA hB) | (refine hB ?_; clear hA hB) | exact v_end0 | exact v_end0' | refine v_gb1 ?_ ?_ | refine v_gb0 ?_ ?_ | refine And.intro ?_ ?_
    | (with_reducible refine p_ok ?_; decide)
    | ((first | with_reducible first | refine v_region rfl rfl (fun K hK => ?_) | refine v_draws rfl rfl (fun K hK => ?_) | refine v_if (fun A B hA hB => ?_) | refine v_end rfl ?_ | refine v_fin1 ?_ | refine v_finC1 ?_ | refine v_callE (slices_Max_int_int_c _ ?_ ?_) ?_ | refine v_callE (slices_Min_int_int_c _ ?_ ?_) ?_ | refine v_finO1 rfl ?_ | refine v_finN1 rfl ?_ ?_ | refine v_apj ?_ (fun j' => ?_) | refine v_stz ?_ ?_ ?_ ?_ ?_ | refine v_stq ?_ | refine v_cv1 ?_ ?_ ?_ | (intro hc; replace fc := And.intro hc fc; try simp only [hcs] at hc)) <;> (try simp (config := { maxSteps := 1000000 }) only [go_sem, ↓reduceIte, reduceCtorEq, Nat.reduceEqDiff, Nat.reduceAdd, Nat.reduceMul, Nat.reduceSub, Nat.reduceLeDiff, Int.reduceLT, Int.reduceLE, Int.reduceEq, Int.reduceSub, Int.reduceAdd, Int.reduceMul, Int.reduceNeg, Int.reduceToNat, e1, fc]) <;> (try with_reducible rfl))
  all_goals try (first | omega | (simp only [n_i64, n_u8]; omega) | (simp only [n_i64, n_u8, lnA]; omega))
  rw [isIntB, e2]; congr 1; rw [eq_iff_iff]; omega
theorem spec_l1Min_c (a b : Int) : Fun Try.prog 171 [(.int .i64 (a)), (.int .i64 (b))] [(.int .i64 (min a b))] := by
  refine Fun.of (sg := sg0) (ts := [4]) mo Try.func171 rfl rfl rfl rfl (by kernel_rfl) (by simp only [go_sem]) rfl ?_
  have fc : True := trivial
  repeat' first
    | with_reducible first | refine stp ?_ | refine q_blk_o rfl ?_ | (refine hK _ ?_; clear hK) | (refine hA ?_; clear hA hB) | (refine hB ?_; clear hA hB) | exact v_end0 | exact v_end0' | refine v_gb1 ?_ ?_ | refine v_gb0 ?_ ?_ | refine And.intro ?_ ?_
    | (with_reducible refine p_ok ?_; decide)
    | ((first | with_reducible first | refine v_region rfl rfl (fun K hK => ?_) | refine v_draws rfl rfl (fun K hK => ?_) | refine v_if (fun A B hA hB => ?_) | refine v_end rfl ?_ | refine v_fin1 ?_ | refine v_finC1 ?_ | refine v_finO1 rfl ?_ | refine v_finN1 rfl ?_ ?_ | refine v_apj ?_ (fun j' => ?_) | refine v_stz ?_ ?_ ?_ ?_ ?_ | refine v_stq ?_ | refine v_cv1 ?_ ?_ ?_ | (intro hc; replace fc := And.intro hc fc; try simp only [hcs] at hc)) <;> (try simp (config := { maxSteps := 1000000 }) only [go_sem, ↓reduceIte, reduceCtorEq, Nat.reduceEqDiff, Nat.reduceAdd, Nat.reduceMul, Nat.reduceSub, Nat.reduceLeDiff, Int.reduceLT, Int.reduceLE, Int.reduceEq, Int.reduceSub, Int.reduceAdd, Int.reduceMul, Int.reduceNeg, Int.reduceToNat, fc]) <;> (try with_reducible rfl))
  all_goals omega
theorem spec_l5Run_c {m0 : Bool} (p : List Int) (a b : Int) (h0 : 0 ≤ a) (h1 : a ≤ b) (h2 : b < p.length) (hl : p.length ≤ 8) (hb : ∀ x ∈ p, 0 ≤ x ∧ x ≤ 1048576) : Fun Try.prog 151 [(.sl (.lent m0) (List.map (PV.int .i64) (p))), (.int .i64 (a)), (.int .i64 (b))] [(.bool (isIntB p a (b + 1)))] := by
  refine Fun.of (sg := sg0) (ts := [6]) mo Try.func151 rfl rfl rfl rfl (by kernel_rfl) (by simp only [go_sem]) rfl ?_
  have e2 : (segL p a.toNat (b + 1).toNat).length = (b + 1).toNat - a.toNat := segL_len (by omega)
  have b1 := minT_b (fun x hx => hb x (segL_mem (a := a.toNat) (b := (b + 1).toNat) hx)) (by omega) (Nat.le_refl _)
  have b2 := maxT_b (fun x hx => hb x (segL_mem (a := a.toNat) (b := (b + 1).toNat) hx)) (by omega) (Nat.le_refl _)
  rw [← minL] at b1
  rw [← maxL] at b2
  have fc : True := trivial
  repeat' first
    | with_reducible first | refine stp ?_ | refine q_blk_o rfl ?_ | (refine hK _ ?_; clear hK) | (refine hA ?_; clear hA hB) | (refine hB ?_; clear hA hB) | exact v_end0 | exact v_end0' | refine v_gb1 ?_ ?_ | refine v_gb0 ?_ ?_ | refine And.intro ?_ ?_
    | (with_reducible refine p_ok ?_; decide)
    | ((first | with_reducible first | refine v_region rfl rfl (fun K hK => ?_) | refine v_draws rfl rfl (fun K hK => ?_) | refine v_if (fun A B hA hB => ?_) | refine v_end rfl ?_ | refine v_fin1 ?_ | refine v_finC1 ?_ | refine v_callE (spec_l1Min_c _ _) ?_ | refine v_callE (spec_l1Max_c _ _) ?_ | refine v_finO1 rfl ?_ | refine v_finN1 rfl ?_ ?_ | refine v_apj ?_ (fun j' => ?_) | refine v_stz ?_ ?_ ?_ ?_ ?_ | refine v_stq ?_ | refine v_cv1 ?_ ?_ ?_ | (intro hc; replace fc := And.intro hc fc; try simp only [hcs] at hc)) <;> (try simp (config := { maxSteps := 1000000 }) only [go_sem, ↓reduceIte, reduceCtorEq, Nat.reduceEqDiff, Nat.reduceAdd, Nat.reduceMul, Nat.reduceSub, Nat.reduceLeDiff, Int.reduceLT, Int.reduceLE, Int.reduceEq, Int.reduceSub, Int.reduceAdd, Int.reduceMul, Int.reduceNeg, Int.reduceToNat, fc]) <;> (try with_reducible rfl))
  all_goals try (first | omega | (simp only [n_i64, n_u8]; omega) | (simp only [n_i64, n_u8, lnA]; omega))
  refine v_loop (fun ms1 S1 => ∃ (k : Nat), S1.e 0 = .p (.sl (.lent m0) (List.map (PV.int .i64) (p))) ∧ S1.e 1 = .p (.int .i64 (a)) ∧ S1.e 2 = .p (.int .i64 (b)) ∧ S1.e 7 = .p (.int .i64 (minT (segL p a.toNat (b + 1).toNat) k)) ∧ S1.e 8 = .p (.int .i64 (maxT (segL p a.toNat (b + 1).toNat) k)) ∧ S1.e 9 = .p (.int .i64 ((a + k))) ∧ ((k : Int) ≤ b + 1 - a) ∧ ms1 = (b + 1 - a).toNat - k) ((fun (k : Nat) => (b + 1 - a).toNat - k) (0)) ?init1_2 ?body1_2
  case' init1_2 =>
    refine ⟨0, ?_, ?_, ?_, ?_, ?_, ?_, ?_, rfl⟩
    all_goals (try simp only [go_sem, ↓reduceIte, reduceCtorEq, Nat.reduceEqDiff, Nat.reduceAdd, Nat.reduceMul, Nat.reduceSub, Nat.reduceLeDiff, Int.reduceLT, Int.reduceLE, Int.reduceEq, Int.reduceSub, Int.reduceAdd, Int.reduceMul, Int.reduceNeg, Int.reduceToNat])
    repeat' refine And.intro ?_ ?_
    all_goals try first | rfl | omega | (simp only [lnA] <;> omega) | ((first | refine stp ?_ | refine dkz_eq ?_ ?_) <;> first | rfl | omega | (simp only [lnA] <;> omega) | (simp only [lnA, List.append_assoc, List.cons_append, List.nil_append]; done) | skip)
  case' body1_2 =>
    rintro ms1 S1 ⟨k, h1_0, h1_1, h1_2, h1_7, h1_8, h1_9, c1_0, hm1⟩
  have e3 : a + k < b + 1 → p.getD (a + k).toNat 0 = (segL p a.toNat (b + 1).toNat).getD k 0 := fun h => by
    rw [segL_at (by omega)]; congr 1; omega
  have fc : True := trivial
  repeat' first
    | with_reducible first | refine stp ?_ | refine q_blk_o rfl ?_ | (refine hK _ ?_; clear hK) | (refine hA ?_; clear hA hB) | (refine hB ?_; clear hA hB) | exact v_end0 | exact v_end0' | refine v_gb1 ?_ ?_ | refine v_gb0 ?_ ?_ | refine And.intro ?_ ?_
    | (with_reducible refine p_ok ?_; decide)
    | ((first | with_reducible first | refine v_region rfl rfl (fun K hK => ?_) | refine v_draws rfl rfl (fun K hK => ?_) | refine v_if (fun A B hA hB => ?_) | refine v_end rfl ?_ | refine v_fin1 ?_ | refine v_finC1 ?_ | refine v_callE (spec_l1Min_c _ _) ?_ | refine v_callE (spec_l1Max_c _ _) ?_ | refine v_finO1 rfl ?_ | refine v_finN1 rfl ?_ ?_ | refine v_apj ?_ (fun j' => ?_) | refine v_stz ?_ ?_ ?_ ?_ ?_ | refine v_stq ?_ | refine v_cv1 ?_ ?_ ?_ | (intro hc; replace fc := And.intro hc fc; try simp only [hcs] at hc)) <;> (try simp (config := { maxSteps := 1000000 }) only [go_sem, ↓reduceIte, reduceCtorEq, Nat.reduceEqDiff, Nat.reduceAdd, Nat.reduceMul, Nat.reduceSub, Nat.reduceLeDiff, Int.reduceLT, Int.reduceLE, Int.reduceEq, Int.reduceSub, Int.reduceAdd, Int.reduceMul, Int.reduceNeg, Int.reduceToNat, h1_0, h1_1, h1_2, h1_7, h1_8, h1_9, fc]) <;> (try with_reducible rfl))
  all_goals try rw [e3 (by omega)]
  all_goals try (first | omega | (simp only [n_i64, n_u8]; omega) | (simp only [n_i64, n_u8, lnA]; omega))
  · focus
      refine q_lp_n ((fun (k : Nat) => (b + 1 - a).toNat - k) (k+1)) ?_ ⟨k+1, ?_, ?_, ?_, ?_, ?_, ?_, ?_, rfl⟩
      all_goals (try simp only [go_sem, ↓reduceIte, reduceCtorEq, Nat.reduceEqDiff, Nat.reduceAdd, Nat.reduceMul, Nat.reduceSub, Nat.reduceLeDiff, Int.reduceLT, Int.reduceLE, Int.reduceEq, Int.reduceSub, Int.reduceAdd, Int.reduceMul, Int.reduceNeg, Int.reduceToNat, h1_0, h1_1, h1_2, h1_7, h1_8, h1_9])
      repeat' refine And.intro ?_ ?_
      all_goals try first | rfl | omega | (simp only [lnA] <;> omega) | ((first | refine stp ?_ | refine dkz_eq ?_ ?_) <;> first | rfl | omega | (simp only [lnA] <;> omega) | (simp only [lnA, List.append_assoc, List.cons_append, List.nil_append]; done) | skip)
    · rw [minT_succ (by omega)]
    · rw [maxT_succ (by omega)]
  · have h4 := minT_b (fun x hx => hb x (segL_mem (a := a.toNat) (b := (b + 1).toNat) hx)) (by omega) (show k ≤ (segL p a.toNat (b + 1).toNat).length by omega)
    have h5 := maxT_b (fun x hx => hb x (segL_mem (a := a.toNat) (b := (b + 1).toNat) hx)) (by omega) (show k ≤ (segL p a.toNat (b + 1).toNat).length by omega)
    rw [n_i64]; omega
  · have h3 : k = (segL p a.toNat (b + 1).toNat).length := by omega
    rw [isIntB, h3, ← minL, ← maxL]; congr 1; rw [eq_iff_iff]; omega
  · rw [minT, List.take_zero, segL_at (by omega)]; simp
  · rw [maxT, List.take_zero, segL_at (by omega)]; simp
end Go.Gl
