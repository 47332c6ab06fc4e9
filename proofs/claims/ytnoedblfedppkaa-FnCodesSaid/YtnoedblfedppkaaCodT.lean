/-
  Forms turned. Conditions: none.
-/
import Derived.Test.YtnoedblfedppkaaCodF
set_option linter.unusedSimpArgs false
set_option linter.unusedVariables false
set_option maxRecDepth 20000
set_option linter.unusedSectionVars false
namespace Go.Gl
open Go Go.Proofs
variable [Amb]
def mxI : List Int → Int
  | [] => 0
  | x :: l => max x (mxI l)
theorem mxI_snoc {x : Int} (hx : 0 ≤ x) : ∀ {l : List Int}, mxI (l ++ [x]) = max (mxI l) x
  | [] => by simp only [List.nil_append, mxI]; omega
  | y :: l => by rw [List.cons_append, mxI, mxI, mxI_snoc hx]; omega
theorem mxI_ge : ∀ {l : List Int}, 0 ≤ mxI l ∧ ∀ x ∈ l, x ≤ mxI l
  | [] => by simp [mxI]
  | y :: l => by
    have h := mxI_ge (l := l)
    rw [mxI]
    refine ⟨by omega, fun x hx => ?_⟩
    rcases List.mem_cons.1 hx with q | q
    · omega
    · have := h.2 x q; omega
theorem mxI_le {B : Int} (hB : 0 ≤ B) : ∀ {l : List Int}, (∀ x ∈ l, x ≤ B) → mxI l ≤ B
  | [], _ => hB
  | y :: l, h => by
    have h1 := h y List.mem_cons_self
    have h2 := mxI_le hB fun x hx => h x (List.mem_cons_of_mem _ hx)
    rw [mxI]; omega
/-- How many are not below c. -/
def geC (c : Int) : List Int → Int
  | [] => 0
  | x :: l => bitI (decide (c ≤ x)) + geC c l
theorem geC_snoc {c x : Int} : ∀ {l : List Int}, geC c (l ++ [x]) = geC c l + bitI (decide (c ≤ x))
  | [] => by simp [geC]
  | y :: l => by rw [List.cons_append, geC, geC, geC_snoc]; omega
theorem geC_r {c : Int} : ∀ {l : List Int}, 0 ≤ geC c l ∧ geC c l ≤ l.length
  | [] => by simp [geC]
  | y :: l => by have := geC_r (c := c) (l := l); have := bitI_r (decide (c ≤ y)); rw [geC, List.length_cons]; omega
theorem geC_0 {c : Int} (hc : 1 ≤ c) : ∀ {l : List Int}, geC c l = 0 ↔ mxI l < c
  | [] => by simp [geC, mxI]; omega
  | y :: l => by
    have ih := geC_0 hc (l := l)
    have h1 := geC_r (c := c) (l := l)
    rw [geC, mxI]
    by_cases h : c ≤ y
    · rw [decide_eq_true h, bitI, if_pos rfl]; omega
    · rw [decide_eq_false h, bitI, if_neg (by decide)]; omega
theorem geC_all {c : Int} : ∀ {l : List Int}, (∀ x ∈ l, c ≤ x) → geC c l = l.length
  | [], _ => rfl
  | y :: l, h => by
    rw [geC, decide_eq_true (h y List.mem_cons_self), geC_all fun x hx => h x (List.mem_cons_of_mem _ hx), bitI, if_pos rfl, List.length_cons]; omega
def tfB (f : List Int) : Bool := decide (f.length ≤ 100) && f.all fun x => decide (1 ≤ x) && decide (x ≤ 100)
def tfG (f : List Int) (k : Nat) : List Int := (List.range k).map fun c : Nat => geC ((c : Int) + 1) f
def tfL (f : List Int) : List Int := if tfB f then tfG f (mxI f).toNat else []
theorem tfG_succ {f : List Int} {k : Nat} : tfG f (k + 1) = tfG f k ++ [geC ((k : Int) + 1) f] := by simp [tfG, List.range_succ]
theorem tfG_len {f : List Int} {k : Nat} : (tfG f k).length = k := by simp [tfG]
theorem tfB_iff {f : List Int} : tfB f = true ↔ f.length ≤ 100 ∧ ∀ x ∈ f, 1 ≤ x ∧ x ≤ 100 := by
  simp [tfB, List.all_eq_true]
theorem impl_TurnedForm_1_c (x : Int) : Fun Try.prog 162 [(.int .i64 (x))] [(.bool ((decide (x < 1) || decide (100 < x))))] := by
  refine Fun.of (sg := sg0) (ts := [2]) mo Try.func162 rfl rfl rfl rfl (by kernel_rfl) (by simp only [go_sem]) rfl ?_
  have fc : True := trivial
  repeat' first
    | with_reducible first | refine stp ?_ | refine q_blk_o rfl ?_ | (refine hK _ ?_; clear hK) | (refine hA ?_; clear hA hB) | (refine hB ?_; clear hA hB) | exact v_end0 | exact v_end0' | refine v_gb1 ?_ ?_ | refine v_gb0 ?_ ?_ | refine And.intro ?_ ?_
    | (with_reducible refine p_ok ?_; decide)
    | ((first | with_reducible first | refine v_region rfl rfl (fun K hK => ?_) | refine v_draws rfl rfl (fun K hK => ?_) | refine v_if (fun A B hA hB => ?_) | refine v_end rfl ?_ | refine v_fin1 ?_ | refine v_finC1 ?_ | refine v_finR1 ?_ | refine v_finO1 rfl ?_ | refine v_finN1 rfl ?_ ?_ | refine v_apj ?_ (fun j' => ?_) | refine v_stz ?_ ?_ ?_ ?_ ?_ | refine v_stq ?_ | refine v_cv1 ?_ ?_ ?_ | (intro hc; replace fc := And.intro hc fc; try simp only [hcs] at hc)) <;> (try simp (config := { maxSteps := 1000000 }) only [go_sem, ↓reduceIte, reduceCtorEq, Nat.reduceEqDiff, Nat.reduceAdd, Nat.reduceMul, Nat.reduceSub, Nat.reduceLeDiff, Int.reduceLT, Int.reduceLE, Int.reduceEq, Int.reduceSub, Int.reduceAdd, Int.reduceMul, Int.reduceNeg, Int.reduceToNat, fc]) <;> (try with_reducible rfl))
  all_goals try (first | omega | (simp only [n_i64, n_u8]; omega) | (simp only [n_i64, n_u8, lnA]; omega) | (simp only [lnA]; done))
  all_goals rfl
theorem tf_any {f : List Int} (h : f.length ≤ 100) : (f.any fun x => decide (x < 1) || decide (100 < x)) = !tfB f := by
  rw [tfB, decide_eq_true h, Bool.true_and, List.not_all_eq_any_not]
  congr 1; funext x
  by_cases h1 : x < 1 <;> by_cases h2 : 100 < x <;> simp [h1, h2] <;> omega
theorem impl_TurnedForm_c {m0 : Bool} (f : List Int) (hl : f.length ≤ 1048576) : Fun Try.prog 70 [(.sl (.lent m0) (List.map (PV.int .i64) (f)))] [(.sl .own (List.map (PV.int .i64) (tfL f)))] := by
  by_cases h8 : f.length ≤ 100
  · have c1 := slices_ContainsFunc_int_int_c (m0 := m0) f 162 [] (fun x => decide (x < 1) || decide (100 < x)) (by omega) (fun x _ => impl_TurnedForm_1_c x)
    rw [tf_any h8] at c1
    by_cases hb : tfB f = true
    · have e1 : tfL f = tfG f (mxI f).toNat := if_pos hb
      have hm : mxI f ≤ 100 := mxI_le (by omega) fun x hx => ((tfB_iff.1 hb).2 x hx).2
      have hm0 := (mxI_ge (l := f)).1
      rw [hb] at c1
      simp only [Bool.not_true, Bool.not_false] at c1
      rw [e1]
      refine Fun.of (sg := sg0) (ts := [2]) mo Try.func70 rfl rfl rfl rfl (by kernel_rfl) (by simp only [go_sem]) rfl ?_
      have fc : True := trivial
      repeat' first
        | with_reducible first | refine stp ?_ | refine q_blk_o rfl ?_ | (refine hK _ ?_; clear hK) | (refine hA ?_; clear hA hB) | (refine hB ?_; clear hA hB) | exact v_end0 | exact v_end0' | refine v_gb1 ?_ ?_ | refine v_gb0 ?_ ?_ | refine And.intro ?_ ?_
        | (with_reducible refine p_ok ?_; decide)
        | ((first | with_reducible first | refine v_region rfl rfl (fun K hK => ?_) | refine v_draws rfl rfl (fun K hK => ?_) | refine v_if (fun A B hA hB => ?_) | refine v_end rfl ?_ | refine v_fin1 ?_ | refine v_finC1 ?_ | refine v_finR1 ?_ | refine v_callE (c1) ?_ | refine v_callE (impl_TurnedForm_1_c _) ?_ | refine v_callE (slices_ContainsFunc_int_int_c _ _ _ _ ?_ ?_) ?_ | refine v_finO1 rfl ?_ | refine v_finN1 rfl ?_ ?_ | refine v_apj ?_ (fun j' => ?_) | refine v_stz ?_ ?_ ?_ ?_ ?_ | refine v_stq ?_ | refine v_cv1 ?_ ?_ ?_ | (intro hc; replace fc := And.intro hc fc; try simp only [hcs] at hc)) <;> (try simp (config := { maxSteps := 1000000 }) only [go_sem, ↓reduceIte, reduceCtorEq, Nat.reduceEqDiff, Nat.reduceAdd, Nat.reduceMul, Nat.reduceSub, Nat.reduceLeDiff, Int.reduceLT, Int.reduceLE, Int.reduceEq, Int.reduceSub, Int.reduceAdd, Int.reduceMul, Int.reduceNeg, Int.reduceToNat, fc]) <;> (try with_reducible rfl))
      all_goals try (first | omega | (simp only [n_i64, n_u8]; omega) | (simp only [n_i64, n_u8, lnA]; omega) | (simp only [lnA]; done))
      refine v_loop (fun ms1 S1 => ∃ (k : Nat), S1.e 0 = .p (.sl (.lent m0) (List.map (PV.int .i64) (f))) ∧ OwnL (S1.e 3) S1.h S1.n (PV.int .i64) ((tfG f k).length) (tfG f k) ∧ S1.e 4 = .p (.int .i64 ((k+1))) ∧ ((k : Int) ≤ mxI f) ∧ ms1 = 101 - k) ((fun (k : Nat) => 101 - k) (0)) ?init1_0 ?body1_0
      case' init1_0 =>
        refine ⟨0, ?_, ?_, ?_, ?_, rfl⟩
        all_goals (try simp only [go_sem, ↓reduceIte, reduceCtorEq, Nat.reduceEqDiff, Nat.reduceAdd, Nat.reduceMul, Nat.reduceSub, Nat.reduceLeDiff, Int.reduceLT, Int.reduceLE, Int.reduceEq, Int.reduceSub, Int.reduceAdd, Int.reduceMul, Int.reduceNeg, Int.reduceToNat])
        repeat' refine And.intro ?_ ?_
        all_goals try first | rfl | omega | (simp only [lnA] <;> omega) | ((first | refine stp ?_ | refine dkz_eq ?_ ?_) <;> first | rfl | omega | (simp only [lnA] <;> omega) | (simp only [lnA, List.append_assoc, List.cons_append, List.nil_append]; done) | skip)
      case' body1_0 =>
        rintro ms1 S1 ⟨k, h1_0, o1_3, h1_4, c1_0, hm1⟩
        obtain ⟨i1_3, h1_3, b1_3, l1_3⟩ := o1_3.out
        have ni1_3 : ∀ c, (i1_3 = S1.n + c) = False := fun c => eq_false (by omega)
        have pi1_3 : ∀ c, (S1.n + c = i1_3) = False := fun c => eq_false (by omega)
        have qi1_3 : (i1_3 = S1.n) = False := eq_false (by omega)
        have ri1_3 : (S1.n = i1_3) = False := eq_false (by omega)
      · have b1 := tfG_len (f := f) (k := k)
        have fc : True := trivial
        repeat' first
          | with_reducible first | refine stp ?_ | refine q_blk_o rfl ?_ | (refine hK _ ?_; clear hK) | (refine hA ?_; clear hA hB) | (refine hB ?_; clear hA hB) | exact v_end0 | exact v_end0' | refine v_gb1 ?_ ?_ | refine v_gb0 ?_ ?_ | refine And.intro ?_ ?_
          | (with_reducible refine p_ok ?_; decide)
          | ((first | with_reducible first | refine v_region rfl rfl (fun K hK => ?_) | refine v_draws rfl rfl (fun K hK => ?_) | refine v_if (fun A B hA hB => ?_) | refine v_end rfl ?_ | refine v_fin1 ?_ | refine v_finC1 ?_ | refine v_finR1 ?_ | refine v_callE (impl_TurnedForm_1_c _) ?_ | refine v_callE (slices_ContainsFunc_int_int_c _ _ _ _ ?_ ?_) ?_ | refine v_finO1 rfl ?_ | refine v_finN1 rfl ?_ ?_ | refine v_apj ?_ (fun j' => ?_) | refine v_stz ?_ ?_ ?_ ?_ ?_ | refine v_stq ?_ | refine v_cv1 ?_ ?_ ?_ | (intro hc; replace fc := And.intro hc fc; try simp only [hcs] at hc)) <;> (try simp (config := { maxSteps := 1000000 }) only [go_sem, ↓reduceIte, reduceCtorEq, Nat.reduceEqDiff, Nat.reduceAdd, Nat.reduceMul, Nat.reduceSub, Nat.reduceLeDiff, Int.reduceLT, Int.reduceLE, Int.reduceEq, Int.reduceSub, Int.reduceAdd, Int.reduceMul, Int.reduceNeg, Int.reduceToNat, h1_0, h1_4, h1_3, b1_3, ni1_3, pi1_3, qi1_3, ri1_3, fc]) <;> (try with_reducible rfl))
        all_goals try (first | omega | (simp only [n_i64, n_u8]; omega) | (simp only [n_i64, n_u8, lnA]; omega) | (simp only [lnA]; done))
        · refine v_loop (fun ms2 S2 => ∃ (i : Nat), S2.e 0 = .p (.sl (.lent m0) (List.map (PV.int .i64) (f))) ∧ OwnL (S2.e 3) S2.h S2.n (PV.int .i64) ((tfG f k).length) (tfG f k) ∧ S2.e 4 = .p (.int .i64 ((k+1))) ∧ S2.e 5 = .p (.int .i64 (geC ((k : Int) + 1) (f.take i))) ∧ S2.e 18 = .p (.sl (.lent m0) (List.map (PV.int .i64) (f))) ∧ S2.e 19 = .p (.int .i64 (f.length)) ∧ S2.e 20 = .p (.int .i64 (i)) ∧ (i ≤ f.length) ∧ ((k : Int) ≤ mxI f) ∧ S1.n ≤ S2.n ∧ ms2 = f.length - i) ((fun (i : Nat) => f.length - i) (0)) ?init2_1 ?body2_1
          case' init2_1 =>
            refine ⟨0, ?_, ?_, ?_, ?_, ?_, ?_, ?_, ?_, ?_, ?_, rfl⟩
            all_goals (try simp only [go_sem, ↓reduceIte, reduceCtorEq, Nat.reduceEqDiff, Nat.reduceAdd, Nat.reduceMul, Nat.reduceSub, Nat.reduceLeDiff, Int.reduceLT, Int.reduceLE, Int.reduceEq, Int.reduceSub, Int.reduceAdd, Int.reduceMul, Int.reduceNeg, Int.reduceToNat, h1_0, h1_4, h1_3, b1_3, ni1_3, pi1_3, qi1_3, ri1_3])
            repeat' refine And.intro ?_ ?_
            all_goals try first | rfl | omega | (simp only [lnA] <;> omega) | ((first | refine stp ?_ | refine dkz_eq ?_ ?_) <;> first | rfl | omega | (simp only [lnA] <;> omega) | (simp only [lnA, List.append_assoc, List.cons_append, List.nil_append]; done) | skip)
          case' body2_1 =>
            rintro ms2 S2 ⟨i, h2_0, o2_3, h2_4, h2_5, h2_18, h2_19, h2_20, c2_0, c2_1, u2_0, hm2⟩
            obtain ⟨i2_3, h2_3, b2_3, l2_3⟩ := o2_3.out
            have ni2_3 : ∀ c, (i2_3 = S2.n + c) = False := fun c => eq_false (by omega)
            have pi2_3 : ∀ c, (S2.n + c = i2_3) = False := fun c => eq_false (by omega)
            have qi2_3 : (i2_3 = S2.n) = False := eq_false (by omega)
            have ri2_3 : (S2.n = i2_3) = False := eq_false (by omega)
          · have b2 := geC_r (c := (k : Int) + 1) (l := f.take i)
            rw [List.length_take] at b2
            by_cases hi : i < f.length
            · have s1 : f.take (i + 1) = f.take i ++ [f.getD i 0] := take_getD hi
              have fc : True := trivial
              repeat' first
                | with_reducible first | refine stp ?_ | refine q_blk_o rfl ?_ | (refine hK _ ?_; clear hK) | (refine hA ?_; clear hA hB) | (refine hB ?_; clear hA hB) | exact v_end0 | exact v_end0' | refine v_gb1 ?_ ?_ | refine v_gb0 ?_ ?_ | refine And.intro ?_ ?_
                | (with_reducible refine p_ok ?_; decide)
                | ((first | with_reducible first | refine v_region rfl rfl (fun K hK => ?_) | refine v_draws rfl rfl (fun K hK => ?_) | refine v_if (fun A B hA hB => ?_) | refine v_end rfl ?_ | refine v_fin1 ?_ | refine v_finC1 ?_ | refine v_finR1 ?_ | refine v_callE (impl_TurnedForm_1_c _) ?_ | refine v_callE (slices_ContainsFunc_int_int_c _ _ _ _ ?_ ?_) ?_ | refine v_finO1 rfl ?_ | refine v_finN1 rfl ?_ ?_ | refine v_apj ?_ (fun j' => ?_) | refine v_stz ?_ ?_ ?_ ?_ ?_ | refine v_stq ?_ | refine v_cv1 ?_ ?_ ?_ | (intro hc; replace fc := And.intro hc fc; try simp only [hcs] at hc)) <;> (try simp (config := { maxSteps := 1000000 }) only [go_sem, ↓reduceIte, reduceCtorEq, Nat.reduceEqDiff, Nat.reduceAdd, Nat.reduceMul, Nat.reduceSub, Nat.reduceLeDiff, Int.reduceLT, Int.reduceLE, Int.reduceEq, Int.reduceSub, Int.reduceAdd, Int.reduceMul, Int.reduceNeg, Int.reduceToNat, h2_0, h2_4, h2_5, h2_18, h2_19, h2_20, h2_3, b2_3, ni2_3, pi2_3, qi2_3, ri2_3, fc]) <;> (try with_reducible rfl))
              all_goals try (first | omega | (simp only [n_i64, n_u8]; omega) | (simp only [n_i64, n_u8, lnA]; omega) | (simp only [lnA]; done))
              · focus
                  refine q_lp_n ((fun (i : Nat) => f.length - i) (i+1)) ?_ ⟨i+1, ?_, ?_, ?_, ?_, ?_, ?_, ?_, ?_, ?_, ?_, rfl⟩
                  all_goals (try simp only [go_sem, ↓reduceIte, reduceCtorEq, Nat.reduceEqDiff, Nat.reduceAdd, Nat.reduceMul, Nat.reduceSub, Nat.reduceLeDiff, Int.reduceLT, Int.reduceLE, Int.reduceEq, Int.reduceSub, Int.reduceAdd, Int.reduceMul, Int.reduceNeg, Int.reduceToNat, h2_0, h2_4, h2_5, h2_18, h2_19, h2_20, h2_3, b2_3, ni2_3, pi2_3, qi2_3, ri2_3])
                  repeat' refine And.intro ?_ ?_
                  all_goals try first | rfl | omega | (simp only [lnA] <;> omega) | ((first | refine stp ?_ | refine dkz_eq ?_ ?_) <;> first | rfl | omega | (simp only [lnA] <;> omega) | (simp only [lnA, List.append_assoc, List.cons_append, List.nil_append]; done) | skip)
                rw [s1, geC_snoc, decide_eq_true hc]; rfl
              · focus
                  refine q_lp_n ((fun (i : Nat) => f.length - i) (i+1)) ?_ ⟨i+1, ?_, ?_, ?_, ?_, ?_, ?_, ?_, ?_, ?_, ?_, rfl⟩
                  all_goals (try simp only [go_sem, ↓reduceIte, reduceCtorEq, Nat.reduceEqDiff, Nat.reduceAdd, Nat.reduceMul, Nat.reduceSub, Nat.reduceLeDiff, Int.reduceLT, Int.reduceLE, Int.reduceEq, Int.reduceSub, Int.reduceAdd, Int.reduceMul, Int.reduceNeg, Int.reduceToNat, h2_0, h2_4, h2_5, h2_18, h2_19, h2_20, h2_3, b2_3, ni2_3, pi2_3, qi2_3, ri2_3])
                  repeat' refine And.intro ?_ ?_
                  all_goals try first | rfl | omega | (simp only [lnA] <;> omega) | ((first | refine stp ?_ | refine dkz_eq ?_ ?_) <;> first | rfl | omega | (simp only [lnA] <;> omega) | (simp only [lnA, List.append_assoc, List.cons_append, List.nil_append]; done) | skip)
                rw [s1, geC_snoc, decide_eq_false (by omega)]; simp [bitI]
            · rw [List.take_of_length_le (by omega)] at b2 h2_5
              have g := geC_0 (c := (k : Int) + 1) (by omega) (l := f)
              have fc : True := trivial
              repeat' first
                | with_reducible first | refine stp ?_ | refine q_blk_o rfl ?_ | (refine hK _ ?_; clear hK) | (refine hA ?_; clear hA hB) | (refine hB ?_; clear hA hB) | exact v_end0 | exact v_end0' | refine v_gb1 ?_ ?_ | refine v_gb0 ?_ ?_ | refine And.intro ?_ ?_
                | (with_reducible refine p_ok ?_; decide)
                | ((first | with_reducible first | refine v_region rfl rfl (fun K hK => ?_) | refine v_draws rfl rfl (fun K hK => ?_) | refine v_if (fun A B hA hB => ?_) | refine v_end rfl ?_ | refine v_fin1 ?_ | refine v_finC1 ?_ | refine v_finR1 ?_ | refine v_callE (impl_TurnedForm_1_c _) ?_ | refine v_callE (slices_ContainsFunc_int_int_c _ _ _ _ ?_ ?_) ?_ | refine v_finO1 rfl ?_ | refine v_finN1 rfl ?_ ?_ | refine v_apj ?_ (fun j' => ?_) | refine v_stz ?_ ?_ ?_ ?_ ?_ | refine v_stq ?_ | refine v_cv1 ?_ ?_ ?_ | (intro hc; replace fc := And.intro hc fc; try simp only [hcs] at hc)) <;> (try simp (config := { maxSteps := 1000000 }) only [go_sem, ↓reduceIte, reduceCtorEq, Nat.reduceEqDiff, Nat.reduceAdd, Nat.reduceMul, Nat.reduceSub, Nat.reduceLeDiff, Int.reduceLT, Int.reduceLE, Int.reduceEq, Int.reduceSub, Int.reduceAdd, Int.reduceMul, Int.reduceNeg, Int.reduceToNat, h2_0, h2_4, h2_5, h2_18, h2_19, h2_20, h2_3, b2_3, ni2_3, pi2_3, qi2_3, ri2_3, fc]) <;> (try with_reducible rfl))
              all_goals try (first | omega | (simp only [n_i64, n_u8]; omega) | (simp only [n_i64, n_u8, lnA]; omega) | (simp only [lnA]; done))
              · have := g.1 hc
                obtain rfl : k = (mxI f).toNat := by omega
                rfl
              · have : ¬ mxI f < (k : Int) + 1 := fun e => hc (g.2 e)
                focus
                  refine q_lp_n ((fun (k : Nat) => 101 - k) (k+1)) ?_ ⟨k+1, ?_, ?_, ?_, ?_, rfl⟩
                  all_goals (try simp only [go_sem, ↓reduceIte, reduceCtorEq, Nat.reduceEqDiff, Nat.reduceAdd, Nat.reduceMul, Nat.reduceSub, Nat.reduceLeDiff, Int.reduceLT, Int.reduceLE, Int.reduceEq, Int.reduceSub, Int.reduceAdd, Int.reduceMul, Int.reduceNeg, Int.reduceToNat, h2_0, h2_4, h2_5, h2_18, h2_19, h2_20, h2_3, b2_3, ni2_3, pi2_3, qi2_3, ri2_3])
                  repeat' refine And.intro ?_ ?_
                  all_goals try first | rfl | omega | (simp only [lnA] <;> omega) | ((first | refine stp ?_ | refine dkz_eq ?_ ?_) <;> first | rfl | omega | (simp only [lnA] <;> omega) | (simp only [lnA, List.append_assoc, List.cons_append, List.nil_append]; done) | skip)
                all_goals rw [tfG_succ]
                all_goals try (simp; done)
    · rw [Bool.not_eq_true] at hb
      have e1 : tfL f = [] := by rw [tfL, hb]; rfl
      rw [hb] at c1
      simp only [Bool.not_true, Bool.not_false] at c1
      rw [e1]
      refine Fun.of (sg := sg0) (ts := [2]) mo Try.func70 rfl rfl rfl rfl (by kernel_rfl) (by simp only [go_sem]) rfl ?_
      have fc : True := trivial
      repeat' first
        | with_reducible first | refine stp ?_ | refine q_blk_o rfl ?_ | (refine hK _ ?_; clear hK) | (refine hA ?_; clear hA hB) | (refine hB ?_; clear hA hB) | exact v_end0 | exact v_end0' | refine v_gb1 ?_ ?_ | refine v_gb0 ?_ ?_ | refine And.intro ?_ ?_
        | (with_reducible refine p_ok ?_; decide)
        | ((first | with_reducible first | refine v_region rfl rfl (fun K hK => ?_) | refine v_draws rfl rfl (fun K hK => ?_) | refine v_if (fun A B hA hB => ?_) | refine v_end rfl ?_ | refine v_fin1 ?_ | refine v_finC1 ?_ | refine v_finR1 ?_ | refine v_callE (c1) ?_ | refine v_callE (impl_TurnedForm_1_c _) ?_ | refine v_callE (slices_ContainsFunc_int_int_c _ _ _ _ ?_ ?_) ?_ | refine v_finO1 rfl ?_ | refine v_finN1 rfl ?_ ?_ | refine v_apj ?_ (fun j' => ?_) | refine v_stz ?_ ?_ ?_ ?_ ?_ | refine v_stq ?_ | refine v_cv1 ?_ ?_ ?_ | (intro hc; replace fc := And.intro hc fc; try simp only [hcs] at hc)) <;> (try simp (config := { maxSteps := 1000000 }) only [go_sem, ↓reduceIte, reduceCtorEq, Nat.reduceEqDiff, Nat.reduceAdd, Nat.reduceMul, Nat.reduceSub, Nat.reduceLeDiff, Int.reduceLT, Int.reduceLE, Int.reduceEq, Int.reduceSub, Int.reduceAdd, Int.reduceMul, Int.reduceNeg, Int.reduceToNat, fc]) <;> (try with_reducible rfl))
      all_goals try (first | omega | (simp only [n_i64, n_u8]; omega) | (simp only [n_i64, n_u8, lnA]; omega) | (simp only [lnA]; done))
  · have e1 : tfL f = [] := by rw [tfL, tfB, decide_eq_false h8]; rfl
    rw [e1]
    refine Fun.of (sg := sg0) (ts := [2]) mo Try.func70 rfl rfl rfl rfl (by kernel_rfl) (by simp only [go_sem]) rfl ?_
    have fc : True := trivial
    repeat' first
      | with_reducible first | refine stp ?_ | refine q_blk_o rfl ?_ | (refine hK _ ?_; clear hK) | (refine hA ?_; clear hA hB) | (refine hB ?_; clear hA hB) | exact v_end0 | exact v_end0' | refine v_gb1 ?_ ?_ | refine v_gb0 ?_ ?_ | refine And.intro ?_ ?_
      | (with_reducible refine p_ok ?_; decide)
      | ((first | with_reducible first | refine v_region rfl rfl (fun K hK => ?_) | refine v_draws rfl rfl (fun K hK => ?_) | refine v_if (fun A B hA hB => ?_) | refine v_end rfl ?_ | refine v_fin1 ?_ | refine v_finC1 ?_ | refine v_finR1 ?_ | refine v_callE (impl_TurnedForm_1_c _) ?_ | refine v_callE (slices_ContainsFunc_int_int_c _ _ _ _ ?_ ?_) ?_ | refine v_finO1 rfl ?_ | refine v_finN1 rfl ?_ ?_ | refine v_apj ?_ (fun j' => ?_) | refine v_stz ?_ ?_ ?_ ?_ ?_ | refine v_stq ?_ | refine v_cv1 ?_ ?_ ?_ | (intro hc; replace fc := And.intro hc fc; try simp only [hcs] at hc)) <;> (try simp (config := { maxSteps := 1000000 }) only [go_sem, ↓reduceIte, reduceCtorEq, Nat.reduceEqDiff, Nat.reduceAdd, Nat.reduceMul, Nat.reduceSub, Nat.reduceLeDiff, Int.reduceLT, Int.reduceLE, Int.reduceEq, Int.reduceSub, Int.reduceAdd, Int.reduceMul, Int.reduceNeg, Int.reduceToNat, fc]) <;> (try with_reducible rfl))
    all_goals try (first | omega | (simp only [n_i64, n_u8]; omega) | (simp only [n_i64, n_u8, lnA]; omega) | (simp only [lnA]; done))
theorem spec_TurnedForm_c {m0 : Bool} (f : List Int) (hl : f.length ≤ 1048576) : Fun Try.prog 75 [(.sl (.lent m0) (List.map (PV.int .i64) (f)))] [(.sl .own (List.map (PV.int .i64) (tfL f)))] := by
  by_cases hb : tfB f = true
  · have e1 : tfL f = tfG f (mxI f).toNat := if_pos hb
    obtain ⟨h8, hr⟩ := tfB_iff.1 hb
    have hm : mxI f ≤ 100 := mxI_le (by omega) fun x hx => (hr x hx).2
    have hm0 := (mxI_ge (l := f)).1
    rw [e1]
    refine Fun.of (sg := sg0) (ts := [2]) mo Try.func75 rfl rfl rfl rfl (by kernel_rfl) (by simp only [go_sem]) rfl ?_
    have fc : True := trivial
    repeat' first
      | with_reducible first | refine stp ?_ | refine q_blk_o rfl ?_ | (refine hK _ ?_; clear hK) | (refine hA ?_; clear hA hB) | (refine hB ?_; clear hA hB) | exact v_end0 | exact v_end0' | refine v_gb1 ?_ ?_ | refine v_gb0 ?_ ?_ | refine And.intro ?_ ?_
      | (with_reducible refine p_ok ?_; decide)
      | ((first | with_reducible first | refine v_region rfl rfl (fun K hK => ?_) | refine v_draws rfl rfl (fun K hK => ?_) | refine v_if (fun A B hA hB => ?_) | refine v_end rfl ?_ | refine v_fin1 ?_ | refine v_finC1 ?_ | refine v_finR1 ?_ | refine v_callE (spec_l1In_c _ _ _) ?_ | refine v_callE (spec_l1Max_c _ _) ?_ | refine v_callE (spec_l1Bit_c _) ?_ | refine v_finO1 rfl ?_ | refine v_finN1 rfl ?_ ?_ | refine v_apj ?_ (fun j' => ?_) | refine v_stz ?_ ?_ ?_ ?_ ?_ | refine v_stq ?_ | refine v_cv1 ?_ ?_ ?_ | (intro hc; replace fc := And.intro hc fc; try simp only [hcs] at hc)) <;> (try simp (config := { maxSteps := 1000000 }) only [go_sem, ↓reduceIte, reduceCtorEq, Nat.reduceEqDiff, Nat.reduceAdd, Nat.reduceMul, Nat.reduceSub, Nat.reduceLeDiff, Int.reduceLT, Int.reduceLE, Int.reduceEq, Int.reduceSub, Int.reduceAdd, Int.reduceMul, Int.reduceNeg, Int.reduceToNat, fc]) <;> (try with_reducible rfl))
    all_goals try (first | omega | (simp only [n_i64, n_u8]; omega) | (simp only [n_i64, n_u8, lnA]; omega) | (simp only [lnA]; done))
    refine v_loop (fun ms1 S1 => ∃ (i : Nat), S1.e 0 = .p (.sl (.lent m0) (List.map (PV.int .i64) (f))) ∧ S1.e 3 = .p (.int .i64 (mxI (f.take i))) ∧ S1.e 4 = .p (.int .i64 (i)) ∧ (i ≤ f.length) ∧ ms1 = f.length - i) ((fun (i : Nat) => f.length - i) (0)) ?init1_2 ?body1_2
    case' init1_2 =>
      refine ⟨0, ?_, ?_, ?_, ?_, rfl⟩
      all_goals (try simp only [go_sem, ↓reduceIte, reduceCtorEq, Nat.reduceEqDiff, Nat.reduceAdd, Nat.reduceMul, Nat.reduceSub, Nat.reduceLeDiff, Int.reduceLT, Int.reduceLE, Int.reduceEq, Int.reduceSub, Int.reduceAdd, Int.reduceMul, Int.reduceNeg, Int.reduceToNat])
      repeat' refine And.intro ?_ ?_
      all_goals try first | rfl | omega | (simp only [lnA] <;> omega) | ((first | refine stp ?_ | refine dkz_eq ?_ ?_) <;> first | rfl | omega | (simp only [lnA] <;> omega) | (simp only [lnA, List.append_assoc, List.cons_append, List.nil_append]; done) | skip)
    case' body1_2 =>
      rintro ms1 S1 ⟨i, h1_0, h1_3, h1_4, c1_0, hm1⟩
    · by_cases hi : i < f.length
      · have hx := hr _ (getD_mem (d := 0) hi)
        have s1 : f.take (i + 1) = f.take i ++ [f.getD i 0] := take_getD hi
        have g3 : (decide (1 ≤ f.getD i 0) && decide (f.getD i 0 ≤ 100)) = true := by rw [decide_eq_true hx.1, decide_eq_true hx.2]; rfl
        have fc : True := trivial
        repeat' first
          | with_reducible first | refine stp ?_ | refine q_blk_o rfl ?_ | (refine hK _ ?_; clear hK) | (refine hA ?_; clear hA hB) | (refine hB ?_; clear hA hB) | exact v_end0 | exact v_end0' | refine v_gb1 ?_ ?_ | refine v_gb0 ?_ ?_ | refine And.intro ?_ ?_
          | (with_reducible refine p_ok ?_; decide)
          | ((first | with_reducible first | refine v_region rfl rfl (fun K hK => ?_) | refine v_draws rfl rfl (fun K hK => ?_) | refine v_if (fun A B hA hB => ?_) | refine v_end rfl ?_ | refine v_fin1 ?_ | refine v_finC1 ?_ | refine v_finR1 ?_ | refine v_callE (spec_l1In_c _ _ _) ?_ | refine v_callE (spec_l1Max_c _ _) ?_ | refine v_callE (spec_l1Bit_c _) ?_ | refine v_finO1 rfl ?_ | refine v_finN1 rfl ?_ ?_ | refine v_apj ?_ (fun j' => ?_) | refine v_stz ?_ ?_ ?_ ?_ ?_ | refine v_stq ?_ | refine v_cv1 ?_ ?_ ?_ | (intro hc; replace fc := And.intro hc fc; try simp only [hcs] at hc)) <;> (try simp (config := { maxSteps := 1000000 }) only [go_sem, ↓reduceIte, reduceCtorEq, Nat.reduceEqDiff, Nat.reduceAdd, Nat.reduceMul, Nat.reduceSub, Nat.reduceLeDiff, Int.reduceLT, Int.reduceLE, Int.reduceEq, Int.reduceSub, Int.reduceAdd, Int.reduceMul, Int.reduceNeg, Int.reduceToNat, h1_0, h1_3, h1_4, g3, fc]) <;> (try with_reducible rfl))
        all_goals try (first | omega | (simp only [n_i64, n_u8]; omega) | (simp only [n_i64, n_u8, lnA]; omega) | (simp only [lnA]; done))
        focus
          refine q_lp_n ((fun (i : Nat) => f.length - i) (i+1)) ?_ ⟨i+1, ?_, ?_, ?_, ?_, rfl⟩
          all_goals (try simp only [go_sem, ↓reduceIte, reduceCtorEq, Nat.reduceEqDiff, Nat.reduceAdd, Nat.reduceMul, Nat.reduceSub, Nat.reduceLeDiff, Int.reduceLT, Int.reduceLE, Int.reduceEq, Int.reduceSub, Int.reduceAdd, Int.reduceMul, Int.reduceNeg, Int.reduceToNat, h1_0, h1_3, h1_4])
          repeat' refine And.intro ?_ ?_
          all_goals try first | rfl | omega | (simp only [lnA] <;> omega) | ((first | refine stp ?_ | refine dkz_eq ?_ ?_) <;> first | rfl | omega | (simp only [lnA] <;> omega) | (simp only [lnA, List.append_assoc, List.cons_append, List.nil_append]; done) | skip)
        rw [s1, mxI_snoc (by omega)]
      · rw [List.take_of_length_le (by omega)] at h1_3
        have fc : True := trivial
        repeat' first
          | with_reducible first | refine stp ?_ | refine q_blk_o rfl ?_ | (refine hK _ ?_; clear hK) | (refine hA ?_; clear hA hB) | (refine hB ?_; clear hA hB) | exact v_end0 | exact v_end0' | refine v_gb1 ?_ ?_ | refine v_gb0 ?_ ?_ | refine And.intro ?_ ?_
          | (with_reducible refine p_ok ?_; decide)
          | ((first | with_reducible first | refine v_region rfl rfl (fun K hK => ?_) | refine v_draws rfl rfl (fun K hK => ?_) | refine v_if (fun A B hA hB => ?_) | refine v_end rfl ?_ | refine v_fin1 ?_ | refine v_finC1 ?_ | refine v_finR1 ?_ | refine v_callE (spec_l1In_c _ _ _) ?_ | refine v_callE (spec_l1Max_c _ _) ?_ | refine v_callE (spec_l1Bit_c _) ?_ | refine v_finO1 rfl ?_ | refine v_finN1 rfl ?_ ?_ | refine v_apj ?_ (fun j' => ?_) | refine v_stz ?_ ?_ ?_ ?_ ?_ | refine v_stq ?_ | refine v_cv1 ?_ ?_ ?_ | (intro hc; replace fc := And.intro hc fc; try simp only [hcs] at hc)) <;> (try simp (config := { maxSteps := 1000000 }) only [go_sem, ↓reduceIte, reduceCtorEq, Nat.reduceEqDiff, Nat.reduceAdd, Nat.reduceMul, Nat.reduceSub, Nat.reduceLeDiff, Int.reduceLT, Int.reduceLE, Int.reduceEq, Int.reduceSub, Int.reduceAdd, Int.reduceMul, Int.reduceNeg, Int.reduceToNat, h1_0, h1_3, h1_4, fc]) <;> (try with_reducible rfl))
        all_goals try (first | omega | (simp only [n_i64, n_u8]; omega) | (simp only [n_i64, n_u8, lnA]; omega) | (simp only [lnA]; done))
        refine v_loop (fun ms2 S2 => ∃ (k : Nat), S2.e 0 = .p (.sl (.lent m0) (List.map (PV.int .i64) (f))) ∧ S2.e 3 = .p (.int .i64 (mxI f)) ∧ OwnL (S2.e 5) S2.h S2.n (PV.int .i64) ((tfG f k).length) (tfG f k) ∧ S2.e 6 = .p (.int .i64 ((k+1))) ∧ ((k : Int) ≤ mxI f) ∧ S1.n ≤ S2.n ∧ ms2 = 101 - k) ((fun (k : Nat) => 101 - k) (0)) ?init2_3 ?body2_3
        case' init2_3 =>
          refine ⟨0, ?_, ?_, ?_, ?_, ?_, ?_, rfl⟩
          all_goals (try simp only [go_sem, ↓reduceIte, reduceCtorEq, Nat.reduceEqDiff, Nat.reduceAdd, Nat.reduceMul, Nat.reduceSub, Nat.reduceLeDiff, Int.reduceLT, Int.reduceLE, Int.reduceEq, Int.reduceSub, Int.reduceAdd, Int.reduceMul, Int.reduceNeg, Int.reduceToNat, h1_0, h1_3, h1_4])
          repeat' refine And.intro ?_ ?_
          all_goals try first | rfl | omega | (simp only [lnA] <;> omega) | ((first | refine stp ?_ | refine dkz_eq ?_ ?_) <;> first | rfl | omega | (simp only [lnA] <;> omega) | (simp only [lnA, List.append_assoc, List.cons_append, List.nil_append]; done) | skip)
        case' body2_3 =>
          rintro ms2 S2 ⟨k, h2_0, h2_3, o2_5, h2_6, c2_0, u2_0, hm2⟩
          obtain ⟨i2_5, h2_5, b2_5, l2_5⟩ := o2_5.out
          have ni2_5 : ∀ c, (i2_5 = S2.n + c) = False := fun c => eq_false (by omega)
          have pi2_5 : ∀ c, (S2.n + c = i2_5) = False := fun c => eq_false (by omega)
          have qi2_5 : (i2_5 = S2.n) = False := eq_false (by omega)
          have ri2_5 : (S2.n = i2_5) = False := eq_false (by omega)
        · have b1 := tfG_len (f := f) (k := k)
          have fc : True := trivial
          repeat' first
            | with_reducible first | refine stp ?_ | refine q_blk_o rfl ?_ | (refine hK _ ?_; clear hK) | (refine hA ?_; clear hA hB) | (refine hB ?_; clear hA hB) | exact v_end0 | exact v_end0' | refine v_gb1 ?_ ?_ | refine v_gb0 ?_ ?_ | refine And.intro ?_ ?_
            | (with_reducible refine p_ok ?_; decide)
            | ((first | with_reducible first | refine v_region rfl rfl (fun K hK => ?_) | refine v_draws rfl rfl (fun K hK => ?_) | refine v_if (fun A B hA hB => ?_) | refine v_end rfl ?_ | refine v_fin1 ?_ | refine v_finC1 ?_ | refine v_finR1 ?_ | refine v_callE (spec_l1In_c _ _ _) ?_ | refine v_callE (spec_l1Max_c _ _) ?_ | refine v_callE (spec_l1Bit_c _) ?_ | refine v_finO1 rfl ?_ | refine v_finN1 rfl ?_ ?_ | refine v_apj ?_ (fun j' => ?_) | refine v_stz ?_ ?_ ?_ ?_ ?_ | refine v_stq ?_ | refine v_cv1 ?_ ?_ ?_ | (intro hc; replace fc := And.intro hc fc; try simp only [hcs] at hc)) <;> (try simp (config := { maxSteps := 1000000 }) only [go_sem, ↓reduceIte, reduceCtorEq, Nat.reduceEqDiff, Nat.reduceAdd, Nat.reduceMul, Nat.reduceSub, Nat.reduceLeDiff, Int.reduceLT, Int.reduceLE, Int.reduceEq, Int.reduceSub, Int.reduceAdd, Int.reduceMul, Int.reduceNeg, Int.reduceToNat, h2_0, h2_3, h2_6, h2_5, b2_5, ni2_5, pi2_5, qi2_5, ri2_5, fc]) <;> (try with_reducible rfl))
          all_goals try (first | omega | (simp only [n_i64, n_u8]; omega) | (simp only [n_i64, n_u8, lnA]; omega) | (simp only [lnA]; done))
          · refine v_loop (fun ms3 S3 => ∃ (i : Nat), S3.e 0 = .p (.sl (.lent m0) (List.map (PV.int .i64) (f))) ∧ S3.e 3 = .p (.int .i64 (mxI f)) ∧ OwnL (S3.e 5) S3.h S3.n (PV.int .i64) ((tfG f k).length) (tfG f k) ∧ S3.e 6 = .p (.int .i64 ((k+1))) ∧ S3.e 7 = .p (.int .i64 (geC ((k : Int) + 1) (f.take i))) ∧ S3.e 8 = .p (.int .i64 (i)) ∧ (i ≤ f.length) ∧ ((k : Int) + 1 ≤ mxI f) ∧ S2.n ≤ S3.n ∧ ms3 = f.length - i) ((fun (i : Nat) => f.length - i) (0)) ?init3_4 ?body3_4
            case' init3_4 =>
              refine ⟨0, ?_, ?_, ?_, ?_, ?_, ?_, ?_, ?_, ?_, rfl⟩
              all_goals (try simp only [go_sem, ↓reduceIte, reduceCtorEq, Nat.reduceEqDiff, Nat.reduceAdd, Nat.reduceMul, Nat.reduceSub, Nat.reduceLeDiff, Int.reduceLT, Int.reduceLE, Int.reduceEq, Int.reduceSub, Int.reduceAdd, Int.reduceMul, Int.reduceNeg, Int.reduceToNat, h2_0, h2_3, h2_6, h2_5, b2_5, ni2_5, pi2_5, qi2_5, ri2_5])
              repeat' refine And.intro ?_ ?_
              all_goals try first | rfl | omega | (simp only [lnA] <;> omega) | ((first | refine stp ?_ | refine dkz_eq ?_ ?_) <;> first | rfl | omega | (simp only [lnA] <;> omega) | (simp only [lnA, List.append_assoc, List.cons_append, List.nil_append]; done) | skip)
            case' body3_4 =>
              rintro ms3 S3 ⟨i, h3_0, h3_3, o3_5, h3_6, h3_7, h3_8, c3_0, c3_1, u3_0, hm3⟩
              obtain ⟨i3_5, h3_5, b3_5, l3_5⟩ := o3_5.out
              have ni3_5 : ∀ c, (i3_5 = S3.n + c) = False := fun c => eq_false (by omega)
              have pi3_5 : ∀ c, (S3.n + c = i3_5) = False := fun c => eq_false (by omega)
              have qi3_5 : (i3_5 = S3.n) = False := eq_false (by omega)
              have ri3_5 : (S3.n = i3_5) = False := eq_false (by omega)
            · have b2 := geC_r (c := (k : Int) + 1) (l := f.take i)
              have b3 := bitI_r (decide ((k : Int) + 1 ≤ f.getD i 0))
              rw [List.length_take] at b2
              by_cases hi : i < f.length
              · have s1 : f.take (i + 1) = f.take i ++ [f.getD i 0] := take_getD hi
                have fc : True := trivial
                repeat' first
                  | with_reducible first | refine stp ?_ | refine q_blk_o rfl ?_ | (refine hK _ ?_; clear hK) | (refine hA ?_; clear hA hB) | (refine hB ?_; clear hA hB) | exact v_end0 | exact v_end0' | refine v_gb1 ?_ ?_ | refine v_gb0 ?_ ?_ | refine And.intro ?_ ?_
                  | (with_reducible refine p_ok ?_; decide)
                  | ((first | with_reducible first | refine v_region rfl rfl (fun K hK => ?_) | refine v_draws rfl rfl (fun K hK => ?_) | refine v_if (fun A B hA hB => ?_) | refine v_end rfl ?_ | refine v_fin1 ?_ | refine v_finC1 ?_ | refine v_finR1 ?_ | refine v_callE (spec_l1In_c _ _ _) ?_ | refine v_callE (spec_l1Max_c _ _) ?_ | refine v_callE (spec_l1Bit_c _) ?_ | refine v_finO1 rfl ?_ | refine v_finN1 rfl ?_ ?_ | refine v_apj ?_ (fun j' => ?_) | refine v_stz ?_ ?_ ?_ ?_ ?_ | refine v_stq ?_ | refine v_cv1 ?_ ?_ ?_ | (intro hc; replace fc := And.intro hc fc; try simp only [hcs] at hc)) <;> (try simp (config := { maxSteps := 1000000 }) only [go_sem, ↓reduceIte, reduceCtorEq, Nat.reduceEqDiff, Nat.reduceAdd, Nat.reduceMul, Nat.reduceSub, Nat.reduceLeDiff, Int.reduceLT, Int.reduceLE, Int.reduceEq, Int.reduceSub, Int.reduceAdd, Int.reduceMul, Int.reduceNeg, Int.reduceToNat, h3_0, h3_3, h3_6, h3_7, h3_8, h3_5, b3_5, ni3_5, pi3_5, qi3_5, ri3_5, fc]) <;> (try with_reducible rfl))
                all_goals try (first | omega | (simp only [n_i64, n_u8]; omega) | (simp only [n_i64, n_u8, lnA]; omega) | (simp only [lnA]; done))
                focus
                  refine q_lp_n ((fun (i : Nat) => f.length - i) (i+1)) ?_ ⟨i+1, ?_, ?_, ?_, ?_, ?_, ?_, ?_, ?_, ?_, rfl⟩
                  all_goals (try simp only [go_sem, ↓reduceIte, reduceCtorEq, Nat.reduceEqDiff, Nat.reduceAdd, Nat.reduceMul, Nat.reduceSub, Nat.reduceLeDiff, Int.reduceLT, Int.reduceLE, Int.reduceEq, Int.reduceSub, Int.reduceAdd, Int.reduceMul, Int.reduceNeg, Int.reduceToNat, h3_0, h3_3, h3_6, h3_7, h3_8, h3_5, b3_5, ni3_5, pi3_5, qi3_5, ri3_5])
                  repeat' refine And.intro ?_ ?_
                  all_goals try first | rfl | omega | (simp only [lnA] <;> omega) | ((first | refine stp ?_ | refine dkz_eq ?_ ?_) <;> first | rfl | omega | (simp only [lnA] <;> omega) | (simp only [lnA, List.append_assoc, List.cons_append, List.nil_append]; done) | skip)
                rw [s1, geC_snoc]
              · rw [List.take_of_length_le (by omega)] at b2 h3_7
                have fc : True := trivial
                repeat' first
                  | with_reducible first | refine stp ?_ | refine q_blk_o rfl ?_ | (refine hK _ ?_; clear hK) | (refine hA ?_; clear hA hB) | (refine hB ?_; clear hA hB) | exact v_end0 | exact v_end0' | refine v_gb1 ?_ ?_ | refine v_gb0 ?_ ?_ | refine And.intro ?_ ?_
                  | (with_reducible refine p_ok ?_; decide)
                  | ((first | with_reducible first | refine v_region rfl rfl (fun K hK => ?_) | refine v_draws rfl rfl (fun K hK => ?_) | refine v_if (fun A B hA hB => ?_) | refine v_end rfl ?_ | refine v_fin1 ?_ | refine v_finC1 ?_ | refine v_finR1 ?_ | refine v_callE (spec_l1In_c _ _ _) ?_ | refine v_callE (spec_l1Max_c _ _) ?_ | refine v_callE (spec_l1Bit_c _) ?_ | refine v_finO1 rfl ?_ | refine v_finN1 rfl ?_ ?_ | refine v_apj ?_ (fun j' => ?_) | refine v_stz ?_ ?_ ?_ ?_ ?_ | refine v_stq ?_ | refine v_cv1 ?_ ?_ ?_ | (intro hc; replace fc := And.intro hc fc; try simp only [hcs] at hc)) <;> (try simp (config := { maxSteps := 1000000 }) only [go_sem, ↓reduceIte, reduceCtorEq, Nat.reduceEqDiff, Nat.reduceAdd, Nat.reduceMul, Nat.reduceSub, Nat.reduceLeDiff, Int.reduceLT, Int.reduceLE, Int.reduceEq, Int.reduceSub, Int.reduceAdd, Int.reduceMul, Int.reduceNeg, Int.reduceToNat, h3_0, h3_3, h3_6, h3_7, h3_8, h3_5, b3_5, ni3_5, pi3_5, qi3_5, ri3_5, fc]) <;> (try with_reducible rfl))
                all_goals try (first | omega | (simp only [n_i64, n_u8]; omega) | (simp only [n_i64, n_u8, lnA]; omega) | (simp only [lnA]; done))
                focus
                  refine q_lp_n ((fun (k : Nat) => 101 - k) (k+1)) ?_ ⟨k+1, ?_, ?_, ?_, ?_, ?_, ?_, rfl⟩
                  all_goals (try simp only [go_sem, ↓reduceIte, reduceCtorEq, Nat.reduceEqDiff, Nat.reduceAdd, Nat.reduceMul, Nat.reduceSub, Nat.reduceLeDiff, Int.reduceLT, Int.reduceLE, Int.reduceEq, Int.reduceSub, Int.reduceAdd, Int.reduceMul, Int.reduceNeg, Int.reduceToNat, h3_0, h3_3, h3_6, h3_7, h3_8, h3_5, b3_5, ni3_5, pi3_5, qi3_5, ri3_5])
                  repeat' refine And.intro ?_ ?_
                  all_goals try first | rfl | omega | (simp only [lnA] <;> omega) | ((first | refine stp ?_ | refine dkz_eq ?_ ?_) <;> first | rfl | omega | (simp only [lnA] <;> omega) | (simp only [lnA, List.append_assoc, List.cons_append, List.nil_append]; done) | skip)
                all_goals rw [tfG_succ]
                all_goals try (simp; done)
          · obtain rfl : k = (mxI f).toNat := by omega
            rfl
  · have e1 : tfL f = [] := by rw [tfL, if_neg hb]
    rw [e1]
    have h1 : 100 < f.length ∨ ∃ i, i < f.length ∧ ¬ (1 ≤ f.getD i 0 ∧ f.getD i 0 ≤ 100) := by
      refine Classical.byContradiction fun h => hb (tfB_iff.2 ⟨by omega, fun x hx => ?_⟩)
      obtain ⟨i, hi, rfl⟩ := List.getElem_of_mem hx
      refine Classical.byContradiction fun g => h (.inr ⟨i, hi, ?_⟩)
      rw [List.getD_eq_getElem?_getD, List.getElem?_eq_getElem hi]; exact g
    refine Fun.of (sg := sg0) (ts := [2]) mo Try.func75 rfl rfl rfl rfl (by kernel_rfl) (by simp only [go_sem]) rfl ?_
    have fc : True := trivial
    repeat' first
      | with_reducible first | refine stp ?_ | refine q_blk_o rfl ?_ | (refine hK _ ?_; clear hK) | (refine hA ?_; clear hA hB) | (refine hB ?_; clear hA hB) | exact v_end0 | exact v_end0' | refine v_gb1 ?_ ?_ | refine v_gb0 ?_ ?_ | refine And.intro ?_ ?_
      | (with_reducible refine p_ok ?_; decide)
      | ((first | with_reducible first | refine v_region rfl rfl (fun K hK => ?_) | refine v_draws rfl rfl (fun K hK => ?_) | refine v_if (fun A B hA hB => ?_) | refine v_end rfl ?_ | refine v_fin1 ?_ | refine v_finC1 ?_ | refine v_finR1 ?_ | refine v_callE (spec_l1In_c _ _ _) ?_ | refine v_callE (spec_l1Max_c _ _) ?_ | refine v_callE (spec_l1Bit_c _) ?_ | refine v_finO1 rfl ?_ | refine v_finN1 rfl ?_ ?_ | refine v_apj ?_ (fun j' => ?_) | refine v_stz ?_ ?_ ?_ ?_ ?_ | refine v_stq ?_ | refine v_cv1 ?_ ?_ ?_ | (intro hc; replace fc := And.intro hc fc; try simp only [hcs] at hc)) <;> (try simp (config := { maxSteps := 1000000 }) only [go_sem, ↓reduceIte, reduceCtorEq, Nat.reduceEqDiff, Nat.reduceAdd, Nat.reduceMul, Nat.reduceSub, Nat.reduceLeDiff, Int.reduceLT, Int.reduceLE, Int.reduceEq, Int.reduceSub, Int.reduceAdd, Int.reduceMul, Int.reduceNeg, Int.reduceToNat, fc]) <;> (try with_reducible rfl))
    all_goals try (first | omega | (simp only [n_i64, n_u8]; omega) | (simp only [n_i64, n_u8, lnA]; omega) | (simp only [lnA]; done))
    refine v_loop (fun ms1 S1 => ∃ (i : Nat), S1.e 0 = .p (.sl (.lent m0) (List.map (PV.int .i64) (f))) ∧ S1.e 3 = .p (.int .i64 (mxI (f.take i))) ∧ S1.e 4 = .p (.int .i64 (i)) ∧ (i ≤ f.length) ∧ (0 < i → f.length ≤ 100) ∧ (∀ j, j < i → 1 ≤ f.getD j 0 ∧ f.getD j 0 ≤ 100) ∧ ms1 = f.length - i) ((fun (i : Nat) => f.length - i) (0)) ?init1_5 ?body1_5
    case' init1_5 =>
      refine ⟨0, ?_, ?_, ?_, ?_, ?_, ?_, rfl⟩
      all_goals (try simp only [go_sem, ↓reduceIte, reduceCtorEq, Nat.reduceEqDiff, Nat.reduceAdd, Nat.reduceMul, Nat.reduceSub, Nat.reduceLeDiff, Int.reduceLT, Int.reduceLE, Int.reduceEq, Int.reduceSub, Int.reduceAdd, Int.reduceMul, Int.reduceNeg, Int.reduceToNat])
      repeat' refine And.intro ?_ ?_
      all_goals try first | rfl | omega | (simp only [lnA] <;> omega) | ((first | refine stp ?_ | refine dkz_eq ?_ ?_) <;> first | rfl | omega | (simp only [lnA] <;> omega) | (simp only [lnA, List.append_assoc, List.cons_append, List.nil_append]; done) | skip)
    case' body1_5 =>
      rintro ms1 S1 ⟨i, h1_0, h1_3, h1_4, c1_0, c1_1, c1_2, hm1⟩
    · by_cases hi : i < f.length
      · by_cases hx : 1 ≤ f.getD i 0 ∧ f.getD i 0 ≤ 100
        · have s1 : f.take (i + 1) = f.take i ++ [f.getD i 0] := take_getD hi
          have g3 : (decide (1 ≤ f.getD i 0) && decide (f.getD i 0 ≤ 100)) = true := by rw [decide_eq_true hx.1, decide_eq_true hx.2]; rfl
          have fc : True := trivial
          repeat' first
            | with_reducible first | refine stp ?_ | refine q_blk_o rfl ?_ | (refine hK _ ?_; clear hK) | (refine hA ?_; clear hA hB) | (refine hB ?_; clear hA hB) | exact v_end0 | exact v_end0' | refine v_gb1 ?_ ?_ | refine v_gb0 ?_ ?_ | refine And.intro ?_ ?_
            | (with_reducible refine p_ok ?_; decide)
            | ((first | with_reducible first | refine v_region rfl rfl (fun K hK => ?_) | refine v_draws rfl rfl (fun K hK => ?_) | refine v_if (fun A B hA hB => ?_) | refine v_end rfl ?_ | refine v_fin1 ?_ | refine v_finC1 ?_ | refine v_finR1 ?_ | refine v_callE (spec_l1In_c _ _ _) ?_ | refine v_callE (spec_l1Max_c _ _) ?_ | refine v_callE (spec_l1Bit_c _) ?_ | refine v_finO1 rfl ?_ | refine v_finN1 rfl ?_ ?_ | refine v_apj ?_ (fun j' => ?_) | refine v_stz ?_ ?_ ?_ ?_ ?_ | refine v_stq ?_ | refine v_cv1 ?_ ?_ ?_ | (intro hc; replace fc := And.intro hc fc; try simp only [hcs] at hc)) <;> (try simp (config := { maxSteps := 1000000 }) only [go_sem, ↓reduceIte, reduceCtorEq, Nat.reduceEqDiff, Nat.reduceAdd, Nat.reduceMul, Nat.reduceSub, Nat.reduceLeDiff, Int.reduceLT, Int.reduceLE, Int.reduceEq, Int.reduceSub, Int.reduceAdd, Int.reduceMul, Int.reduceNeg, Int.reduceToNat, h1_0, h1_3, h1_4, g3, fc]) <;> (try with_reducible rfl))
          all_goals try (first | omega | (simp only [n_i64, n_u8]; omega) | (simp only [n_i64, n_u8, lnA]; omega) | (simp only [lnA]; done))
          focus
            refine q_lp_n ((fun (i : Nat) => f.length - i) (i+1)) ?_ ⟨i+1, ?_, ?_, ?_, ?_, ?_, ?_, rfl⟩
            all_goals (try simp only [go_sem, ↓reduceIte, reduceCtorEq, Nat.reduceEqDiff, Nat.reduceAdd, Nat.reduceMul, Nat.reduceSub, Nat.reduceLeDiff, Int.reduceLT, Int.reduceLE, Int.reduceEq, Int.reduceSub, Int.reduceAdd, Int.reduceMul, Int.reduceNeg, Int.reduceToNat, h1_0, h1_3, h1_4])
            repeat' refine And.intro ?_ ?_
            all_goals try first | rfl | omega | (simp only [lnA] <;> omega) | ((first | refine stp ?_ | refine dkz_eq ?_ ?_) <;> first | rfl | omega | (simp only [lnA] <;> omega) | (simp only [lnA, List.append_assoc, List.cons_append, List.nil_append]; done) | skip)
          · rw [s1, mxI_snoc (by omega)]
          · intro j hj
            by_cases e : j = i
            · rw [e]; exact hx
            · exact c1_2 j (by omega)
        · have g3 : (decide (1 ≤ f.getD i 0) && decide (f.getD i 0 ≤ 100)) = false := by
            rw [Bool.eq_false_iff]; intro h
            rw [Bool.and_eq_true, decide_eq_true_eq, decide_eq_true_eq] at h
            exact hx h
          have fc : True := trivial
          repeat' first
            | with_reducible first | refine stp ?_ | refine q_blk_o rfl ?_ | (refine hK _ ?_; clear hK) | (refine hA ?_; clear hA hB) | (refine hB ?_; clear hA hB) | exact v_end0 | exact v_end0' | refine v_gb1 ?_ ?_ | refine v_gb0 ?_ ?_ | refine And.intro ?_ ?_
            | (with_reducible refine p_ok ?_; decide)
            | ((first | with_reducible first | refine v_region rfl rfl (fun K hK => ?_) | refine v_draws rfl rfl (fun K hK => ?_) | refine v_if (fun A B hA hB => ?_) | refine v_end rfl ?_ | refine v_fin1 ?_ | refine v_finC1 ?_ | refine v_finR1 ?_ | refine v_callE (spec_l1In_c _ _ _) ?_ | refine v_callE (spec_l1Max_c _ _) ?_ | refine v_callE (spec_l1Bit_c _) ?_ | refine v_finO1 rfl ?_ | refine v_finN1 rfl ?_ ?_ | refine v_apj ?_ (fun j' => ?_) | refine v_stz ?_ ?_ ?_ ?_ ?_ | refine v_stq ?_ | refine v_cv1 ?_ ?_ ?_ | (intro hc; replace fc := And.intro hc fc; try simp only [hcs] at hc)) <;> (try simp (config := { maxSteps := 1000000 }) only [go_sem, ↓reduceIte, reduceCtorEq, Nat.reduceEqDiff, Nat.reduceAdd, Nat.reduceMul, Nat.reduceSub, Nat.reduceLeDiff, Int.reduceLT, Int.reduceLE, Int.reduceEq, Int.reduceSub, Int.reduceAdd, Int.reduceMul, Int.reduceNeg, Int.reduceToNat, h1_0, h1_3, h1_4, g3, fc]) <;> (try with_reducible rfl))
          all_goals try (first | omega | (simp only [n_i64, n_u8]; omega) | (simp only [n_i64, n_u8, lnA]; omega) | (simp only [lnA]; done))
      · exfalso
        rcases h1 with g | ⟨j, g1, g2⟩
        · have := c1_1 (by omega); omega
        · exact g2 (c1_2 j (by omega))
/-! ### the sum, the number of rows -/
def sG (f : List Int) : Nat → Int
  | 0 => 0
  | k + 1 => sG f k + geC ((k : Int) + 1) f
theorem sG_eq {f : List Int} : ∀ {k : Nat}, sumI (tfG f k) = sG f k
  | 0 => rfl
  | k + 1 => by rw [tfG_succ, sumI_snoc, sG_eq, sG]
theorem sG_nil : ∀ {k : Nat}, sG [] k = 0
  | 0 => rfl
  | k + 1 => by rw [sG, sG_nil]; rfl
theorem sG_cons {x : Int} {f : List Int} (h0 : 0 ≤ x) : ∀ {k : Nat}, sG (x :: f) k = min (k : Int) x + sG f k
  | 0 => by simp only [sG]; omega
  | k + 1 => by
    rw [sG, sG_cons h0, sG, geC]
    by_cases h : (k : Int) + 1 ≤ x
    · rw [decide_eq_true h, bitI, if_pos rfl]; omega
    · rw [decide_eq_false h, bitI, if_neg (by decide)]; omega
theorem sG_sum : ∀ {f : List Int} {k : Nat}, (∀ x ∈ f, 0 ≤ x ∧ x ≤ k) → sG f k = sumI f
  | [], k, _ => sG_nil
  | x :: f, k, h => by
    have h1 := h x List.mem_cons_self
    rw [sG_cons h1.1, sG_sum fun y hy => h y (List.mem_cons_of_mem _ hy), sumI]; omega
theorem tf_sum {f : List Int} (h : tfL f ≠ []) : sumI (tfL f) = sumI f := by
  have hb : tfB f = true := by
    rw [tfL] at h
    split at h
    · assumption
    · exact absurd rfl h
  have hr := (tfB_iff.1 hb).2
  rw [tfL, if_pos hb, sG_eq, sG_sum]
  intro x hx
  have := hr x hx; have := (mxI_ge (l := f)).2 x hx; omega
theorem tfG_mem {f : List Int} {k : Nat} {y : Int} : y ∈ tfG f k ↔ ∃ c : Nat, c < k ∧ y = geC ((c : Int) + 1) f := by
  simp only [tfG, List.mem_map, List.mem_range]
  constructor
  · rintro ⟨c, h, rfl⟩; exact ⟨c, h, rfl⟩
  · rintro ⟨c, h, rfl⟩; exact ⟨c, h, rfl⟩
theorem tf_back {f : List Int} (h : tfL f ≠ []) : (tfL (tfL f)).length = f.length := by
  have hb : tfB f = true := by
    rw [tfL] at h
    split at h
    · assumption
    · exact absurd rfl h
  obtain ⟨h8, hr⟩ := tfB_iff.1 hb
  have e : tfL f = tfG f (mxI f).toNat := if_pos hb
  have hm : mxI f ≤ 100 := mxI_le (by omega) fun x hx => (hr x hx).2
  have hm0 := (mxI_ge (l := f)).1
  rw [e] at h ⊢
  have hM : 0 < (mxI f).toNat := by
    rcases Nat.eq_zero_or_pos (mxI f).toNat with q | q
    · rw [q] at h; exact absurd rfl h
    · exact q
  have hB : tfB (tfG f (mxI f).toNat) = true := by
    rw [tfB_iff, tfG_len]
    refine ⟨by omega, fun y hy => ?_⟩
    obtain ⟨c, hc, rfl⟩ := tfG_mem.1 hy
    have h1 := geC_r (c := (c : Int) + 1) (l := f)
    have h2 := geC_0 (c := (c : Int) + 1) (by omega) (l := f)
    have h3 : geC ((c : Int) + 1) f ≠ 0 := fun q => by have := h2.1 q; omega
    omega
  have h1 : geC 1 f = f.length := geC_all fun x hx => (hr x hx).1
  have h2 : (f.length : Int) ≤ mxI (tfG f (mxI f).toNat) := by
    rw [← h1]
    exact (mxI_ge (l := tfG f (mxI f).toNat)).2 _ (tfG_mem.2 ⟨0, hM, by simp⟩)
  have h3 : mxI (tfG f (mxI f).toNat) ≤ f.length := mxI_le (by omega) fun y hy => by
    obtain ⟨c, _, rfl⟩ := tfG_mem.1 hy
    exact geC_r.2
  rw [tfL, if_pos hB, tfG_len]; omega
theorem tfL_b {f : List Int} : (tfL f).length ≤ 100 ∧ ∀ x ∈ tfL f, 0 ≤ x ∧ x ≤ 100 := by
  rw [tfL]
  split
  · rename_i hb
    obtain ⟨h8, hr⟩ := tfB_iff.1 hb
    have hm : mxI f ≤ 100 := mxI_le (by omega) fun x hx => (hr x hx).2
    refine ⟨by rw [tfG_len]; omega, fun x hx => ?_⟩
    obtain ⟨c, _, rfl⟩ := tfG_mem.1 hx
    have := geC_r (c := (c : Int) + 1) (l := f); omega
  · simp
