/-
  The root and the parts of a permutation: what their functions compute. Conditions: none.
-/
import Derived.Test.YtcnejdfpdgiffaaParts
import Derived.Test.YtcnejdfpdgiffaaGrow
import Derived.Test.YtcnejdfpdgiffaaWk
set_option linter.unusedSimpArgs false
set_option linter.unusedVariables false
set_option maxRecDepth 20000
set_option linter.unusedSectionVars false
namespace Go.Gl
open Go Go.Proofs
variable [Amb]
/-! ### lists without repetition -/
theorem len_two {α : Type} (p : α → Bool) : ∀ (l : List α), l.length = (l.filter p).length + (l.filter fun x => !p x).length
  | [] => rfl
  | x :: l => by
    have := len_two p l
    rw [List.filter_cons, List.filter_cons]
    cases p x <;> simp <;> omega
theorem nodup_le : ∀ {n : Nat} {l : List Int} {a : Int}, l.Nodup → (∀ x ∈ l, a < x ∧ x ≤ a + n) → l.length ≤ n
  | 0, l, a, _, hb => by
    cases l with
    | nil => simp
    | cons x l => have := hb x (by simp); omega
  | n + 1, l, a, hn, hb => by
    have h1 : (l.filter fun x => decide (x ≠ a + (n + 1 : Nat))).length ≤ n := nodup_le (a := a) (List.Nodup.sublist List.filter_sublist hn) fun x hx => by
      simp only [List.mem_filter, decide_eq_true_eq] at hx
      have := hb x hx.1
      refine ⟨this.1, ?_⟩
      have h2 := hx.2
      push_cast at h2 this ⊢
      omega
    have h2 : l.length ≤ (l.filter fun x => decide (x ≠ a + (n + 1 : Nat))).length + 1 := by
      have h3 := len_two (fun x => decide (x ≠ a + (n + 1 : Nat))) l
      have h4 : (l.filter fun x => !decide (x ≠ a + (n + 1 : Nat))).length ≤ 1 := by
        have h5 : (l.filter fun x => !decide (x ≠ a + (n + 1 : Nat))).Nodup := List.Nodup.sublist List.filter_sublist hn
        have h6 : ∀ x ∈ l.filter (fun x => !decide (x ≠ a + (n + 1 : Nat))), x = a + (n + 1 : Nat) := fun x hx => by
          simp only [List.mem_filter] at hx; simpa using hx.2
        revert h5 h6
        generalize l.filter (fun x => !decide (x ≠ a + (n + 1 : Nat))) = q
        intro h5 h6
        match q, h5, h6 with
        | [], _, _ => simp
        | [x], _, _ => simp
        | x :: y :: r, h5, h6 =>
          have e1 := h6 x (by simp)
          have e2 := h6 y (by simp)
          simp only [List.nodup_cons, List.mem_cons, not_or] at h5
          exact absurd (e1.trans e2.symm) h5.1.1
      omega
    omega
/-- A list without repetition that fills a range: how many of it are less than one of it. -/
theorem fill_count {l : List Int} {a : Int} (hn : l.Nodup) (hb : ∀ x ∈ l, a < x ∧ x ≤ a + l.length) {x : Int} (hx : x ∈ l) : ((l.filter fun y => decide (y < x)).length : Int) = x - a - 1 := by
  have h1 := hb x hx
  have h2 : (l.filter fun y => decide (y < x)).length ≤ (x - a - 1).toNat := nodup_le (a := a) (List.Nodup.sublist List.filter_sublist hn) fun y hy => by
    simp only [List.mem_filter, decide_eq_true_eq] at hy
    have := hb y hy.1; omega
  have h3 : (l.filter fun y => !decide (y < x)).length ≤ (a + l.length - (x - 1)).toNat := nodup_le (a := x - 1) (List.Nodup.sublist List.filter_sublist hn) fun y hy => by
    simp only [List.mem_filter, Bool.not_eq_true', decide_eq_false_iff_not] at hy
    have := hb y hy.1; omega
  have h4 := len_two (fun y => decide (y < x)) l
  omega
theorem patL_shift {l : List Int} {a : Int} (hn : l.Nodup) (hb : ∀ x ∈ l, a < x ∧ x ≤ a + l.length) : patL l = l.map fun x => x + -a := by
  refine List.map_congr_left fun x hx => ?_
  rw [rkI, List.take_length, fill_count hn hb hx]; omega
/-! ### the parts of a permutation's sum -/
theorem getD_seg {p : List Int} {x : Int} {a b : Nat} (h : x ∈ segL p a b) : ∃ j, a ≤ j ∧ j < b ∧ j < p.length ∧ p.getD j 0 = x := by
  obtain ⟨i, hi, rfl⟩ := List.getElem_of_mem h
  simp only [segL, List.length_drop, List.length_take] at hi
  refine ⟨a + i, by omega, by omega, by omega, ?_⟩
  simp only [segL, List.getElem_drop, List.getElem_take, List.getD_eq_getElem?_getD]
  rw [List.getElem?_eq_getElem (by omega)]; rfl
theorem maxI_le {p : List Int} {g : List Int → Nat → List Int} : ∀ {k : Nat}, k ≤ p.length → ∀ j, j < k → p.getD j 0 ≤ (spG g p k).2.2
  | k + 1, h, j, hj => by
    have ih := maxI_le (g := g) (p := p) (k := k) (by omega)
    have e : (spG g p (k + 1)).2.2 = max (spG g p k).2.2 (p.getD k 0) := by rw [spG]; split <;> rfl
    rw [e]
    by_cases hk : j = k
    · subst hk; omega
    · have := ih j (by omega); omega
/-- The places up to where a part ends hold the numbers up to there. -/
theorem spG_fill {p : List Int} {g : List Int → Nat → List Int} (hp : permB p = true) : ∀ {k : Nat}, k ≤ p.length → ∀ j, j < (spG g p k).2.1 → p.getD j 0 ≤ (spG g p k).2.1
  | 0, _, j, hj => by simp [spG] at hj
  | k + 1, h, j, hj => by
    rw [spG] at hj ⊢
    split at hj
    · rename_i e
      rw [if_pos e]
      simp only at hj ⊢
      have := maxI_le (g := g) h j hj
      have e2 : (spG g p (k + 1)).2.2 = max (spG g p k).2.2 (p.getD k 0) := by rw [spG]; split <;> rfl
      push_cast; omega
    · rename_i e
      rw [if_neg e]
      exact spG_fill hp (by omega) j hj
theorem nodup_take {p : List Int} (h : p.Nodup) {a b : Nat} : (segL p a b).Nodup := List.Nodup.sublist ((List.drop_sublist _ _).trans (List.take_sublist _ _)) h
/-- A part's numbers are those that follow on the numbers ahead of it. -/
theorem seg_fill {p : List Int} (hp : permB p = true) {f b : Nat} (hb : b ≤ p.length) (hf : f ≤ b) (h1 : ∀ j, j < f → p.getD j 0 ≤ f) (h2 : ∀ j, j < b → p.getD j 0 ≤ b) : ∀ x ∈ segL p f b, (f : Int) < x ∧ x ≤ f + (segL p f b).length := by
  intro x hx
  obtain ⟨j, j1, j2, j3, rfl⟩ := getD_seg hx
  have hq := permB_iff.1 hp
  rw [segL_len hb]
  refine ⟨?_, by have := h2 j j2; omega⟩
  -- the first f places fill 1 .. f: a number among them stands there already
  by_cases hlt : (f : Int) < p.getD j 0
  · exact hlt
  · exfalso
    have l1 : (p.getD j 0 :: p.take f).length ≤ f := nodup_le (a := 0) (by
      rw [List.nodup_cons]
      refine ⟨fun hm => ?_, List.Nodup.sublist (List.take_sublist _ _) hq.2⟩
      obtain ⟨i, hi, e⟩ := List.getElem_of_mem hm
      rw [List.getElem_take] at e
      have e2 : p[i]'(by simp at hi; omega) = p[j] := by rw [e, List.getD_eq_getElem?_getD, List.getElem?_eq_getElem j3]; rfl
      have := (List.getElem_inj hq.2).1 e2
      simp at hi; omega) fun x hx => by
      rcases List.mem_cons.1 hx with rfl | hx
      · have := hq.1 _ (getD_mem (d := 0) j3); omega
      · obtain ⟨i, hi, rfl⟩ := List.getElem_of_mem hx
        simp at hi
        have m1 := h1 i (by omega)
        rw [List.getElem_take]
        rw [List.getD_eq_getElem?_getD, List.getElem?_eq_getElem (by omega)] at m1
        have m2 := hq.1 _ (List.getElem_mem (l := p) (show i < p.length by omega))
        simp only [Option.getD_some] at m1
        omega
    simp at l1; omega
/-- Both ways of cutting a sum give the same parts. -/
theorem spG_pt {p : List Int} (hp : permB p = true) : ∀ {k : Nat}, k ≤ p.length → spG ptI p k = spG shI p k
  | 0, _ => rfl
  | k + 1, h => by
    have ih := spG_pt hp (k := k) (by omega)
    rw [spG, spG, ih]
    split
    · rename_i e
      have hm := maxI_le (g := shI) h
      have e2 : (spG shI p (k + 1)).2.2 = max (spG shI p k).2.2 (p.getD k 0) := by rw [spG]; split <;> rfl
      have hf := (spG_from (g := shI) (p := p) (k := k)).1
      have hx := seg_fill hp (f := (spG shI p k).2.1) (b := k + 1) h (by omega) (spG_fill hp (by omega)) (fun j hj => by have := hm j hj; push_cast; omega)
      have : ptI (segL p (spG shI p k).2.1 (k + 1)) (spG shI p k).2.1 = shI (segL p (spG shI p k).2.1 (k + 1)) (spG shI p k).2.1 := patL_shift (nodup_take (permB_iff.1 hp).2) hx
      rw [this]
    · rfl
/-! ### joined lists -/
theorem flat_take {L : List (List Int)} {k : Nat} (h : k < L.length) : (L.take (k + 1)).flatten = (L.take k).flatten ++ L.getD k [] := by
  rw [take_getD (d := []) h, List.flatten_append]; simp
theorem flat_le {L : List (List Int)} {n : Nat} (hl : ∀ l ∈ L, l.length ≤ n) : ∀ {k : Nat}, k ≤ L.length → (L.take k).flatten.length ≤ k * n
  | 0, _ => by simp
  | k + 1, h => by
    have h1 := flat_le hl (k := k) (by omega)
    have h2 := hl _ (getD_mem (d := []) (show k < L.length by omega))
    rw [flat_take (by omega), List.length_append, Nat.succ_mul]; omega
def sgCc : FuncId → List Bool := fun f => if f = 179 then [true] else []
theorem sgCc_eq {f : FuncId} : sgCc f = if f = 179 then [true] else [] := _root_.id rfl
theorem wayE_sgCc : wayE sgCc = false := _root_.id rfl
theorem wayN_sgCc : wayN sgCc = false := _root_.id rfl
theorem wayS_sgCc : wayS sgCc = false := _root_.id rfl
theorem wayZ_sgCc : wayZ sgCc = false := _root_.id rfl
attribute [go_sem] sgCc_eq wayE_sgCc wayN_sgCc wayS_sgCc wayZ_sgCc
theorem slices_Concat_int_int_c {e0 m0 : Bool} (L : List (List Int)) (hL : L.length ≤ 1000) (hl : ∀ l ∈ L, l.length ≤ 1000) : Fun Try.prog 175 [(.sl (.lent m0) (List.map (elI e0) (L)))] [(.sl .own (List.map (PV.int .i64) (L.flatten)))] := by
  refine Fun.of (sg := sgCc) (ts := [2]) mo Try.func175 rfl rfl rfl rfl (by kernel_rfl) (by simp only [go_sem]) rfl ?_
  have fc : True := trivial
  repeat' first
    | with_reducible first | refine stp ?_ | refine q_blk_o rfl ?_ | (refine hK _ ?_; clear hK) | (refine hA ?_; clear hA hB) | (refine hB ?_; clear hA hB) | exact v_end0 | exact v_end0' | refine v_gb1 ?_ ?_ | refine v_gb0 ?_ ?_ | refine And.intro ?_ ?_
    | (with_reducible refine p_ok ?_; decide)
    | ((first | with_reducible first | refine v_region rfl rfl (fun K hK => ?_) | refine v_draws rfl rfl (fun K hK => ?_) | refine v_if (fun A B hA hB => ?_) | refine v_end rfl ?_ | refine v_fin1 ?_ | refine v_finC1 ?_ | refine v_finO1 rfl ?_ | refine v_finN1 rfl ?_ ?_ | refine v_apj ?_ (fun j' => ?_) | refine v_stz ?_ ?_ ?_ ?_ ?_ | refine v_stq ?_ | refine v_cv1 ?_ ?_ ?_ | (intro hc; replace fc := And.intro hc fc; try simp only [hcs] at hc)) <;> (try simp (config := { maxSteps := 1000000 }) only [go_sem, ↓reduceIte, reduceCtorEq, Nat.reduceEqDiff, Nat.reduceAdd, Nat.reduceMul, Nat.reduceSub, Nat.reduceLeDiff, Int.reduceLT, Int.reduceLE, Int.reduceEq, Int.reduceSub, Int.reduceAdd, Int.reduceMul, Int.reduceNeg, Int.reduceToNat, fc]) <;> (try with_reducible rfl))
  all_goals try (first | omega | (simp only [n_i64, n_u8]; omega) | (simp only [n_i64, n_u8, lnA]; omega))
  refine v_loop (fun ms1 S1 => ∃ (k : Nat), S1.e 0 = .p (.sl (.lent m0) (List.map (elI e0) (L))) ∧ S1.e 9 = .p (.sl (.lent m0) (List.map (elI e0) (L))) ∧ S1.e 10 = .p (.int .i64 (L.length)) ∧ S1.e 11 = .p (.int .i64 (k)) ∧ S1.e 3 = .p (.int .i64 ((L.take k).flatten.length)) ∧ (k ≤ L.length) ∧ ms1 = L.length - k) ((fun (k : Nat) => L.length - k) (0)) ?init1_0 ?body1_0
  case' init1_0 =>
    refine ⟨0, ?_, ?_, ?_, ?_, ?_, ?_, rfl⟩
    all_goals (try simp only [go_sem, ↓reduceIte, reduceCtorEq, Nat.reduceEqDiff, Nat.reduceAdd, Nat.reduceMul, Nat.reduceSub, Nat.reduceLeDiff, Int.reduceLT, Int.reduceLE, Int.reduceEq, Int.reduceSub, Int.reduceAdd, Int.reduceMul, Int.reduceNeg, Int.reduceToNat])
    repeat' refine And.intro ?_ ?_
    all_goals try first | rfl | omega | (simp only [lnA] <;> omega) | ((first | refine stp ?_ | refine dkz_eq ?_ ?_) <;> first | rfl | omega | (simp only [lnA] <;> omega) | (simp only [lnA, List.append_assoc, List.cons_append, List.nil_append]; done) | skip)
  case' body1_0 =>
    rintro ms1 S1 ⟨k, h1_0, h1_9, h1_10, h1_11, h1_3, c1_0, hm1⟩
  have b1 := flat_le hl c1_0
  have b2 := Nat.mul_le_mul c1_0 (Nat.le_refl 1000)
  have b3 : k < L.length → (L.getD k []).length ≤ 1000 := fun h => hl _ (getD_mem h)
  have fc : True := trivial
  repeat' first
    | with_reducible first | refine stp ?_ | refine q_blk_o rfl ?_ | (refine hK _ ?_; clear hK) | (refine hA ?_; clear hA hB) | (refine hB ?_; clear hA hB) | exact v_end0 | exact v_end0' | refine v_gb1 ?_ ?_ | refine v_gb0 ?_ ?_ | refine And.intro ?_ ?_
    | (with_reducible refine p_ok ?_; decide)
    | ((first | with_reducible first | refine v_region rfl rfl (fun K hK => ?_) | refine v_draws rfl rfl (fun K hK => ?_) | refine v_if (fun A B hA hB => ?_) | refine v_end rfl ?_ | refine v_fin1 ?_ | refine v_finC1 ?_ | refine v_callE2 (slices_Grow_d _ ?_) ?_ | refine v_finO1 rfl ?_ | refine v_finN1 rfl ?_ ?_ | refine v_apj ?_ (fun j' => ?_) | refine v_stz ?_ ?_ ?_ ?_ ?_ | refine v_stq ?_ | refine v_cv1 ?_ ?_ ?_ | (intro hc; replace fc := And.intro hc fc; try simp only [hcs] at hc)) <;> (try simp (config := { maxSteps := 1000000 }) only [go_sem, ↓reduceIte, reduceCtorEq, Nat.reduceEqDiff, Nat.reduceAdd, Nat.reduceMul, Nat.reduceSub, Nat.reduceLeDiff, Int.reduceLT, Int.reduceLE, Int.reduceEq, Int.reduceSub, Int.reduceAdd, Int.reduceMul, Int.reduceNeg, Int.reduceToNat, h1_0, h1_9, h1_10, h1_11, h1_3, fc]) <;> (try with_reducible rfl))
  all_goals try have b4 := b3 (by omega)
  all_goals try (first | omega | (simp only [n_i64, n_u8]; omega) | (simp only [n_i64, n_u8, lnA]; omega))
  · focus
      refine q_lp_n ((fun (k : Nat) => L.length - k) (k+1)) ?_ ⟨k+1, ?_, ?_, ?_, ?_, ?_, ?_, rfl⟩
      all_goals (try simp only [go_sem, ↓reduceIte, reduceCtorEq, Nat.reduceEqDiff, Nat.reduceAdd, Nat.reduceMul, Nat.reduceSub, Nat.reduceLeDiff, Int.reduceLT, Int.reduceLE, Int.reduceEq, Int.reduceSub, Int.reduceAdd, Int.reduceMul, Int.reduceNeg, Int.reduceToNat, h1_0, h1_9, h1_10, h1_11, h1_3])
      repeat' refine And.intro ?_ ?_
      all_goals try first | rfl | omega | (simp only [lnA] <;> omega) | ((first | refine stp ?_ | refine dkz_eq ?_ ?_) <;> first | rfl | omega | (simp only [lnA] <;> omega) | (simp only [lnA, List.append_assoc, List.cons_append, List.nil_append]; done) | skip)
    rw [flat_take (by omega), List.length_append]; push_cast; rfl
  · refine v_loop (fun ms2 S2 => ∃ (j : Nat), S2.e 25 = .p (.sl (.lent m0) (List.map (elI e0) (L))) ∧ S2.e 26 = .p (.int .i64 (L.length)) ∧ S2.e 27 = .p (.int .i64 (j)) ∧ OwnL (S2.e 6) S2.h S2.n (PV.int .i64) (((L.take j).flatten).length) ((L.take j).flatten) ∧ (j ≤ L.length) ∧ S1.n ≤ S2.n ∧ ms2 = L.length - j) ((fun (j : Nat) => L.length - j) (0)) ?init2_1 ?body2_1
    case' init2_1 =>
      refine ⟨0, ?_, ?_, ?_, ?_, ?_, ?_, rfl⟩
      all_goals (try simp only [go_sem, ↓reduceIte, reduceCtorEq, Nat.reduceEqDiff, Nat.reduceAdd, Nat.reduceMul, Nat.reduceSub, Nat.reduceLeDiff, Int.reduceLT, Int.reduceLE, Int.reduceEq, Int.reduceSub, Int.reduceAdd, Int.reduceMul, Int.reduceNeg, Int.reduceToNat, h1_0, h1_9, h1_10, h1_11, h1_3])
      repeat' refine And.intro ?_ ?_
      all_goals try first | rfl | omega | (simp only [lnA] <;> omega) | ((first | refine stp ?_ | refine dkz_eq ?_ ?_) <;> first | rfl | omega | (simp only [lnA] <;> omega) | (simp only [lnA, List.append_assoc, List.cons_append, List.nil_append]; done) | skip)
    case' body2_1 =>
      rintro ms2 S2 ⟨j, h2_25, h2_26, h2_27, o2_6, c2_0, u2_0, hm2⟩
      obtain ⟨i2_6, h2_6, b2_6, l2_6⟩ := o2_6.out
      have ni2_6 : ∀ c, (i2_6 = S2.n + c) = False := fun c => eq_false (by omega)
      have pi2_6 : ∀ c, (S2.n + c = i2_6) = False := fun c => eq_false (by omega)
      have qi2_6 : (i2_6 = S2.n) = False := eq_false (by omega)
      have ri2_6 : (S2.n = i2_6) = False := eq_false (by omega)
    have b5 := flat_le hl c2_0
    have b6 := Nat.mul_le_mul c2_0 (Nat.le_refl 1000)
    have b7 : j < L.length → (L.getD j []).length ≤ 1000 := fun h => hl _ (getD_mem h)
    have fc : True := trivial
    repeat' first
      | with_reducible first | refine stp ?_ | refine q_blk_o rfl ?_ | (refine hK _ ?_; clear hK) | (refine hA ?_; clear hA hB) | (refine hB ?_; clear hA hB) | exact v_end0 | exact v_end0' | refine v_gb1 ?_ ?_ | refine v_gb0 ?_ ?_ | refine And.intro ?_ ?_
      | (with_reducible refine p_ok ?_; decide)
      | ((first | with_reducible first | refine v_region rfl rfl (fun K hK => ?_) | refine v_draws rfl rfl (fun K hK => ?_) | refine v_if (fun A B hA hB => ?_) | refine v_end rfl ?_ | refine v_fin1 ?_ | refine v_finC1 ?_ | refine v_finO1 rfl ?_ | refine v_finN1 rfl ?_ ?_ | refine v_apj ?_ (fun j' => ?_) | refine v_stz ?_ ?_ ?_ ?_ ?_ | refine v_stq ?_ | refine v_cv1 ?_ ?_ ?_ | (intro hc; replace fc := And.intro hc fc; try simp only [hcs] at hc)) <;> (try simp (config := { maxSteps := 1000000 }) only [go_sem, ↓reduceIte, reduceCtorEq, Nat.reduceEqDiff, Nat.reduceAdd, Nat.reduceMul, Nat.reduceSub, Nat.reduceLeDiff, Int.reduceLT, Int.reduceLE, Int.reduceEq, Int.reduceSub, Int.reduceAdd, Int.reduceMul, Int.reduceNeg, Int.reduceToNat, h2_25, h2_26, h2_27, h2_6, b2_6, ni2_6, pi2_6, qi2_6, ri2_6, fc]) <;> (try with_reducible rfl))
    all_goals try have b8 := b7 (by omega)
    all_goals try (first | omega | (simp only [n_i64, n_u8]; omega) | (simp only [n_i64, n_u8, lnA]; omega))
    · focus
        refine q_lp_n ((fun (j : Nat) => L.length - j) (j+1)) ?_ ⟨j+1, ?_, ?_, ?_, ?_, ?_, ?_, rfl⟩
        all_goals (try simp only [go_sem, ↓reduceIte, reduceCtorEq, Nat.reduceEqDiff, Nat.reduceAdd, Nat.reduceMul, Nat.reduceSub, Nat.reduceLeDiff, Int.reduceLT, Int.reduceLE, Int.reduceEq, Int.reduceSub, Int.reduceAdd, Int.reduceMul, Int.reduceNeg, Int.reduceToNat, h2_25, h2_26, h2_27, h2_6, b2_6, ni2_6, pi2_6, qi2_6, ri2_6])
        repeat' refine And.intro ?_ ?_
        all_goals try first | rfl | omega | (simp only [lnA] <;> omega) | ((first | refine stp ?_ | refine dkz_eq ?_ ?_) <;> first | rfl | omega | (simp only [lnA] <;> omega) | (simp only [lnA, List.append_assoc, List.cons_append, List.nil_append]; done) | skip)
      all_goals (rw [flat_take (by omega)] <;> simp only [List.length_append])
    · rw [List.take_of_length_le (by omega)]
theorem impl_pattern_c {m0 : Bool} (l : List Int) (hl : l.length ≤ 1048576) : Fun Try.prog 133 [(.sl (.lent m0) (List.map (PV.int .i64) (l)))] [(.sl .own (List.map (PV.int .i64) (patL l)))] := by
  refine Fun.of (sg := sg0) (ts := [2]) mo Try.func133 rfl rfl rfl rfl (by kernel_rfl) (by simp only [go_sem]) rfl ?_
  have fc : True := trivial
  repeat' first
    | with_reducible first | refine stp ?_ | refine q_blk_o rfl ?_ | (refine hK _ ?_; clear hK) | (refine hA ?_; clear hA hB) | (refine hB ?_; clear hA hB) | exact v_end0 | exact v_end0' | refine v_gb1 ?_ ?_ | refine v_gb0 ?_ ?_ | refine And.intro ?_ ?_
    | (with_reducible refine p_ok ?_; decide)
    | ((first | with_reducible first | refine v_region rfl rfl (fun K hK => ?_) | refine v_draws rfl rfl (fun K hK => ?_) | refine v_if (fun A B hA hB => ?_) | refine v_end rfl ?_ | refine v_fin1 ?_ | refine v_finC1 ?_ | refine v_finO1 rfl ?_ | refine v_finN1 rfl ?_ ?_ | refine v_apj ?_ (fun j' => ?_) | refine v_stz ?_ ?_ ?_ ?_ ?_ | refine v_stq ?_ | refine v_cv1 ?_ ?_ ?_ | (intro hc; replace fc := And.intro hc fc; try simp only [hcs] at hc)) <;> (try simp (config := { maxSteps := 1000000 }) only [go_sem, ↓reduceIte, reduceCtorEq, Nat.reduceEqDiff, Nat.reduceAdd, Nat.reduceMul, Nat.reduceSub, Nat.reduceLeDiff, Int.reduceLT, Int.reduceLE, Int.reduceEq, Int.reduceSub, Int.reduceAdd, Int.reduceMul, Int.reduceNeg, Int.reduceToNat, fc]) <;> (try with_reducible rfl))
  all_goals try (first | omega | (simp only [n_i64, n_u8]; omega) | (simp only [n_i64, n_u8, lnA]; omega))
  refine v_loop (fun ms1 S1 => ∃ (k : Nat), S1.e 0 = .p (.sl (.lent m0) (List.map (PV.int .i64) (l))) ∧ S1.e 10 = .p (.sl (.lent m0) (List.map (PV.int .i64) (l))) ∧ S1.e 11 = .p (.int .i64 (l.length)) ∧ S1.e 12 = .p (.int .i64 (k)) ∧ OwnL (S1.e 3) S1.h S1.n (PV.int .i64) (((l.take k).map (fun x => rkI l x l.length)).length) ((l.take k).map (fun x => rkI l x l.length)) ∧ (k ≤ l.length) ∧ ms1 = l.length - k) ((fun (k : Nat) => l.length - k) (0)) ?init1_2 ?body1_2
  case' init1_2 =>
    refine ⟨0, ?_, ?_, ?_, ?_, ?_, ?_, rfl⟩
    all_goals (try simp only [go_sem, ↓reduceIte, reduceCtorEq, Nat.reduceEqDiff, Nat.reduceAdd, Nat.reduceMul, Nat.reduceSub, Nat.reduceLeDiff, Int.reduceLT, Int.reduceLE, Int.reduceEq, Int.reduceSub, Int.reduceAdd, Int.reduceMul, Int.reduceNeg, Int.reduceToNat])
    repeat' refine And.intro ?_ ?_
    all_goals try first | rfl | omega | (simp only [lnA] <;> omega) | ((first | refine stp ?_ | refine dkz_eq ?_ ?_) <;> first | rfl | omega | (simp only [lnA] <;> omega) | (simp only [lnA, List.append_assoc, List.cons_append, List.nil_append]; done) | skip)
  case' body1_2 =>
    rintro ms1 S1 ⟨k, h1_0, h1_10, h1_11, h1_12, o1_3, c1_0, hm1⟩
    obtain ⟨i1_3, h1_3, b1_3, l1_3⟩ := o1_3.out
    have ni1_3 : ∀ c, (i1_3 = S1.n + c) = False := fun c => eq_false (by omega)
    have pi1_3 : ∀ c, (S1.n + c = i1_3) = False := fun c => eq_false (by omega)
    have qi1_3 : (i1_3 = S1.n) = False := eq_false (by omega)
    have ri1_3 : (S1.n = i1_3) = False := eq_false (by omega)
  have fc : True := trivial
  repeat' first
    | with_reducible first | refine stp ?_ | refine q_blk_o rfl ?_ | (refine hK _ ?_; clear hK) | (refine hA ?_; clear hA hB) | (refine hB ?_; clear hA hB) | exact v_end0 | exact v_end0' | refine v_gb1 ?_ ?_ | refine v_gb0 ?_ ?_ | refine And.intro ?_ ?_
    | (with_reducible refine p_ok ?_; decide)
    | ((first | with_reducible first | refine v_region rfl rfl (fun K hK => ?_) | refine v_draws rfl rfl (fun K hK => ?_) | refine v_if (fun A B hA hB => ?_) | refine v_end rfl ?_ | refine v_fin1 ?_ | refine v_finC1 ?_ | refine v_finO1 rfl ?_ | refine v_finN1 rfl ?_ ?_ | refine v_apj ?_ (fun j' => ?_) | refine v_stz ?_ ?_ ?_ ?_ ?_ | refine v_stq ?_ | refine v_cv1 ?_ ?_ ?_ | (intro hc; replace fc := And.intro hc fc; try simp only [hcs] at hc)) <;> (try simp (config := { maxSteps := 1000000 }) only [go_sem, ↓reduceIte, reduceCtorEq, Nat.reduceEqDiff, Nat.reduceAdd, Nat.reduceMul, Nat.reduceSub, Nat.reduceLeDiff, Int.reduceLT, Int.reduceLE, Int.reduceEq, Int.reduceSub, Int.reduceAdd, Int.reduceMul, Int.reduceNeg, Int.reduceToNat, h1_0, h1_10, h1_11, h1_12, h1_3, b1_3, ni1_3, pi1_3, qi1_3, ri1_3, fc]) <;> (try with_reducible rfl))
  all_goals try (first | omega | (simp only [n_i64, n_u8]; omega) | (simp only [n_i64, n_u8, lnA]; omega))
  · refine v_loop (fun ms2 S2 => ∃ (j : Nat), S2.e 0 = .p (.sl (.lent m0) (List.map (PV.int .i64) (l))) ∧ S2.e 10 = .p (.sl (.lent m0) (List.map (PV.int .i64) (l))) ∧ S2.e 11 = .p (.int .i64 (l.length)) ∧ S2.e 12 = .p (.int .i64 (k)) ∧ OwnL (S2.e 3) S2.h S2.n (PV.int .i64) (((l.take k).map (fun x => rkI l x l.length)).length) ((l.take k).map (fun x => rkI l x l.length)) ∧ S2.e 5 = .p (.int .i64 (l.getD k 0)) ∧ S2.e 16 = .p (.sl (.lent m0) (List.map (PV.int .i64) (l))) ∧ S2.e 17 = .p (.int .i64 (l.length)) ∧ S2.e 18 = .p (.int .i64 (j)) ∧ S2.e 6 = .p (.int .i64 (rkI l (l.getD k 0) j)) ∧ (j ≤ l.length) ∧ (k < l.length) ∧ S1.n ≤ S2.n ∧ ms2 = l.length - j) ((fun (j : Nat) => l.length - j) (0)) ?init2_3 ?body2_3
    case' init2_3 =>
      refine ⟨0, ?_, ?_, ?_, ?_, ?_, ?_, ?_, ?_, ?_, ?_, ?_, ?_, ?_, rfl⟩
      all_goals (try simp only [go_sem, ↓reduceIte, reduceCtorEq, Nat.reduceEqDiff, Nat.reduceAdd, Nat.reduceMul, Nat.reduceSub, Nat.reduceLeDiff, Int.reduceLT, Int.reduceLE, Int.reduceEq, Int.reduceSub, Int.reduceAdd, Int.reduceMul, Int.reduceNeg, Int.reduceToNat, h1_0, h1_10, h1_11, h1_12, h1_3, b1_3, ni1_3, pi1_3, qi1_3, ri1_3])
      repeat' refine And.intro ?_ ?_
      all_goals try first | rfl | omega | (simp only [lnA] <;> omega) | ((first | refine stp ?_ | refine dkz_eq ?_ ?_) <;> first | rfl | omega | (simp only [lnA] <;> omega) | (simp only [lnA, List.append_assoc, List.cons_append, List.nil_append]; done) | skip)
    case' body2_3 =>
      rintro ms2 S2 ⟨j, h2_0, h2_10, h2_11, h2_12, o2_3, h2_5, h2_16, h2_17, h2_18, h2_6, c2_0, c2_1, u2_0, hm2⟩
      obtain ⟨i2_3, h2_3, b2_3, l2_3⟩ := o2_3.out
      have ni2_3 : ∀ c, (i2_3 = S2.n + c) = False := fun c => eq_false (by omega)
      have pi2_3 : ∀ c, (S2.n + c = i2_3) = False := fun c => eq_false (by omega)
      have qi2_3 : (i2_3 = S2.n) = False := eq_false (by omega)
      have ri2_3 : (S2.n = i2_3) = False := eq_false (by omega)
    have b1 := rkI_b (l := l) (x := l.getD k 0) (k := j)
    have fc : True := trivial
    repeat' first
      | with_reducible first | refine stp ?_ | refine q_blk_o rfl ?_ | (refine hK _ ?_; clear hK) | (refine hA ?_; clear hA hB) | (refine hB ?_; clear hA hB) | exact v_end0 | exact v_end0' | refine v_gb1 ?_ ?_ | refine v_gb0 ?_ ?_ | refine And.intro ?_ ?_
      | (with_reducible refine p_ok ?_; decide)
      | ((first | with_reducible first | refine v_region rfl rfl (fun K hK => ?_) | refine v_draws rfl rfl (fun K hK => ?_) | refine v_if (fun A B hA hB => ?_) | refine v_end rfl ?_ | refine v_fin1 ?_ | refine v_finC1 ?_ | refine v_finO1 rfl ?_ | refine v_finN1 rfl ?_ ?_ | refine v_apj ?_ (fun j' => ?_) | refine v_stz ?_ ?_ ?_ ?_ ?_ | refine v_stq ?_ | refine v_cv1 ?_ ?_ ?_ | (intro hc; replace fc := And.intro hc fc; try simp only [hcs] at hc)) <;> (try simp (config := { maxSteps := 1000000 }) only [go_sem, ↓reduceIte, reduceCtorEq, Nat.reduceEqDiff, Nat.reduceAdd, Nat.reduceMul, Nat.reduceSub, Nat.reduceLeDiff, Int.reduceLT, Int.reduceLE, Int.reduceEq, Int.reduceSub, Int.reduceAdd, Int.reduceMul, Int.reduceNeg, Int.reduceToNat, h2_0, h2_10, h2_11, h2_12, h2_5, h2_16, h2_17, h2_18, h2_6, h2_3, b2_3, ni2_3, pi2_3, qi2_3, ri2_3, fc]) <;> (try with_reducible rfl))
    all_goals try (first | omega | (simp only [n_i64, n_u8]; omega) | (simp only [n_i64, n_u8, lnA]; omega))
    · focus
        refine q_lp_n ((fun (j : Nat) => l.length - j) (j+1)) ?_ ⟨j+1, ?_, ?_, ?_, ?_, ?_, ?_, ?_, ?_, ?_, ?_, ?_, ?_, ?_, rfl⟩
        all_goals (try simp only [go_sem, ↓reduceIte, reduceCtorEq, Nat.reduceEqDiff, Nat.reduceAdd, Nat.reduceMul, Nat.reduceSub, Nat.reduceLeDiff, Int.reduceLT, Int.reduceLE, Int.reduceEq, Int.reduceSub, Int.reduceAdd, Int.reduceMul, Int.reduceNeg, Int.reduceToNat, h2_0, h2_10, h2_11, h2_12, h2_5, h2_16, h2_17, h2_18, h2_6, h2_3, b2_3, ni2_3, pi2_3, qi2_3, ri2_3])
        repeat' refine And.intro ?_ ?_
        all_goals try first | rfl | omega | (simp only [lnA] <;> omega) | ((first | refine stp ?_ | refine dkz_eq ?_ ?_) <;> first | rfl | omega | (simp only [lnA] <;> omega) | (simp only [lnA, List.append_assoc, List.cons_append, List.nil_append]; done) | skip)
      rw [rkI_succ (by omega), decide_eq_true hc]; rfl
    · focus
        refine q_lp_n ((fun (j : Nat) => l.length - j) (j+1)) ?_ ⟨j+1, ?_, ?_, ?_, ?_, ?_, ?_, ?_, ?_, ?_, ?_, ?_, ?_, ?_, rfl⟩
        all_goals (try simp only [go_sem, ↓reduceIte, reduceCtorEq, Nat.reduceEqDiff, Nat.reduceAdd, Nat.reduceMul, Nat.reduceSub, Nat.reduceLeDiff, Int.reduceLT, Int.reduceLE, Int.reduceEq, Int.reduceSub, Int.reduceAdd, Int.reduceMul, Int.reduceNeg, Int.reduceToNat, h2_0, h2_10, h2_11, h2_12, h2_5, h2_16, h2_17, h2_18, h2_6, h2_3, b2_3, ni2_3, pi2_3, qi2_3, ri2_3])
        repeat' refine And.intro ?_ ?_
        all_goals try first | rfl | omega | (simp only [lnA] <;> omega) | ((first | refine stp ?_ | refine dkz_eq ?_ ?_) <;> first | rfl | omega | (simp only [lnA] <;> omega) | (simp only [lnA, List.append_assoc, List.cons_append, List.nil_append]; done) | skip)
      rw [rkI_succ (by omega), decide_eq_false (by omega)]; simp [bitI]
    · focus
        refine q_lp_n ((fun (k : Nat) => l.length - k) (k+1)) ?_ ⟨k+1, ?_, ?_, ?_, ?_, ?_, ?_, rfl⟩
        all_goals (try simp only [go_sem, ↓reduceIte, reduceCtorEq, Nat.reduceEqDiff, Nat.reduceAdd, Nat.reduceMul, Nat.reduceSub, Nat.reduceLeDiff, Int.reduceLT, Int.reduceLE, Int.reduceEq, Int.reduceSub, Int.reduceAdd, Int.reduceMul, Int.reduceNeg, Int.reduceToNat, h2_0, h2_10, h2_11, h2_12, h2_5, h2_16, h2_17, h2_18, h2_6, h2_3, b2_3, ni2_3, pi2_3, qi2_3, ri2_3])
        repeat' refine And.intro ?_ ?_
        all_goals try first | rfl | omega | (simp only [lnA] <;> omega) | ((first | refine stp ?_ | refine dkz_eq ?_ ?_) <;> first | rfl | omega | (simp only [lnA] <;> omega) | (simp only [lnA, List.append_assoc, List.cons_append, List.nil_append]; done) | skip)
      all_goals (obtain rfl : j = l.length := by omega)
      rw [take_getD (d := 0) (by omega), List.map_append]; rfl
  · rw [List.take_of_length_le (by omega)]; rfl
def cplL (p : List Int) : List Int := p.map fun v => (p.length : Int) + 1 - v
theorem impl_complement_c {m0 : Bool} (p : List Int) (hl : p.length ≤ 1048576) (hb : ∀ x ∈ p, 0 ≤ x ∧ x ≤ 1048576) : Fun Try.prog 158 [(.sl (.lent m0) (List.map (PV.int .i64) (p)))] [(.sl .own (List.map (PV.int .i64) (cplL p)))] := by
  refine Fun.of (sg := sg0) (ts := [2]) mo Try.func158 rfl rfl rfl rfl (by kernel_rfl) (by simp only [go_sem]) rfl ?_
  have fc : True := trivial
  repeat' first
    | with_reducible first | refine stp ?_ | refine q_blk_o rfl ?_ | (refine hK _ ?_; clear hK) | (refine hA ?_; clear hA hB) | (refine hB ?_; clear hA hB) | exact v_end0 | exact v_end0' | refine v_gb1 ?_ ?_ | refine v_gb0 ?_ ?_ | refine And.intro ?_ ?_
    | (with_reducible refine p_ok ?_; decide)
    | ((first | with_reducible first | refine v_region rfl rfl (fun K hK => ?_) | refine v_draws rfl rfl (fun K hK => ?_) | refine v_if (fun A B hA hB => ?_) | refine v_end rfl ?_ | refine v_fin1 ?_ | refine v_finC1 ?_ | refine v_finO1 rfl ?_ | refine v_finN1 rfl ?_ ?_ | refine v_apj ?_ (fun j' => ?_) | refine v_stz ?_ ?_ ?_ ?_ ?_ | refine v_stq ?_ | refine v_cv1 ?_ ?_ ?_ | (intro hc; replace fc := And.intro hc fc; try simp only [hcs] at hc)) <;> (try simp (config := { maxSteps := 1000000 }) only [go_sem, ↓reduceIte, reduceCtorEq, Nat.reduceEqDiff, Nat.reduceAdd, Nat.reduceMul, Nat.reduceSub, Nat.reduceLeDiff, Int.reduceLT, Int.reduceLE, Int.reduceEq, Int.reduceSub, Int.reduceAdd, Int.reduceMul, Int.reduceNeg, Int.reduceToNat, fc]) <;> (try with_reducible rfl))
  all_goals try (first | omega | (simp only [n_i64, n_u8]; omega) | (simp only [n_i64, n_u8, lnA]; omega))
  refine v_loop (fun ms1 S1 => ∃ (k : Nat), S1.e 0 = .p (.sl (.lent m0) (List.map (PV.int .i64) (p))) ∧ S1.e 7 = .p (.sl (.lent m0) (List.map (PV.int .i64) (p))) ∧ S1.e 8 = .p (.int .i64 (p.length)) ∧ S1.e 9 = .p (.int .i64 (k)) ∧ OwnL (S1.e 3) S1.h S1.n (PV.int .i64) (((p.take k).map (fun v => (p.length : Int) + 1 - v)).length) ((p.take k).map (fun v => (p.length : Int) + 1 - v)) ∧ (k ≤ p.length) ∧ ms1 = p.length - k) ((fun (k : Nat) => p.length - k) (0)) ?init1_4 ?body1_4
  case' init1_4 =>
    refine ⟨0, ?_, ?_, ?_, ?_, ?_, ?_, rfl⟩
    all_goals (try simp only [go_sem, ↓reduceIte, reduceCtorEq, Nat.reduceEqDiff, Nat.reduceAdd, Nat.reduceMul, Nat.reduceSub, Nat.reduceLeDiff, Int.reduceLT, Int.reduceLE, Int.reduceEq, Int.reduceSub, Int.reduceAdd, Int.reduceMul, Int.reduceNeg, Int.reduceToNat])
    repeat' refine And.intro ?_ ?_
    all_goals try first | rfl | omega | (simp only [lnA] <;> omega) | ((first | refine stp ?_ | refine dkz_eq ?_ ?_) <;> first | rfl | omega | (simp only [lnA] <;> omega) | (simp only [lnA, List.append_assoc, List.cons_append, List.nil_append]; done) | skip)
  case' body1_4 =>
    rintro ms1 S1 ⟨k, h1_0, h1_7, h1_8, h1_9, o1_3, c1_0, hm1⟩
    obtain ⟨i1_3, h1_3, b1_3, l1_3⟩ := o1_3.out
    have ni1_3 : ∀ c, (i1_3 = S1.n + c) = False := fun c => eq_false (by omega)
    have pi1_3 : ∀ c, (S1.n + c = i1_3) = False := fun c => eq_false (by omega)
    have qi1_3 : (i1_3 = S1.n) = False := eq_false (by omega)
    have ri1_3 : (S1.n = i1_3) = False := eq_false (by omega)
  have b1 : k < p.length → 0 ≤ p.getD k 0 ∧ p.getD k 0 ≤ 1048576 := fun h => hb _ (getD_mem h)
  have fc : True := trivial
  repeat' first
    | with_reducible first | refine stp ?_ | refine q_blk_o rfl ?_ | (refine hK _ ?_; clear hK) | (refine hA ?_; clear hA hB) | (refine hB ?_; clear hA hB) | exact v_end0 | exact v_end0' | refine v_gb1 ?_ ?_ | refine v_gb0 ?_ ?_ | refine And.intro ?_ ?_
    | (with_reducible refine p_ok ?_; decide)
    | ((first | with_reducible first | refine v_region rfl rfl (fun K hK => ?_) | refine v_draws rfl rfl (fun K hK => ?_) | refine v_if (fun A B hA hB => ?_) | refine v_end rfl ?_ | refine v_fin1 ?_ | refine v_finC1 ?_ | refine v_finO1 rfl ?_ | refine v_finN1 rfl ?_ ?_ | refine v_apj ?_ (fun j' => ?_) | refine v_stz ?_ ?_ ?_ ?_ ?_ | refine v_stq ?_ | refine v_cv1 ?_ ?_ ?_ | (intro hc; replace fc := And.intro hc fc; try simp only [hcs] at hc)) <;> (try simp (config := { maxSteps := 1000000 }) only [go_sem, ↓reduceIte, reduceCtorEq, Nat.reduceEqDiff, Nat.reduceAdd, Nat.reduceMul, Nat.reduceSub, Nat.reduceLeDiff, Int.reduceLT, Int.reduceLE, Int.reduceEq, Int.reduceSub, Int.reduceAdd, Int.reduceMul, Int.reduceNeg, Int.reduceToNat, h1_0, h1_7, h1_8, h1_9, h1_3, b1_3, ni1_3, pi1_3, qi1_3, ri1_3, fc]) <;> (try with_reducible rfl))
  all_goals try have b2 := b1 (by omega)
  all_goals try (first | omega | (simp only [n_i64, n_u8]; omega) | (simp only [n_i64, n_u8, lnA]; omega))
  · focus
      refine q_lp_n ((fun (k : Nat) => p.length - k) (k+1)) ?_ ⟨k+1, ?_, ?_, ?_, ?_, ?_, ?_, rfl⟩
      all_goals (try simp only [go_sem, ↓reduceIte, reduceCtorEq, Nat.reduceEqDiff, Nat.reduceAdd, Nat.reduceMul, Nat.reduceSub, Nat.reduceLeDiff, Int.reduceLT, Int.reduceLE, Int.reduceEq, Int.reduceSub, Int.reduceAdd, Int.reduceMul, Int.reduceNeg, Int.reduceToNat, h1_0, h1_7, h1_8, h1_9, h1_3, b1_3, ni1_3, pi1_3, qi1_3, ri1_3])
      repeat' refine And.intro ?_ ?_
      all_goals try first | rfl | omega | (simp only [lnA] <;> omega) | ((first | refine stp ?_ | refine dkz_eq ?_ ?_) <;> first | rfl | omega | (simp only [lnA] <;> omega) | (simp only [lnA, List.append_assoc, List.cons_append, List.nil_append]; done) | skip)
    rw [take_getD (d := 0) (by omega), List.map_append]; rfl
  · rw [List.take_of_length_le (by omega)]; rfl
theorem spec_l3Complement_c {m0 : Bool} (p : List Int) (hl : p.length ≤ 1048576) (hb : ∀ x ∈ p, 0 ≤ x ∧ x ≤ 1048576) : Fun Try.prog 174 [(.sl (.lent m0) (List.map (PV.int .i64) (p)))] [(.sl .own (List.map (PV.int .i64) (cplL p)))] := by
  refine Fun.of (sg := sg0) (ts := [2]) mo Try.func174 rfl rfl rfl rfl (by kernel_rfl) (by simp only [go_sem]) rfl ?_
  have fc : True := trivial
  repeat' first
    | with_reducible first | refine stp ?_ | refine q_blk_o rfl ?_ | (refine hK _ ?_; clear hK) | (refine hA ?_; clear hA hB) | (refine hB ?_; clear hA hB) | exact v_end0 | exact v_end0' | refine v_gb1 ?_ ?_ | refine v_gb0 ?_ ?_ | refine And.intro ?_ ?_
    | (with_reducible refine p_ok ?_; decide)
    | ((first | with_reducible first | refine v_region rfl rfl (fun K hK => ?_) | refine v_draws rfl rfl (fun K hK => ?_) | refine v_if (fun A B hA hB => ?_) | refine v_end rfl ?_ | refine v_fin1 ?_ | refine v_finC1 ?_ | refine v_finO1 rfl ?_ | refine v_finN1 rfl ?_ ?_ | refine v_apj ?_ (fun j' => ?_) | refine v_stz ?_ ?_ ?_ ?_ ?_ | refine v_stq ?_ | refine v_cv1 ?_ ?_ ?_ | (intro hc; replace fc := And.intro hc fc; try simp only [hcs] at hc)) <;> (try simp (config := { maxSteps := 1000000 }) only [go_sem, ↓reduceIte, reduceCtorEq, Nat.reduceEqDiff, Nat.reduceAdd, Nat.reduceMul, Nat.reduceSub, Nat.reduceLeDiff, Int.reduceLT, Int.reduceLE, Int.reduceEq, Int.reduceSub, Int.reduceAdd, Int.reduceMul, Int.reduceNeg, Int.reduceToNat, fc]) <;> (try with_reducible rfl))
  all_goals try (first | omega | (simp only [n_i64, n_u8]; omega) | (simp only [n_i64, n_u8, lnA]; omega))
  refine v_loop (fun ms1 S1 => ∃ (k : Nat), S1.e 0 = .p (.sl (.lent m0) (List.map (PV.int .i64) (p))) ∧ S1.e 4 = .p (.int .i64 (k)) ∧ OwnL (S1.e 3) S1.h S1.n (PV.int .i64) (((p.take k).map (fun v => (p.length : Int) + 1 - v)).length) ((p.take k).map (fun v => (p.length : Int) + 1 - v)) ∧ (k ≤ p.length) ∧ ms1 = p.length - k) ((fun (k : Nat) => p.length - k) (0)) ?init1_5 ?body1_5
  case' init1_5 =>
    refine ⟨0, ?_, ?_, ?_, ?_, rfl⟩
    all_goals (try simp only [go_sem, ↓reduceIte, reduceCtorEq, Nat.reduceEqDiff, Nat.reduceAdd, Nat.reduceMul, Nat.reduceSub, Nat.reduceLeDiff, Int.reduceLT, Int.reduceLE, Int.reduceEq, Int.reduceSub, Int.reduceAdd, Int.reduceMul, Int.reduceNeg, Int.reduceToNat])
    repeat' refine And.intro ?_ ?_
    all_goals try first | rfl | omega | (simp only [lnA] <;> omega) | ((first | refine stp ?_ | refine dkz_eq ?_ ?_) <;> first | rfl | omega | (simp only [lnA] <;> omega) | (simp only [lnA, List.append_assoc, List.cons_append, List.nil_append]; done) | skip)
  case' body1_5 =>
    rintro ms1 S1 ⟨k, h1_0, h1_4, o1_3, c1_0, hm1⟩
    obtain ⟨i1_3, h1_3, b1_3, l1_3⟩ := o1_3.out
    have ni1_3 : ∀ c, (i1_3 = S1.n + c) = False := fun c => eq_false (by omega)
    have pi1_3 : ∀ c, (S1.n + c = i1_3) = False := fun c => eq_false (by omega)
    have qi1_3 : (i1_3 = S1.n) = False := eq_false (by omega)
    have ri1_3 : (S1.n = i1_3) = False := eq_false (by omega)
  have b1 : k < p.length → 0 ≤ p.getD k 0 ∧ p.getD k 0 ≤ 1048576 := fun h => hb _ (getD_mem h)
  have fc : True := trivial
  repeat' first
    | with_reducible first | refine stp ?_ | refine q_blk_o rfl ?_ | (refine hK _ ?_; clear hK) | (refine hA ?_; clear hA hB) | (refine hB ?_; clear hA hB) | exact v_end0 | exact v_end0' | refine v_gb1 ?_ ?_ | refine v_gb0 ?_ ?_ | refine And.intro ?_ ?_
    | (with_reducible refine p_ok ?_; decide)
    | ((first | with_reducible first | refine v_region rfl rfl (fun K hK => ?_) | refine v_draws rfl rfl (fun K hK => ?_) | refine v_if (fun A B hA hB => ?_) | refine v_end rfl ?_ | refine v_fin1 ?_ | refine v_finC1 ?_ | refine v_finO1 rfl ?_ | refine v_finN1 rfl ?_ ?_ | refine v_apj ?_ (fun j' => ?_) | refine v_stz ?_ ?_ ?_ ?_ ?_ | refine v_stq ?_ | refine v_cv1 ?_ ?_ ?_ | (intro hc; replace fc := And.intro hc fc; try simp only [hcs] at hc)) <;> (try simp (config := { maxSteps := 1000000 }) only [go_sem, ↓reduceIte, reduceCtorEq, Nat.reduceEqDiff, Nat.reduceAdd, Nat.reduceMul, Nat.reduceSub, Nat.reduceLeDiff, Int.reduceLT, Int.reduceLE, Int.reduceEq, Int.reduceSub, Int.reduceAdd, Int.reduceMul, Int.reduceNeg, Int.reduceToNat, h1_0, h1_4, h1_3, b1_3, ni1_3, pi1_3, qi1_3, ri1_3, fc]) <;> (try with_reducible rfl))
  all_goals try have b2 := b1 (by omega)
  all_goals try (first | omega | (simp only [n_i64, n_u8]; omega) | (simp only [n_i64, n_u8, lnA]; omega))
  · focus
      refine q_lp_n ((fun (k : Nat) => p.length - k) (k+1)) ?_ ⟨k+1, ?_, ?_, ?_, ?_, rfl⟩
      all_goals (try simp only [go_sem, ↓reduceIte, reduceCtorEq, Nat.reduceEqDiff, Nat.reduceAdd, Nat.reduceMul, Nat.reduceSub, Nat.reduceLeDiff, Int.reduceLT, Int.reduceLE, Int.reduceEq, Int.reduceSub, Int.reduceAdd, Int.reduceMul, Int.reduceNeg, Int.reduceToNat, h1_0, h1_4, h1_3, b1_3, ni1_3, pi1_3, qi1_3, ri1_3])
      repeat' refine And.intro ?_ ?_
      all_goals try first | rfl | omega | (simp only [lnA] <;> omega) | ((first | refine stp ?_ | refine dkz_eq ?_ ?_) <;> first | rfl | omega | (simp only [lnA] <;> omega) | (simp only [lnA, List.append_assoc, List.cons_append, List.nil_append]; done) | skip)
    rw [take_getD (d := 0) (by omega), List.map_append]; rfl
  · rw [List.take_of_length_le (by omega)]; rfl
theorem cc2 {m e1 e2 : Bool} (a b : List Int) (ha : a.length ≤ 1000) (hb : b.length ≤ 1000) : Fun Try.prog 175 [.sl (.lent m) [.sl (.lent e1) (a.map (PV.int .i64)), .sl (.lent e2) (b.map (PV.int .i64))]] [.sl .own ((a ++ b).map (PV.int .i64))] := by
  have h := slices_Concat_int_int_c (m0 := true) (e0 := true) [a, b] (by simp) (fun l hl => by simp at hl; rcases hl with rfl | rfl <;> assumption)
  simp only [List.flatten_cons, List.flatten_nil, List.append_nil] at h
  refine Fun.wk ?_ h
  have hi : ∀ a : Int, wk (PV.int .i64 a) = PV.int .i64 a := fun _ => rfl
  cases m <;> cases e1 <;> cases e2 <;> simp [wkL, wk, Fl.lent, wkL_map hi, elI]
/-- Two permutations, one above the other. -/
def sumP (a b : List Int) (skew : Bool) : List Int := if skew then a.map (fun x => x + (b.length : Int)) ++ b else a ++ b.map (fun x => x + (a.length : Int))
theorem sumP_len {a b : List Int} {k : Bool} : (sumP a b k).length = a.length + b.length := by cases k <;> simp [sumP]
theorem impl_sum_c {m0 m1 : Bool} (a : List Int) (b : List Int) (k : Bool) (h1 : a.length ≤ 1000) (h2 : b.length ≤ 1000) (h3 : ∀ x ∈ a, -1000000 ≤ x ∧ x ≤ 1000000) (h4 : ∀ x ∈ b, -1000000 ≤ x ∧ x ≤ 1000000) : Fun Try.prog 157 [(.sl (.lent m0) (List.map (PV.int .i64) (a))), (.sl (.lent m1) (List.map (PV.int .i64) (b))), (.bool (k))] [(.sl .own (List.map (PV.int .i64) (sumP a b k)))] := by
  refine Fun.of (sg := sg0) (ts := [6]) mo Try.func157 rfl rfl rfl rfl (by kernel_rfl) (by simp only [go_sem]) rfl ?_
  have fc : True := trivial
  repeat' first
    | with_reducible first | refine stp ?_ | refine q_blk_o rfl ?_ | (refine hK _ ?_; clear hK) | (refine hA ?_; clear hA hB) | (refine hB ?_; clear hA hB) | exact v_end0 | exact v_end0' | refine v_gb1 ?_ ?_ | refine v_gb0 ?_ ?_ | refine And.intro ?_ ?_
    | (with_reducible refine p_ok ?_; decide)
    | ((first | with_reducible first | refine v_region rfl rfl (fun K hK => ?_) | refine v_draws rfl rfl (fun K hK => ?_) | refine v_if (fun A B hA hB => ?_) | refine v_end rfl ?_ | refine v_fin1 ?_ | refine v_finC1 ?_ | refine v_callE (cc2 _ _ ?_ ?_) ?_ | refine v_callE (impl_raised_c _ _ ?_ ?_ ?_) ?_ | refine v_callE (slices_Concat_int_int_c _ ?_ ?_) ?_ | refine v_finO1 rfl ?_ | refine v_finN1 rfl ?_ ?_ | refine v_apj ?_ (fun j' => ?_) | refine v_stz ?_ ?_ ?_ ?_ ?_ | refine v_stq ?_ | refine v_cv1 ?_ ?_ ?_ | (intro hc; replace fc := And.intro hc fc; try simp only [hcs] at hc)) <;> (try simp (config := { maxSteps := 1000000 }) only [go_sem, ↓reduceIte, reduceCtorEq, Nat.reduceEqDiff, Nat.reduceAdd, Nat.reduceMul, Nat.reduceSub, Nat.reduceLeDiff, Int.reduceLT, Int.reduceLE, Int.reduceEq, Int.reduceSub, Int.reduceAdd, Int.reduceMul, Int.reduceNeg, Int.reduceToNat, fc]) <;> (try with_reducible rfl))
  all_goals try (first | omega | (simp only [n_i64, n_u8]; omega) | (simp only [n_i64, n_u8, lnA]; omega))
  all_goals (subst hc; simp [sumP])
/-! ### permutations out of permutations -/
theorem nodup_map {f : Int → Int} {l : List Int} (h : l.Nodup) (hf : ∀ x ∈ l, ∀ y ∈ l, x ≠ y → f x ≠ f y) : (l.map f).Nodup := by
  unfold List.Nodup
  rw [List.pairwise_map]
  exact List.Pairwise.imp_of_mem (fun {a b} ha hb hab => hf a ha b hb hab) h
theorem rkI_lt {l : List Int} {x y : Int} (hx : x ∈ l) (h : x < y) : rkI l x l.length < rkI l y l.length := by
  unfold rkI
  rw [List.take_length]
  have h1 := len_two (fun z => decide (z < x)) (l.filter fun z => decide (z < y))
  have h2 : ((l.filter fun z => decide (z < y)).filter fun z => decide (z < x)) = l.filter fun z => decide (z < x) := by
    rw [List.filter_filter]
    refine List.filter_congr fun z _ => ?_
    by_cases hz : z < x
    · simp [hz, show z < y by omega]
    · simp [hz]
  have h3 : x ∈ (l.filter fun z => decide (z < y)).filter fun z => !decide (z < x) := by
    simp only [List.mem_filter, decide_eq_true_eq, Bool.not_eq_true', decide_eq_false_iff_not]
    exact ⟨⟨hx, h⟩, by omega⟩
  have h4 := List.length_pos_of_mem h3
  rw [h2] at h1
  omega
theorem patL_len {l : List Int} : (patL l).length = l.length := by simp [patL]
theorem patL_perm {l : List Int} (hn : l.Nodup) : permB (patL l) = true := by
  rw [permB_iff, patL_len]
  refine ⟨fun x hx => ?_, nodup_map hn fun x hx y hy h => ?_⟩
  · obtain ⟨y, hy, rfl⟩ := List.mem_map.1 hx
    refine ⟨rkI_b.1, ?_⟩
    have h1 := len_two (fun z => decide (z < y)) l
    have h2 : y ∈ l.filter fun z => !decide (z < y) := by simp [hy]
    have h3 := List.length_pos_of_mem h2
    unfold rkI
    rw [List.take_length]
    omega
  · rcases Int.lt_or_gt_of_ne h with h | h
    · have := rkI_lt hx h; omega
    · have := rkI_lt hy h; omega
theorem add_perm {a b : List Int} {n : Nat} (ha : permB a = true) (hb : permB b = true) (e : n = b.length) : (a.map fun x => x + (n : Int)).Nodup ∧ (∀ x ∈ a.map fun x => x + (n : Int), (b.length : Int) < x ∧ x ≤ a.length + b.length) := by
  subst e
  obtain ⟨a1, a2⟩ := permB_iff.1 ha
  refine ⟨nodup_map a2 fun x _ y _ h => by omega, fun x hx => ?_⟩
  obtain ⟨y, hy, rfl⟩ := List.mem_map.1 hx
  have := a1 y hy
  omega
theorem sumP_perm {a b : List Int} {k : Bool} (ha : permB a = true) (hb : permB b = true) : permB (sumP a b k) = true := by
  rw [permB_iff, sumP_len]
  obtain ⟨a1, a2⟩ := permB_iff.1 ha
  obtain ⟨b1, b2⟩ := permB_iff.1 hb
  cases k
  · obtain ⟨h1, h2⟩ := add_perm (n := a.length) hb ha rfl
    simp only [sumP, Bool.false_eq_true, if_false]
    refine ⟨fun x hx => ?_, List.nodup_append.2 ⟨a2, h1, fun x hx y hy e => ?_⟩⟩
    · rcases List.mem_append.1 hx with hx | hx
      · have := a1 x hx; omega
      · have := h2 x hx; omega
    · have := a1 x hx; have := h2 y hy; omega
  · obtain ⟨h1, h2⟩ := add_perm (n := b.length) ha hb rfl
    simp only [sumP, if_true]
    refine ⟨fun x hx => ?_, List.nodup_append.2 ⟨h1, b2, fun x hx y hy e => ?_⟩⟩
    · rcases List.mem_append.1 hx with hx | hx
      · have := h2 x hx; omega
      · have := b1 x hx; omega
    · have := h2 x hx; have := b1 y hy; omega
theorem cplL_len {p : List Int} : (cplL p).length = p.length := by simp [cplL]
theorem cplL_perm {p : List Int} (h : permB p = true) : permB (cplL p) = true := by
  rw [permB_iff, cplL_len]
  obtain ⟨a1, a2⟩ := permB_iff.1 h
  refine ⟨fun x hx => ?_, nodup_map a2 fun x _ y _ h => by omega⟩
  obtain ⟨y, hy, rfl⟩ := List.mem_map.1 hx
  have := a1 y hy
  omega
/-- Permutations joined, one behind the other. -/
def joinL (L : List (List Int)) (k : Bool) : List Int := L.foldl (fun t p => sumP t p k) []
theorem joinL_succ {L : List (List Int)} {k : Bool} {j : Nat} (h : j < L.length) : joinL (L.take (j + 1)) k = sumP (joinL (L.take j) k) (L.getD j []) k := by
  rw [take_getD (d := []) h, joinL, List.foldl_append]; rfl
def lenS (L : List (List Int)) : Nat := (L.map List.length).sum
theorem lenS_succ {L : List (List Int)} {j : Nat} (h : j < L.length) : lenS (L.take (j + 1)) = lenS (L.take j) + (L.getD j []).length := by
  rw [take_getD (d := []) h, lenS, List.map_append, List.sum_append]; simp [lenS]
theorem joinL_len {L : List (List Int)} {k : Bool} : ∀ {j : Nat}, j ≤ L.length → (joinL (L.take j) k).length = lenS (L.take j)
  | 0, _ => rfl
  | j + 1, h => by rw [joinL_succ (by omega), lenS_succ (by omega), sumP_len, joinL_len (by omega)]
theorem joinL_perm {L : List (List Int)} {k : Bool} (hL : ∀ l ∈ L, permB l = true) : ∀ {j : Nat}, j ≤ L.length → permB (joinL (L.take j) k) = true
  | 0, _ => by rfl
  | j + 1, h => by rw [joinL_succ (by omega)]; exact sumP_perm (joinL_perm hL (by omega)) (hL _ (getD_mem (by omega)))
theorem lenS_take {L : List (List Int)} : ∀ {j : Nat}, lenS (L.take j) ≤ lenS L := fun {j} => by
  have : lenS L = lenS (L.take j) + lenS (L.drop j) := by
    unfold lenS; rw [← List.sum_append, ← List.map_append, List.take_append_drop]
  omega
theorem lenS_drop {L : List (List Int)} : ∀ {j : Nat}, lenS (L.drop j) ≤ lenS L := fun {j} => by
  have : lenS L = lenS (L.take j) + lenS (L.drop j) := by
    unfold lenS; rw [← List.sum_append, ← List.map_append, List.take_append_drop]
  omega
theorem lenS_mem {L : List (List Int)} {l : List Int} (h : l ∈ L) : l.length ≤ lenS L := by
  induction L with
  | nil => cases h
  | cons x L ih =>
    have e : lenS (x :: L) = x.length + lenS L := by simp [lenS]
    rcases List.mem_cons.1 h with rfl | h
    · omega
    · have := ih h; omega
theorem joinL_b {L : List (List Int)} {k : Bool} (hl : ∀ l ∈ L, l.length ≤ 8) (hb : ∀ l ∈ L, ∀ x ∈ l, 0 ≤ x ∧ x ≤ 8) : ∀ {j : Nat}, j ≤ L.length → j ≤ 8 → (joinL (L.take j) k).length ≤ 8 * j ∧ ∀ x ∈ joinL (L.take j) k, 0 ≤ x ∧ x ≤ 100 * j
  | 0, _, _ => ⟨Nat.zero_le _, fun x hx => by cases hx⟩
  | j + 1, h, h8 => by
    obtain ⟨h1, h2⟩ := joinL_b (k := k) hl hb (j := j) (by omega) (by omega)
    have h3 := hl _ (getD_mem (d := []) (show j < L.length by omega))
    have h4 := hb _ (getD_mem (d := []) (show j < L.length by omega))
    rw [joinL_succ (by omega)]
    refine ⟨by rw [sumP_len]; omega, fun x hx => ?_⟩
    cases k
    · simp only [sumP, Bool.false_eq_true, if_false, List.mem_append, List.mem_map] at hx
      rcases hx with hx | ⟨y, hy, rfl⟩
      · have := h2 x hx; omega
      · have := h4 y hy; omega
    · simp only [sumP, if_true, List.mem_append, List.mem_map] at hx
      rcases hx with ⟨y, hy, rfl⟩ | hx
      · have := h2 y hy; omega
      · have := h4 x hx; omega
theorem impl_joinParts_c {e0 m0 : Bool} (L : List (List Int)) (k : Bool) (hL : L.length ≤ 8) (hl : ∀ l ∈ L, l.length ≤ 8) (hb : ∀ l ∈ L, ∀ x ∈ l, 0 ≤ x ∧ x ≤ 8) : Fun Try.prog 130 [(.sl (.lent m0) (List.map (elI e0) (L))), (.bool (k))] [(.sl .own (List.map (PV.int .i64) (joinL L k)))] := by
  refine Fun.of (sg := sg0) (ts := [4]) mo Try.func130 rfl rfl rfl rfl (by kernel_rfl) (by simp only [go_sem]) rfl ?_
  have fc : True := trivial
  repeat' first
    | with_reducible first | refine stp ?_ | refine q_blk_o rfl ?_ | (refine hK _ ?_; clear hK) | (refine hA ?_; clear hA hB) | (refine hB ?_; clear hA hB) | exact v_end0 | exact v_end0' | refine v_gb1 ?_ ?_ | refine v_gb0 ?_ ?_ | refine And.intro ?_ ?_
    | (with_reducible refine p_ok ?_; decide)
    | ((first | with_reducible first | refine v_region rfl rfl (fun K hK => ?_) | refine v_draws rfl rfl (fun K hK => ?_) | refine v_if (fun A B hA hB => ?_) | refine v_end rfl ?_ | refine v_fin1 ?_ | refine v_finC1 ?_ | refine v_callE (impl_sum_c _ _ _ ?_ ?_ ?_ ?_) ?_ | refine v_finO1 rfl ?_ | refine v_finN1 rfl ?_ ?_ | refine v_apj ?_ (fun j' => ?_) | refine v_stz ?_ ?_ ?_ ?_ ?_ | refine v_stq ?_ | refine v_cv1 ?_ ?_ ?_ | (intro hc; replace fc := And.intro hc fc; try simp only [hcs] at hc)) <;> (try simp (config := { maxSteps := 1000000 }) only [go_sem, ↓reduceIte, reduceCtorEq, Nat.reduceEqDiff, Nat.reduceAdd, Nat.reduceMul, Nat.reduceSub, Nat.reduceLeDiff, Int.reduceLT, Int.reduceLE, Int.reduceEq, Int.reduceSub, Int.reduceAdd, Int.reduceMul, Int.reduceNeg, Int.reduceToNat, fc]) <;> (try with_reducible rfl))
  all_goals try (first | omega | (simp only [n_i64, n_u8]; omega) | (simp only [n_i64, n_u8, lnA]; omega))
  refine v_loop (fun ms1 S1 => ∃ (j : Nat), S1.e 1 = .p (.bool (k)) ∧ S1.e 9 = .p (.sl (.lent m0) (List.map (elI e0) (L))) ∧ S1.e 10 = .p (.int .i64 (L.length)) ∧ S1.e 11 = .p (.int .i64 (j)) ∧ OwnL (S1.e 5) S1.h S1.n (PV.int .i64) ((joinL (L.take j) k).length) (joinL (L.take j) k) ∧ (j ≤ L.length) ∧ ms1 = L.length - j) ((fun (j : Nat) => L.length - j) (0)) ?init1_6 ?body1_6
  case' init1_6 =>
    refine ⟨0, ?_, ?_, ?_, ?_, ?_, ?_, rfl⟩
    all_goals (try simp only [go_sem, ↓reduceIte, reduceCtorEq, Nat.reduceEqDiff, Nat.reduceAdd, Nat.reduceMul, Nat.reduceSub, Nat.reduceLeDiff, Int.reduceLT, Int.reduceLE, Int.reduceEq, Int.reduceSub, Int.reduceAdd, Int.reduceMul, Int.reduceNeg, Int.reduceToNat])
    repeat' refine And.intro ?_ ?_
    all_goals try first | rfl | omega | (simp only [lnA] <;> omega) | ((first | refine stp ?_ | refine dkz_eq ?_ ?_) <;> first | rfl | omega | (simp only [lnA] <;> omega) | (simp only [lnA, List.append_assoc, List.cons_append, List.nil_append]; done) | skip)
  case' body1_6 =>
    rintro ms1 S1 ⟨j, h1_1, h1_9, h1_10, h1_11, o1_5, c1_0, hm1⟩
    obtain ⟨i1_5, h1_5, b1_5, l1_5⟩ := o1_5.out
    have ni1_5 : ∀ c, (i1_5 = S1.n + c) = False := fun c => eq_false (by omega)
    have pi1_5 : ∀ c, (S1.n + c = i1_5) = False := fun c => eq_false (by omega)
    have qi1_5 : (i1_5 = S1.n) = False := eq_false (by omega)
    have ri1_5 : (S1.n = i1_5) = False := eq_false (by omega)
  obtain ⟨b1, b2⟩ := joinL_b (k := k) hl hb c1_0 (by omega)
  have b3 : j < L.length → (L.getD j []).length ≤ 8 ∧ ∀ x ∈ L.getD j [], 0 ≤ x ∧ x ≤ 8 := fun h => ⟨hl _ (getD_mem h), hb _ (getD_mem h)⟩
  have b4 : ∀ x ∈ joinL (L.take j) k, -1000000 ≤ x ∧ x ≤ 1000000 := fun x hx => by have := b2 x hx; omega
  have fc : True := trivial
  repeat' first
    | with_reducible first | refine stp ?_ | refine q_blk_o rfl ?_ | (refine hK _ ?_; clear hK) | (refine hA ?_; clear hA hB) | (refine hB ?_; clear hA hB) | exact v_end0 | exact v_end0' | refine v_gb1 ?_ ?_ | refine v_gb0 ?_ ?_ | refine And.intro ?_ ?_
    | (with_reducible refine p_ok ?_; decide)
    | ((first | with_reducible first | refine v_region rfl rfl (fun K hK => ?_) | refine v_draws rfl rfl (fun K hK => ?_) | refine v_if (fun A B hA hB => ?_) | refine v_end rfl ?_ | refine v_fin1 ?_ | refine v_finC1 ?_ | refine v_callE (impl_sum_c _ _ _ ?_ ?_ ?_ ?_) ?_ | refine v_finO1 rfl ?_ | refine v_finN1 rfl ?_ ?_ | refine v_apj ?_ (fun j' => ?_) | refine v_stz ?_ ?_ ?_ ?_ ?_ | refine v_stq ?_ | refine v_cv1 ?_ ?_ ?_ | (intro hc; replace fc := And.intro hc fc; try simp only [hcs] at hc)) <;> (try simp (config := { maxSteps := 1000000 }) only [go_sem, ↓reduceIte, reduceCtorEq, Nat.reduceEqDiff, Nat.reduceAdd, Nat.reduceMul, Nat.reduceSub, Nat.reduceLeDiff, Int.reduceLT, Int.reduceLE, Int.reduceEq, Int.reduceSub, Int.reduceAdd, Int.reduceMul, Int.reduceNeg, Int.reduceToNat, h1_1, h1_9, h1_10, h1_11, h1_5, b1_5, ni1_5, pi1_5, qi1_5, ri1_5, fc]) <;> (try with_reducible rfl))
  all_goals try have b5 := (b3 (by omega)).1
  all_goals try have b6 := (b3 (by omega)).2
  all_goals try have b7 : ∀ x ∈ L.getD j [], -1000000 ≤ x ∧ x ≤ 1000000 := fun x hx => by have := b6 x hx; omega
  all_goals try (first | omega | (simp only [n_i64, n_u8]; omega) | (simp only [n_i64, n_u8, lnA]; omega))
  · focus
      refine q_lp_n ((fun (j : Nat) => L.length - j) (j+1)) ?_ ⟨j+1, ?_, ?_, ?_, ?_, ?_, ?_, rfl⟩
      all_goals (try simp only [go_sem, ↓reduceIte, reduceCtorEq, Nat.reduceEqDiff, Nat.reduceAdd, Nat.reduceMul, Nat.reduceSub, Nat.reduceLeDiff, Int.reduceLT, Int.reduceLE, Int.reduceEq, Int.reduceSub, Int.reduceAdd, Int.reduceMul, Int.reduceNeg, Int.reduceToNat, h1_1, h1_9, h1_10, h1_11, h1_5, b1_5, ni1_5, pi1_5, qi1_5, ri1_5])
      repeat' refine And.intro ?_ ?_
      all_goals try first | rfl | omega | (simp only [lnA] <;> omega) | ((first | refine stp ?_ | refine dkz_eq ?_ ?_) <;> first | rfl | omega | (simp only [lnA] <;> omega) | (simp only [lnA, List.append_assoc, List.cons_append, List.nil_append]; done) | skip)
    all_goals (rw [joinL_succ (by omega)])
  · rw [List.take_of_length_le (by omega)]
def sumPt (p : List Int) : List (List Int) := (spG shI p p.length).1
def mixC (L : List (List Int)) (j : Nat) : List (List Int) := (L.take j).map cplL ++ L.drop j
theorem mixC_len {L : List (List Int)} {j : Nat} : (mixC L j).length = L.length := by simp [mixC]; omega
theorem mixC_at {L : List (List Int)} {j : Nat} (h : j < L.length) : (mixC L j).getD j [] = L.getD j [] := by
  simp only [mixC, List.getD_eq_getElem?_getD]
  rw [List.getElem?_append_right (by simp; omega)]
  simp [Nat.min_eq_left (Nat.le_of_lt h)]
theorem mixC_set {L : List (List Int)} {j : Nat} (h : j < L.length) : (mixC L j).set j (cplL (L.getD j [])) = mixC L (j + 1) := by
  simp only [mixC]
  rw [List.set_append_right _ _ (by simp; omega), List.length_map, List.length_take, Nat.min_eq_left (by omega), Nat.sub_self, take_getD (d := []) h]
  rw [show L.drop j = L.getD j [] :: L.drop (j + 1) by rw [List.getD_eq_getElem?_getD, List.getElem?_eq_getElem h]; exact (List.drop_eq_getElem_cons h)]
  simp
/-- A sum's parts are permutations; their lengths. -/
theorem spG_parts {p : List Int} (hp : permB p = true) : ∀ {k : Nat}, k ≤ p.length → (∀ l ∈ (spG ptI p k).1, permB l = true) ∧ lenS (spG ptI p k).1 = (spG ptI p k).2.1
  | 0, _ => ⟨fun l hl => (by cases hl), rfl⟩
  | k + 1, h => by
    obtain ⟨h1, h2⟩ := spG_parts hp (k := k) (by omega)
    have h3 := (spG_from (g := ptI) (p := p) (k := k)).1
    rw [spG]
    split
    · refine ⟨fun l hl => ?_, ?_⟩
      · rcases List.mem_append.1 hl with hl | hl
        · exact h1 l hl
        · simp only [List.mem_singleton] at hl; subst hl
          exact patL_perm (nodup_take (permB_iff.1 hp).2)
      · simp only [lenS] at h2 ⊢
        rw [List.map_append, List.sum_append, h2]
        simp [ptI, patL_len, segL_len h]; omega
    · exact ⟨h1, h2⟩
theorem sumPt_pt {p : List Int} (hp : permB p = true) : (spG ptI p p.length).1 = sumPt p := by rw [sumPt, spG_pt hp (Nat.le_refl _)]
theorem sumPt_f {p : List Int} (hp : isPermB p = true) : (∀ l ∈ sumPt p, permB l = true) ∧ lenS (sumPt p) ≤ 8 ∧ (sumPt p).length ≤ 8 ∧ (∀ l ∈ sumPt p, isPermB l = true ∧ l.length ≤ 8 ∧ ∀ x ∈ l, 0 ≤ x ∧ x ≤ 8) := by
  obtain ⟨hl, hq⟩ := isPerm_facts hp
  obtain ⟨h1, h2⟩ := spG_parts hq (Nat.le_refl _)
  have h3 := spG_from (g := ptI) (p := p) (k := p.length)
  rw [sumPt_pt hq] at h1 h2 h3
  refine ⟨h1, by omega, by omega, fun l hx => ?_⟩
  have h4 := lenS_mem hx
  have h5 : isPermB l = true := by simp only [isPermB, h1 l hx, Bool.and_true, decide_eq_true_eq]; omega
  exact ⟨h5, by omega, perm_b8 h5⟩
theorem cplL_isPerm {p : List Int} (hp : isPermB p = true) : isPermB (cplL p) = true := by
  obtain ⟨hl, hq⟩ := isPerm_facts hp
  simp only [isPermB, cplL_perm hq, cplL_len, hl, decide_true, Bool.and_self]
def skewPt (p : List Int) : List (List Int) := (sumPt (cplL p)).map cplL
theorem impl_skewParts_c {m0 : Bool} (p : List Int) (hp : isPermB p = true) : Fun Try.prog 131 [(.sl (.lent m0) (List.map (PV.int .i64) (p)))] [(.sl .own (List.map (elI false) (skewPt p)))] := by
  refine Fun.of (sg := sg0) (ts := [2]) mo Try.func131 rfl rfl rfl rfl (by kernel_rfl) (by simp only [go_sem]) rfl ?_
  have hl := (isPerm_facts hp).1
  have hq := permB_iff.1 (isPerm_facts hp).2
  have hb := perm_b8 hp
  have b1 : (cplL p).length ≤ 8 := by rw [cplL_len]; exact hl
  have b2 := perm_b8 (cplL_isPerm hp)
  have b3 := sumPt_f (cplL_isPerm hp)
  have b4 : ∀ x ∈ p, 0 ≤ x ∧ x ≤ 1048576 := fun x hx => by have := hb x hx; omega
  have b5 : (spG shI (cplL p) (cplL p).length).1 = sumPt (cplL p) := rfl
  have fc : True := trivial
  repeat' first
    | with_reducible first | refine stp ?_ | refine q_blk_o rfl ?_ | (refine hK _ ?_; clear hK) | (refine hA ?_; clear hA hB) | (refine hB ?_; clear hA hB) | exact v_end0 | exact v_end0' | refine v_gb1 ?_ ?_ | refine v_gb0 ?_ ?_ | refine And.intro ?_ ?_
    | (with_reducible refine p_ok ?_; decide)
    | ((first | with_reducible first | refine v_region rfl rfl (fun K hK => ?_) | refine v_draws rfl rfl (fun K hK => ?_) | refine v_if (fun A B hA hB => ?_) | refine v_end rfl ?_ | refine v_fin1 ?_ | refine v_finC1 ?_ | refine v_callE (impl_complement_c _ ?_ ?_) ?_ | refine v_callE (impl_sumParts_c _ ?_ ?_) ?_ | refine v_finO1 rfl ?_ | refine v_finN1 rfl ?_ ?_ | refine v_apj ?_ (fun j' => ?_) | refine v_stz ?_ ?_ ?_ ?_ ?_ | refine v_stq ?_ | refine v_cv1 ?_ ?_ ?_ | (intro hc; replace fc := And.intro hc fc; try simp only [hcs] at hc)) <;> (try simp (config := { maxSteps := 1000000 }) only [go_sem, ↓reduceIte, reduceCtorEq, Nat.reduceEqDiff, Nat.reduceAdd, Nat.reduceMul, Nat.reduceSub, Nat.reduceLeDiff, Int.reduceLT, Int.reduceLE, Int.reduceEq, Int.reduceSub, Int.reduceAdd, Int.reduceMul, Int.reduceNeg, Int.reduceToNat, b5, fc]) <;> (try with_reducible rfl))
  all_goals try (first | omega | (simp only [n_i64, n_u8]; omega) | (simp only [n_i64, n_u8, lnA]; omega))
  refine v_loop (fun ms1 S1 => ∃ (j : Nat), OwnL (S1.e 3) S1.h S1.n (elI false) ((mixC (sumPt (cplL p)) j).length) (mixC (sumPt (cplL p)) j) ∧ S1.e 9 = S1.e 3 ∧ S1.e 10 = .p (.int .i64 ((sumPt (cplL p)).length)) ∧ S1.e 11 = .p (.int .i64 (j)) ∧ (j ≤ (sumPt (cplL p)).length) ∧ ms1 = (sumPt (cplL p)).length - j) ((fun (j : Nat) => (sumPt (cplL p)).length - j) (0)) ?init1_7 ?body1_7
  case' init1_7 =>
    refine ⟨0, ?_, ?_, ?_, ?_, ?_, rfl⟩
    all_goals (try simp only [go_sem, ↓reduceIte, reduceCtorEq, Nat.reduceEqDiff, Nat.reduceAdd, Nat.reduceMul, Nat.reduceSub, Nat.reduceLeDiff, Int.reduceLT, Int.reduceLE, Int.reduceEq, Int.reduceSub, Int.reduceAdd, Int.reduceMul, Int.reduceNeg, Int.reduceToNat])
    repeat' refine And.intro ?_ ?_
    all_goals try first | rfl | omega | (simp only [lnA] <;> omega) | ((first | refine stp ?_ | refine dkz_eq ?_ ?_) <;> first | rfl | omega | (simp only [lnA] <;> omega) | (simp only [lnA, List.append_assoc, List.cons_append, List.nil_append]; done) | skip)
  case' body1_7 =>
    rintro ms1 S1 ⟨j, o1_3, h1_9, h1_10, h1_11, c1_0, hm1⟩
    obtain ⟨i1_3, h1_3, b1_3, l1_3⟩ := o1_3.out
    have ni1_3 : ∀ c, (i1_3 = S1.n + c) = False := fun c => eq_false (by omega)
    have pi1_3 : ∀ c, (S1.n + c = i1_3) = False := fun c => eq_false (by omega)
    have qi1_3 : (i1_3 = S1.n) = False := eq_false (by omega)
    have ri1_3 : (S1.n = i1_3) = False := eq_false (by omega)
  have b6 := mixC_len (L := sumPt (cplL p)) (j := j)
  have b7 : j < (sumPt (cplL p)).length → (mixC (sumPt (cplL p)) j).getD j [] = (sumPt (cplL p)).getD j [] := fun h => mixC_at h
  have b8 : j < (sumPt (cplL p)).length → ((sumPt (cplL p)).getD j []).length ≤ 8 ∧ ∀ x ∈ (sumPt (cplL p)).getD j [], 0 ≤ x ∧ x ≤ 1048576 := fun h => ⟨(b3.2.2.2 _ (getD_mem h)).2.1, fun x hx => by have := (b3.2.2.2 _ (getD_mem h)).2.2 x hx; omega⟩
  by_cases hj : j < (sumPt (cplL p)).length
  · have b9 := b8 hj
    have b10 := b7 hj
    rw [← b10] at b9
    have b11 := b9.1
    have b12 := b9.2
    have fc : True := trivial
    repeat' first
      | with_reducible first | refine stp ?_ | refine q_blk_o rfl ?_ | (refine hK _ ?_; clear hK) | (refine hA ?_; clear hA hB) | (refine hB ?_; clear hA hB) | exact v_end0 | exact v_end0' | refine v_gb1 ?_ ?_ | refine v_gb0 ?_ ?_ | refine And.intro ?_ ?_
      | (with_reducible refine p_ok ?_; decide)
      | ((first | with_reducible first | refine v_region rfl rfl (fun K hK => ?_) | refine v_draws rfl rfl (fun K hK => ?_) | refine v_if (fun A B hA hB => ?_) | refine v_end rfl ?_ | refine v_fin1 ?_ | refine v_finC1 ?_ | refine v_callE (impl_complement_c _ ?_ ?_) ?_ | refine v_callE (impl_sumParts_c _ ?_ ?_) ?_ | refine v_finO1 rfl ?_ | refine v_finN1 rfl ?_ ?_ | refine v_apj ?_ (fun j' => ?_) | refine v_stz ?_ ?_ ?_ ?_ ?_ | refine v_stq ?_ | refine v_cv1 ?_ ?_ ?_ | (intro hc; replace fc := And.intro hc fc; try simp only [hcs] at hc)) <;> (try simp (config := { maxSteps := 1000000 }) only [go_sem, ↓reduceIte, reduceCtorEq, Nat.reduceEqDiff, Nat.reduceAdd, Nat.reduceMul, Nat.reduceSub, Nat.reduceLeDiff, Int.reduceLT, Int.reduceLE, Int.reduceEq, Int.reduceSub, Int.reduceAdd, Int.reduceMul, Int.reduceNeg, Int.reduceToNat, h1_9, h1_10, h1_11, h1_3, b1_3, ni1_3, pi1_3, qi1_3, ri1_3, fc]) <;> (try with_reducible rfl))
    all_goals try (first | omega | (simp only [n_i64, n_u8]; omega) | (simp only [n_i64, n_u8, lnA]; omega))
    focus
      refine q_lp_n ((fun (j : Nat) => (sumPt (cplL p)).length - j) (j+1)) ?_ ⟨j+1, ?_, ?_, ?_, ?_, ?_, rfl⟩
      all_goals (try simp only [go_sem, ↓reduceIte, reduceCtorEq, Nat.reduceEqDiff, Nat.reduceAdd, Nat.reduceMul, Nat.reduceSub, Nat.reduceLeDiff, Int.reduceLT, Int.reduceLE, Int.reduceEq, Int.reduceSub, Int.reduceAdd, Int.reduceMul, Int.reduceNeg, Int.reduceToNat, h1_9, h1_10, h1_11, h1_3, b1_3, ni1_3, pi1_3, qi1_3, ri1_3])
      repeat' refine And.intro ?_ ?_
      all_goals try first | rfl | omega | (simp only [lnA] <;> omega) | ((first | refine stp ?_ | refine dkz_eq ?_ ?_) <;> first | rfl | omega | (simp only [lnA] <;> omega) | (simp only [lnA, List.append_assoc, List.cons_append, List.nil_append]; done) | skip)
    all_goals (first | (rw [b10, mixC_set hj]) | (rw [mixC_len, mixC_len]))
  · have fc : True := trivial
    repeat' first
      | with_reducible first | refine stp ?_ | refine q_blk_o rfl ?_ | (refine hK _ ?_; clear hK) | (refine hA ?_; clear hA hB) | (refine hB ?_; clear hA hB) | exact v_end0 | exact v_end0' | refine v_gb1 ?_ ?_ | refine v_gb0 ?_ ?_ | refine And.intro ?_ ?_
      | (with_reducible refine p_ok ?_; decide)
      | ((first | with_reducible first | refine v_region rfl rfl (fun K hK => ?_) | refine v_draws rfl rfl (fun K hK => ?_) | refine v_if (fun A B hA hB => ?_) | refine v_end rfl ?_ | refine v_fin1 ?_ | refine v_finC1 ?_ | refine v_callE (impl_complement_c _ ?_ ?_) ?_ | refine v_callE (impl_sumParts_c _ ?_ ?_) ?_ | refine v_finO1 rfl ?_ | refine v_finN1 rfl ?_ ?_ | refine v_apj ?_ (fun j' => ?_) | refine v_stz ?_ ?_ ?_ ?_ ?_ | refine v_stq ?_ | refine v_cv1 ?_ ?_ ?_ | (intro hc; replace fc := And.intro hc fc; try simp only [hcs] at hc)) <;> (try simp (config := { maxSteps := 1000000 }) only [go_sem, ↓reduceIte, reduceCtorEq, Nat.reduceEqDiff, Nat.reduceAdd, Nat.reduceMul, Nat.reduceSub, Nat.reduceLeDiff, Int.reduceLT, Int.reduceLE, Int.reduceEq, Int.reduceSub, Int.reduceAdd, Int.reduceMul, Int.reduceNeg, Int.reduceToNat, h1_9, h1_10, h1_11, h1_3, b1_3, ni1_3, pi1_3, qi1_3, ri1_3, fc]) <;> (try with_reducible rfl))
    all_goals try (first | omega | (simp only [n_i64, n_u8]; omega) | (simp only [n_i64, n_u8, lnA]; omega))
    obtain rfl : j = (sumPt (cplL p)).length := by omega
    simp [mixC, skewPt]
theorem spec_l4Join_c {m0 m1 : Bool} (a : List Int) (b : List Int) (k : Bool) (h1 : a.length ≤ 1000) (h2 : b.length ≤ 1000) (h3 : ∀ x ∈ a, -1000000 ≤ x ∧ x ≤ 1000000) (h4 : ∀ x ∈ b, -1000000 ≤ x ∧ x ≤ 1000000) : Fun Try.prog 178 [(.sl (.lent m0) (List.map (PV.int .i64) (a))), (.sl (.lent m1) (List.map (PV.int .i64) (b))), (.bool (k))] [(.sl .own (List.map (PV.int .i64) (sumP a b k)))] := by
  refine Fun.of (sg := sg0) (ts := [6]) mo Try.func178 rfl rfl rfl rfl (by kernel_rfl) (by simp only [go_sem]) rfl ?_
  have e1 : bitI k = if k then 1 else 0 := rfl
  have fc : True := trivial
  repeat' first
    | with_reducible first | refine stp ?_ | refine q_blk_o rfl ?_ | (refine hK _ ?_; clear hK) | (refine hA ?_; clear hA hB) | (refine hB ?_; clear hA hB) | exact v_end0 | exact v_end0' | refine v_gb1 ?_ ?_ | refine v_gb0 ?_ ?_ | refine And.intro ?_ ?_
    | (with_reducible refine hK _ _ ?_ ?_; focus (first | exact clearAll_quiet rfl | (refine clearAll_of [false, false, false, false, false, false, true, false, false, false, false, true, true, false] [(0, 6), (1, 6), (2, 6), (3, 6), (4, 6), (6, 7), (6, 8), (0, 11)] rfl (by decide +kernel) ?_; try simp only [go_sem, ↓reduceIte, reduceCtorEq, Nat.reduceEqDiff, Nat.reduceAdd, Nat.reduceMul, Nat.reduceSub, Nat.reduceLeDiff, Int.reduceLT, Int.reduceLE, Int.reduceEq, Int.reduceSub, Int.reduceAdd, Int.reduceMul, Int.reduceNeg, Int.reduceToNat]) | (refine clearAll_of [false, false, false, false, false, false, false, true, false, false, false, false, true, true, false] [(0, 7), (1, 7), (2, 7), (3, 7), (4, 7), (7, 8), (7, 9), (0, 12)] rfl (by decide +kernel) ?_; try simp only [go_sem, ↓reduceIte, reduceCtorEq, Nat.reduceEqDiff, Nat.reduceAdd, Nat.reduceMul, Nat.reduceSub, Nat.reduceLeDiff, Int.reduceLT, Int.reduceLE, Int.reduceEq, Int.reduceSub, Int.reduceAdd, Int.reduceMul, Int.reduceNeg, Int.reduceToNat])); all_goals (try clear hK))
    | (with_reducible refine p_ok ?_; decide)
    | ((first | with_reducible first | refine v_region rfl rfl (fun K hK => ?_) | refine v_draws rfl rfl (fun K hK => ?_) | refine v_if (fun A B hA hB => ?_) | refine v_end rfl ?_ | refine v_fin1 ?_ | refine v_finC1 ?_ | refine v_callE (spec_l1Bit_c _) ?_ | refine v_finO1 rfl ?_ | refine v_finN1 rfl ?_ ?_ | refine v_apj ?_ (fun j' => ?_) | refine v_stz ?_ ?_ ?_ ?_ ?_ | refine v_stq ?_ | refine v_cv1 ?_ ?_ ?_ | (intro hc; replace fc := And.intro hc fc; try simp only [hcs] at hc)) <;> (try simp (config := { maxSteps := 1000000 }) only [go_sem, ↓reduceIte, reduceCtorEq, Nat.reduceEqDiff, Nat.reduceAdd, Nat.reduceMul, Nat.reduceSub, Nat.reduceLeDiff, Int.reduceLT, Int.reduceLE, Int.reduceEq, Int.reduceSub, Int.reduceAdd, Int.reduceMul, Int.reduceNeg, Int.reduceToNat, fc]) <;> (try with_reducible rfl))
  all_goals try (first | omega | (simp only [n_i64, n_u8]; omega) | (simp only [n_i64, n_u8, lnA]; omega))
  refine v_loop (fun ms1 S1 => ∃ (i : Nat), S1.e 0 = .p (.sl (.lent m0) (List.map (PV.int .i64) (a))) ∧ S1.e 1 = .p (.sl (.lent m1) (List.map (PV.int .i64) (b))) ∧ S1.e 2 = .p (.bool (k)) ∧ S1.e 8 = .p (.int .i64 (i)) ∧ OwnL (S1.e 7) S1.h S1.n (PV.int .i64) (((a.take i).map (fun x => x + bitI k * b.length)).length) ((a.take i).map (fun x => x + bitI k * b.length)) ∧ (i ≤ a.length) ∧ ms1 = a.length - i) ((fun (i : Nat) => a.length - i) (0)) ?init1_8 ?body1_8
  case' init1_8 =>
    refine ⟨0, ?_, ?_, ?_, ?_, ?_, ?_, rfl⟩
    all_goals (try simp only [go_sem, ↓reduceIte, reduceCtorEq, Nat.reduceEqDiff, Nat.reduceAdd, Nat.reduceMul, Nat.reduceSub, Nat.reduceLeDiff, Int.reduceLT, Int.reduceLE, Int.reduceEq, Int.reduceSub, Int.reduceAdd, Int.reduceMul, Int.reduceNeg, Int.reduceToNat])
    repeat' refine And.intro ?_ ?_
    all_goals try first | rfl | omega | (simp only [lnA] <;> omega) | ((first | refine stp ?_ | refine dkz_eq ?_ ?_) <;> first | rfl | omega | (simp only [lnA] <;> omega) | (simp only [lnA, List.append_assoc, List.cons_append, List.nil_append]; done) | skip)
  case' body1_8 =>
    rintro ms1 S1 ⟨i, h1_0, h1_1, h1_2, h1_8, o1_7, c1_0, hm1⟩
    obtain ⟨i1_7, h1_7, b1_7, l1_7⟩ := o1_7.out
    have ni1_7 : ∀ c, (i1_7 = S1.n + c) = False := fun c => eq_false (by omega)
    have pi1_7 : ∀ c, (S1.n + c = i1_7) = False := fun c => eq_false (by omega)
    have qi1_7 : (i1_7 = S1.n) = False := eq_false (by omega)
    have ri1_7 : (S1.n = i1_7) = False := eq_false (by omega)
  have b1 : i < a.length → -1000000 ≤ a.getD i 0 ∧ a.getD i 0 ≤ 1000000 := fun h => h3 _ (getD_mem h)
  have b2 : 0 ≤ bitI k * (b.length : Int) ∧ bitI k * (b.length : Int) ≤ 1000 := by cases k <;> simp [bitI] <;> omega
  have fc : True := trivial
  repeat' first
    | with_reducible first | refine stp ?_ | refine q_blk_o rfl ?_ | (refine hK _ ?_; clear hK) | (refine hA ?_; clear hA hB) | (refine hB ?_; clear hA hB) | exact v_end0 | exact v_end0' | refine v_gb1 ?_ ?_ | refine v_gb0 ?_ ?_ | refine And.intro ?_ ?_
    | (with_reducible refine hK _ _ ?_ ?_; focus (first | exact clearAll_quiet rfl | (refine clearAll_of [false, false, false, false, false, false, true, false, false, false, false, true, true, false] [(0, 6), (1, 6), (2, 6), (3, 6), (4, 6), (6, 7), (6, 8), (0, 11)] rfl (by decide +kernel) ?_; try simp only [go_sem, ↓reduceIte, reduceCtorEq, Nat.reduceEqDiff, Nat.reduceAdd, Nat.reduceMul, Nat.reduceSub, Nat.reduceLeDiff, Int.reduceLT, Int.reduceLE, Int.reduceEq, Int.reduceSub, Int.reduceAdd, Int.reduceMul, Int.reduceNeg, Int.reduceToNat, h1_0, h1_1, h1_2, h1_8, h1_7, b1_7, ni1_7, pi1_7, qi1_7, ri1_7]) | (refine clearAll_of [false, false, false, false, false, false, false, true, false, false, false, false, true, true, false] [(0, 7), (1, 7), (2, 7), (3, 7), (4, 7), (7, 8), (7, 9), (0, 12)] rfl (by decide +kernel) ?_; try simp only [go_sem, ↓reduceIte, reduceCtorEq, Nat.reduceEqDiff, Nat.reduceAdd, Nat.reduceMul, Nat.reduceSub, Nat.reduceLeDiff, Int.reduceLT, Int.reduceLE, Int.reduceEq, Int.reduceSub, Int.reduceAdd, Int.reduceMul, Int.reduceNeg, Int.reduceToNat, h1_0, h1_1, h1_2, h1_8, h1_7, b1_7, ni1_7, pi1_7, qi1_7, ri1_7])); all_goals (try clear hK))
    | (with_reducible refine p_ok ?_; decide)
    | ((first | with_reducible first | refine v_region rfl rfl (fun K hK => ?_) | refine v_draws rfl rfl (fun K hK => ?_) | refine v_if (fun A B hA hB => ?_) | refine v_end rfl ?_ | refine v_fin1 ?_ | refine v_finC1 ?_ | refine v_callE (spec_l1Bit_c _) ?_ | refine v_finO1 rfl ?_ | refine v_finN1 rfl ?_ ?_ | refine v_apj ?_ (fun j' => ?_) | refine v_stz ?_ ?_ ?_ ?_ ?_ | refine v_stq ?_ | refine v_cv1 ?_ ?_ ?_ | (intro hc; replace fc := And.intro hc fc; try simp only [hcs] at hc)) <;> (try simp (config := { maxSteps := 1000000 }) only [go_sem, ↓reduceIte, reduceCtorEq, Nat.reduceEqDiff, Nat.reduceAdd, Nat.reduceMul, Nat.reduceSub, Nat.reduceLeDiff, Int.reduceLT, Int.reduceLE, Int.reduceEq, Int.reduceSub, Int.reduceAdd, Int.reduceMul, Int.reduceNeg, Int.reduceToNat, h1_0, h1_1, h1_2, h1_8, h1_7, b1_7, ni1_7, pi1_7, qi1_7, ri1_7, fc]) <;> (try with_reducible rfl))
  all_goals try have b3 := b1 (by omega)
  all_goals try (first | omega | (simp only [n_i64, n_u8]; omega) | (simp only [n_i64, n_u8, lnA]; omega))
  · focus
      refine q_lp_n ((fun (i : Nat) => a.length - i) (i+1)) ?_ ⟨i+1, ?_, ?_, ?_, ?_, ?_, ?_, rfl⟩
      all_goals (try simp only [go_sem, ↓reduceIte, reduceCtorEq, Nat.reduceEqDiff, Nat.reduceAdd, Nat.reduceMul, Nat.reduceSub, Nat.reduceLeDiff, Int.reduceLT, Int.reduceLE, Int.reduceEq, Int.reduceSub, Int.reduceAdd, Int.reduceMul, Int.reduceNeg, Int.reduceToNat, h1_0, h1_1, h1_2, h1_8, h1_7, b1_7, ni1_7, pi1_7, qi1_7, ri1_7])
      repeat' refine And.intro ?_ ?_
      all_goals try first | rfl | omega | (simp only [lnA] <;> omega) | ((first | refine stp ?_ | refine dkz_eq ?_ ?_) <;> first | rfl | omega | (simp only [lnA] <;> omega) | (simp only [lnA, List.append_assoc, List.cons_append, List.nil_append]; done) | skip)
    all_goals (rw [take_getD (d := 0) (by omega), List.map_append]; rfl)
  · refine v_loop (fun ms2 S2 => ∃ (j : Nat), S2.e 0 = .p (.sl (.lent m0) (List.map (PV.int .i64) (a))) ∧ S2.e 1 = .p (.sl (.lent m1) (List.map (PV.int .i64) (b))) ∧ S2.e 2 = .p (.bool (k)) ∧ S2.e 9 = .p (.int .i64 (j)) ∧ OwnL (S2.e 7) S2.h S2.n (PV.int .i64) ((a.map (fun x => x + bitI k * b.length) ++ (b.take j).map (fun x => x + bitI (!k) * a.length)).length) (a.map (fun x => x + bitI k * b.length) ++ (b.take j).map (fun x => x + bitI (!k) * a.length)) ∧ (j ≤ b.length) ∧ S1.n ≤ S2.n ∧ ms2 = b.length - j) ((fun (j : Nat) => b.length - j) (0)) ?init2_9 ?body2_9
    case' init2_9 =>
      refine ⟨0, ?_, ?_, ?_, ?_, ?_, ?_, ?_, rfl⟩
      all_goals (try simp only [go_sem, ↓reduceIte, reduceCtorEq, Nat.reduceEqDiff, Nat.reduceAdd, Nat.reduceMul, Nat.reduceSub, Nat.reduceLeDiff, Int.reduceLT, Int.reduceLE, Int.reduceEq, Int.reduceSub, Int.reduceAdd, Int.reduceMul, Int.reduceNeg, Int.reduceToNat, h1_0, h1_1, h1_2, h1_8, h1_7, b1_7, ni1_7, pi1_7, qi1_7, ri1_7])
      repeat' refine And.intro ?_ ?_
      all_goals try first | rfl | omega | (simp only [lnA] <;> omega) | ((first | refine stp ?_ | refine dkz_eq ?_ ?_) <;> first | rfl | omega | (simp only [lnA] <;> omega) | (simp only [lnA, List.append_assoc, List.cons_append, List.nil_append]; done) | skip)
    case' body2_9 =>
      rintro ms2 S2 ⟨j, h2_0, h2_1, h2_2, h2_9, o2_7, c2_0, u2_0, hm2⟩
      obtain ⟨i2_7, h2_7, b2_7, l2_7⟩ := o2_7.out
      have ni2_7 : ∀ c, (i2_7 = S2.n + c) = False := fun c => eq_false (by omega)
      have pi2_7 : ∀ c, (S2.n + c = i2_7) = False := fun c => eq_false (by omega)
      have qi2_7 : (i2_7 = S2.n) = False := eq_false (by omega)
      have ri2_7 : (S2.n = i2_7) = False := eq_false (by omega)
    have b4 : j < b.length → -1000000 ≤ b.getD j 0 ∧ b.getD j 0 ≤ 1000000 := fun h => h4 _ (getD_mem h)
    have b5 : 0 ≤ bitI (!k) * (a.length : Int) ∧ bitI (!k) * (a.length : Int) ≤ 1000 := by cases k <;> simp [bitI] <;> omega
    have fc : True := trivial
    repeat' first
      | with_reducible first | refine stp ?_ | refine q_blk_o rfl ?_ | (refine hK _ ?_; clear hK) | (refine hA ?_; clear hA hB) | (refine hB ?_; clear hA hB) | exact v_end0 | exact v_end0' | refine v_gb1 ?_ ?_ | refine v_gb0 ?_ ?_ | refine And.intro ?_ ?_
      | (with_reducible refine hK _ _ ?_ ?_; focus (first | exact clearAll_quiet rfl | (refine clearAll_of [false, false, false, false, false, false, true, false, false, false, false, true, true, false] [(0, 6), (1, 6), (2, 6), (3, 6), (4, 6), (6, 7), (6, 8), (0, 11)] rfl (by decide +kernel) ?_; try simp only [go_sem, ↓reduceIte, reduceCtorEq, Nat.reduceEqDiff, Nat.reduceAdd, Nat.reduceMul, Nat.reduceSub, Nat.reduceLeDiff, Int.reduceLT, Int.reduceLE, Int.reduceEq, Int.reduceSub, Int.reduceAdd, Int.reduceMul, Int.reduceNeg, Int.reduceToNat, h2_0, h2_1, h2_2, h2_9, h2_7, b2_7, ni2_7, pi2_7, qi2_7, ri2_7]) | (refine clearAll_of [false, false, false, false, false, false, false, true, false, false, false, false, true, true, false] [(0, 7), (1, 7), (2, 7), (3, 7), (4, 7), (7, 8), (7, 9), (0, 12)] rfl (by decide +kernel) ?_; try simp only [go_sem, ↓reduceIte, reduceCtorEq, Nat.reduceEqDiff, Nat.reduceAdd, Nat.reduceMul, Nat.reduceSub, Nat.reduceLeDiff, Int.reduceLT, Int.reduceLE, Int.reduceEq, Int.reduceSub, Int.reduceAdd, Int.reduceMul, Int.reduceNeg, Int.reduceToNat, h2_0, h2_1, h2_2, h2_9, h2_7, b2_7, ni2_7, pi2_7, qi2_7, ri2_7])); all_goals (try clear hK))
      | (with_reducible refine p_ok ?_; decide)
      | ((first | with_reducible first | refine v_region rfl rfl (fun K hK => ?_) | refine v_draws rfl rfl (fun K hK => ?_) | refine v_if (fun A B hA hB => ?_) | refine v_end rfl ?_ | refine v_fin1 ?_ | refine v_finC1 ?_ | refine v_callE (spec_l1Bit_c _) ?_ | refine v_finO1 rfl ?_ | refine v_finN1 rfl ?_ ?_ | refine v_apj ?_ (fun j' => ?_) | refine v_stz ?_ ?_ ?_ ?_ ?_ | refine v_stq ?_ | refine v_cv1 ?_ ?_ ?_ | (intro hc; replace fc := And.intro hc fc; try simp only [hcs] at hc)) <;> (try simp (config := { maxSteps := 1000000 }) only [go_sem, ↓reduceIte, reduceCtorEq, Nat.reduceEqDiff, Nat.reduceAdd, Nat.reduceMul, Nat.reduceSub, Nat.reduceLeDiff, Int.reduceLT, Int.reduceLE, Int.reduceEq, Int.reduceSub, Int.reduceAdd, Int.reduceMul, Int.reduceNeg, Int.reduceToNat, h2_0, h2_1, h2_2, h2_9, h2_7, b2_7, ni2_7, pi2_7, qi2_7, ri2_7, fc]) <;> (try with_reducible rfl))
    all_goals try have b6 := b4 (by omega)
    all_goals try (first | omega | (simp only [n_i64, n_u8]; omega) | (simp only [n_i64, n_u8, lnA]; omega))
    · focus
        refine q_lp_n ((fun (j : Nat) => b.length - j) (j+1)) ?_ ⟨j+1, ?_, ?_, ?_, ?_, ?_, ?_, ?_, rfl⟩
        all_goals (try simp only [go_sem, ↓reduceIte, reduceCtorEq, Nat.reduceEqDiff, Nat.reduceAdd, Nat.reduceMul, Nat.reduceSub, Nat.reduceLeDiff, Int.reduceLT, Int.reduceLE, Int.reduceEq, Int.reduceSub, Int.reduceAdd, Int.reduceMul, Int.reduceNeg, Int.reduceToNat, h2_0, h2_1, h2_2, h2_9, h2_7, b2_7, ni2_7, pi2_7, qi2_7, ri2_7])
        repeat' refine And.intro ?_ ?_
        all_goals try first | rfl | omega | (simp only [lnA] <;> omega) | ((first | refine stp ?_ | refine dkz_eq ?_ ?_) <;> first | rfl | omega | (simp only [lnA] <;> omega) | (simp only [lnA, List.append_assoc, List.cons_append, List.nil_append]; done) | skip)
      all_goals (rw [take_getD (d := 0) (by omega), List.map_append]; try rfl)
    · rw [List.take_of_length_le (by omega)]
      cases k <;> simp [sumP, bitI]
    all_goals (rw [List.take_of_length_le (by omega)]; try simp)
theorem spec_l4Fit_c {m0 m1 : Bool} (a : List Int) (b : List Int) (h1 : a.length ≤ 1048576) (h2 : b.length ≤ 1048576) : Fun Try.prog 177 [(.sl (.lent m0) (List.map (PV.int .i64) (a))), (.sl (.lent m1) (List.map (PV.int .i64) (b)))] [(.bool ((isPermB a && isPermB b && decide (a.length + b.length ≤ 8))))] := by
  refine Fun.of (sg := sg0) (ts := [4]) mo Try.func177 rfl rfl rfl rfl (by kernel_rfl) (by simp only [go_sem]) rfl ?_
  have fc : True := trivial
  repeat' first
    | with_reducible first | refine stp ?_ | refine q_blk_o rfl ?_ | (refine hK _ ?_; clear hK) | (refine hA ?_; clear hA hB) | (refine hB ?_; clear hA hB) | exact v_end0 | exact v_end0' | refine v_gb1 ?_ ?_ | refine v_gb0 ?_ ?_ | refine And.intro ?_ ?_
    | (with_reducible refine p_ok ?_; decide)
    | ((first | with_reducible first | refine v_region rfl rfl (fun K hK => ?_) | refine v_draws rfl rfl (fun K hK => ?_) | refine v_if (fun A B hA hB => ?_) | refine v_end rfl ?_ | refine v_fin1 ?_ | refine v_finC1 ?_ | refine v_callE (spec_IsPerm_c _ ?_) ?_ | refine v_finO1 rfl ?_ | refine v_finN1 rfl ?_ ?_ | refine v_apj ?_ (fun j' => ?_) | refine v_stz ?_ ?_ ?_ ?_ ?_ | refine v_stq ?_ | refine v_cv1 ?_ ?_ ?_ | (intro hc; replace fc := And.intro hc fc; try simp only [hcs] at hc)) <;> (try simp (config := { maxSteps := 1000000 }) only [go_sem, ↓reduceIte, reduceCtorEq, Nat.reduceEqDiff, Nat.reduceAdd, Nat.reduceMul, Nat.reduceSub, Nat.reduceLeDiff, Int.reduceLT, Int.reduceLE, Int.reduceEq, Int.reduceSub, Int.reduceAdd, Int.reduceMul, Int.reduceNeg, Int.reduceToNat, fc]) <;> (try with_reducible rfl))
  all_goals try (first | omega | (simp only [n_i64, n_u8]; omega) | (simp only [n_i64, n_u8, lnA]; omega))
  all_goals (congr 1; exact propext (by omega))
theorem fit_j {L : List (List Int)} {k : Bool} (hL : ∀ l ∈ L, permB l = true) (h8 : lenS L ≤ 8) {j : Nat} (h : j < L.length) : isPermB (joinL (L.take j) k) = true ∧ isPermB (L.getD j []) = true ∧ (joinL (L.take j) k).length + (L.getD j []).length ≤ 8 := by
  have h1 := joinL_len (k := k) (show j ≤ L.length by omega)
  have h2 := lenS_succ h
  have h3 := lenS_take (L := L) (j := j + 1)
  have h4 := joinL_perm (k := k) hL (show j ≤ L.length by omega)
  have h5 := hL _ (getD_mem (d := []) h)
  refine ⟨?_, ?_, by omega⟩
  · simp only [isPermB, h4, Bool.and_true, decide_eq_true_eq]; omega
  · simp only [isPermB, h5, Bool.and_true, decide_eq_true_eq]; omega
theorem spec_JoinParts_c {e0 m0 : Bool} (L : List (List Int)) (k : Bool) (hL : L.length ≤ 8) (hp : ∀ l ∈ L, permB l = true) (h8 : lenS L ≤ 8) : Fun Try.prog 173 [(.sl (.lent m0) (List.map (elI e0) (L))), (.bool (k))] [(.sl .own (List.map (PV.int .i64) (joinL L k))), (.bool (true))] := by
  refine Fun.of (sg := sg0) (ts := [4, 5]) mo Try.func173 rfl rfl rfl rfl (by kernel_rfl) (by simp only [go_sem]) rfl ?_
  have fc : True := trivial
  repeat' first
    | with_reducible first | refine stp ?_ | refine q_blk_o rfl ?_ | (refine hK _ ?_; clear hK) | (refine hA ?_; clear hA hB) | (refine hB ?_; clear hA hB) | exact v_end0 | exact v_end0' | refine v_gb1 ?_ ?_ | refine v_gb0 ?_ ?_ | refine And.intro ?_ ?_
    | (with_reducible refine p_ok ?_; decide)
    | ((first | with_reducible first | refine v_region rfl rfl (fun K hK => ?_) | refine v_draws rfl rfl (fun K hK => ?_) | refine v_if (fun A B hA hB => ?_) | refine v_end rfl ?_ | refine v_fin1 ?_ | refine v_finC1 ?_ | refine v_callE (spec_l4Fit_c _ _ ?_ ?_) ?_ | refine v_callE (spec_l4Join_c _ _ _ ?_ ?_ ?_ ?_) ?_ | refine v_finO1 rfl ?_ | refine v_finN1 rfl ?_ ?_ | refine v_apj ?_ (fun j' => ?_) | refine v_stz ?_ ?_ ?_ ?_ ?_ | refine v_stq ?_ | refine v_cv1 ?_ ?_ ?_ | (intro hc; replace fc := And.intro hc fc; try simp only [hcs] at hc)) <;> (try simp (config := { maxSteps := 1000000 }) only [go_sem, ↓reduceIte, reduceCtorEq, Nat.reduceEqDiff, Nat.reduceAdd, Nat.reduceMul, Nat.reduceSub, Nat.reduceLeDiff, Int.reduceLT, Int.reduceLE, Int.reduceEq, Int.reduceSub, Int.reduceAdd, Int.reduceMul, Int.reduceNeg, Int.reduceToNat, fc]) <;> (try with_reducible rfl))
  all_goals try (first | omega | (simp only [n_i64, n_u8]; omega) | (simp only [n_i64, n_u8, lnA]; omega))
  refine v_loop (fun ms1 S1 => ∃ (j : Nat), S1.e 0 = .p (.sl (.lent m0) (List.map (elI e0) (L))) ∧ S1.e 1 = .p (.bool (k)) ∧ S1.e 7 = .p (.int .i64 (j)) ∧ OwnL (S1.e 6) S1.h S1.n (PV.int .i64) ((joinL (L.take j) k).length) (joinL (L.take j) k) ∧ (j ≤ L.length) ∧ ms1 = L.length - j) ((fun (j : Nat) => L.length - j) (0)) ?init1_10 ?body1_10
  case' init1_10 =>
    refine ⟨0, ?_, ?_, ?_, ?_, ?_, rfl⟩
    all_goals (try simp only [go_sem, ↓reduceIte, reduceCtorEq, Nat.reduceEqDiff, Nat.reduceAdd, Nat.reduceMul, Nat.reduceSub, Nat.reduceLeDiff, Int.reduceLT, Int.reduceLE, Int.reduceEq, Int.reduceSub, Int.reduceAdd, Int.reduceMul, Int.reduceNeg, Int.reduceToNat])
    repeat' refine And.intro ?_ ?_
    all_goals try first | rfl | omega | (simp only [lnA] <;> omega) | ((first | refine stp ?_ | refine dkz_eq ?_ ?_) <;> first | rfl | omega | (simp only [lnA] <;> omega) | (simp only [lnA, List.append_assoc, List.cons_append, List.nil_append]; done) | skip)
  case' body1_10 =>
    rintro ms1 S1 ⟨j, h1_0, h1_1, h1_7, o1_6, c1_0, hm1⟩
    obtain ⟨i1_6, h1_6, b1_6, l1_6⟩ := o1_6.out
    have ni1_6 : ∀ c, (i1_6 = S1.n + c) = False := fun c => eq_false (by omega)
    have pi1_6 : ∀ c, (S1.n + c = i1_6) = False := fun c => eq_false (by omega)
    have qi1_6 : (i1_6 = S1.n) = False := eq_false (by omega)
    have ri1_6 : (S1.n = i1_6) = False := eq_false (by omega)
  by_cases hj : j < L.length
  · obtain ⟨b1, b2, b3⟩ := fit_j (k := k) hp h8 hj
    have b4 := (isPerm_facts b1).1
    have b5 := (isPerm_facts b2).1
    have b6 : ∀ x ∈ joinL (L.take j) k, -1000000 ≤ x ∧ x ≤ 1000000 := fun x hx => by have := perm_b8 b1 x hx; omega
    have b7 : ∀ x ∈ L.getD j [], -1000000 ≤ x ∧ x ≤ 1000000 := fun x hx => by have := perm_b8 b2 x hx; omega
    have b8 : decide ((joinL (L.take j) k).length + (L.getD j []).length ≤ 8) = true := decide_eq_true b3
    have fc : True := trivial
    repeat' first
      | with_reducible first | refine stp ?_ | refine q_blk_o rfl ?_ | (refine hK _ ?_; clear hK) | (refine hA ?_; clear hA hB) | (refine hB ?_; clear hA hB) | exact v_end0 | exact v_end0' | refine v_gb1 ?_ ?_ | refine v_gb0 ?_ ?_ | refine And.intro ?_ ?_
      | (with_reducible refine p_ok ?_; decide)
      | ((first | with_reducible first | refine v_region rfl rfl (fun K hK => ?_) | refine v_draws rfl rfl (fun K hK => ?_) | refine v_if (fun A B hA hB => ?_) | refine v_end rfl ?_ | refine v_fin1 ?_ | refine v_finC1 ?_ | refine v_callE (spec_l4Fit_c _ _ ?_ ?_) ?_ | refine v_callE (spec_l4Join_c _ _ _ ?_ ?_ ?_ ?_) ?_ | refine v_finO1 rfl ?_ | refine v_finN1 rfl ?_ ?_ | refine v_apj ?_ (fun j' => ?_) | refine v_stz ?_ ?_ ?_ ?_ ?_ | refine v_stq ?_ | refine v_cv1 ?_ ?_ ?_ | (intro hc; replace fc := And.intro hc fc; try simp only [hcs] at hc)) <;> (try simp (config := { maxSteps := 1000000 }) only [go_sem, ↓reduceIte, reduceCtorEq, Nat.reduceEqDiff, Nat.reduceAdd, Nat.reduceMul, Nat.reduceSub, Nat.reduceLeDiff, Int.reduceLT, Int.reduceLE, Int.reduceEq, Int.reduceSub, Int.reduceAdd, Int.reduceMul, Int.reduceNeg, Int.reduceToNat, h1_0, h1_1, h1_7, h1_6, b1_6, ni1_6, pi1_6, qi1_6, ri1_6, b1, b2, b8, fc]) <;> (try with_reducible rfl))
    all_goals try (first | omega | (simp only [n_i64, n_u8]; omega) | (simp only [n_i64, n_u8, lnA]; omega))
    · focus
        refine q_lp_n ((fun (j : Nat) => L.length - j) (j+1)) ?_ ⟨j+1, ?_, ?_, ?_, ?_, ?_, rfl⟩
        all_goals (try simp only [go_sem, ↓reduceIte, reduceCtorEq, Nat.reduceEqDiff, Nat.reduceAdd, Nat.reduceMul, Nat.reduceSub, Nat.reduceLeDiff, Int.reduceLT, Int.reduceLE, Int.reduceEq, Int.reduceSub, Int.reduceAdd, Int.reduceMul, Int.reduceNeg, Int.reduceToNat, h1_0, h1_1, h1_7, h1_6, b1_6, ni1_6, pi1_6, qi1_6, ri1_6])
        repeat' refine And.intro ?_ ?_
        all_goals try first | rfl | omega | (simp only [lnA] <;> omega) | ((first | refine stp ?_ | refine dkz_eq ?_ ?_) <;> first | rfl | omega | (simp only [lnA] <;> omega) | (simp only [lnA, List.append_assoc, List.cons_append, List.nil_append]; done) | skip)
      all_goals (rw [joinL_succ (by omega)])
  · have fc : True := trivial
    repeat' first
      | with_reducible first | refine stp ?_ | refine q_blk_o rfl ?_ | (refine hK _ ?_; clear hK) | (refine hA ?_; clear hA hB) | (refine hB ?_; clear hA hB) | exact v_end0 | exact v_end0' | refine v_gb1 ?_ ?_ | refine v_gb0 ?_ ?_ | refine And.intro ?_ ?_
      | (with_reducible refine p_ok ?_; decide)
      | ((first | with_reducible first | refine v_region rfl rfl (fun K hK => ?_) | refine v_draws rfl rfl (fun K hK => ?_) | refine v_if (fun A B hA hB => ?_) | refine v_end rfl ?_ | refine v_fin1 ?_ | refine v_finC1 ?_ | refine v_callE (spec_l4Fit_c _ _ ?_ ?_) ?_ | refine v_callE (spec_l4Join_c _ _ _ ?_ ?_ ?_ ?_) ?_ | refine v_finO1 rfl ?_ | refine v_finN1 rfl ?_ ?_ | refine v_apj ?_ (fun j' => ?_) | refine v_stz ?_ ?_ ?_ ?_ ?_ | refine v_stq ?_ | refine v_cv1 ?_ ?_ ?_ | (intro hc; replace fc := And.intro hc fc; try simp only [hcs] at hc)) <;> (try simp (config := { maxSteps := 1000000 }) only [go_sem, ↓reduceIte, reduceCtorEq, Nat.reduceEqDiff, Nat.reduceAdd, Nat.reduceMul, Nat.reduceSub, Nat.reduceLeDiff, Int.reduceLT, Int.reduceLE, Int.reduceEq, Int.reduceSub, Int.reduceAdd, Int.reduceMul, Int.reduceNeg, Int.reduceToNat, h1_0, h1_1, h1_7, h1_6, b1_6, ni1_6, pi1_6, qi1_6, ri1_6, fc]) <;> (try with_reducible rfl))
    all_goals try (first | omega | (simp only [n_i64, n_u8]; omega) | (simp only [n_i64, n_u8, lnA]; omega))
    rw [List.take_of_length_le (by omega)]
theorem spec_SkewParts_c {m0 : Bool} (p : List Int) (hp : isPermB p = true) : Fun Try.prog 156 [(.sl (.lent m0) (List.map (PV.int .i64) (p)))] [(.sl .own (List.map (elI false) (skewPt p)))] := by
  refine Fun.of (sg := sg0) (ts := [2]) mo Try.func156 rfl rfl rfl rfl (by kernel_rfl) (by simp only [go_sem]) rfl ?_
  have hl := (isPerm_facts hp).1
  have hq := (isPerm_facts hp).2
  have hb := perm_b8 hp
  have b1 := cplL_isPerm hp
  have b3 := sumPt_f (cplL_isPerm hp)
  have b4 : ∀ x ∈ p, 0 ≤ x ∧ x ≤ 1048576 := fun x hx => by have := hb x hx; omega
  have b5 : (spG ptI (cplL p) (cplL p).length).1 = sumPt (cplL p) := sumPt_pt (isPerm_facts b1).2
  have fc : True := trivial
  repeat' first
    | with_reducible first | refine stp ?_ | refine q_blk_o rfl ?_ | (refine hK _ ?_; clear hK) | (refine hA ?_; clear hA hB) | (refine hB ?_; clear hA hB) | exact v_end0 | exact v_end0' | refine v_gb1 ?_ ?_ | refine v_gb0 ?_ ?_ | refine And.intro ?_ ?_
    | (with_reducible refine p_ok ?_; decide)
    | ((first | with_reducible first | refine v_region rfl rfl (fun K hK => ?_) | refine v_draws rfl rfl (fun K hK => ?_) | refine v_if (fun A B hA hB => ?_) | refine v_end rfl ?_ | refine v_fin1 ?_ | refine v_finC1 ?_ | refine v_callE (spec_IsPerm_c _ ?_) ?_ | refine v_callE (spec_l3Complement_c _ ?_ ?_) ?_ | refine v_callE (spec_SumParts_c _ ?_) ?_ | refine v_finO1 rfl ?_ | refine v_finN1 rfl ?_ ?_ | refine v_apj ?_ (fun j' => ?_) | refine v_stz ?_ ?_ ?_ ?_ ?_ | refine v_stq ?_ | refine v_cv1 ?_ ?_ ?_ | (intro hc; replace fc := And.intro hc fc; try simp only [hcs] at hc)) <;> (try simp (config := { maxSteps := 1000000 }) only [go_sem, ↓reduceIte, reduceCtorEq, Nat.reduceEqDiff, Nat.reduceAdd, Nat.reduceMul, Nat.reduceSub, Nat.reduceLeDiff, Int.reduceLT, Int.reduceLE, Int.reduceEq, Int.reduceSub, Int.reduceAdd, Int.reduceMul, Int.reduceNeg, Int.reduceToNat, b5, hp, fc]) <;> (try with_reducible rfl))
  all_goals try (first | omega | (simp only [n_i64, n_u8]; omega) | (simp only [n_i64, n_u8, lnA]; omega))
  refine v_loop (fun ms1 S1 => ∃ (j : Nat), OwnL (S1.e 4) S1.h S1.n (elI false) ((sumPt (cplL p)).length) (sumPt (cplL p)) ∧ S1.e 5 = .p (.int .i64 (j)) ∧ OwnL (S1.e 3) S1.h S1.n (elI false) ((((sumPt (cplL p)).take j).map cplL).length) (((sumPt (cplL p)).take j).map cplL) ∧ (j ≤ (sumPt (cplL p)).length) ∧ NId (S1.e 3) (S1.e 4) ∧ ms1 = (sumPt (cplL p)).length - j) ((fun (j : Nat) => (sumPt (cplL p)).length - j) (0)) ?init1_11 ?body1_11
  case' init1_11 =>
    refine ⟨0, ?_, ?_, ?_, ?_, ?_, rfl⟩
    all_goals (try simp only [go_sem, ↓reduceIte, reduceCtorEq, Nat.reduceEqDiff, Nat.reduceAdd, Nat.reduceMul, Nat.reduceSub, Nat.reduceLeDiff, Int.reduceLT, Int.reduceLE, Int.reduceEq, Int.reduceSub, Int.reduceAdd, Int.reduceMul, Int.reduceNeg, Int.reduceToNat])
    repeat' refine And.intro ?_ ?_
    all_goals try first | rfl | omega | (simp only [lnA] <;> omega) | ((first | refine stp ?_ | refine dkz_eq ?_ ?_) <;> first | rfl | omega | (simp only [lnA] <;> omega) | (simp only [lnA, List.append_assoc, List.cons_append, List.nil_append]; done) | skip)
  case' body1_11 =>
    rintro ms1 S1 ⟨j, o1_4, h1_5, o1_3, c1_0, u1_0, hm1⟩
    obtain ⟨i1_4, h1_4, b1_4, l1_4⟩ := o1_4.out
    obtain ⟨i1_3, h1_3, b1_3, l1_3⟩ := o1_3.out
    have k1_0 := (u1_0).out h1_3 h1_4
    have ni1_4 : ∀ c, (i1_4 = S1.n + c) = False := fun c => eq_false (by omega)
    have pi1_4 : ∀ c, (S1.n + c = i1_4) = False := fun c => eq_false (by omega)
    have qi1_4 : (i1_4 = S1.n) = False := eq_false (by omega)
    have ri1_4 : (S1.n = i1_4) = False := eq_false (by omega)
    have ni1_3 : ∀ c, (i1_3 = S1.n + c) = False := fun c => eq_false (by omega)
    have pi1_3 : ∀ c, (S1.n + c = i1_3) = False := fun c => eq_false (by omega)
    have qi1_3 : (i1_3 = S1.n) = False := eq_false (by omega)
    have ri1_3 : (S1.n = i1_3) = False := eq_false (by omega)
    have di1_4i1_3 : (i1_4 = i1_3) = False := eq_false (by omega)
    have di1_3i1_4 : (i1_3 = i1_4) = False := eq_false (by omega)
  have b8 : j < (sumPt (cplL p)).length → ((sumPt (cplL p)).getD j []).length ≤ 8 ∧ ∀ x ∈ (sumPt (cplL p)).getD j [], 0 ≤ x ∧ x ≤ 1048576 := fun h => ⟨(b3.2.2.2 _ (getD_mem h)).2.1, fun x hx => by have := (b3.2.2.2 _ (getD_mem h)).2.2 x hx; omega⟩
  by_cases hj : j < (sumPt (cplL p)).length
  · have b9 := b8 hj
    have b11 := b9.1
    have b12 := b9.2
    have fc : True := trivial
    repeat' first
      | with_reducible first | refine stp ?_ | refine q_blk_o rfl ?_ | (refine hK _ ?_; clear hK) | (refine hA ?_; clear hA hB) | (refine hB ?_; clear hA hB) | exact v_end0 | exact v_end0' | refine v_gb1 ?_ ?_ | refine v_gb0 ?_ ?_ | refine And.intro ?_ ?_
      | (with_reducible refine p_ok ?_; decide)
      | ((first | with_reducible first | refine v_region rfl rfl (fun K hK => ?_) | refine v_draws rfl rfl (fun K hK => ?_) | refine v_if (fun A B hA hB => ?_) | refine v_end rfl ?_ | refine v_fin1 ?_ | refine v_finC1 ?_ | refine v_callE (spec_IsPerm_c _ ?_) ?_ | refine v_callE (spec_l3Complement_c _ ?_ ?_) ?_ | refine v_callE (spec_SumParts_c _ ?_) ?_ | refine v_finO1 rfl ?_ | refine v_finN1 rfl ?_ ?_ | refine v_apj ?_ (fun j' => ?_) | refine v_stz ?_ ?_ ?_ ?_ ?_ | refine v_stq ?_ | refine v_cv1 ?_ ?_ ?_ | (intro hc; replace fc := And.intro hc fc; try simp only [hcs] at hc)) <;> (try simp (config := { maxSteps := 1000000 }) only [go_sem, ↓reduceIte, reduceCtorEq, Nat.reduceEqDiff, Nat.reduceAdd, Nat.reduceMul, Nat.reduceSub, Nat.reduceLeDiff, Int.reduceLT, Int.reduceLE, Int.reduceEq, Int.reduceSub, Int.reduceAdd, Int.reduceMul, Int.reduceNeg, Int.reduceToNat, h1_5, h1_4, b1_4, h1_3, b1_3, ni1_4, pi1_4, qi1_4, ri1_4, ni1_3, pi1_3, qi1_3, ri1_3, di1_4i1_3, di1_3i1_4, fc]) <;> (try with_reducible rfl))
    all_goals try (first | omega | (simp only [n_i64, n_u8]; omega) | (simp only [n_i64, n_u8, lnA]; omega))
    focus
      refine q_lp_n ((fun (j : Nat) => (sumPt (cplL p)).length - j) (j+1)) ?_ ⟨j+1, ?_, ?_, ?_, ?_, ?_, rfl⟩
      all_goals (try simp only [go_sem, ↓reduceIte, reduceCtorEq, Nat.reduceEqDiff, Nat.reduceAdd, Nat.reduceMul, Nat.reduceSub, Nat.reduceLeDiff, Int.reduceLT, Int.reduceLE, Int.reduceEq, Int.reduceSub, Int.reduceAdd, Int.reduceMul, Int.reduceNeg, Int.reduceToNat, h1_5, h1_4, b1_4, h1_3, b1_3, ni1_4, pi1_4, qi1_4, ri1_4, ni1_3, pi1_3, qi1_3, ri1_3, di1_4i1_3, di1_3i1_4])
      repeat' refine And.intro ?_ ?_
      all_goals try first | rfl | omega | (simp only [lnA] <;> omega) | ((first | refine stp ?_ | refine dkz_eq ?_ ?_) <;> first | rfl | omega | (simp only [lnA] <;> omega) | (simp only [lnA, List.append_assoc, List.cons_append, List.nil_append]; done) | skip)
    all_goals (rw [take_getD (d := []) hj, List.map_append]; rfl)
  · have fc : True := trivial
    repeat' first
      | with_reducible first | refine stp ?_ | refine q_blk_o rfl ?_ | (refine hK _ ?_; clear hK) | (refine hA ?_; clear hA hB) | (refine hB ?_; clear hA hB) | exact v_end0 | exact v_end0' | refine v_gb1 ?_ ?_ | refine v_gb0 ?_ ?_ | refine And.intro ?_ ?_
      | (with_reducible refine p_ok ?_; decide)
      | ((first | with_reducible first | refine v_region rfl rfl (fun K hK => ?_) | refine v_draws rfl rfl (fun K hK => ?_) | refine v_if (fun A B hA hB => ?_) | refine v_end rfl ?_ | refine v_fin1 ?_ | refine v_finC1 ?_ | refine v_callE (spec_IsPerm_c _ ?_) ?_ | refine v_callE (spec_l3Complement_c _ ?_ ?_) ?_ | refine v_callE (spec_SumParts_c _ ?_) ?_ | refine v_finO1 rfl ?_ | refine v_finN1 rfl ?_ ?_ | refine v_apj ?_ (fun j' => ?_) | refine v_stz ?_ ?_ ?_ ?_ ?_ | refine v_stq ?_ | refine v_cv1 ?_ ?_ ?_ | (intro hc; replace fc := And.intro hc fc; try simp only [hcs] at hc)) <;> (try simp (config := { maxSteps := 1000000 }) only [go_sem, ↓reduceIte, reduceCtorEq, Nat.reduceEqDiff, Nat.reduceAdd, Nat.reduceMul, Nat.reduceSub, Nat.reduceLeDiff, Int.reduceLT, Int.reduceLE, Int.reduceEq, Int.reduceSub, Int.reduceAdd, Int.reduceMul, Int.reduceNeg, Int.reduceToNat, h1_5, h1_4, b1_4, h1_3, b1_3, ni1_4, pi1_4, qi1_4, ri1_4, ni1_3, pi1_3, qi1_3, ri1_3, di1_4i1_3, di1_3i1_4, fc]) <;> (try with_reducible rfl))
    all_goals try (first | omega | (simp only [n_i64, n_u8]; omega) | (simp only [n_i64, n_u8, lnA]; omega))
    obtain rfl : j = (sumPt (cplL p)).length := by omega
    simp [skewPt]
theorem spec_l6Sum_c {m0 : Bool} (L : List (List Int)) (k : Bool) (h0 : 1 ≤ L.length) (hL : L.length ≤ 8) (hp : ∀ l ∈ L, permB l = true) (h8 : lenS L ≤ 8) : Fun Try.prog 155 [(.sl (.lent m0) (List.map (elI false) (L))), (.bool (k))] [(.agg [(.sl (.lent false) (List.map (PV.int .i64) ((if k then [2, 1] else [1, 2])))), (.sl (.lent false) (List.map (elI false) ([L.getD 0 [], joinL (L.drop 1) k])))])] := by
  refine Fun.ofR (sg := sg0) (rs := [.cell 4 78]) mo Try.func155 rfl rfl rfl rfl (by kernel_rfl) (by simp only [go_sem]) rfl ?_
  have b1 : (L.drop 1).length ≤ 8 := by simp; omega
  have b2 : ∀ l ∈ L.drop 1, permB l = true := fun l hl => hp l (List.mem_of_mem_drop hl)
  have b3 : lenS (L.drop 1) ≤ 8 := Nat.le_trans lenS_drop h8
  have b4 := lenS_mem (getD_mem (d := []) (show 0 < L.length by omega))
  have fc : True := trivial
  repeat' first
    | with_reducible first | refine stp ?_ | refine q_blk_o rfl ?_ | (refine hK _ ?_; clear hK) | (refine hA ?_; clear hA hB) | (refine hB ?_; clear hA hB) | exact v_end0 | exact v_end0' | refine v_gb1 ?_ ?_ | refine v_gb0 ?_ ?_ | refine And.intro ?_ ?_
    | (with_reducible refine p_ok ?_; decide)
    | ((first | with_reducible first | refine v_region rfl rfl (fun K hK => ?_) | refine v_draws rfl rfl (fun K hK => ?_) | refine v_if (fun A B hA hB => ?_) | refine v_end rfl ?_ | refine v_fin1 ?_ | refine v_finC1 ?_ | refine v_callE (spec_JoinParts_c _ _ ?_ ?_ ?_) ?_ | refine v_finO1 rfl ?_ | refine v_finN1 rfl ?_ ?_ | refine v_apj ?_ (fun j' => ?_) | refine v_stz ?_ ?_ ?_ ?_ ?_ | refine v_stq ?_ | refine v_cv1 ?_ ?_ ?_ | (intro hc; replace fc := And.intro hc fc; try simp only [hcs] at hc)) <;> (try simp (config := { maxSteps := 1000000 }) only [go_sem, ↓reduceIte, reduceCtorEq, Nat.reduceEqDiff, Nat.reduceAdd, Nat.reduceMul, Nat.reduceSub, Nat.reduceLeDiff, Int.reduceLT, Int.reduceLE, Int.reduceEq, Int.reduceSub, Int.reduceAdd, Int.reduceMul, Int.reduceNeg, Int.reduceToNat, fc]) <;> (try with_reducible rfl))
  all_goals try (first | omega | (simp only [n_i64, n_u8]; omega) | (simp only [n_i64, n_u8, lnA]; omega))
end Go.Gl
