/-
  The law of codes, ranks and forms. Conditions: none.
-/
import Derived.Test.YtnoedblfedppkaaDrawC
import Derived.Test.YtnoedblfedppkaaNext
set_option linter.unusedSimpArgs false
set_option linter.unusedVariables false
set_option maxRecDepth 20000
set_option linter.unusedSectionVars false
namespace Go.Gl
open Go Go.Proofs
variable [Amb]
theorem npL_len (x : List Int) : (npL x).length ≤ 8 := by
  unfold npL; split
  · unfold paL; split
    · rename_i h
      have := (rank_pa h).1
      have g := (isP_8 this).1
      unfold paL at g; rw [if_pos h] at g; exact g
    · simp
  · simp
theorem focL_8 {p : List Int} : (focL p).length ≤ 8 := by
  by_cases hq : isPermB p = true
  · rw [focL, if_pos hq, List.length_reverse, srtI_len]
    have : (kpI (fun x => decide (x = 0)) (codeGo p)).length ≤ (codeGo p).length := List.length_filter_le _ _
    rw [codeGo_length] at this
    have := (isP_8 hq).1; omega
  · rw [focL, if_neg hq]; simp
theorem dself {a : List Int} : decide (a = a) = true := by simp
theorem bself {a : Bool} : (a == a) = true := by simp
theorem iself {a : Int} : decide (a = a) = true := by simp
theorem lexI_cmp : ∀ {a b : List Int}, a.length = b.length → lexI a b = true → cmpL a b < 0
  | [], [], _, h => by cases h
  | [], _ :: _, h, _ => by cases h
  | _ :: _, [], h, _ => by cases h
  | a :: x, b :: y, h, hl => by
    rw [lexI, Bool.or_eq_true, Bool.and_eq_true, decide_eq_true_eq, decide_eq_true_eq] at hl
    rw [cmpL]
    by_cases e : a = b
    · rw [if_neg (by rw [cmpI_0.2 e]; omega)]
      rcases hl with g | g
      · omega
      · exact lexI_cmp (by simpa using h) g.2
    · rw [if_pos (fun q => e (cmpI_0.1 q))]
      rcases hl with g | g
      · exact cmpI_lt_iff.2 g
      · exact absurd g.1 e
theorem co_fact {p : List Int} (h : isPermB p = true) : pcB (coL p) = true ∧ pcL (coL p) = p := by
  obtain ⟨h8, hp⟩ := isP_8 h
  have e : coL p = codeGo p := if_pos h
  have hb : pcB (codeGo p) = true := by rw [pcB, codeGo_in, codeGo_length, decide_eq_true h8]; rfl
  rw [e]
  refine ⟨hb, ?_⟩
  rw [pcL, if_pos hb, codeGo_length, poc_code idL_si (perm_id hp)]
theorem pc_fact {l : List Int} (h : pcB l = true) : coL (pcL l) = l ∧ (pcL l).length = l.length := by
  have h' := h
  simp only [pcB, Bool.and_eq_true, decide_eq_true_eq] at h'
  have e : pcL l = pocGo l (idL l.length) := if_pos h
  have hp := id_permB (poc_perm h'.2 (l := idL l.length) idL_len)
  rw [e, coL, if_pos (by simp only [isPermB, hp.1, Bool.and_true, decide_eq_true_eq]; omega)]
  exact ⟨code_poc idL_si h'.2 idL_len, hp.2⟩
theorem pcL_len {l : List Int} : (pcL l).length ≤ 8 := by
  by_cases h : pcB l = true
  · have h' := h
    simp only [pcB, Bool.and_eq_true, decide_eq_true_eq] at h'
    rw [(pc_fact h).2]; exact h'.1
  · rw [pcL, if_neg h]; simp
theorem paL_len {n r : Int} : (paL n r).length ≤ 8 := by
  by_cases h : paOk n r = true
  · have h1 := (rank_pa h).1
    exact (isP_8 h1).1
  · rw [paL, if_neg h]; simp
theorem coL_b {p : List Int} (hp : p.length ≤ 1048576) : (coL p).length ≤ 8 ∧ ∀ x ∈ coL p, 0 ≤ x ∧ x ≤ 8 := by
  by_cases h : isPermB p = true
  · obtain ⟨h8, _⟩ := isP_8 h
    rw [coL, if_pos h, codeGo_length]
    refine ⟨h8, fun x hx => ?_⟩
    obtain ⟨i, hi, rfl⟩ := List.getElem_of_mem hx
    have := codeGo_at p i
    rw [List.getD_eq_getElem?_getD, List.getElem?_eq_getElem hi] at this
    simp only [Option.getD_some] at this; omega
  · rw [coL, if_neg h]; simp
theorem np_fact {x : List Int} (h : npOk x = true) : isPermB x = true ∧ isPermB (npL x) = true ∧ befB x (npL x) = true ∧ rankGo (codeGo (npL x)) = rankGo (codeGo x) + 1 := by
  simp only [npOk, Bool.and_eq_true] at h
  obtain ⟨h1, h2⟩ := h
  obtain ⟨h8, hp⟩ := isP_8 h1
  obtain ⟨r1, r2, r3⟩ := rank_pa h2
  have e : npL x = paL x.length (rankGo (codeGo x) + 1) := if_pos h1
  rw [e]
  refine ⟨h1, r1, ?_, r2⟩
  obtain ⟨g8, gp⟩ := isP_8 r1
  have hl : (paL x.length (rankGo (codeGo x) + 1)).length = x.length := by omega
  rw [bef_iff]
  refine .inr ⟨hl.symm, lexI_cmp hl.symm ?_⟩
  generalize hy : paL x.length (rankGo (codeGo x) + 1) = y at *
  have e1 := poc_code idL_si (perm_id hp)
  have e2 := poc_code idL_si (perm_id gp)
  rw [hl] at e2
  have k1 := rkN_eq (codeGo_in (p := x))
  have k2 := rkN_eq (codeGo_in (p := y))
  have := lex_rank (idL_si (n := x.length)) (codeGo_in (p := x)) (codeGo_in (p := y)) (by rw [idL_len, codeGo_length]) (by rw [idL_len, codeGo_length]; exact hl.symm) (by omega)
  rw [e1, e2] at this
  exact this
set_option maxHeartbeats 8000000 in
theorem laws_FnCodes_c (b : List UInt8) : Fun Try.prog 8 [(.sl (.lent false) (List.map u8P (b)))] [(.bool (true))] := by
  by_cases hs : b.length ≤ 1048576
  · obtain ⟨p, d1, hp⟩ := spec_DrawCodeOf_x b hs
    obtain ⟨l, d2, hl⟩ := spec_DrawPermOfCode_x b hs
    obtain ⟨n, k, d3, hn0, hn1, hk0, hk1⟩ := spec_DrawPermAt_x b hs
    obtain ⟨f, d4, hf0, hf1⟩ := spec_DrawTurnedForm_x b hs
    obtain ⟨x, d5, hx⟩ := spec_DrawNextPerm_x b hs
    have p1 := hp.len
    have l1 := hl.len
    have x1 := hx.len
    have c1 : ∀ (m : Bool) (p : List Int), p.length ≤ 1048576 → Fun Try.prog 74 [.sl (.lent m) (List.map (PV.int .i64) p)] [.sl .own (List.map (PV.int .i64) (coL p))] := fun m p h => spec_CodeOf_c (m0 := m) p h
    have b1 := coL_b (p := p) (by omega)
    have b2 := pcL_len (l := l)
    have b3 := paL_len (n := n) (r := k)
    have b4 := npL_len x
    have b5 := tfL_b (f := f)
    have b6 := coL_b (p := pcL l) (by omega)
    have b7 := focL_8 (p := p)
    have b8 := pcL_len (l := coL p)
    have b9 := paL_len (n := p.length) (r := rankGo (codeGo p))
    have bA := tfL_b (f := tfL f)
    have f1 : isPermB p = true → pcB (coL p) = true := fun h => (co_fact h).1
    have f2 : isPermB p = true → pcL (coL p) = p := fun h => (co_fact h).2
    have f3 : isPermB p = true → paOk p.length (rankGo (codeGo p)) = true := fun h => (pa_rank h).1
    have f4 : isPermB p = true → paL p.length (rankGo (codeGo p)) = p := fun h => (pa_rank h).2
    have f5 : isPermB p = true → sumI (coL p) = invN p p.length := fun h => by rw [coL, if_pos h, inv_code]
    have f6 : pcB l = true → coL (pcL l) = l := fun h => (pc_fact h).1
    have f7 : paOk n k = true → (if isPermB (paL n k) then rankGo (codeGo (paL n k)) else -1) = k := fun h => by rw [if_pos (rank_pa h).1]; exact (rank_pa h).2.1
    have f8 : npOk x = true → (isPermB x && isPermB (npL x) && befB x (npL x)) = true := fun h => by rw [(np_fact h).1, (np_fact h).2.1, (np_fact h).2.2.1]; rfl
    have f9 : npOk x = true → (if isPermB (npL x) then rankGo (codeGo (npL x)) else -1) = (if isPermB x then rankGo (codeGo x) else -1) + 1 := fun h => by rw [if_pos (np_fact h).1, if_pos (np_fact h).2.1]; exact (np_fact h).2.2.2
    have fT : (tfL f).length = 0 ∨ (sumI (tfL f) = sumI f ∧ (tfL (tfL f)).length = f.length) := by
      by_cases h : tfL f = []
      · left; rw [h]; rfl
      · exact .inr ⟨tf_sum h, tf_back h⟩
    have g1 : ∀ x ∈ coL p, -1048576 ≤ x ∧ x ≤ 1048576 := fun x h => by have := b1.2 x h; omega
    have g2 : ∀ x ∈ tfL f, -1048576 ≤ x ∧ x ≤ 1048576 := fun x h => by have := b5.2 x h; omega
    have g3 : ∀ x ∈ f, -1048576 ≤ x ∧ x ≤ 1048576 := fun x h => by have := hf1 x h; omega
    have g4 : inR IntKind.i64 ((if isPermB x = true then rankGo (codeGo x) else -1) + 1) := by
      simp only [n_i64]
      split
      · rename_i h; have := rank_in h; omega
      · omega
    refine Fun.of (sg := sg0) (ts := [2]) mo Try.func8 rfl rfl rfl rfl (by kernel_rfl) (by simp only [go_sem]) rfl ?_
    have fc : True := trivial
    repeat' first
      | with_reducible first | refine stp ?_ | refine q_blk_o rfl ?_ | (refine hK _ ?_; clear hK) | (refine hA ?_; clear hA hB) | (refine hB ?_; clear hA hB) | exact v_end0 | exact v_end0' | refine v_gb1 ?_ ?_ | refine v_gb0 ?_ ?_ | refine And.intro ?_ ?_
      | (with_reducible refine p_ok ?_; decide)
      | ((first | with_reducible first | refine v_region rfl rfl (fun K hK => ?_) | refine v_draws rfl rfl (fun K hK => ?_) | refine v_if (fun A B hA hB => ?_) | refine v_end rfl ?_ | refine v_fin1 ?_ | refine v_finC1 ?_ | refine v_finR1 ?_ | refine v_callE (d1) ?_ | refine v_callE (d2) ?_ | refine v_callE (d3) ?_ | refine v_callE (d4) ?_ | refine v_callE (d5) ?_ | refine v_callE (laws_big_c _) ?_ | refine v_callE (c1 _ _ ?_) ?_ | refine v_callE (spec_PermOfCode_f_c _ ?_) ?_ | refine v_callE (impl_CodeOf_c _ ?_) ?_ | refine v_callE (impl_PermOfCode_c _ ?_) ?_ | refine v_callE (impl_PermAt_c _ _ ?_) ?_ | refine v_callE (spec_PermAt_c _ _ ?_) ?_ | refine v_callE (impl_TurnedForm_c _ ?_) ?_ | refine v_callE (impl_NextPerm_c _ ?_) ?_ | refine v_callE (spec_NextPerm_c _ ?_) ?_ | refine v_callE (laws_sameInts_c _ _ ?_ ?_) ?_ | refine v_callE (spec_TurnedForm_c _ ?_) ?_ | refine v_callE (impl_RankOf_c _ ?_) ?_ | refine v_callE (spec_RankOf_c _ ?_) ?_ | refine v_callE (impl_FormOfCode_c _ ?_) ?_ | refine v_callE (spec_FormOfCode_c _ ?_) ?_ | refine v_callE (spec_IsPerm_c _ ?_) ?_ | refine v_callE (laws_total_c _ ?_ ?_) ?_ | refine v_callE (spec_CountInversions_c _ ?_) ?_ | refine v_callE (spec_BeforePerm_c _ _ ?_ ?_) ?_ | refine v_finO1 rfl ?_ | refine v_finN1 rfl ?_ ?_ | refine v_apj ?_ (fun j' => ?_) | refine v_stz ?_ ?_ ?_ ?_ ?_ | refine v_stq ?_ | refine v_cv1 ?_ ?_ ?_ | (intro hc; replace fc := And.intro hc fc; try simp only [hcs] at hc)) <;> (try simp (config := { maxSteps := 1000000 }) only [go_sem, ↓reduceIte, reduceCtorEq, Nat.reduceEqDiff, Nat.reduceAdd, Nat.reduceMul, Nat.reduceSub, Nat.reduceLeDiff, Int.reduceLT, Int.reduceLE, Int.reduceEq, Int.reduceSub, Int.reduceAdd, Int.reduceMul, Int.reduceNeg, Int.reduceToNat, dself, iself, bself, f1, f2, f3, f4, f5, f6, f7, f8, f9, fc]) <;> (try with_reducible rfl))
    all_goals try (first | omega | (simp only [n_i64, n_u8]; omega) | (simp only [n_i64, n_u8, lnA]; omega) | (simp only [lnA]; done) | exact List.take_of_length_le (by simp))
    all_goals first | exact g1 | exact g2 | exact g3 | exact g4 | (have := rank_in ‹isPermB p = true›; omega) | (rcases fT with e | ⟨e1, e2⟩ <;> first | omega | exact decide_eq_true (by omega)) | trace_state
  · refine Fun.of (sg := sg0) (ts := [2]) mo Try.func8 rfl rfl rfl rfl (by kernel_rfl) (by simp only [go_sem]) rfl ?_
    have c1 : decide ((1048576 : Int) < b.length) = true := decide_eq_true (by omega)
    have fc : True := trivial
    repeat' first
      | with_reducible first | refine stp ?_ | refine q_blk_o rfl ?_ | (refine hK _ ?_; clear hK) | (refine hA ?_; clear hA hB) | (refine hB ?_; clear hA hB) | exact v_end0 | exact v_end0' | refine v_gb1 ?_ ?_ | refine v_gb0 ?_ ?_ | refine And.intro ?_ ?_
      | (with_reducible refine p_ok ?_; decide)
      | ((first | with_reducible first | refine v_region rfl rfl (fun K hK => ?_) | refine v_draws rfl rfl (fun K hK => ?_) | refine v_if (fun A B hA hB => ?_) | refine v_end rfl ?_ | refine v_fin1 ?_ | refine v_finC1 ?_ | refine v_finR1 ?_ | refine v_callE (laws_big_c _) ?_ | refine v_callE (impl_CodeOf_c _ ?_) ?_ | refine v_callE (impl_PermOfCode_c _ ?_) ?_ | refine v_callE (spec_PermOfCode_c _ ?_ ?_) ?_ | refine v_callE (spec_PermOfCode_f_c _ ?_) ?_ | refine v_callE (impl_PermAt_c _ _ ?_) ?_ | refine v_callE (spec_PermAt_c _ _ ?_) ?_ | refine v_callE (impl_TurnedForm_c _ ?_) ?_ | refine v_callE (impl_NextPerm_c _ ?_) ?_ | refine v_callE (spec_NextPerm_c _ ?_) ?_ | refine v_callE (spec_CodeOf_c _ ?_) ?_ | refine v_callE (laws_sameInts_c _ _ ?_ ?_) ?_ | refine v_callE (spec_TurnedForm_c _ ?_) ?_ | refine v_callE (impl_RankOf_c _ ?_) ?_ | refine v_callE (spec_RankOf_c _ ?_) ?_ | refine v_callE (impl_FormOfCode_c _ ?_) ?_ | refine v_callE (spec_FormOfCode_c _ ?_) ?_ | refine v_callE (spec_IsPerm_c _ ?_) ?_ | refine v_callE (laws_total_c _ ?_ ?_) ?_ | refine v_callE (spec_CountInversions_c _ ?_) ?_ | refine v_callE (spec_BeforePerm_c _ _ ?_ ?_) ?_ | refine v_finO1 rfl ?_ | refine v_finN1 rfl ?_ ?_ | refine v_apj ?_ (fun j' => ?_) | refine v_stz ?_ ?_ ?_ ?_ ?_ | refine v_stq ?_ | refine v_cv1 ?_ ?_ ?_ | (intro hc; replace fc := And.intro hc fc; try simp only [hcs] at hc)) <;> (try simp (config := { maxSteps := 1000000 }) only [go_sem, ↓reduceIte, reduceCtorEq, Nat.reduceEqDiff, Nat.reduceAdd, Nat.reduceMul, Nat.reduceSub, Nat.reduceLeDiff, Int.reduceLT, Int.reduceLE, Int.reduceEq, Int.reduceSub, Int.reduceAdd, Int.reduceMul, Int.reduceNeg, Int.reduceToNat, c1, fc]) <;> (try with_reducible rfl))
end Go.Gl
