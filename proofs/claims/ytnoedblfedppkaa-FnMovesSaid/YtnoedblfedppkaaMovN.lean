/-
  The nearest permutation in which 132 does not occur: that it can be made. Conditions: none.
-/
import Derived.Test.YtnoedblfedppkaaMovF
import Derived.Test.YtnoedblfedppkaaCodT
import Derived.Test.YtnoedblfedppkaaFoc
set_option linter.unusedSimpArgs false
set_option linter.unusedVariables false
set_option maxRecDepth 20000
set_option linter.unusedSectionVars false
namespace Go.Gl
open Go Go.Proofs
variable [Amb]
/-- Is a place's number below all before it? -/
def lowB (p : List Int) (k : Nat) : Bool := (p.take k).all fun x => decide (p.getD k 0 < x)
def loI (p : List Int) (k : Nat) : List Int := ((List.range k).filter (lowB p)).map fun i : Nat => (i : Int) + 1
theorem loI_succ {p : List Int} {k : Nat} : loI p (k + 1) = loI p k ++ if lowB p k then [(k : Int) + 1] else [] := by
  rw [loI, List.range_succ, List.filter_append, List.map_append, ← loI, List.filter_cons]
  cases lowB p k <;> rfl
theorem loI_len {p : List Int} : ∀ {k : Nat}, (loI p k).length ≤ k
  | 0 => by simp [loI]
  | k + 1 => by have := loI_len (p := p) (k := k); rw [loI_succ, List.length_append]; split <;> simp <;> omega
theorem loI_has {p : List Int} {n k : Nat} (h : k < n) : (loI p n).contains ((k : Int) + 1) = lowB p k := by
  rw [Bool.eq_iff_iff, List.contains_iff_mem]
  simp only [loI, List.mem_map, List.mem_filter, List.mem_range]
  constructor
  · rintro ⟨i, ⟨_, h2⟩, h3⟩
    have : i = k := by omega
    rw [← this]; exact h2
  · intro h2; exact ⟨k, ⟨h, h2⟩, rfl⟩
structure MinT (p : List Int) (k : Nat) (t : Int) : Prop where
  le : ∀ x ∈ p.take k, t ≤ x
  mem : k = 0 ∧ t = (p.length : Int) + 1 ∨ t ∈ p.take k
theorem minT_low {p : List Int} (hp : permB p = true) {k : Nat} {t : Int} (h : MinT p k t) (hk : k < p.length) : lowB p k = decide (p.getD k 0 < t) := by
  rw [lowB, Bool.eq_iff_iff, List.all_eq_true, decide_eq_true_eq]
  constructor
  · intro h1
    rcases h.mem with ⟨_, e⟩ | e
    · have := (permB_iff.1 hp).1 _ (getD_mem (d := 0) hk); omega
    · exact of_decide_eq_true (h1 t e)
  · intro h1 x hx
    have := h.le x hx
    exact decide_eq_true (by omega)
theorem minT_step {p : List Int} (hp : permB p = true) {k : Nat} {t : Int} (h : MinT p k t) (hk : k < p.length) : MinT p (k + 1) (if p.getD k 0 < t then p.getD k 0 else t) := by
  have e : p.take (k + 1) = p.take k ++ [p.getD k 0] := take_getD hk
  refine ⟨fun x hx => ?_, .inr ?_⟩
  · rw [e] at hx
    rcases List.mem_append.1 hx with q | q
    · have := h.le x q; split <;> omega
    · rw [List.mem_singleton] at q; subst q; split <;> omega
  · rw [e]
    split
    · simp
    · rcases h.mem with ⟨e1, e2⟩ | g
      · exfalso
        rename_i q
        have := (permB_iff.1 hp).1 _ (getD_mem (d := 0) hk); omega
      · simp [g]
theorem spec_LowsOf_c {m0 : Bool} (p : List Int) (hl : p.length ≤ 1048576) (hp : isPermB p = true) : Fun Try.prog 246 [(.sl (.lent m0) (List.map (PV.int .i64) (p)))] [(.sl .own (List.map (PV.int .i64) (loI p p.length)))] := by
  refine Fun.of (sg := sg0) (ts := [2]) mo Try.func246 rfl rfl rfl rfl (by kernel_rfl) (by simp only [go_sem]) rfl ?_
  obtain ⟨h8, hq⟩ := isP_8 hp
  have fc : True := trivial
  repeat' first
    | with_reducible first | refine stp ?_ | refine q_blk_o rfl ?_ | (refine hK _ ?_; clear hK) | (refine hA ?_; clear hA hB) | (refine hB ?_; clear hA hB) | exact v_end0 | exact v_end0' | refine v_gb1 ?_ ?_ | refine v_gb0 ?_ ?_ | refine And.intro ?_ ?_
    | (with_reducible refine p_ok ?_; decide)
    | ((first | with_reducible first | refine v_region rfl rfl (fun K hK => ?_) | refine v_draws rfl rfl (fun K hK => ?_) | refine v_if (fun A B hA hB => ?_) | refine v_end rfl ?_ | refine v_fin1 ?_ | refine v_finC1 ?_ | refine v_finR1 ?_ | refine v_callE (spec_IsPerm_c _ ?_) ?_ | refine v_finO1 rfl ?_ | refine v_finN1 rfl ?_ ?_ | refine v_apj ?_ (fun j' => ?_) | refine v_stz ?_ ?_ ?_ ?_ ?_ | refine v_stq ?_ | refine v_cv1 ?_ ?_ ?_ | (intro hc; replace fc := And.intro hc fc; try simp only [hcs] at hc)) <;> (try simp (config := { maxSteps := 1000000 }) only [go_sem, ↓reduceIte, reduceCtorEq, Nat.reduceEqDiff, Nat.reduceAdd, Nat.reduceMul, Nat.reduceSub, Nat.reduceLeDiff, Int.reduceLT, Int.reduceLE, Int.reduceEq, Int.reduceSub, Int.reduceAdd, Int.reduceMul, Int.reduceNeg, Int.reduceToNat, fc]) <;> (try with_reducible rfl))
  all_goals try (first | omega | (simp only [n_i64, n_u8]; omega) | (simp only [n_i64, n_u8, lnA]; omega) | (simp only [lnA]; done) | exact List.take_of_length_le (by simp))
  refine v_loop (fun ms1 S1 => ∃ (k : Nat) (t : Int), S1.e 0 = .p (.sl (.lent m0) (List.map (PV.int .i64) (p))) ∧ OwnL (S1.e 3) S1.h S1.n (PV.int .i64) ((loI p k).length) (loI p k) ∧ S1.e 4 = .p (.int .i64 (t)) ∧ S1.e 5 = .p (.int .i64 (k)) ∧ (k ≤ p.length) ∧ (MinT p k t) ∧ ms1 = p.length - k) ((fun (k : Nat) (t : Int) => p.length - k) (0) ((p.length : Int) + 1)) ?init1_0 ?body1_0
  case' init1_0 =>
    refine ⟨0, (p.length : Int) + 1, ?_, ?_, ?_, ?_, ?_, ?_, rfl⟩
    all_goals (try simp only [go_sem, ↓reduceIte, reduceCtorEq, Nat.reduceEqDiff, Nat.reduceAdd, Nat.reduceMul, Nat.reduceSub, Nat.reduceLeDiff, Int.reduceLT, Int.reduceLE, Int.reduceEq, Int.reduceSub, Int.reduceAdd, Int.reduceMul, Int.reduceNeg, Int.reduceToNat])
    repeat' refine And.intro ?_ ?_
    all_goals try first | rfl | omega | (simp only [lnA] <;> omega) | ((first | refine stp ?_ | refine dkz_eq ?_ ?_) <;> first | rfl | omega | (simp only [lnA] <;> omega) | (simp only [lnA, List.append_assoc, List.cons_append, List.nil_append]; done) | skip)
  case' body1_0 =>
    rintro ms1 S1 ⟨k, t, h1_0, o1_3, h1_4, h1_5, c1_0, c1_1, hm1⟩
    obtain ⟨i1_3, h1_3, b1_3, l1_3⟩ := o1_3.out
    have ni1_3 : ∀ c, (i1_3 = S1.n + c) = False := fun c => eq_false (by omega)
    have pi1_3 : ∀ c, (S1.n + c = i1_3) = False := fun c => eq_false (by omega)
    have qi1_3 : (i1_3 = S1.n) = False := eq_false (by omega)
    have ri1_3 : (S1.n = i1_3) = False := eq_false (by omega)
  · have b1 := loI_len (p := p) (k := k)
    by_cases hk : k < p.length
    · have g1 := minT_low hq c1_1 hk
      have g2 := minT_step hq c1_1 hk
      by_cases hlt : p.getD k 0 < t
      · rw [if_pos hlt] at g2
        have g3 : loI p (k + 1) = loI p k ++ [(k : Int) + 1] := by rw [loI_succ, g1, decide_eq_true hlt]; rfl
        have fc : True := trivial
        repeat' first
          | with_reducible first | refine stp ?_ | refine q_blk_o rfl ?_ | (refine hK _ ?_; clear hK) | (refine hA ?_; clear hA hB) | (refine hB ?_; clear hA hB) | exact v_end0 | exact v_end0' | refine v_gb1 ?_ ?_ | refine v_gb0 ?_ ?_ | refine And.intro ?_ ?_
          | (with_reducible refine p_ok ?_; decide)
          | ((first | with_reducible first | refine v_region rfl rfl (fun K hK => ?_) | refine v_draws rfl rfl (fun K hK => ?_) | refine v_if (fun A B hA hB => ?_) | refine v_end rfl ?_ | refine v_fin1 ?_ | refine v_finC1 ?_ | refine v_finR1 ?_ | refine v_callE (spec_IsPerm_c _ ?_) ?_ | refine v_finO1 rfl ?_ | refine v_finN1 rfl ?_ ?_ | refine v_apj ?_ (fun j' => ?_) | refine v_stz ?_ ?_ ?_ ?_ ?_ | refine v_stq ?_ | refine v_cv1 ?_ ?_ ?_ | (intro hc; replace fc := And.intro hc fc; try simp only [hcs] at hc)) <;> (try simp (config := { maxSteps := 1000000 }) only [go_sem, ↓reduceIte, reduceCtorEq, Nat.reduceEqDiff, Nat.reduceAdd, Nat.reduceMul, Nat.reduceSub, Nat.reduceLeDiff, Int.reduceLT, Int.reduceLE, Int.reduceEq, Int.reduceSub, Int.reduceAdd, Int.reduceMul, Int.reduceNeg, Int.reduceToNat, h1_0, h1_4, h1_5, h1_3, b1_3, ni1_3, pi1_3, qi1_3, ri1_3, hp, fc]) <;> (try with_reducible rfl))
        all_goals try (first | omega | (simp only [n_i64, n_u8]; omega) | (simp only [n_i64, n_u8, lnA]; omega) | (simp only [lnA]; done) | exact List.take_of_length_le (by simp))
        focus
          refine q_lp_n ((fun (k : Nat) (t : Int) => p.length - k) (k+1) (p.getD k 0)) ?_ ⟨k+1, p.getD k 0, ?_, ?_, ?_, ?_, ?_, ?_, rfl⟩
          all_goals (try simp only [go_sem, ↓reduceIte, reduceCtorEq, Nat.reduceEqDiff, Nat.reduceAdd, Nat.reduceMul, Nat.reduceSub, Nat.reduceLeDiff, Int.reduceLT, Int.reduceLE, Int.reduceEq, Int.reduceSub, Int.reduceAdd, Int.reduceMul, Int.reduceNeg, Int.reduceToNat, h1_0, h1_4, h1_5, h1_3, b1_3, ni1_3, pi1_3, qi1_3, ri1_3])
          repeat' refine And.intro ?_ ?_
          all_goals try first | rfl | omega | (simp only [lnA] <;> omega) | ((first | refine stp ?_ | refine dkz_eq ?_ ?_) <;> first | rfl | omega | (simp only [lnA] <;> omega) | (simp only [lnA, List.append_assoc, List.cons_append, List.nil_append]; done) | skip)
        all_goals first | rw [g3] | skip
        all_goals first | (simp; done) | skip
      · rw [if_neg hlt] at g2
        have g3 : loI p (k + 1) = loI p k := by rw [loI_succ, g1, decide_eq_false hlt]; simp
        have fc : True := trivial
        repeat' first
          | with_reducible first | refine stp ?_ | refine q_blk_o rfl ?_ | (refine hK _ ?_; clear hK) | (refine hA ?_; clear hA hB) | (refine hB ?_; clear hA hB) | exact v_end0 | exact v_end0' | refine v_gb1 ?_ ?_ | refine v_gb0 ?_ ?_ | refine And.intro ?_ ?_
          | (with_reducible refine p_ok ?_; decide)
          | ((first | with_reducible first | refine v_region rfl rfl (fun K hK => ?_) | refine v_draws rfl rfl (fun K hK => ?_) | refine v_if (fun A B hA hB => ?_) | refine v_end rfl ?_ | refine v_fin1 ?_ | refine v_finC1 ?_ | refine v_finR1 ?_ | refine v_callE (spec_IsPerm_c _ ?_) ?_ | refine v_finO1 rfl ?_ | refine v_finN1 rfl ?_ ?_ | refine v_apj ?_ (fun j' => ?_) | refine v_stz ?_ ?_ ?_ ?_ ?_ | refine v_stq ?_ | refine v_cv1 ?_ ?_ ?_ | (intro hc; replace fc := And.intro hc fc; try simp only [hcs] at hc)) <;> (try simp (config := { maxSteps := 1000000 }) only [go_sem, ↓reduceIte, reduceCtorEq, Nat.reduceEqDiff, Nat.reduceAdd, Nat.reduceMul, Nat.reduceSub, Nat.reduceLeDiff, Int.reduceLT, Int.reduceLE, Int.reduceEq, Int.reduceSub, Int.reduceAdd, Int.reduceMul, Int.reduceNeg, Int.reduceToNat, h1_0, h1_4, h1_5, h1_3, b1_3, ni1_3, pi1_3, qi1_3, ri1_3, hp, fc]) <;> (try with_reducible rfl))
        all_goals try (first | omega | (simp only [n_i64, n_u8]; omega) | (simp only [n_i64, n_u8, lnA]; omega) | (simp only [lnA]; done) | exact List.take_of_length_le (by simp))
        focus
          refine q_lp_n ((fun (k : Nat) (t : Int) => p.length - k) (k+1) (t)) ?_ ⟨k+1, t, ?_, ?_, ?_, ?_, ?_, ?_, rfl⟩
          all_goals (try simp only [go_sem, ↓reduceIte, reduceCtorEq, Nat.reduceEqDiff, Nat.reduceAdd, Nat.reduceMul, Nat.reduceSub, Nat.reduceLeDiff, Int.reduceLT, Int.reduceLE, Int.reduceEq, Int.reduceSub, Int.reduceAdd, Int.reduceMul, Int.reduceNeg, Int.reduceToNat, h1_0, h1_4, h1_5, h1_3, b1_3, ni1_3, pi1_3, qi1_3, ri1_3])
          repeat' refine And.intro ?_ ?_
          all_goals try first | rfl | omega | (simp only [lnA] <;> omega) | ((first | refine stp ?_ | refine dkz_eq ?_ ?_) <;> first | rfl | omega | (simp only [lnA] <;> omega) | (simp only [lnA, List.append_assoc, List.cons_append, List.nil_append]; done) | skip)
        all_goals first | rw [g3] | skip
    · obtain rfl : k = p.length := by omega
      have fc : True := trivial
      repeat' first
        | with_reducible first | refine stp ?_ | refine q_blk_o rfl ?_ | (refine hK _ ?_; clear hK) | (refine hA ?_; clear hA hB) | (refine hB ?_; clear hA hB) | exact v_end0 | exact v_end0' | refine v_gb1 ?_ ?_ | refine v_gb0 ?_ ?_ | refine And.intro ?_ ?_
        | (with_reducible refine p_ok ?_; decide)
        | ((first | with_reducible first | refine v_region rfl rfl (fun K hK => ?_) | refine v_draws rfl rfl (fun K hK => ?_) | refine v_if (fun A B hA hB => ?_) | refine v_end rfl ?_ | refine v_fin1 ?_ | refine v_finC1 ?_ | refine v_finR1 ?_ | refine v_callE (spec_IsPerm_c _ ?_) ?_ | refine v_finO1 rfl ?_ | refine v_finN1 rfl ?_ ?_ | refine v_apj ?_ (fun j' => ?_) | refine v_stz ?_ ?_ ?_ ?_ ?_ | refine v_stq ?_ | refine v_cv1 ?_ ?_ ?_ | (intro hc; replace fc := And.intro hc fc; try simp only [hcs] at hc)) <;> (try simp (config := { maxSteps := 1000000 }) only [go_sem, ↓reduceIte, reduceCtorEq, Nat.reduceEqDiff, Nat.reduceAdd, Nat.reduceMul, Nat.reduceSub, Nat.reduceLeDiff, Int.reduceLT, Int.reduceLE, Int.reduceEq, Int.reduceSub, Int.reduceAdd, Int.reduceMul, Int.reduceNeg, Int.reduceToNat, h1_0, h1_4, h1_5, h1_3, b1_3, ni1_3, pi1_3, qi1_3, ri1_3, hp, fc]) <;> (try with_reducible rfl))
      all_goals try (first | omega | (simp only [n_i64, n_u8]; omega) | (simp only [n_i64, n_u8, lnA]; omega) | (simp only [lnA]; done) | exact List.take_of_length_le (by simp))
  · exact ⟨fun x h => by simp at h, .inl ⟨rfl, rfl⟩⟩
/-- The numbers that are not so low, from place k on. -/
def nlW (p : List Int) (k : Nat) : List Int := ((List.range' k (p.length - k)).filter fun i => !lowB p i).map fun i => p.getD i 0
def nlV (p : List Int) (k : Nat) : List Int := ((List.range k).filter fun i => !lowB p i).map fun i => p.getD i 0
theorem nlV_succ {p : List Int} {k : Nat} : nlV p (k + 1) = nlV p k ++ if lowB p k then [] else [p.getD k 0] := by
  rw [nlV, List.range_succ, List.filter_append, List.map_append, ← nlV, List.filter_cons]
  cases lowB p k <;> rfl
theorem nlV_len {p : List Int} : ∀ {k : Nat}, (nlV p k).length ≤ k
  | 0 => by simp [nlV]
  | k + 1 => by have := nlV_len (p := p) (k := k); rw [nlV_succ, List.length_append]; split <;> simp <;> omega
theorem nlW_0 {p : List Int} : nlW p 0 = nlV p p.length := by rw [nlW, nlV, Nat.sub_zero, List.range_eq_range']
theorem nlW_step {p : List Int} {k : Nat} (h : k < p.length) : nlW p k = (if lowB p k then [] else [p.getD k 0]) ++ nlW p (k + 1) := by
  rw [nlW, nlW, show p.length - k = (p.length - (k + 1)) + 1 by omega, List.range'_succ, List.filter_cons]
  cases lowB p k <;> rfl
theorem nlV_mem {p : List Int} {x : Int} (h : x ∈ nlV p p.length) : x ∈ p := by
  simp only [nlV, List.mem_map, List.mem_filter, List.mem_range] at h
  obtain ⟨i, ⟨h1, _⟩, rfl⟩ := h
  exact getD_mem h1
theorem spec_l17Rest_c {m0 : Bool} (p : List Int) (hl : p.length ≤ 1048576) (hp : isPermB p = true) : Fun Try.prog 247 [(.sl (.lent m0) (List.map (PV.int .i64) (p)))] [(.sl .own (List.map (PV.int .i64) (srtI (nlV p p.length))))] := by
  refine Fun.of (sg := sg0) (ts := [2]) mo Try.func247 rfl rfl rfl rfl (by kernel_rfl) (by simp only [go_sem]) rfl ?_
  obtain ⟨h8, hq⟩ := isP_8 hp
  have b0 := loI_len (p := p) (k := p.length)
  have fc : True := trivial
  repeat' first
    | with_reducible first | refine stp ?_ | refine q_blk_o rfl ?_ | (refine hK _ ?_; clear hK) | (refine hA ?_; clear hA hB) | (refine hB ?_; clear hA hB) | exact v_end0 | exact v_end0' | refine v_gb1 ?_ ?_ | refine v_gb0 ?_ ?_ | refine And.intro ?_ ?_
    | (with_reducible refine p_ok ?_; decide)
    | ((first | with_reducible first | refine v_region rfl rfl (fun K hK => ?_) | refine v_draws rfl rfl (fun K hK => ?_) | refine v_if (fun A B hA hB => ?_) | refine v_end rfl ?_ | refine v_fin1 ?_ | refine v_finC1 ?_ | refine v_finR1 ?_ | refine v_callE (spec_LowsOf_c _ ?_ ?_) ?_ | refine v_callE (spec_l2Has_c _ _ ?_) ?_ | refine v_callE (spec_l15Sort_c _ ?_) ?_ | refine v_finO1 rfl ?_ | refine v_finN1 rfl ?_ ?_ | refine v_apj ?_ (fun j' => ?_) | refine v_stz ?_ ?_ ?_ ?_ ?_ | refine v_stq ?_ | refine v_cv1 ?_ ?_ ?_ | (intro hc; replace fc := And.intro hc fc; try simp only [hcs] at hc)) <;> (try simp (config := { maxSteps := 1000000 }) only [go_sem, ↓reduceIte, reduceCtorEq, Nat.reduceEqDiff, Nat.reduceAdd, Nat.reduceMul, Nat.reduceSub, Nat.reduceLeDiff, Int.reduceLT, Int.reduceLE, Int.reduceEq, Int.reduceSub, Int.reduceAdd, Int.reduceMul, Int.reduceNeg, Int.reduceToNat, fc]) <;> (try with_reducible rfl))
  all_goals try (first | omega | (simp only [n_i64, n_u8]; omega) | (simp only [n_i64, n_u8, lnA]; omega) | (simp only [lnA]; done) | exact List.take_of_length_le (by simp))
  refine v_loop (fun ms1 S1 => ∃ (k : Nat), S1.e 0 = .p (.sl (.lent m0) (List.map (PV.int .i64) (p))) ∧ OwnL (S1.e 3) S1.h S1.n (PV.int .i64) ((loI p p.length).length) (loI p p.length) ∧ OwnL (S1.e 4) S1.h S1.n (PV.int .i64) ((nlV p k).length) (nlV p k) ∧ S1.e 5 = .p (.int .i64 (k)) ∧ (k ≤ p.length) ∧ NId (S1.e 4) (S1.e 3) ∧ ms1 = p.length - k) ((fun (k : Nat) => p.length - k) (0)) ?init1_1 ?body1_1
  case' init1_1 =>
    refine ⟨0, ?_, ?_, ?_, ?_, ?_, ?_, rfl⟩
    all_goals (try simp only [go_sem, ↓reduceIte, reduceCtorEq, Nat.reduceEqDiff, Nat.reduceAdd, Nat.reduceMul, Nat.reduceSub, Nat.reduceLeDiff, Int.reduceLT, Int.reduceLE, Int.reduceEq, Int.reduceSub, Int.reduceAdd, Int.reduceMul, Int.reduceNeg, Int.reduceToNat])
    repeat' refine And.intro ?_ ?_
    all_goals try first | rfl | omega | (simp only [lnA] <;> omega) | ((first | refine stp ?_ | refine dkz_eq ?_ ?_) <;> first | rfl | omega | (simp only [lnA] <;> omega) | (simp only [lnA, List.append_assoc, List.cons_append, List.nil_append]; done) | skip)
  case' body1_1 =>
    rintro ms1 S1 ⟨k, h1_0, o1_3, o1_4, h1_5, c1_0, u1_0, hm1⟩
    obtain ⟨i1_3, h1_3, b1_3, l1_3⟩ := o1_3.out
    obtain ⟨i1_4, h1_4, b1_4, l1_4⟩ := o1_4.out
    have k1_0 := (u1_0).out h1_4 h1_3
    have ni1_3 : ∀ c, (i1_3 = S1.n + c) = False := fun c => eq_false (by omega)
    have pi1_3 : ∀ c, (S1.n + c = i1_3) = False := fun c => eq_false (by omega)
    have qi1_3 : (i1_3 = S1.n) = False := eq_false (by omega)
    have ri1_3 : (S1.n = i1_3) = False := eq_false (by omega)
    have ni1_4 : ∀ c, (i1_4 = S1.n + c) = False := fun c => eq_false (by omega)
    have pi1_4 : ∀ c, (S1.n + c = i1_4) = False := fun c => eq_false (by omega)
    have qi1_4 : (i1_4 = S1.n) = False := eq_false (by omega)
    have ri1_4 : (S1.n = i1_4) = False := eq_false (by omega)
    have di1_3i1_4 : (i1_3 = i1_4) = False := eq_false (by omega)
    have di1_4i1_3 : (i1_4 = i1_3) = False := eq_false (by omega)
  · have b1 := nlV_len (p := p) (k := k)
    by_cases hk : k < p.length
    · have g1 := loI_has (p := p) hk
      have g2 := nlV_succ (p := p) (k := k)
      by_cases hlo : lowB p k = true
      · rw [hlo] at g1 g2
        have fc : True := trivial
        repeat' first
          | with_reducible first | refine stp ?_ | refine q_blk_o rfl ?_ | (refine hK _ ?_; clear hK) | (refine hA ?_; clear hA hB) | (refine hB ?_; clear hA hB) | exact v_end0 | exact v_end0' | refine v_gb1 ?_ ?_ | refine v_gb0 ?_ ?_ | refine And.intro ?_ ?_
          | (with_reducible refine p_ok ?_; decide)
          | ((first | with_reducible first | refine v_region rfl rfl (fun K hK => ?_) | refine v_draws rfl rfl (fun K hK => ?_) | refine v_if (fun A B hA hB => ?_) | refine v_end rfl ?_ | refine v_fin1 ?_ | refine v_finC1 ?_ | refine v_finR1 ?_ | refine v_callE (spec_LowsOf_c _ ?_ ?_) ?_ | refine v_callE (spec_l2Has_c _ _ ?_) ?_ | refine v_callE (spec_l15Sort_c _ ?_) ?_ | refine v_finO1 rfl ?_ | refine v_finN1 rfl ?_ ?_ | refine v_apj ?_ (fun j' => ?_) | refine v_stz ?_ ?_ ?_ ?_ ?_ | refine v_stq ?_ | refine v_cv1 ?_ ?_ ?_ | (intro hc; replace fc := And.intro hc fc; try simp only [hcs] at hc)) <;> (try simp (config := { maxSteps := 1000000 }) only [go_sem, ↓reduceIte, reduceCtorEq, Nat.reduceEqDiff, Nat.reduceAdd, Nat.reduceMul, Nat.reduceSub, Nat.reduceLeDiff, Int.reduceLT, Int.reduceLE, Int.reduceEq, Int.reduceSub, Int.reduceAdd, Int.reduceMul, Int.reduceNeg, Int.reduceToNat, h1_0, h1_5, h1_3, b1_3, h1_4, b1_4, ni1_3, pi1_3, qi1_3, ri1_3, ni1_4, pi1_4, qi1_4, ri1_4, di1_3i1_4, di1_4i1_3, g1, fc]) <;> (try with_reducible rfl))
        all_goals try (first | omega | (simp only [n_i64, n_u8]; omega) | (simp only [n_i64, n_u8, lnA]; omega) | (simp only [lnA]; done) | exact List.take_of_length_le (by simp))
        focus
          refine q_lp_n ((fun (k : Nat) => p.length - k) (k+1)) ?_ ⟨k+1, ?_, ?_, ?_, ?_, ?_, ?_, rfl⟩
          all_goals (try simp only [go_sem, ↓reduceIte, reduceCtorEq, Nat.reduceEqDiff, Nat.reduceAdd, Nat.reduceMul, Nat.reduceSub, Nat.reduceLeDiff, Int.reduceLT, Int.reduceLE, Int.reduceEq, Int.reduceSub, Int.reduceAdd, Int.reduceMul, Int.reduceNeg, Int.reduceToNat, h1_0, h1_5, h1_3, b1_3, h1_4, b1_4, ni1_3, pi1_3, qi1_3, ri1_3, ni1_4, pi1_4, qi1_4, ri1_4, di1_3i1_4, di1_4i1_3])
          repeat' refine And.intro ?_ ?_
          all_goals try first | rfl | omega | (simp only [lnA] <;> omega) | ((first | refine stp ?_ | refine dkz_eq ?_ ?_) <;> first | rfl | omega | (simp only [lnA] <;> omega) | (simp only [lnA, List.append_assoc, List.cons_append, List.nil_append]; done) | skip)
        all_goals (rw [g2]; simp)
      · rw [Bool.not_eq_true] at hlo
        rw [hlo] at g1 g2
        have fc : True := trivial
        repeat' first
          | with_reducible first | refine stp ?_ | refine q_blk_o rfl ?_ | (refine hK _ ?_; clear hK) | (refine hA ?_; clear hA hB) | (refine hB ?_; clear hA hB) | exact v_end0 | exact v_end0' | refine v_gb1 ?_ ?_ | refine v_gb0 ?_ ?_ | refine And.intro ?_ ?_
          | (with_reducible refine p_ok ?_; decide)
          | ((first | with_reducible first | refine v_region rfl rfl (fun K hK => ?_) | refine v_draws rfl rfl (fun K hK => ?_) | refine v_if (fun A B hA hB => ?_) | refine v_end rfl ?_ | refine v_fin1 ?_ | refine v_finC1 ?_ | refine v_finR1 ?_ | refine v_callE (spec_LowsOf_c _ ?_ ?_) ?_ | refine v_callE (spec_l2Has_c _ _ ?_) ?_ | refine v_callE (spec_l15Sort_c _ ?_) ?_ | refine v_finO1 rfl ?_ | refine v_finN1 rfl ?_ ?_ | refine v_apj ?_ (fun j' => ?_) | refine v_stz ?_ ?_ ?_ ?_ ?_ | refine v_stq ?_ | refine v_cv1 ?_ ?_ ?_ | (intro hc; replace fc := And.intro hc fc; try simp only [hcs] at hc)) <;> (try simp (config := { maxSteps := 1000000 }) only [go_sem, ↓reduceIte, reduceCtorEq, Nat.reduceEqDiff, Nat.reduceAdd, Nat.reduceMul, Nat.reduceSub, Nat.reduceLeDiff, Int.reduceLT, Int.reduceLE, Int.reduceEq, Int.reduceSub, Int.reduceAdd, Int.reduceMul, Int.reduceNeg, Int.reduceToNat, h1_0, h1_5, h1_3, b1_3, h1_4, b1_4, ni1_3, pi1_3, qi1_3, ri1_3, ni1_4, pi1_4, qi1_4, ri1_4, di1_3i1_4, di1_4i1_3, g1, fc]) <;> (try with_reducible rfl))
        all_goals try (first | omega | (simp only [n_i64, n_u8]; omega) | (simp only [n_i64, n_u8, lnA]; omega) | (simp only [lnA]; done) | exact List.take_of_length_le (by simp))
        focus
          refine q_lp_n ((fun (k : Nat) => p.length - k) (k+1)) ?_ ⟨k+1, ?_, ?_, ?_, ?_, ?_, ?_, rfl⟩
          all_goals (try simp only [go_sem, ↓reduceIte, reduceCtorEq, Nat.reduceEqDiff, Nat.reduceAdd, Nat.reduceMul, Nat.reduceSub, Nat.reduceLeDiff, Int.reduceLT, Int.reduceLE, Int.reduceEq, Int.reduceSub, Int.reduceAdd, Int.reduceMul, Int.reduceNeg, Int.reduceToNat, h1_0, h1_5, h1_3, b1_3, h1_4, b1_4, ni1_3, pi1_3, qi1_3, ri1_3, ni1_4, pi1_4, qi1_4, ri1_4, di1_3i1_4, di1_4i1_3])
          repeat' refine And.intro ?_ ?_
          all_goals try first | rfl | omega | (simp only [lnA] <;> omega) | ((first | refine stp ?_ | refine dkz_eq ?_ ?_) <;> first | rfl | omega | (simp only [lnA] <;> omega) | (simp only [lnA, List.append_assoc, List.cons_append, List.nil_append]; done) | skip)
        all_goals (rw [g2]; simp)
    · obtain rfl : k = p.length := by omega
      have fc : True := trivial
      repeat' first
        | with_reducible first | refine stp ?_ | refine q_blk_o rfl ?_ | (refine hK _ ?_; clear hK) | (refine hA ?_; clear hA hB) | (refine hB ?_; clear hA hB) | exact v_end0 | exact v_end0' | refine v_gb1 ?_ ?_ | refine v_gb0 ?_ ?_ | refine And.intro ?_ ?_
        | (with_reducible refine p_ok ?_; decide)
        | ((first | with_reducible first | refine v_region rfl rfl (fun K hK => ?_) | refine v_draws rfl rfl (fun K hK => ?_) | refine v_if (fun A B hA hB => ?_) | refine v_end rfl ?_ | refine v_fin1 ?_ | refine v_finC1 ?_ | refine v_finR1 ?_ | refine v_callE (spec_LowsOf_c _ ?_ ?_) ?_ | refine v_callE (spec_l2Has_c _ _ ?_) ?_ | refine v_callE (spec_l15Sort_c _ ?_) ?_ | refine v_finO1 rfl ?_ | refine v_finN1 rfl ?_ ?_ | refine v_apj ?_ (fun j' => ?_) | refine v_stz ?_ ?_ ?_ ?_ ?_ | refine v_stq ?_ | refine v_cv1 ?_ ?_ ?_ | (intro hc; replace fc := And.intro hc fc; try simp only [hcs] at hc)) <;> (try simp (config := { maxSteps := 1000000 }) only [go_sem, ↓reduceIte, reduceCtorEq, Nat.reduceEqDiff, Nat.reduceAdd, Nat.reduceMul, Nat.reduceSub, Nat.reduceLeDiff, Int.reduceLT, Int.reduceLE, Int.reduceEq, Int.reduceSub, Int.reduceAdd, Int.reduceMul, Int.reduceNeg, Int.reduceToNat, h1_0, h1_5, h1_3, b1_3, h1_4, b1_4, ni1_3, pi1_3, qi1_3, ri1_3, ni1_4, pi1_4, qi1_4, ri1_4, di1_3i1_4, di1_4i1_3, fc]) <;> (try with_reducible rfl))
      all_goals try (first | omega | (simp only [n_i64, n_u8]; omega) | (simp only [n_i64, n_u8, lnA]; omega) | (simp only [lnA]; done) | exact List.take_of_length_le (by simp))
def fstG (c : Int) : List Int → Nat
  | [] => 0
  | x :: l => if x < c then fstG c l + 1 else 0
theorem fstG_spec {c : Int} : ∀ {l : List Int}, 0 < geC c l → fstG c l < l.length ∧ c ≤ l.getD (fstG c l) 0 ∧ ∀ j, j < fstG c l → l.getD j 0 < c
  | [], h => by simp [geC] at h
  | x :: l, h => by
    rw [fstG]
    by_cases q : x < c
    · rw [if_pos q]
      rw [geC, decide_eq_false (by omega), bitI, if_neg (by decide)] at h
      obtain ⟨h1, h2, h3⟩ := fstG_spec (c := c) (l := l) (by omega)
      refine ⟨by simp; omega, by simpa using h2, fun j hj => ?_⟩
      cases j with
      | zero => simpa using q
      | succ j => rw [List.getD_cons_succ]; exact h3 j (by omega)
    · rw [if_neg q]
      exact ⟨by simp, by simp; omega, fun j hj => absurd hj (by omega)⟩
def nrS (p : List Int) : Nat → Int × List Int × List Int
  | 0 => (0, srtI (nlV p p.length), [])
  | k + 1 =>
    if lowB p k then (p.getD k 0, (nrS p k).2.1, (nrS p k).2.2 ++ [p.getD k 0])
    else ((nrS p k).1, (nrS p k).2.1.take (fstG (nrS p k).1 (nrS p k).2.1) ++ (nrS p k).2.1.drop (fstG (nrS p k).1 (nrS p k).2.1 + 1), (nrS p k).2.2 ++ [(nrS p k).2.1.getD (fstG (nrS p k).1 (nrS p k).2.1) 0])
theorem geC_perm {c : Int} {a b : List Int} (h : a.Perm b) : geC c a = geC c b := by
  induction h with
  | nil => rfl
  | cons x _ ih => rw [geC, geC, ih]
  | swap x y l => rw [geC, geC, geC, geC]; omega
  | trans _ _ h1 h2 => rw [h1, h2]
theorem geC_app {c : Int} : ∀ {a b : List Int}, geC c (a ++ b) = geC c a + geC c b
  | [], b => by simp [geC]
  | x :: a, b => by rw [List.cons_append, geC, geC, geC_app]; omega
structure NrI (p : List Int) (k : Nat) (S : Int × List Int × List Int) : Prop where
  ge : ∀ c, (k = 0 ∨ c ≤ S.1) → geC c (nlW p k) ≤ geC c S.2.1
  lo : 0 < k → (∀ x ∈ p.take k, S.1 ≤ x) ∧ S.1 ∈ p.take k
  rs : ∀ x ∈ S.2.1, x ∈ p
  rl : S.2.1.length ≤ p.length
  ol : S.2.2.length = k
  os : ∀ x ∈ S.2.2, x ∈ p
theorem nr_pos {p : List Int} (hp : permB p = true) {k : Nat} {S : Int × List Int × List Int} (h : NrI p k S) (hk : k < p.length) (hl : lowB p k = false) : 0 < k ∧ S.1 < p.getD k 0 ∧ 0 < geC S.1 S.2.1 := by
  have h0 : 0 < k := by
    rcases Nat.eq_zero_or_pos k with e | e
    · subst e; simp [lowB] at hl
    · exact e
  obtain ⟨l1, l2⟩ := h.lo h0
  rw [lowB, ← Bool.not_eq_true, List.all_eq_true] at hl
  have h1 : S.1 < p.getD k 0 := by
    refine Classical.byContradiction fun g => hl fun x hx => decide_eq_true ?_
    have h2 := l1 x hx
    obtain ⟨i, hi, rfl⟩ := mem_gd hx
    rw [List.length_take] at hi
    rw [take_getD' (by omega)] at h2 ⊢
    have := perm_ne hp (i := i) (j := k) (by omega) hk (by omega)
    omega
  refine ⟨h0, h1, ?_⟩
  have h2 := h.ge S.1 (.inr (Int.le_refl _))
  have hl' : lowB p k = false := by rw [← Bool.not_eq_true, lowB, List.all_eq_true]; exact hl
  rw [nlW_step hk, hl', geC_app] at h2
  have h3 := (geC_r (c := S.1) (l := nlW p (k + 1))).1
  simp only [Bool.false_eq_true, if_false, geC, decide_eq_true (show S.1 ≤ p.getD k 0 by omega), bitI, if_true] at h2
  omega
theorem nr_inv {p : List Int} (hp : permB p = true) : ∀ {k : Nat}, k ≤ p.length → NrI p k (nrS p k)
  | 0, _ => by
    refine ⟨fun c _ => ?_, fun h => absurd h (by omega), fun x hx => nlV_mem (srtI_perm.subset hx), ?_, rfl, fun x hx => by cases hx⟩
    · rw [nlW_0, nrS, geC_perm (srtI_perm (L := nlV p p.length))]; exact Int.le_refl _
    · rw [nrS, srtI_len]; exact nlV_len
  | k + 1, hk => by
    have ih := nr_inv hp (k := k) (by omega)
    have e : p.take (k + 1) = p.take k ++ [p.getD k 0] := take_getD (by omega)
    rw [nrS]
    by_cases hl : lowB p k = true
    · rw [if_pos hl]
      have hl2 := hl
      rw [lowB, List.all_eq_true] at hl2
      refine ⟨fun c hc => ?_, fun _ => ⟨fun x hx => ?_, ?_⟩, ih.rs, ih.rl, ?_, fun x hx => ?_⟩
      · have hc : c ≤ p.getD k 0 := by
          rcases hc with q | q
          · omega
          · exact q
        have h1 := ih.ge c (by
          rcases Nat.eq_zero_or_pos k with q | q
          · exact .inl q
          · right
            have := of_decide_eq_true (hl2 _ (ih.lo q).2); omega)
        rw [nlW_step (by omega), hl] at h1
        exact h1
      · rw [e] at hx
        rcases List.mem_append.1 hx with q | q
        · have := of_decide_eq_true (hl2 x q); show p.getD k 0 ≤ x; omega
        · simp at q; subst q; exact Int.le_refl _
      · rw [e]; simp
      · simp [ih.ol]
      · rcases List.mem_append.1 hx with q | q
        · exact ih.os x q
        · rw [List.mem_singleton] at q; subst q; exact getD_mem (by omega)
    · rw [Bool.not_eq_true] at hl
      rw [hl]
      simp only [Bool.false_eq_true, if_false]
      obtain ⟨h0, h1, h2⟩ := nr_pos hp ih (by omega) hl
      obtain ⟨f1, f2, f3⟩ := fstG_spec h2
      have hperm := cut_perm f1
      refine ⟨fun c hc => ?_, fun _ => ⟨fun x hx => ?_, ?_⟩, fun x hx => ih.rs x (hperm.subset (List.mem_cons_of_mem _ hx)), ?_, ?_, fun x hx => ?_⟩
      · have hc : c ≤ (nrS p k).1 := by
          rcases hc with q | q
          · omega
          · exact q
        have h3 := ih.ge c (.inr hc)
        rw [nlW_step (by omega), hl, geC_app] at h3
        have h4 := geC_perm (c := c) hperm
        rw [geC, decide_eq_true (by omega), bitI, if_pos rfl] at h4
        simp only [Bool.false_eq_true, if_false, geC, decide_eq_true (show c ≤ p.getD k 0 by omega), bitI, if_true] at h3
        show geC c (nlW p (k + 1)) ≤ geC c ((nrS p k).2.1.take (fstG (nrS p k).1 (nrS p k).2.1) ++ (nrS p k).2.1.drop (fstG (nrS p k).1 (nrS p k).2.1 + 1))
        omega
      · rw [e] at hx
        rcases List.mem_append.1 hx with q | q
        · exact (ih.lo h0).1 x q
        · simp only [List.mem_singleton] at q; subst q; show (nrS p k).1 ≤ _; omega
      · rw [e]; exact List.mem_append.2 (.inl (ih.lo h0).2)
      · have := cut_len f1; have := ih.rl
        show (List.take _ _ ++ List.drop _ _).length ≤ _
        omega
      · simp [ih.ol]
      · rcases List.mem_append.1 hx with q | q
        · exact ih.os x q
        · rw [List.mem_singleton] at q; subst q; exact ih.rs _ (getD_mem f1)
theorem nrS_lo {p : List Int} {k : Nat} (h : lowB p k = true) : nrS p (k + 1) = (p.getD k 0, (nrS p k).2.1, (nrS p k).2.2 ++ [p.getD k 0]) := by rw [nrS, if_pos h]
theorem nrS_hi {p : List Int} {k : Nat} (h : lowB p k = false) : nrS p (k + 1) = ((nrS p k).1, (nrS p k).2.1.take (fstG (nrS p k).1 (nrS p k).2.1) ++ (nrS p k).2.1.drop (fstG (nrS p k).1 (nrS p k).2.1 + 1), (nrS p k).2.2 ++ [(nrS p k).2.1.getD (fstG (nrS p k).1 (nrS p k).2.1) 0]) := by rw [nrS, h]; rfl
set_option maxHeartbeats 1600000 in
theorem spec_NearestRest_c {m0 : Bool} (p : List Int) (hl : p.length ≤ 1048576) (hp : isPermB p = true) : Fun Try.prog 215 [(.sl (.lent m0) (List.map (PV.int .i64) (p)))] [(.sl .own (List.map (PV.int .i64) ((nrS p p.length).2.2))), (.bool (true))] := by
  refine Fun.of (sg := sg0) (ts := [2, 3]) mo Try.func215 rfl rfl rfl rfl (by kernel_rfl) (by simp only [go_sem]) rfl ?_
  obtain ⟨h8, hq⟩ := isP_8 hp
  have b0 := loI_len (p := p) (k := p.length)
  have b9 := srtI_len (L := nlV p p.length)
  have b8 := nlV_len (p := p) (k := p.length)
  have fc : True := trivial
  repeat' first
    | with_reducible first | refine stp ?_ | refine q_blk_o rfl ?_ | (refine hK _ ?_; clear hK) | (refine hA ?_; clear hA hB) | (refine hB ?_; clear hA hB) | exact v_end0 | exact v_end0' | refine v_gb1 ?_ ?_ | refine v_gb0 ?_ ?_ | refine And.intro ?_ ?_
    | (with_reducible refine hK _ _ ?_ ?_; focus (first | exact clearAll_quiet rfl | (refine clearAll_of [true, false, false, false, true, false, false, false, false, true, false] [(0, 1), (0, 2), (0, 3), (0, 5), (4, 5), (0, 6), (4, 6), (0, 7), (4, 7), (0, 8), (4, 8)] rfl (by decide +kernel) ?_; try simp only [go_sem, ↓reduceIte, reduceCtorEq, Nat.reduceEqDiff, Nat.reduceAdd, Nat.reduceMul, Nat.reduceSub, Nat.reduceLeDiff, Int.reduceLT, Int.reduceLE, Int.reduceEq, Int.reduceSub, Int.reduceAdd, Int.reduceMul, Int.reduceNeg, Int.reduceToNat, hp])); all_goals (try clear hK))
    | (with_reducible refine p_ok ?_; decide)
    | ((first | with_reducible first | refine v_region rfl rfl (fun K hK => ?_) | refine v_draws rfl rfl (fun K hK => ?_) | refine v_if (fun A B hA hB => ?_) | refine v_end rfl ?_ | refine v_fin1 ?_ | refine v_finC1 ?_ | refine v_finR1 ?_ | refine v_callE (spec_IsPerm_c _ ?_) ?_ | refine v_callE (spec_LowsOf_c _ ?_ ?_) ?_ | refine v_callE (spec_l17Rest_c _ ?_ ?_) ?_ | refine v_callE (spec_l2Has_c _ _ ?_) ?_ | refine v_finO1 rfl ?_ | refine v_finN1 rfl ?_ ?_ | refine v_apj ?_ (fun j' => ?_) | refine v_stz ?_ ?_ ?_ ?_ ?_ | refine v_stq ?_ | refine v_cv1 ?_ ?_ ?_ | (intro hc; replace fc := And.intro hc fc; try simp only [hcs] at hc)) <;> (try simp (config := { maxSteps := 1000000 }) only [go_sem, ↓reduceIte, reduceCtorEq, Nat.reduceEqDiff, Nat.reduceAdd, Nat.reduceMul, Nat.reduceSub, Nat.reduceLeDiff, Int.reduceLT, Int.reduceLE, Int.reduceEq, Int.reduceSub, Int.reduceAdd, Int.reduceMul, Int.reduceNeg, Int.reduceToNat, hp, fc]) <;> (try with_reducible rfl))
  all_goals try (first | omega | (simp only [n_i64, n_u8]; omega) | (simp only [n_i64, n_u8, lnA]; omega) | (simp only [lnA]; done) | exact List.take_of_length_le (by simp))
  refine v_loop (fun ms1 S1 => ∃ (k : Nat) (low : Int) (rest : List Int) (out : List Int), S1.e 0 = .p (.sl (.lent m0) (List.map (PV.int .i64) (p))) ∧ OwnL (S1.e 4) S1.h S1.n (PV.int .i64) ((loI p p.length).length) (loI p p.length) ∧ OwnL (S1.e 5) S1.h S1.n (PV.int .i64) ((rest).length) (rest) ∧ OwnL (S1.e 6) S1.h S1.n (PV.int .i64) ((out).length) (out) ∧ S1.e 7 = .p (.int .i64 (low)) ∧ S1.e 8 = .p (.int .i64 (k)) ∧ (k ≤ p.length) ∧ (nrS p k = (low, rest, out)) ∧ NId (S1.e 5) (S1.e 4) ∧ NId (S1.e 6) (S1.e 4) ∧ NId (S1.e 6) (S1.e 5) ∧ ms1 = p.length - k) ((fun (k : Nat) (low : Int) (rest : List Int) (out : List Int) => p.length - k) (0) (0) (srtI (nlV p p.length)) ([])) ?init1_2 ?body1_2
  case' init1_2 =>
    refine ⟨0, 0, srtI (nlV p p.length), [], ?_, ?_, ?_, ?_, ?_, ?_, ?_, ?_, ?_, ?_, ?_, rfl⟩
    all_goals (try simp only [go_sem, ↓reduceIte, reduceCtorEq, Nat.reduceEqDiff, Nat.reduceAdd, Nat.reduceMul, Nat.reduceSub, Nat.reduceLeDiff, Int.reduceLT, Int.reduceLE, Int.reduceEq, Int.reduceSub, Int.reduceAdd, Int.reduceMul, Int.reduceNeg, Int.reduceToNat])
    repeat' refine And.intro ?_ ?_
    all_goals try first | rfl | omega | (simp only [lnA] <;> omega) | ((first | refine stp ?_ | refine dkz_eq ?_ ?_) <;> first | rfl | omega | (simp only [lnA] <;> omega) | (simp only [lnA, List.append_assoc, List.cons_append, List.nil_append]; done) | skip)
  case' body1_2 =>
    rintro ms1 S1 ⟨k, low, rest, out, h1_0, o1_4, o1_5, o1_6, h1_7, h1_8, c1_0, c1_1, u1_0, u1_1, u1_2, hm1⟩
    obtain ⟨i1_4, h1_4, b1_4, l1_4⟩ := o1_4.out
    obtain ⟨i1_5, h1_5, b1_5, l1_5⟩ := o1_5.out
    obtain ⟨i1_6, h1_6, b1_6, l1_6⟩ := o1_6.out
    have k1_0 := (u1_0).out h1_5 h1_4
    have k1_1 := (u1_1).out h1_6 h1_4
    have k1_2 := (u1_2).out h1_6 h1_5
    have ni1_4 : ∀ c, (i1_4 = S1.n + c) = False := fun c => eq_false (by omega)
    have pi1_4 : ∀ c, (S1.n + c = i1_4) = False := fun c => eq_false (by omega)
    have qi1_4 : (i1_4 = S1.n) = False := eq_false (by omega)
    have ri1_4 : (S1.n = i1_4) = False := eq_false (by omega)
    have ni1_5 : ∀ c, (i1_5 = S1.n + c) = False := fun c => eq_false (by omega)
    have pi1_5 : ∀ c, (S1.n + c = i1_5) = False := fun c => eq_false (by omega)
    have qi1_5 : (i1_5 = S1.n) = False := eq_false (by omega)
    have ri1_5 : (S1.n = i1_5) = False := eq_false (by omega)
    have ni1_6 : ∀ c, (i1_6 = S1.n + c) = False := fun c => eq_false (by omega)
    have pi1_6 : ∀ c, (S1.n + c = i1_6) = False := fun c => eq_false (by omega)
    have qi1_6 : (i1_6 = S1.n) = False := eq_false (by omega)
    have ri1_6 : (S1.n = i1_6) = False := eq_false (by omega)
    have di1_4i1_5 : (i1_4 = i1_5) = False := eq_false (by omega)
    have di1_4i1_6 : (i1_4 = i1_6) = False := eq_false (by omega)
    have di1_5i1_4 : (i1_5 = i1_4) = False := eq_false (by omega)
    have di1_5i1_6 : (i1_5 = i1_6) = False := eq_false (by omega)
    have di1_6i1_4 : (i1_6 = i1_4) = False := eq_false (by omega)
    have di1_6i1_5 : (i1_6 = i1_5) = False := eq_false (by omega)
  · have hi := nr_inv hq c1_0
    have q1 := hi.ol
    have q2 := hi.rl
    by_cases hk : k < p.length
    · have g1 := loI_has (p := p) hk
      by_cases hlo : lowB p k = true
      · have g2 := nrS_lo hlo
        rw [c1_1] at g2 q1 q2
        rw [hlo] at g1
        simp only [] at g2 q1 q2
        have fc : True := trivial
        repeat' first
          | with_reducible first | refine stp ?_ | refine q_blk_o rfl ?_ | (refine hK _ ?_; clear hK) | (refine hA ?_; clear hA hB) | (refine hB ?_; clear hA hB) | exact v_end0 | exact v_end0' | refine v_gb1 ?_ ?_ | refine v_gb0 ?_ ?_ | refine And.intro ?_ ?_
          | (with_reducible refine hK _ _ ?_ ?_; focus (first | exact clearAll_quiet rfl | (refine clearAll_of [true, false, false, false, true, false, false, false, false, true, false] [(0, 1), (0, 2), (0, 3), (0, 5), (4, 5), (0, 6), (4, 6), (0, 7), (4, 7), (0, 8), (4, 8)] rfl (by decide +kernel) ?_; try simp only [go_sem, ↓reduceIte, reduceCtorEq, Nat.reduceEqDiff, Nat.reduceAdd, Nat.reduceMul, Nat.reduceSub, Nat.reduceLeDiff, Int.reduceLT, Int.reduceLE, Int.reduceEq, Int.reduceSub, Int.reduceAdd, Int.reduceMul, Int.reduceNeg, Int.reduceToNat, h1_0, h1_7, h1_8, h1_4, b1_4, h1_5, b1_5, h1_6, b1_6, ni1_4, pi1_4, qi1_4, ri1_4, ni1_5, pi1_5, qi1_5, ri1_5, ni1_6, pi1_6, qi1_6, ri1_6, di1_4i1_5, di1_4i1_6, di1_5i1_4, di1_5i1_6, di1_6i1_4, di1_6i1_5, g1])); all_goals (try clear hK))
          | (with_reducible refine p_ok ?_; decide)
          | ((first | with_reducible first | refine v_region rfl rfl (fun K hK => ?_) | refine v_draws rfl rfl (fun K hK => ?_) | refine v_if (fun A B hA hB => ?_) | refine v_end rfl ?_ | refine v_fin1 ?_ | refine v_finC1 ?_ | refine v_finR1 ?_ | refine v_callE (spec_IsPerm_c _ ?_) ?_ | refine v_callE (spec_LowsOf_c _ ?_ ?_) ?_ | refine v_callE (spec_l17Rest_c _ ?_ ?_) ?_ | refine v_callE (spec_l2Has_c _ _ ?_) ?_ | refine v_finO1 rfl ?_ | refine v_finN1 rfl ?_ ?_ | refine v_apj ?_ (fun j' => ?_) | refine v_stz ?_ ?_ ?_ ?_ ?_ | refine v_stq ?_ | refine v_cv1 ?_ ?_ ?_ | (intro hc; replace fc := And.intro hc fc; try simp only [hcs] at hc)) <;> (try simp (config := { maxSteps := 1000000 }) only [go_sem, ↓reduceIte, reduceCtorEq, Nat.reduceEqDiff, Nat.reduceAdd, Nat.reduceMul, Nat.reduceSub, Nat.reduceLeDiff, Int.reduceLT, Int.reduceLE, Int.reduceEq, Int.reduceSub, Int.reduceAdd, Int.reduceMul, Int.reduceNeg, Int.reduceToNat, h1_0, h1_7, h1_8, h1_4, b1_4, h1_5, b1_5, h1_6, b1_6, ni1_4, pi1_4, qi1_4, ri1_4, ni1_5, pi1_5, qi1_5, ri1_5, ni1_6, pi1_6, qi1_6, ri1_6, di1_4i1_5, di1_4i1_6, di1_5i1_4, di1_5i1_6, di1_6i1_4, di1_6i1_5, g1, fc]) <;> (try with_reducible rfl))
        all_goals try (first | omega | (simp only [n_i64, n_u8]; omega) | (simp only [n_i64, n_u8, lnA]; omega) | (simp only [lnA]; done) | exact List.take_of_length_le (by simp))
        focus
          refine q_lp_n ((fun (k : Nat) (low : Int) (rest : List Int) (out : List Int) => p.length - k) (k+1) (p.getD k 0) (rest) (out ++ [p.getD k 0])) ?_ ⟨k+1, p.getD k 0, rest, out ++ [p.getD k 0], ?_, ?_, ?_, ?_, ?_, ?_, ?_, ?_, ?_, ?_, ?_, rfl⟩
          all_goals (try simp only [go_sem, ↓reduceIte, reduceCtorEq, Nat.reduceEqDiff, Nat.reduceAdd, Nat.reduceMul, Nat.reduceSub, Nat.reduceLeDiff, Int.reduceLT, Int.reduceLE, Int.reduceEq, Int.reduceSub, Int.reduceAdd, Int.reduceMul, Int.reduceNeg, Int.reduceToNat, h1_0, h1_7, h1_8, h1_4, b1_4, h1_5, b1_5, h1_6, b1_6, ni1_4, pi1_4, qi1_4, ri1_4, ni1_5, pi1_5, qi1_5, ri1_5, ni1_6, pi1_6, qi1_6, ri1_6, di1_4i1_5, di1_4i1_6, di1_5i1_4, di1_5i1_6, di1_6i1_4, di1_6i1_5])
          repeat' refine And.intro ?_ ?_
          all_goals try first | rfl | omega | (simp only [lnA] <;> omega) | ((first | refine stp ?_ | refine dkz_eq ?_ ?_) <;> first | rfl | omega | (simp only [lnA] <;> omega) | (simp only [lnA, List.append_assoc, List.cons_append, List.nil_append]; done) | skip)
        all_goals first | exact g2 | skip
      · rw [Bool.not_eq_true] at hlo
        have g2 := nrS_hi hlo
        have g3 := nr_pos hq hi hk hlo
        rw [c1_1] at g2 q1 q2 g3
        rw [hlo] at g1
        simp only [] at g2 q1 q2 g3
        obtain ⟨f1, f2, f3⟩ := fstG_spec g3.2.2
        obtain ⟨at0, hat⟩ : ∃ a, fstG low rest = a := ⟨_, rfl⟩
        rw [hat] at f1 f2 f3 g2
        have fc : True := trivial
        repeat' first
          | with_reducible first | refine stp ?_ | refine q_blk_o rfl ?_ | (refine hK _ ?_; clear hK) | (refine hA ?_; clear hA hB) | (refine hB ?_; clear hA hB) | exact v_end0 | exact v_end0' | refine v_gb1 ?_ ?_ | refine v_gb0 ?_ ?_ | refine And.intro ?_ ?_
          | (with_reducible refine hK _ _ ?_ ?_; focus (first | exact clearAll_quiet rfl | (refine clearAll_of [true, false, false, false, true, false, false, false, false, true, false] [(0, 1), (0, 2), (0, 3), (0, 5), (4, 5), (0, 6), (4, 6), (0, 7), (4, 7), (0, 8), (4, 8)] rfl (by decide +kernel) ?_; try simp only [go_sem, ↓reduceIte, reduceCtorEq, Nat.reduceEqDiff, Nat.reduceAdd, Nat.reduceMul, Nat.reduceSub, Nat.reduceLeDiff, Int.reduceLT, Int.reduceLE, Int.reduceEq, Int.reduceSub, Int.reduceAdd, Int.reduceMul, Int.reduceNeg, Int.reduceToNat, h1_0, h1_7, h1_8, h1_4, b1_4, h1_5, b1_5, h1_6, b1_6, ni1_4, pi1_4, qi1_4, ri1_4, ni1_5, pi1_5, qi1_5, ri1_5, ni1_6, pi1_6, qi1_6, ri1_6, di1_4i1_5, di1_4i1_6, di1_5i1_4, di1_5i1_6, di1_6i1_4, di1_6i1_5, g1])); all_goals (try clear hK))
          | (with_reducible refine p_ok ?_; decide)
          | ((first | with_reducible first | refine v_region rfl rfl (fun K hK => ?_) | refine v_draws rfl rfl (fun K hK => ?_) | refine v_if (fun A B hA hB => ?_) | refine v_end rfl ?_ | refine v_fin1 ?_ | refine v_finC1 ?_ | refine v_finR1 ?_ | refine v_callE (spec_IsPerm_c _ ?_) ?_ | refine v_callE (spec_LowsOf_c _ ?_ ?_) ?_ | refine v_callE (spec_l17Rest_c _ ?_ ?_) ?_ | refine v_callE (spec_l2Has_c _ _ ?_) ?_ | refine v_finO1 rfl ?_ | refine v_finN1 rfl ?_ ?_ | refine v_apj ?_ (fun j' => ?_) | refine v_stz ?_ ?_ ?_ ?_ ?_ | refine v_stq ?_ | refine v_cv1 ?_ ?_ ?_ | (intro hc; replace fc := And.intro hc fc; try simp only [hcs] at hc)) <;> (try simp (config := { maxSteps := 1000000 }) only [go_sem, ↓reduceIte, reduceCtorEq, Nat.reduceEqDiff, Nat.reduceAdd, Nat.reduceMul, Nat.reduceSub, Nat.reduceLeDiff, Int.reduceLT, Int.reduceLE, Int.reduceEq, Int.reduceSub, Int.reduceAdd, Int.reduceMul, Int.reduceNeg, Int.reduceToNat, h1_0, h1_7, h1_8, h1_4, b1_4, h1_5, b1_5, h1_6, b1_6, ni1_4, pi1_4, qi1_4, ri1_4, ni1_5, pi1_5, qi1_5, ri1_5, ni1_6, pi1_6, qi1_6, ri1_6, di1_4i1_5, di1_4i1_6, di1_5i1_4, di1_5i1_6, di1_6i1_4, di1_6i1_5, g1, fc]) <;> (try with_reducible rfl))
        all_goals try (first | omega | (simp only [n_i64, n_u8]; omega) | (simp only [n_i64, n_u8, lnA]; omega) | (simp only [lnA]; done) | exact List.take_of_length_le (by simp))
        refine v_loop (fun ms2 S2 => ∃ (a : Nat), S2.e 0 = .p (.sl (.lent m0) (List.map (PV.int .i64) (p))) ∧ OwnL (S2.e 4) S2.h S2.n (PV.int .i64) ((loI p p.length).length) (loI p p.length) ∧ OwnL (S2.e 5) S2.h S2.n (PV.int .i64) ((rest).length) (rest) ∧ OwnL (S2.e 6) S2.h S2.n (PV.int .i64) ((out).length) (out) ∧ S2.e 7 = .p (.int .i64 (low)) ∧ S2.e 8 = .p (.int .i64 (k)) ∧ S2.e 9 = .p (.int .i64 (a)) ∧ (a ≤ at0) ∧ NId (S2.e 5) (S2.e 4) ∧ NId (S2.e 6) (S2.e 4) ∧ NId (S2.e 6) (S2.e 5) ∧ S1.n ≤ S2.n ∧ ms2 = at0 - a) ((fun (a : Nat) => at0 - a) (0)) ?init2_3 ?body2_3
        case' init2_3 =>
          refine ⟨0, ?_, ?_, ?_, ?_, ?_, ?_, ?_, ?_, ?_, ?_, ?_, ?_, rfl⟩
          all_goals (try simp only [go_sem, ↓reduceIte, reduceCtorEq, Nat.reduceEqDiff, Nat.reduceAdd, Nat.reduceMul, Nat.reduceSub, Nat.reduceLeDiff, Int.reduceLT, Int.reduceLE, Int.reduceEq, Int.reduceSub, Int.reduceAdd, Int.reduceMul, Int.reduceNeg, Int.reduceToNat, h1_0, h1_7, h1_8, h1_4, b1_4, h1_5, b1_5, h1_6, b1_6, ni1_4, pi1_4, qi1_4, ri1_4, ni1_5, pi1_5, qi1_5, ri1_5, ni1_6, pi1_6, qi1_6, ri1_6, di1_4i1_5, di1_4i1_6, di1_5i1_4, di1_5i1_6, di1_6i1_4, di1_6i1_5])
          repeat' refine And.intro ?_ ?_
          all_goals try first | rfl | omega | (simp only [lnA] <;> omega) | ((first | refine stp ?_ | refine dkz_eq ?_ ?_) <;> first | rfl | omega | (simp only [lnA] <;> omega) | (simp only [lnA, List.append_assoc, List.cons_append, List.nil_append]; done) | skip)
        case' body2_3 =>
          rintro ms2 S2 ⟨a, h2_0, o2_4, o2_5, o2_6, h2_7, h2_8, h2_9, c2_0, u2_0, u2_1, u2_2, u2_3, hm2⟩
          obtain ⟨i2_4, h2_4, b2_4, l2_4⟩ := o2_4.out
          obtain ⟨i2_5, h2_5, b2_5, l2_5⟩ := o2_5.out
          obtain ⟨i2_6, h2_6, b2_6, l2_6⟩ := o2_6.out
          have k2_0 := (u2_0).out h2_5 h2_4
          have k2_1 := (u2_1).out h2_6 h2_4
          have k2_2 := (u2_2).out h2_6 h2_5
          have ni2_4 : ∀ c, (i2_4 = S2.n + c) = False := fun c => eq_false (by omega)
          have pi2_4 : ∀ c, (S2.n + c = i2_4) = False := fun c => eq_false (by omega)
          have qi2_4 : (i2_4 = S2.n) = False := eq_false (by omega)
          have ri2_4 : (S2.n = i2_4) = False := eq_false (by omega)
          have ni2_5 : ∀ c, (i2_5 = S2.n + c) = False := fun c => eq_false (by omega)
          have pi2_5 : ∀ c, (S2.n + c = i2_5) = False := fun c => eq_false (by omega)
          have qi2_5 : (i2_5 = S2.n) = False := eq_false (by omega)
          have ri2_5 : (S2.n = i2_5) = False := eq_false (by omega)
          have ni2_6 : ∀ c, (i2_6 = S2.n + c) = False := fun c => eq_false (by omega)
          have pi2_6 : ∀ c, (S2.n + c = i2_6) = False := fun c => eq_false (by omega)
          have qi2_6 : (i2_6 = S2.n) = False := eq_false (by omega)
          have ri2_6 : (S2.n = i2_6) = False := eq_false (by omega)
          have di2_4i2_5 : (i2_4 = i2_5) = False := eq_false (by omega)
          have di2_4i2_6 : (i2_4 = i2_6) = False := eq_false (by omega)
          have di2_5i2_4 : (i2_5 = i2_4) = False := eq_false (by omega)
          have di2_5i2_6 : (i2_5 = i2_6) = False := eq_false (by omega)
          have di2_6i2_4 : (i2_6 = i2_4) = False := eq_false (by omega)
          have di2_6i2_5 : (i2_6 = i2_5) = False := eq_false (by omega)
        · by_cases ha : a < at0
          · have f4 := f3 a ha
            have fc : True := trivial
            repeat' first
              | with_reducible first | refine stp ?_ | refine q_blk_o rfl ?_ | (refine hK _ ?_; clear hK) | (refine hA ?_; clear hA hB) | (refine hB ?_; clear hA hB) | exact v_end0 | exact v_end0' | refine v_gb1 ?_ ?_ | refine v_gb0 ?_ ?_ | refine And.intro ?_ ?_
              | (with_reducible refine hK _ _ ?_ ?_; focus (first | exact clearAll_quiet rfl | (refine clearAll_of [true, false, false, false, true, false, false, false, false, true, false] [(0, 1), (0, 2), (0, 3), (0, 5), (4, 5), (0, 6), (4, 6), (0, 7), (4, 7), (0, 8), (4, 8)] rfl (by decide +kernel) ?_; try simp only [go_sem, ↓reduceIte, reduceCtorEq, Nat.reduceEqDiff, Nat.reduceAdd, Nat.reduceMul, Nat.reduceSub, Nat.reduceLeDiff, Int.reduceLT, Int.reduceLE, Int.reduceEq, Int.reduceSub, Int.reduceAdd, Int.reduceMul, Int.reduceNeg, Int.reduceToNat, h2_0, h2_7, h2_8, h2_9, h2_4, b2_4, h2_5, b2_5, h2_6, b2_6, ni2_4, pi2_4, qi2_4, ri2_4, ni2_5, pi2_5, qi2_5, ri2_5, ni2_6, pi2_6, qi2_6, ri2_6, di2_4i2_5, di2_4i2_6, di2_5i2_4, di2_5i2_6, di2_6i2_4, di2_6i2_5])); all_goals (try clear hK))
              | (with_reducible refine p_ok ?_; decide)
              | ((first | with_reducible first | refine v_region rfl rfl (fun K hK => ?_) | refine v_draws rfl rfl (fun K hK => ?_) | refine v_if (fun A B hA hB => ?_) | refine v_end rfl ?_ | refine v_fin1 ?_ | refine v_finC1 ?_ | refine v_finR1 ?_ | refine v_callE (spec_IsPerm_c _ ?_) ?_ | refine v_callE (spec_LowsOf_c _ ?_ ?_) ?_ | refine v_callE (spec_l17Rest_c _ ?_ ?_) ?_ | refine v_callE (spec_l2Has_c _ _ ?_) ?_ | refine v_finO1 rfl ?_ | refine v_finN1 rfl ?_ ?_ | refine v_apj ?_ (fun j' => ?_) | refine v_stz ?_ ?_ ?_ ?_ ?_ | refine v_stq ?_ | refine v_cv1 ?_ ?_ ?_ | (intro hc; replace fc := And.intro hc fc; try simp only [hcs] at hc)) <;> (try simp (config := { maxSteps := 1000000 }) only [go_sem, ↓reduceIte, reduceCtorEq, Nat.reduceEqDiff, Nat.reduceAdd, Nat.reduceMul, Nat.reduceSub, Nat.reduceLeDiff, Int.reduceLT, Int.reduceLE, Int.reduceEq, Int.reduceSub, Int.reduceAdd, Int.reduceMul, Int.reduceNeg, Int.reduceToNat, h2_0, h2_7, h2_8, h2_9, h2_4, b2_4, h2_5, b2_5, h2_6, b2_6, ni2_4, pi2_4, qi2_4, ri2_4, ni2_5, pi2_5, qi2_5, ri2_5, ni2_6, pi2_6, qi2_6, ri2_6, di2_4i2_5, di2_4i2_6, di2_5i2_4, di2_5i2_6, di2_6i2_4, di2_6i2_5, fc]) <;> (try with_reducible rfl))
            all_goals try (first | omega | (simp only [n_i64, n_u8]; omega) | (simp only [n_i64, n_u8, lnA]; omega) | (simp only [lnA]; done) | exact List.take_of_length_le (by simp))
            focus
              refine q_lp_n ((fun (a : Nat) => at0 - a) (a+1)) ?_ ⟨a+1, ?_, ?_, ?_, ?_, ?_, ?_, ?_, ?_, ?_, ?_, ?_, ?_, rfl⟩
              all_goals (try simp only [go_sem, ↓reduceIte, reduceCtorEq, Nat.reduceEqDiff, Nat.reduceAdd, Nat.reduceMul, Nat.reduceSub, Nat.reduceLeDiff, Int.reduceLT, Int.reduceLE, Int.reduceEq, Int.reduceSub, Int.reduceAdd, Int.reduceMul, Int.reduceNeg, Int.reduceToNat, h2_0, h2_7, h2_8, h2_9, h2_4, b2_4, h2_5, b2_5, h2_6, b2_6, ni2_4, pi2_4, qi2_4, ri2_4, ni2_5, pi2_5, qi2_5, ri2_5, ni2_6, pi2_6, qi2_6, ri2_6, di2_4i2_5, di2_4i2_6, di2_5i2_4, di2_5i2_6, di2_6i2_4, di2_6i2_5])
              repeat' refine And.intro ?_ ?_
              all_goals try first | rfl | omega | (simp only [lnA] <;> omega) | ((first | refine stp ?_ | refine dkz_eq ?_ ?_) <;> first | rfl | omega | (simp only [lnA] <;> omega) | (simp only [lnA, List.append_assoc, List.cons_append, List.nil_append]; done) | skip)
          · obtain rfl : a = at0 := by omega
            have e1 : ((a : Int) + 1).toNat = a + 1 := by omega
            have fc : True := trivial
            repeat' first
              | with_reducible first | refine stp ?_ | refine q_blk_o rfl ?_ | (refine hK _ ?_; clear hK) | (refine hA ?_; clear hA hB) | (refine hB ?_; clear hA hB) | exact v_end0 | exact v_end0' | refine v_gb1 ?_ ?_ | refine v_gb0 ?_ ?_ | refine And.intro ?_ ?_
              | (with_reducible refine hK _ _ ?_ ?_; focus (first | exact clearAll_quiet rfl | (refine clearAll_of [true, false, false, false, true, false, false, false, false, true, false] [(0, 1), (0, 2), (0, 3), (0, 5), (4, 5), (0, 6), (4, 6), (0, 7), (4, 7), (0, 8), (4, 8)] rfl (by decide +kernel) ?_; try simp only [go_sem, ↓reduceIte, reduceCtorEq, Nat.reduceEqDiff, Nat.reduceAdd, Nat.reduceMul, Nat.reduceSub, Nat.reduceLeDiff, Int.reduceLT, Int.reduceLE, Int.reduceEq, Int.reduceSub, Int.reduceAdd, Int.reduceMul, Int.reduceNeg, Int.reduceToNat, h2_0, h2_7, h2_8, h2_9, h2_4, b2_4, h2_5, b2_5, h2_6, b2_6, ni2_4, pi2_4, qi2_4, ri2_4, ni2_5, pi2_5, qi2_5, ri2_5, ni2_6, pi2_6, qi2_6, ri2_6, di2_4i2_5, di2_4i2_6, di2_5i2_4, di2_5i2_6, di2_6i2_4, di2_6i2_5, e1])); all_goals (try clear hK))
              | (with_reducible refine p_ok ?_; decide)
              | ((first | with_reducible first | refine v_region rfl rfl (fun K hK => ?_) | refine v_draws rfl rfl (fun K hK => ?_) | refine v_if (fun A B hA hB => ?_) | refine v_end rfl ?_ | refine v_fin1 ?_ | refine v_finC1 ?_ | refine v_finR1 ?_ | refine v_callE (spec_IsPerm_c _ ?_) ?_ | refine v_callE (spec_LowsOf_c _ ?_ ?_) ?_ | refine v_callE (spec_l17Rest_c _ ?_ ?_) ?_ | refine v_callE (spec_l2Has_c _ _ ?_) ?_ | refine v_finO1 rfl ?_ | refine v_finN1 rfl ?_ ?_ | refine v_apj ?_ (fun j' => ?_) | refine v_stz ?_ ?_ ?_ ?_ ?_ | refine v_stq ?_ | refine v_cv1 ?_ ?_ ?_ | (intro hc; replace fc := And.intro hc fc; try simp only [hcs] at hc)) <;> (try simp (config := { maxSteps := 1000000 }) only [go_sem, ↓reduceIte, reduceCtorEq, Nat.reduceEqDiff, Nat.reduceAdd, Nat.reduceMul, Nat.reduceSub, Nat.reduceLeDiff, Int.reduceLT, Int.reduceLE, Int.reduceEq, Int.reduceSub, Int.reduceAdd, Int.reduceMul, Int.reduceNeg, Int.reduceToNat, h2_0, h2_7, h2_8, h2_9, h2_4, b2_4, h2_5, b2_5, h2_6, b2_6, ni2_4, pi2_4, qi2_4, ri2_4, ni2_5, pi2_5, qi2_5, ri2_5, ni2_6, pi2_6, qi2_6, ri2_6, di2_4i2_5, di2_4i2_6, di2_5i2_4, di2_5i2_6, di2_6i2_4, di2_6i2_5, e1, fc]) <;> (try with_reducible rfl))
            all_goals try (first | omega | (simp only [n_i64, n_u8]; omega) | (simp only [n_i64, n_u8, lnA]; omega) | (simp only [lnA]; done) | exact List.take_of_length_le (by simp))
            focus
              refine q_lp_n ((fun (k : Nat) (low : Int) (rest : List Int) (out : List Int) => p.length - k) (k+1) (low) (rest.take a ++ rest.drop (a + 1)) (out ++ [rest.getD a 0])) ?_ ⟨k+1, low, rest.take a ++ rest.drop (a + 1), out ++ [rest.getD a 0], ?_, ?_, ?_, ?_, ?_, ?_, ?_, ?_, ?_, ?_, ?_, rfl⟩
              all_goals (try simp only [go_sem, ↓reduceIte, reduceCtorEq, Nat.reduceEqDiff, Nat.reduceAdd, Nat.reduceMul, Nat.reduceSub, Nat.reduceLeDiff, Int.reduceLT, Int.reduceLE, Int.reduceEq, Int.reduceSub, Int.reduceAdd, Int.reduceMul, Int.reduceNeg, Int.reduceToNat, h2_0, h2_7, h2_8, h2_9, h2_4, b2_4, h2_5, b2_5, h2_6, b2_6, ni2_4, pi2_4, qi2_4, ri2_4, ni2_5, pi2_5, qi2_5, ri2_5, ni2_6, pi2_6, qi2_6, ri2_6, di2_4i2_5, di2_4i2_6, di2_5i2_4, di2_5i2_6, di2_6i2_4, di2_6i2_5])
              repeat' refine And.intro ?_ ?_
              all_goals try first | rfl | omega | (simp only [lnA] <;> omega) | ((first | refine stp ?_ | refine dkz_eq ?_ ?_) <;> first | rfl | omega | (simp only [lnA] <;> omega) | (simp only [lnA, List.append_assoc, List.cons_append, List.nil_append]; done) | skip)
            all_goals first | (congr 1; exact List.take_of_length_le (by simp)) | exact g2 | skip
    · obtain rfl : k = p.length := by omega
      have fc : True := trivial
      repeat' first
        | with_reducible first | refine stp ?_ | refine q_blk_o rfl ?_ | (refine hK _ ?_; clear hK) | (refine hA ?_; clear hA hB) | (refine hB ?_; clear hA hB) | exact v_end0 | exact v_end0' | refine v_gb1 ?_ ?_ | refine v_gb0 ?_ ?_ | refine And.intro ?_ ?_
        | (with_reducible refine hK _ _ ?_ ?_; focus (first | exact clearAll_quiet rfl | (refine clearAll_of [true, false, false, false, true, false, false, false, false, true, false] [(0, 1), (0, 2), (0, 3), (0, 5), (4, 5), (0, 6), (4, 6), (0, 7), (4, 7), (0, 8), (4, 8)] rfl (by decide +kernel) ?_; try simp only [go_sem, ↓reduceIte, reduceCtorEq, Nat.reduceEqDiff, Nat.reduceAdd, Nat.reduceMul, Nat.reduceSub, Nat.reduceLeDiff, Int.reduceLT, Int.reduceLE, Int.reduceEq, Int.reduceSub, Int.reduceAdd, Int.reduceMul, Int.reduceNeg, Int.reduceToNat, h1_0, h1_7, h1_8, h1_4, b1_4, h1_5, b1_5, h1_6, b1_6, ni1_4, pi1_4, qi1_4, ri1_4, ni1_5, pi1_5, qi1_5, ri1_5, ni1_6, pi1_6, qi1_6, ri1_6, di1_4i1_5, di1_4i1_6, di1_5i1_4, di1_5i1_6, di1_6i1_4, di1_6i1_5])); all_goals (try clear hK))
        | (with_reducible refine p_ok ?_; decide)
        | ((first | with_reducible first | refine v_region rfl rfl (fun K hK => ?_) | refine v_draws rfl rfl (fun K hK => ?_) | refine v_if (fun A B hA hB => ?_) | refine v_end rfl ?_ | refine v_fin1 ?_ | refine v_finC1 ?_ | refine v_finR1 ?_ | refine v_callE (spec_IsPerm_c _ ?_) ?_ | refine v_callE (spec_LowsOf_c _ ?_ ?_) ?_ | refine v_callE (spec_l17Rest_c _ ?_ ?_) ?_ | refine v_callE (spec_l2Has_c _ _ ?_) ?_ | refine v_finO1 rfl ?_ | refine v_finN1 rfl ?_ ?_ | refine v_apj ?_ (fun j' => ?_) | refine v_stz ?_ ?_ ?_ ?_ ?_ | refine v_stq ?_ | refine v_cv1 ?_ ?_ ?_ | (intro hc; replace fc := And.intro hc fc; try simp only [hcs] at hc)) <;> (try simp (config := { maxSteps := 1000000 }) only [go_sem, ↓reduceIte, reduceCtorEq, Nat.reduceEqDiff, Nat.reduceAdd, Nat.reduceMul, Nat.reduceSub, Nat.reduceLeDiff, Int.reduceLT, Int.reduceLE, Int.reduceEq, Int.reduceSub, Int.reduceAdd, Int.reduceMul, Int.reduceNeg, Int.reduceToNat, h1_0, h1_7, h1_8, h1_4, b1_4, h1_5, b1_5, h1_6, b1_6, ni1_4, pi1_4, qi1_4, ri1_4, ni1_5, pi1_5, qi1_5, ri1_5, ni1_6, pi1_6, qi1_6, ri1_6, di1_4i1_5, di1_4i1_6, di1_5i1_4, di1_5i1_6, di1_6i1_4, di1_6i1_5, fc]) <;> (try with_reducible rfl))
      all_goals try (first | omega | (simp only [n_i64, n_u8]; omega) | (simp only [n_i64, n_u8, lnA]; omega) | (simp only [lnA]; done) | exact List.take_of_length_le (by simp))
      rw [c1_1]
