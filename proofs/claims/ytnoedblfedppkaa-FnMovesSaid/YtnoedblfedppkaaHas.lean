/-
  Occurrences of patterns: what their functions compute. Conditions: none.
-/
import Derived.Test.YtnoedblfedppkaaPerms
import Derived.Test.YtnoedblfedppkaaLaw1
import Derived.Test.YtnoedblfedppkaaNum
import Derived.Test.YtnoedblfedppkaaShelf
set_option linter.unusedSimpArgs false
set_option linter.unusedVariables false
set_option maxRecDepth 20000
set_option linter.unusedSectionVars false
namespace Go.Gl
open Go Go.Proofs
variable [Amb]
/-- Does a place more agree with a pattern? (Places are counted from b.) -/
def fitK (b : Int) (p q c : List Int) (i : Int) (k : Nat) : Bool := (List.range k).all fun l => decide (q.getD l 0 < q.getD c.length 0) == decide (p.getD (c.getD l 0 - b).toNat 0 < p.getD (i - b).toNat 0)
def fitB (b : Int) (p q c : List Int) (i : Int) : Bool := fitK b p q c i c.length
theorem fitK_succ {b : Int} {p q c : List Int} {i : Int} {k : Nat} : fitK b p q c i (k + 1) = (fitK b p q c i k && (decide (q.getD k 0 < q.getD c.length 0) == decide (p.getD (c.getD k 0 - b).toNat 0 < p.getD (i - b).toNat 0))) := by
  simp [fitK, List.range_succ]
def fromI (b : Int) (c : List Int) : Int := if c.length = 0 then b else c.getD (c.length - 1) 0 + 1
/-- The occurrences that begin so, d places more. -/
def occ (b : Int) (p q : List Int) : Nat → List Int → List (List Int)
  | 0, c => [c]
  | d + 1, c => (List.range ((p.length : Int) + b - fromI b c).toNat).flatMap fun j : Nat => if fitB b p q c (fromI b c + j) = true then occ b p q d (c ++ [fromI b c + j]) else []
/-- .. the first J places looked at. -/
def occJ (b : Int) (p q : List Int) (d : Nat) (c : List Int) (J : Nat) : List (List Int) :=
  (List.range J).flatMap fun j : Nat => if fitB b p q c (fromI b c + j) = true then occ b p q d (c ++ [fromI b c + j]) else []
theorem occ_J {b : Int} {p q : List Int} {d : Nat} {c : List Int} : occ b p q (d + 1) c = occJ b p q d c ((p.length : Int) + b - fromI b c).toNat := rfl
theorem occJ_succ {b : Int} {p q : List Int} {d : Nat} {c : List Int} {J : Nat} : occJ b p q d c (J + 1) = occJ b p q d c J ++ if fitB b p q c (fromI b c + J) = true then occ b p q d (c ++ [fromI b c + J]) else [] := by
  simp [occJ, List.range_succ]
theorem from_snoc {b i : Int} {c : List Int} : fromI b (c ++ [i]) = i + 1 := by
  rw [fromI, if_neg (by simp)]; simp
theorem occ_len {b : Int} {p q : List Int} (hb : 0 ≤ b) : ∀ {d : Nat} {c : List Int}, b ≤ fromI b c → (occ b p q d c).length ≤ p.length ^ d
  | 0, c, _ => by simp [occ]
  | d + 1, c, hc => by
    have key : ∀ J, (occJ b p q d c J).length ≤ J * p.length ^ d := by
      intro J
      induction J with
      | zero => simp [occJ]
      | succ J ih =>
        rw [occJ_succ, List.length_append, Nat.succ_mul]
        split
        · have := occ_len (q := q) (p := p) hb (d := d) (c := c ++ [fromI b c + J]) (by rw [from_snoc]; omega)
          omega
        · simp; omega
    rw [occ_J, Nat.pow_succ, Nat.mul_comm]
    exact Nat.le_trans (key _) (Nat.mul_le_mul_right _ (by omega))
def hasB (p q : List Int) : Bool := !(occ 0 p q q.length []).isEmpty
theorem fitB_shift {p q c : List Int} {i : Int} : fitB 1 p q (c.map (· + 1)) (i + 1) = fitB 0 p q c i := by
  simp only [fitB, fitK, List.length_map]
  rw [Bool.eq_iff_iff, List.all_eq_true, List.all_eq_true]
  refine forall_congr' fun l => imp_congr_right fun hl => ?_
  rw [List.mem_range] at hl
  have e1 : (c.map (· + 1)).getD l 0 - 1 = c.getD l 0 - 0 := by
    rw [List.getD_eq_getElem?_getD, List.getElem?_map, List.getD_eq_getElem?_getD, List.getElem?_eq_getElem hl]; simp
  rw [e1, show i + 1 - 1 = i - 0 by omega]
theorem from_shift {c : List Int} : fromI 1 (c.map (· + 1)) = fromI 0 c + 1 := by
  unfold fromI
  rw [List.length_map]
  split
  · rfl
  · rename_i h
    rw [List.getD_eq_getElem?_getD, List.getElem?_map, List.getD_eq_getElem?_getD, List.getElem?_eq_getElem (by omega)]; simp
theorem occ_shift {p q : List Int} : ∀ {d : Nat} {c : List Int}, occ 1 p q d (c.map (· + 1)) = (occ 0 p q d c).map (List.map (· + 1))
  | 0, c => rfl
  | d + 1, c => by
    rw [occ, occ, from_shift, List.map_flatMap]
    rw [show ((p.length : Int) + 1 - (fromI 0 c + 1)) = p.length + 0 - fromI 0 c by omega]
    congr 1; funext j
    rw [show fromI 0 c + 1 + (j : Int) = (fromI 0 c + j) + 1 by omega, fitB_shift]
    split
    · rw [show List.map (· + 1) c ++ [fromI 0 c + (j : Int) + 1] = List.map (· + 1) (c ++ [fromI 0 c + (j : Int)]) by simp, occ_shift]
    · rfl
theorem fitK_mono {b : Int} {p q c : List Int} {i : Int} {k n : Nat} (hk : k ≤ n) (h : fitK b p q c i k = false) : fitK b p q c i n = false := by
  induction hk with
  | refl => exact h
  | step _ ih => rw [fitK_succ, ih]; rfl
theorem spec_l7Fits_c {m0 m1 m2 : Bool} (p q c : List Int) (i : Int) (hq : q.length ≤ 8) (hp : p.length ≤ 8) (hc0 : c.length < q.length) (hx : ∀ x ∈ c, 1 ≤ x ∧ x ≤ p.length) (hi : 1 ≤ i ∧ i ≤ p.length) : Fun Try.prog 261 [(.sl (.lent m0) (List.map (PV.int .i64) (p))), (.sl (.lent m1) (List.map (PV.int .i64) (q))), (.sl (.lent m2) (List.map (PV.int .i64) ((c ++ [i]))))] [(.bool (fitB 1 p q c i))] := by
  refine Fun.of (sg := sg0) (ts := [6]) mo Try.func261 rfl rfl rfl rfl (by kernel_rfl) (by simp only [go_sem]) rfl ?_
  have e1 : (c ++ [i]).getD c.length 0 = i := by simp
  have fc : True := trivial
  repeat' first
    | with_reducible first | refine stp ?_ | refine q_blk_o rfl ?_ | (refine hK _ ?_; clear hK) | (refine hA ?_; clear hA hB) | (refine hB ?_; clear hA hB) | exact v_end0 | exact v_end0' | refine v_gb1 ?_ ?_ | refine v_gb0 ?_ ?_ | refine And.intro ?_ ?_
    | (with_reducible refine hK _ _ ?_ ?_; focus (first | exact clearAll_quiet rfl); all_goals (try clear hK))
    | (with_reducible refine p_ok ?_; decide)
    | ((first | with_reducible first | refine v_region rfl rfl (fun K hK => ?_) | refine v_draws rfl rfl (fun K hK => ?_) | refine v_if (fun A B hA hB => ?_) | refine v_end rfl ?_ | refine v_fin1 ?_ | refine v_finC1 ?_ | refine v_finR1 ?_ | refine v_finO1 rfl ?_ | refine v_finN1 rfl ?_ ?_ | refine v_apj ?_ (fun j' => ?_) | refine v_stz ?_ ?_ ?_ ?_ ?_ | refine v_stq ?_ | refine v_cv1 ?_ ?_ ?_ | (intro hc; replace fc := And.intro hc fc; try simp only [hcs] at hc)) <;> (try simp (config := { maxSteps := 1000000 }) only [go_sem, ↓reduceIte, reduceCtorEq, Nat.reduceEqDiff, Nat.reduceAdd, Nat.reduceMul, Nat.reduceSub, Nat.reduceLeDiff, Int.reduceLT, Int.reduceLE, Int.reduceEq, Int.reduceSub, Int.reduceAdd, Int.reduceMul, Int.reduceNeg, Int.reduceToNat, fc]) <;> (try with_reducible rfl))
  all_goals try (first | omega | (simp only [n_i64, n_u8]; omega) | (simp only [n_i64, n_u8, lnA]; omega) | (simp only [lnA]; done))
  refine v_loop (fun ms1 S1 => ∃ (k : Nat), S1.e 0 = .p (.sl (.lent m0) (List.map (PV.int .i64) (p))) ∧ S1.e 1 = .p (.sl (.lent m1) (List.map (PV.int .i64) (q))) ∧ S1.e 2 = .p (.sl (.lent m2) (List.map (PV.int .i64) ((c ++ [i])))) ∧ S1.e 7 = .p (.int .i64 (c.length)) ∧ S1.e 8 = .p (.int .i64 (k)) ∧ (k ≤ c.length) ∧ (fitK 1 p q c i k = true) ∧ ms1 = c.length - k) ((fun (k : Nat) => c.length - k) (0)) ?init1_0 ?body1_0
  case' init1_0 =>
    refine ⟨0, ?_, ?_, ?_, ?_, ?_, ?_, ?_, rfl⟩
    all_goals (try simp only [go_sem, ↓reduceIte, reduceCtorEq, Nat.reduceEqDiff, Nat.reduceAdd, Nat.reduceMul, Nat.reduceSub, Nat.reduceLeDiff, Int.reduceLT, Int.reduceLE, Int.reduceEq, Int.reduceSub, Int.reduceAdd, Int.reduceMul, Int.reduceNeg, Int.reduceToNat])
    repeat' refine And.intro ?_ ?_
    all_goals try first | rfl | omega | (simp only [lnA] <;> omega) | ((first | refine stp ?_ | refine dkz_eq ?_ ?_) <;> first | rfl | omega | (simp only [lnA] <;> omega) | (simp only [lnA, List.append_assoc, List.cons_append, List.nil_append]; done) | skip)
  case' body1_0 =>
    rintro ms1 S1 ⟨k, h1_0, h1_1, h1_2, h1_7, h1_8, c1_0, c1_1, hm1⟩
  by_cases hk : k < c.length
  · have e2 : (c ++ [i]).getD k 0 = c.getD k 0 := by simp [List.getD_eq_getElem?_getD, List.getElem?_append_left hk]
    have e3 := hx _ (getD_mem (d := 0) hk)
    have fc : True := trivial
    repeat' first
      | with_reducible first | refine stp ?_ | refine q_blk_o rfl ?_ | (refine hK _ ?_; clear hK) | (refine hA ?_; clear hA hB) | (refine hB ?_; clear hA hB) | exact v_end0 | exact v_end0' | refine v_gb1 ?_ ?_ | refine v_gb0 ?_ ?_ | refine And.intro ?_ ?_
      | (with_reducible refine hK _ _ ?_ ?_; focus (first | exact clearAll_quiet rfl); all_goals (try clear hK))
      | (with_reducible refine p_ok ?_; decide)
      | ((first | with_reducible first | refine v_region rfl rfl (fun K hK => ?_) | refine v_draws rfl rfl (fun K hK => ?_) | refine v_if (fun A B hA hB => ?_) | refine v_end rfl ?_ | refine v_fin1 ?_ | refine v_finC1 ?_ | refine v_finR1 ?_ | refine v_finO1 rfl ?_ | refine v_finN1 rfl ?_ ?_ | refine v_apj ?_ (fun j' => ?_) | refine v_stz ?_ ?_ ?_ ?_ ?_ | refine v_stq ?_ | refine v_cv1 ?_ ?_ ?_ | (intro hc; replace fc := And.intro hc fc; try simp only [hcs] at hc)) <;> (try simp (config := { maxSteps := 1000000 }) only [go_sem, ↓reduceIte, reduceCtorEq, Nat.reduceEqDiff, Nat.reduceAdd, Nat.reduceMul, Nat.reduceSub, Nat.reduceLeDiff, Int.reduceLT, Int.reduceLE, Int.reduceEq, Int.reduceSub, Int.reduceAdd, Int.reduceMul, Int.reduceNeg, Int.reduceToNat, h1_0, h1_1, h1_2, h1_7, h1_8, e1, e2, fc]) <;> (try with_reducible rfl))
    all_goals try (first | omega | (simp only [n_i64, n_u8]; omega) | (simp only [n_i64, n_u8, lnA]; omega) | (simp only [lnA]; done))
    · exact (fitK_mono (k := k + 1) (by omega) (by rw [fitK_succ, c1_1, Bool.true_and]; simpa using hc)).symm
    · focus
        refine q_lp_n ((fun (k : Nat) => c.length - k) (k+1)) ?_ ⟨k+1, ?_, ?_, ?_, ?_, ?_, ?_, ?_, rfl⟩
        all_goals (try simp only [go_sem, ↓reduceIte, reduceCtorEq, Nat.reduceEqDiff, Nat.reduceAdd, Nat.reduceMul, Nat.reduceSub, Nat.reduceLeDiff, Int.reduceLT, Int.reduceLE, Int.reduceEq, Int.reduceSub, Int.reduceAdd, Int.reduceMul, Int.reduceNeg, Int.reduceToNat, h1_0, h1_1, h1_2, h1_7, h1_8])
        repeat' refine And.intro ?_ ?_
        all_goals try first | rfl | omega | (simp only [lnA] <;> omega) | ((first | refine stp ?_ | refine dkz_eq ?_ ?_) <;> first | rfl | omega | (simp only [lnA] <;> omega) | (simp only [lnA, List.append_assoc, List.cons_append, List.nil_append]; done) | skip)
      rw [fitK_succ, c1_1, Bool.true_and, beq_iff_eq]; simpa using hc
  · have fc : True := trivial
    repeat' first
      | with_reducible first | refine stp ?_ | refine q_blk_o rfl ?_ | (refine hK _ ?_; clear hK) | (refine hA ?_; clear hA hB) | (refine hB ?_; clear hA hB) | exact v_end0 | exact v_end0' | refine v_gb1 ?_ ?_ | refine v_gb0 ?_ ?_ | refine And.intro ?_ ?_
      | (with_reducible refine hK _ _ ?_ ?_; focus (first | exact clearAll_quiet rfl); all_goals (try clear hK))
      | (with_reducible refine p_ok ?_; decide)
      | ((first | with_reducible first | refine v_region rfl rfl (fun K hK => ?_) | refine v_draws rfl rfl (fun K hK => ?_) | refine v_if (fun A B hA hB => ?_) | refine v_end rfl ?_ | refine v_fin1 ?_ | refine v_finC1 ?_ | refine v_finR1 ?_ | refine v_finO1 rfl ?_ | refine v_finN1 rfl ?_ ?_ | refine v_apj ?_ (fun j' => ?_) | refine v_stz ?_ ?_ ?_ ?_ ?_ | refine v_stq ?_ | refine v_cv1 ?_ ?_ ?_ | (intro hc; replace fc := And.intro hc fc; try simp only [hcs] at hc)) <;> (try simp (config := { maxSteps := 1000000 }) only [go_sem, ↓reduceIte, reduceCtorEq, Nat.reduceEqDiff, Nat.reduceAdd, Nat.reduceMul, Nat.reduceSub, Nat.reduceLeDiff, Int.reduceLT, Int.reduceLE, Int.reduceEq, Int.reduceSub, Int.reduceAdd, Int.reduceMul, Int.reduceNeg, Int.reduceToNat, h1_0, h1_1, h1_2, h1_7, h1_8, e1, fc]) <;> (try with_reducible rfl))
    all_goals try (first | omega | (simp only [n_i64, n_u8]; omega) | (simp only [n_i64, n_u8, lnA]; omega) | (simp only [lnA]; done))
    obtain rfl : k = c.length := by omega
    exact c1_1.symm
def sgFd : FuncId → List Bool := fun f => if f = 248 then [false, false, false, true] else if f = 8589934840 then [false, false, true] else []
theorem sgFd_eq {f : FuncId} : sgFd f = if f = 248 then [false, false, false, true] else if f = 8589934840 then [false, false, true] else [] := _root_.id rfl
theorem wayE_sgFd : wayE sgFd = false := _root_.id rfl
theorem wayN_sgFd : wayN sgFd = false := _root_.id rfl
theorem wayS_sgFd : wayS sgFd = false := _root_.id rfl
theorem wayZ_sgFd : wayZ sgFd = false := _root_.id rfl
attribute [go_sem] sgFd_eq wayE_sgFd wayN_sgFd wayS_sgFd wayZ_sgFd
theorem spec_l7Find_c {m0 m1 : Bool} (p q : List Int) (hp : p.length ≤ 8) (hq : q.length ≤ 8) : ∀ (d : Nat) (h : List Int) (out : List (List Int)), h.length + d = q.length → (∀ x ∈ h, 1 ≤ x ∧ x ≤ p.length) → out.length + 8 ^ d ≤ 1099511627776 →
    CallT Try.prog true 248 [.pv (.sl (.lent m0) (List.map (PV.int .i64) p)), .pv (.sl (.lent m1) (List.map (PV.int .i64) q)), .pv (.sl (.lent false) (List.map (PV.int .i64) h)), .mu false (List.map (elI false) out)] [none, none, none, none] [.sl .own (List.map (elI false) (out ++ occ 1 p q d h))] := by
  intro d
  induction d with
  | zero =>
    intro h out hd hx ho
    refine CallT.of (sg := sgFd) (ts := [8]) mo Try.func248 rfl rfl rfl rfl (by kernel_rfl) (by simp only [go_sem]) rfl rfl ?_
    have fc : True := trivial
    repeat' first
      | with_reducible first | refine stp ?_ | refine q_blk_o rfl ?_ | (refine hK _ ?_; clear hK) | (refine hA ?_; clear hA hB) | (refine hB ?_; clear hA hB) | exact v_end0 | exact v_end0' | refine v_gb1 ?_ ?_ | refine v_gb0 ?_ ?_ | refine And.intro ?_ ?_
      | (with_reducible refine p_ok ?_; decide)
      | ((first | with_reducible first | refine v_region rfl rfl (fun K hK => ?_) | refine v_draws rfl rfl (fun K hK => ?_) | refine v_if (fun A B hA hB => ?_) | refine v_end rfl ?_ | refine v_fin1 ?_ | refine v_finC1 ?_ | refine v_finR1 ?_ | refine v_callE (spec_l7Fits_c _ _ _ _ ?_ ?_ ?_ ?_ ?_) ?_ | refine v_finO1 rfl ?_ | refine v_finN1 rfl ?_ ?_ | refine v_finT1 rfl ?_ | refine v_apj ?_ (fun j' => ?_) | refine v_stz ?_ ?_ ?_ ?_ ?_ | refine v_stq ?_ | refine v_cv1 ?_ ?_ ?_ | (intro hc; replace fc := And.intro hc fc; try simp only [hcs] at hc)) <;> (try simp (config := { maxSteps := 1000000 }) only [go_sem, ↓reduceIte, reduceCtorEq, Nat.reduceEqDiff, Nat.reduceAdd, Nat.reduceMul, Nat.reduceSub, Nat.reduceLeDiff, Int.reduceLT, Int.reduceLE, Int.reduceEq, Int.reduceSub, Int.reduceAdd, Int.reduceMul, Int.reduceNeg, Int.reduceToNat, fc]) <;> (try with_reducible rfl))
    all_goals try (first | omega | (simp only [n_i64, n_u8]; omega) | (simp only [n_i64, n_u8, lnA]; omega) | (simp only [lnA]; done))
    rw [tk1]; rfl
  | succ d ih =>
    intro h out hd hx ho
    have f0 : 1 ≤ fromI 1 h ∧ fromI 1 h ≤ p.length + 1 := by
      unfold fromI
      split
      · omega
      · have := hx _ (getD_mem (d := 0) (show h.length - 1 < h.length by omega)); omega
    refine CallT.of (sg := sgFd) (ts := [8]) mo Try.func248 rfl rfl rfl rfl (by kernel_rfl) (by simp only [go_sem]) rfl rfl ?_
    have lenJ : ∀ J : Nat, (J : Int) ≤ p.length + 1 - fromI 1 h → (occJ 1 p q d h J).length ≤ J * 8 ^ d := by
      intro J
      induction J with
      | zero => intro _; simp [occJ]
      | succ J ihJ =>
        intro hJ
        have h1 := ihJ (by omega)
        have h2 : (if fitB 1 p q h (fromI 1 h + J) = true then occ 1 p q d (h ++ [fromI 1 h + J]) else []).length ≤ 8 ^ d := by
          split
          · exact Nat.le_trans (occ_len (by decide) (by rw [from_snoc]; omega)) (Nat.pow_le_pow_left hp d)
          · exact Nat.zero_le _
        rw [occJ_succ, List.length_append, Nat.succ_mul]
        exact Nat.add_le_add h1 h2
    by_cases hn : h.length = 0
    · have f1 : fromI 1 h = 1 := if_pos hn
      have fc : True := trivial
      repeat' first
        | with_reducible first | refine stp ?_ | refine q_blk_o rfl ?_ | (refine hK _ ?_; clear hK) | (refine hA ?_; clear hA hB) | (refine hB ?_; clear hA hB) | exact v_end0 | exact v_end0' | refine v_gb1 ?_ ?_ | refine v_gb0 ?_ ?_ | refine And.intro ?_ ?_
        | (with_reducible refine p_ok ?_; decide)
        | ((first | with_reducible first | refine v_region rfl rfl (fun K hK => ?_) | refine v_draws rfl rfl (fun K hK => ?_) | refine v_if (fun A B hA hB => ?_) | refine v_end rfl ?_ | refine v_fin1 ?_ | refine v_finC1 ?_ | refine v_finR1 ?_ | refine v_callE (spec_l7Fits_c _ _ _ _ ?_ ?_ ?_ ?_ ?_) ?_ | refine v_finO1 rfl ?_ | refine v_finN1 rfl ?_ ?_ | refine v_finT1 rfl ?_ | refine v_apj ?_ (fun j' => ?_) | refine v_stz ?_ ?_ ?_ ?_ ?_ | refine v_stq ?_ | refine v_cv1 ?_ ?_ ?_ | (intro hc; replace fc := And.intro hc fc; try simp only [hcs] at hc)) <;> (try simp (config := { maxSteps := 1000000 }) only [go_sem, ↓reduceIte, reduceCtorEq, Nat.reduceEqDiff, Nat.reduceAdd, Nat.reduceMul, Nat.reduceSub, Nat.reduceLeDiff, Int.reduceLT, Int.reduceLE, Int.reduceEq, Int.reduceSub, Int.reduceAdd, Int.reduceMul, Int.reduceNeg, Int.reduceToNat, hn, fc]) <;> (try with_reducible rfl))
      all_goals try (first | omega | (simp only [n_i64, n_u8]; omega) | (simp only [n_i64, n_u8, lnA]; omega) | (simp only [lnA]; done))
      refine v_loop (fun ms1 S1 => ∃ (J : Nat), S1.e 0 = .p (.sl (.lent m0) (List.map (PV.int .i64) (p))) ∧ S1.e 1 = .p (.sl (.lent m1) (List.map (PV.int .i64) (q))) ∧ S1.e 2 = .p (.sl (.lent false) (List.map (PV.int .i64) (h))) ∧ OwnM (S1.e 3) S1.h S1.n (elI false) ((out ++ occJ 1 p q d h J).length) (out ++ occJ 1 p q d h J) ∧ S1.e 10 = .p (.int .i64 ((fromI 1 h + J))) ∧ ((J : Int) ≤ p.length + 1 - fromI 1 h) ∧ ms1 = p.length + 1 - J) ((fun (J : Nat) => p.length + 1 - J) (0)) ?init1_1 ?body1_1
      case' init1_1 =>
        refine ⟨0, ?_, ?_, ?_, ?_, ?_, ?_, rfl⟩
        all_goals (try simp only [go_sem, ↓reduceIte, reduceCtorEq, Nat.reduceEqDiff, Nat.reduceAdd, Nat.reduceMul, Nat.reduceSub, Nat.reduceLeDiff, Int.reduceLT, Int.reduceLE, Int.reduceEq, Int.reduceSub, Int.reduceAdd, Int.reduceMul, Int.reduceNeg, Int.reduceToNat])
        repeat' refine And.intro ?_ ?_
        all_goals try first | rfl | omega | (simp only [lnA] <;> omega) | ((first | refine stp ?_ | refine dkz_eq ?_ ?_) <;> first | rfl | omega | (simp only [lnA] <;> omega) | (simp only [lnA, List.append_assoc, List.cons_append, List.nil_append]; done) | skip)
      case' body1_1 =>
        rintro ms1 S1 ⟨J, h1_0, h1_1, h1_2, o1_3, h1_10, c1_0, hm1⟩
        obtain ⟨i1_3, mm1_3, h1_3, b1_3, l1_3⟩ := o1_3.out
        have ni1_3 : ∀ c, (i1_3 = S1.n + c) = False := fun c => eq_false (by omega)
        have pi1_3 : ∀ c, (S1.n + c = i1_3) = False := fun c => eq_false (by omega)
        have qi1_3 : (i1_3 = S1.n) = False := eq_false (by omega)
        have ri1_3 : (S1.n = i1_3) = False := eq_false (by omega)
      have b1 := lenJ J (by omega)
      by_cases hJ : fromI 1 h + J ≤ p.length
      · have fc : True := trivial
        repeat' first
          | with_reducible first | refine stp ?_ | refine q_blk_o rfl ?_ | (refine hK _ ?_; clear hK) | (refine hA ?_; clear hA hB) | (refine hB ?_; clear hA hB) | exact v_end0 | exact v_end0' | refine v_gb1 ?_ ?_ | refine v_gb0 ?_ ?_ | refine And.intro ?_ ?_
          | (with_reducible refine p_ok ?_; decide)
          | ((first | with_reducible first | refine v_region rfl rfl (fun K hK => ?_) | refine v_draws rfl rfl (fun K hK => ?_) | refine v_if (fun A B hA hB => ?_) | refine v_end rfl ?_ | refine v_fin1 ?_ | refine v_finC1 ?_ | refine v_finR1 ?_ | refine v_callE (spec_l7Fits_c _ _ _ _ ?_ ?_ ?_ ?_ ?_) ?_ | refine v_callN (ih _ _ ?_ ?_ ?_) rfl ?_ ?_ | refine v_callT (ih _ _ ?_ ?_ ?_) rfl ?_ ?_ | refine v_callTd (ih _ _ ?_ ?_ ?_) rfl ?_ ?_ | refine v_callR (ih _ _ ?_ ?_ ?_) rfl ?_ ?_ | refine v_callT3 (ih _ _ ?_ ?_ ?_) ?_ ?_ | refine v_callT4 (ih _ _ ?_ ?_ ?_) ?_ ?_ | refine v_finO1 rfl ?_ | refine v_finN1 rfl ?_ ?_ | refine v_finT1 rfl ?_ | refine v_apj ?_ (fun j' => ?_) | refine v_stz ?_ ?_ ?_ ?_ ?_ | refine v_stq ?_ | refine v_cv1 ?_ ?_ ?_ | (intro hc; replace fc := And.intro hc fc; try simp only [hcs] at hc)) <;> (try simp (config := { maxSteps := 1000000 }) only [go_sem, ↓reduceIte, reduceCtorEq, Nat.reduceEqDiff, Nat.reduceAdd, Nat.reduceMul, Nat.reduceSub, Nat.reduceLeDiff, Int.reduceLT, Int.reduceLE, Int.reduceEq, Int.reduceSub, Int.reduceAdd, Int.reduceMul, Int.reduceNeg, Int.reduceToNat, h1_0, h1_1, h1_2, h1_10, h1_3, b1_3, ni1_3, pi1_3, qi1_3, ri1_3, tk1, fc]) <;> (try with_reducible rfl))
        all_goals try (first | omega | (simp only [n_i64, n_u8]; omega) | (simp only [n_i64, n_u8, lnA]; omega) | (simp only [lnA]; done))
        · intro x hx'
          rcases List.mem_append.1 hx' with hx' | hx'
          · exact hx x hx'
          · simp at hx'; subst hx'; omega
        · have h8 : J + 1 ≤ 8 := by omega
          have h9 := Nat.mul_le_mul_right (8 ^ d) h8
          have h10 : 8 ^ (d + 1) = 8 * 8 ^ d := by rw [Nat.pow_succ, Nat.mul_comm]
          rw [Nat.succ_mul] at h9
          rw [List.length_append]; omega
        · focus
            refine q_lp_n ((fun (J : Nat) => p.length + 1 - J) (J+1)) ?_ ⟨J+1, ?_, ?_, ?_, ?_, ?_, ?_, rfl⟩
            all_goals (try simp only [go_sem, ↓reduceIte, reduceCtorEq, Nat.reduceEqDiff, Nat.reduceAdd, Nat.reduceMul, Nat.reduceSub, Nat.reduceLeDiff, Int.reduceLT, Int.reduceLE, Int.reduceEq, Int.reduceSub, Int.reduceAdd, Int.reduceMul, Int.reduceNeg, Int.reduceToNat, h1_0, h1_1, h1_2, h1_10, h1_3, b1_3, ni1_3, pi1_3, qi1_3, ri1_3])
            repeat' refine And.intro ?_ ?_
            all_goals try first | rfl | omega | (simp only [lnA] <;> omega) | ((first | refine stp ?_ | refine dkz_eq ?_ ?_) <;> first | rfl | omega | (simp only [lnA] <;> omega) | (simp only [lnA, List.append_assoc, List.cons_append, List.nil_append]; done) | skip)
          all_goals (rw [occJ_succ, if_pos hc]; try simp only [List.length_append, List.append_assoc, Nat.add_assoc])
        · focus
            refine q_lp_n ((fun (J : Nat) => p.length + 1 - J) (J+1)) ?_ ⟨J+1, ?_, ?_, ?_, ?_, ?_, ?_, rfl⟩
            all_goals (try simp only [go_sem, ↓reduceIte, reduceCtorEq, Nat.reduceEqDiff, Nat.reduceAdd, Nat.reduceMul, Nat.reduceSub, Nat.reduceLeDiff, Int.reduceLT, Int.reduceLE, Int.reduceEq, Int.reduceSub, Int.reduceAdd, Int.reduceMul, Int.reduceNeg, Int.reduceToNat, h1_0, h1_1, h1_2, h1_10, h1_3, b1_3, ni1_3, pi1_3, qi1_3, ri1_3])
            repeat' refine And.intro ?_ ?_
            all_goals try first | rfl | omega | (simp only [lnA] <;> omega) | ((first | refine stp ?_ | refine dkz_eq ?_ ?_) <;> first | rfl | omega | (simp only [lnA] <;> omega) | (simp only [lnA, List.append_assoc, List.cons_append, List.nil_append]; done) | skip)
          all_goals (rw [occJ_succ, if_neg (by rw [hc]; decide), List.append_nil])
      · have fc : True := trivial
        repeat' first
          | with_reducible first | refine stp ?_ | refine q_blk_o rfl ?_ | (refine hK _ ?_; clear hK) | (refine hA ?_; clear hA hB) | (refine hB ?_; clear hA hB) | exact v_end0 | exact v_end0' | refine v_gb1 ?_ ?_ | refine v_gb0 ?_ ?_ | refine And.intro ?_ ?_
          | (with_reducible refine p_ok ?_; decide)
          | ((first | with_reducible first | refine v_region rfl rfl (fun K hK => ?_) | refine v_draws rfl rfl (fun K hK => ?_) | refine v_if (fun A B hA hB => ?_) | refine v_end rfl ?_ | refine v_fin1 ?_ | refine v_finC1 ?_ | refine v_finR1 ?_ | refine v_callE (spec_l7Fits_c _ _ _ _ ?_ ?_ ?_ ?_ ?_) ?_ | refine v_callN (ih _ _ ?_ ?_ ?_) rfl ?_ ?_ | refine v_callT (ih _ _ ?_ ?_ ?_) rfl ?_ ?_ | refine v_callTd (ih _ _ ?_ ?_ ?_) rfl ?_ ?_ | refine v_callR (ih _ _ ?_ ?_ ?_) rfl ?_ ?_ | refine v_callT3 (ih _ _ ?_ ?_ ?_) ?_ ?_ | refine v_callT4 (ih _ _ ?_ ?_ ?_) ?_ ?_ | refine v_finO1 rfl ?_ | refine v_finN1 rfl ?_ ?_ | refine v_finT1 rfl ?_ | refine v_apj ?_ (fun j' => ?_) | refine v_stz ?_ ?_ ?_ ?_ ?_ | refine v_stq ?_ | refine v_cv1 ?_ ?_ ?_ | (intro hc; replace fc := And.intro hc fc; try simp only [hcs] at hc)) <;> (try simp (config := { maxSteps := 1000000 }) only [go_sem, ↓reduceIte, reduceCtorEq, Nat.reduceEqDiff, Nat.reduceAdd, Nat.reduceMul, Nat.reduceSub, Nat.reduceLeDiff, Int.reduceLT, Int.reduceLE, Int.reduceEq, Int.reduceSub, Int.reduceAdd, Int.reduceMul, Int.reduceNeg, Int.reduceToNat, h1_0, h1_1, h1_2, h1_10, h1_3, b1_3, ni1_3, pi1_3, qi1_3, ri1_3, fc]) <;> (try with_reducible rfl))
        all_goals try (first | omega | (simp only [n_i64, n_u8]; omega) | (simp only [n_i64, n_u8, lnA]; omega) | (simp only [lnA]; done))
        rw [occ_J, show ((p.length : Int) + 1 - fromI 1 h).toNat = J by omega]
      · simp [occJ]
      · simp [occJ]
    · skip
      have f1 : fromI 1 h = h.getD (h.length - 1) 0 + 1 := if_neg hn
      have f2 : ((h.length : Int) - 1).toNat = h.length - 1 := by omega
      have g1 := hx _ (getD_mem (d := 0) (show h.length - 1 < h.length by omega))
      have fc : True := trivial
      repeat' first
        | with_reducible first | refine stp ?_ | refine q_blk_o rfl ?_ | (refine hK _ ?_; clear hK) | (refine hA ?_; clear hA hB) | (refine hB ?_; clear hA hB) | exact v_end0 | exact v_end0' | refine v_gb1 ?_ ?_ | refine v_gb0 ?_ ?_ | refine And.intro ?_ ?_
        | (with_reducible refine p_ok ?_; decide)
        | ((first | with_reducible first | refine v_region rfl rfl (fun K hK => ?_) | refine v_draws rfl rfl (fun K hK => ?_) | refine v_if (fun A B hA hB => ?_) | refine v_end rfl ?_ | refine v_fin1 ?_ | refine v_finC1 ?_ | refine v_finR1 ?_ | refine v_callE (spec_l7Fits_c _ _ _ _ ?_ ?_ ?_ ?_ ?_) ?_ | refine v_finO1 rfl ?_ | refine v_finN1 rfl ?_ ?_ | refine v_finT1 rfl ?_ | refine v_apj ?_ (fun j' => ?_) | refine v_stz ?_ ?_ ?_ ?_ ?_ | refine v_stq ?_ | refine v_cv1 ?_ ?_ ?_ | (intro hc; replace fc := And.intro hc fc; try simp only [hcs] at hc)) <;> (try simp (config := { maxSteps := 1000000 }) only [go_sem, ↓reduceIte, reduceCtorEq, Nat.reduceEqDiff, Nat.reduceAdd, Nat.reduceMul, Nat.reduceSub, Nat.reduceLeDiff, Int.reduceLT, Int.reduceLE, Int.reduceEq, Int.reduceSub, Int.reduceAdd, Int.reduceMul, Int.reduceNeg, Int.reduceToNat, f2, fc]) <;> (try with_reducible rfl))
      all_goals try (first | omega | (simp only [n_i64, n_u8]; omega) | (simp only [n_i64, n_u8, lnA]; omega) | (simp only [lnA]; done))
      refine v_loop (fun ms2 S2 => ∃ (J : Nat), S2.e 0 = .p (.sl (.lent m0) (List.map (PV.int .i64) (p))) ∧ S2.e 1 = .p (.sl (.lent m1) (List.map (PV.int .i64) (q))) ∧ S2.e 2 = .p (.sl (.lent false) (List.map (PV.int .i64) (h))) ∧ OwnM (S2.e 3) S2.h S2.n (elI false) ((out ++ occJ 1 p q d h J).length) (out ++ occJ 1 p q d h J) ∧ S2.e 10 = .p (.int .i64 ((fromI 1 h + J))) ∧ ((J : Int) ≤ p.length + 1 - fromI 1 h) ∧ ms2 = p.length + 1 - J) ((fun (J : Nat) => p.length + 1 - J) (0)) ?init2_2 ?body2_2
      case' init2_2 =>
        refine ⟨0, ?_, ?_, ?_, ?_, ?_, ?_, rfl⟩
        all_goals (try simp only [go_sem, ↓reduceIte, reduceCtorEq, Nat.reduceEqDiff, Nat.reduceAdd, Nat.reduceMul, Nat.reduceSub, Nat.reduceLeDiff, Int.reduceLT, Int.reduceLE, Int.reduceEq, Int.reduceSub, Int.reduceAdd, Int.reduceMul, Int.reduceNeg, Int.reduceToNat])
        repeat' refine And.intro ?_ ?_
        all_goals try first | rfl | omega | (simp only [lnA] <;> omega) | ((first | refine stp ?_ | refine dkz_eq ?_ ?_) <;> first | rfl | omega | (simp only [lnA] <;> omega) | (simp only [lnA, List.append_assoc, List.cons_append, List.nil_append]; done) | skip)
      case' body2_2 =>
        rintro ms2 S2 ⟨J, h2_0, h2_1, h2_2, o2_3, h2_10, c2_0, hm2⟩
        obtain ⟨i2_3, mm2_3, h2_3, b2_3, l2_3⟩ := o2_3.out
        have ni2_3 : ∀ c, (i2_3 = S2.n + c) = False := fun c => eq_false (by omega)
        have pi2_3 : ∀ c, (S2.n + c = i2_3) = False := fun c => eq_false (by omega)
        have qi2_3 : (i2_3 = S2.n) = False := eq_false (by omega)
        have ri2_3 : (S2.n = i2_3) = False := eq_false (by omega)
      have b1 := lenJ J (by omega)
      by_cases hJ : fromI 1 h + J ≤ p.length
      · have fc : True := trivial
        repeat' first
          | with_reducible first | refine stp ?_ | refine q_blk_o rfl ?_ | (refine hK _ ?_; clear hK) | (refine hA ?_; clear hA hB) | (refine hB ?_; clear hA hB) | exact v_end0 | exact v_end0' | refine v_gb1 ?_ ?_ | refine v_gb0 ?_ ?_ | refine And.intro ?_ ?_
          | (with_reducible refine p_ok ?_; decide)
          | ((first | with_reducible first | refine v_region rfl rfl (fun K hK => ?_) | refine v_draws rfl rfl (fun K hK => ?_) | refine v_if (fun A B hA hB => ?_) | refine v_end rfl ?_ | refine v_fin1 ?_ | refine v_finC1 ?_ | refine v_finR1 ?_ | refine v_callE (spec_l7Fits_c _ _ _ _ ?_ ?_ ?_ ?_ ?_) ?_ | refine v_callN (ih _ _ ?_ ?_ ?_) rfl ?_ ?_ | refine v_callT (ih _ _ ?_ ?_ ?_) rfl ?_ ?_ | refine v_callTd (ih _ _ ?_ ?_ ?_) rfl ?_ ?_ | refine v_callR (ih _ _ ?_ ?_ ?_) rfl ?_ ?_ | refine v_callT3 (ih _ _ ?_ ?_ ?_) ?_ ?_ | refine v_callT4 (ih _ _ ?_ ?_ ?_) ?_ ?_ | refine v_finO1 rfl ?_ | refine v_finN1 rfl ?_ ?_ | refine v_finT1 rfl ?_ | refine v_apj ?_ (fun j' => ?_) | refine v_stz ?_ ?_ ?_ ?_ ?_ | refine v_stq ?_ | refine v_cv1 ?_ ?_ ?_ | (intro hc; replace fc := And.intro hc fc; try simp only [hcs] at hc)) <;> (try simp (config := { maxSteps := 1000000 }) only [go_sem, ↓reduceIte, reduceCtorEq, Nat.reduceEqDiff, Nat.reduceAdd, Nat.reduceMul, Nat.reduceSub, Nat.reduceLeDiff, Int.reduceLT, Int.reduceLE, Int.reduceEq, Int.reduceSub, Int.reduceAdd, Int.reduceMul, Int.reduceNeg, Int.reduceToNat, h2_0, h2_1, h2_2, h2_10, h2_3, b2_3, ni2_3, pi2_3, qi2_3, ri2_3, tk1, fc]) <;> (try with_reducible rfl))
        all_goals try (first | omega | (simp only [n_i64, n_u8]; omega) | (simp only [n_i64, n_u8, lnA]; omega) | (simp only [lnA]; done))
        · intro x hx'
          rcases List.mem_append.1 hx' with hx' | hx'
          · exact hx x hx'
          · simp at hx'; subst hx'; omega
        · have h8 : J + 1 ≤ 8 := by omega
          have h9 := Nat.mul_le_mul_right (8 ^ d) h8
          have h10 : 8 ^ (d + 1) = 8 * 8 ^ d := by rw [Nat.pow_succ, Nat.mul_comm]
          rw [Nat.succ_mul] at h9
          rw [List.length_append]; omega
        · focus
            refine q_lp_n ((fun (J : Nat) => p.length + 1 - J) (J+1)) ?_ ⟨J+1, ?_, ?_, ?_, ?_, ?_, ?_, rfl⟩
            all_goals (try simp only [go_sem, ↓reduceIte, reduceCtorEq, Nat.reduceEqDiff, Nat.reduceAdd, Nat.reduceMul, Nat.reduceSub, Nat.reduceLeDiff, Int.reduceLT, Int.reduceLE, Int.reduceEq, Int.reduceSub, Int.reduceAdd, Int.reduceMul, Int.reduceNeg, Int.reduceToNat, h2_0, h2_1, h2_2, h2_10, h2_3, b2_3, ni2_3, pi2_3, qi2_3, ri2_3])
            repeat' refine And.intro ?_ ?_
            all_goals try first | rfl | omega | (simp only [lnA] <;> omega) | ((first | refine stp ?_ | refine dkz_eq ?_ ?_) <;> first | rfl | omega | (simp only [lnA] <;> omega) | (simp only [lnA, List.append_assoc, List.cons_append, List.nil_append]; done) | skip)
          all_goals (rw [occJ_succ, if_pos hc]; try simp only [List.length_append, List.append_assoc, Nat.add_assoc])
        · focus
            refine q_lp_n ((fun (J : Nat) => p.length + 1 - J) (J+1)) ?_ ⟨J+1, ?_, ?_, ?_, ?_, ?_, ?_, rfl⟩
            all_goals (try simp only [go_sem, ↓reduceIte, reduceCtorEq, Nat.reduceEqDiff, Nat.reduceAdd, Nat.reduceMul, Nat.reduceSub, Nat.reduceLeDiff, Int.reduceLT, Int.reduceLE, Int.reduceEq, Int.reduceSub, Int.reduceAdd, Int.reduceMul, Int.reduceNeg, Int.reduceToNat, h2_0, h2_1, h2_2, h2_10, h2_3, b2_3, ni2_3, pi2_3, qi2_3, ri2_3])
            repeat' refine And.intro ?_ ?_
            all_goals try first | rfl | omega | (simp only [lnA] <;> omega) | ((first | refine stp ?_ | refine dkz_eq ?_ ?_) <;> first | rfl | omega | (simp only [lnA] <;> omega) | (simp only [lnA, List.append_assoc, List.cons_append, List.nil_append]; done) | skip)
          all_goals (rw [occJ_succ, if_neg (by rw [hc]; decide), List.append_nil])
      · have fc : True := trivial
        repeat' first
          | with_reducible first | refine stp ?_ | refine q_blk_o rfl ?_ | (refine hK _ ?_; clear hK) | (refine hA ?_; clear hA hB) | (refine hB ?_; clear hA hB) | exact v_end0 | exact v_end0' | refine v_gb1 ?_ ?_ | refine v_gb0 ?_ ?_ | refine And.intro ?_ ?_
          | (with_reducible refine p_ok ?_; decide)
          | ((first | with_reducible first | refine v_region rfl rfl (fun K hK => ?_) | refine v_draws rfl rfl (fun K hK => ?_) | refine v_if (fun A B hA hB => ?_) | refine v_end rfl ?_ | refine v_fin1 ?_ | refine v_finC1 ?_ | refine v_finR1 ?_ | refine v_callE (spec_l7Fits_c _ _ _ _ ?_ ?_ ?_ ?_ ?_) ?_ | refine v_callN (ih _ _ ?_ ?_ ?_) rfl ?_ ?_ | refine v_callT (ih _ _ ?_ ?_ ?_) rfl ?_ ?_ | refine v_callTd (ih _ _ ?_ ?_ ?_) rfl ?_ ?_ | refine v_callR (ih _ _ ?_ ?_ ?_) rfl ?_ ?_ | refine v_callT3 (ih _ _ ?_ ?_ ?_) ?_ ?_ | refine v_callT4 (ih _ _ ?_ ?_ ?_) ?_ ?_ | refine v_finO1 rfl ?_ | refine v_finN1 rfl ?_ ?_ | refine v_finT1 rfl ?_ | refine v_apj ?_ (fun j' => ?_) | refine v_stz ?_ ?_ ?_ ?_ ?_ | refine v_stq ?_ | refine v_cv1 ?_ ?_ ?_ | (intro hc; replace fc := And.intro hc fc; try simp only [hcs] at hc)) <;> (try simp (config := { maxSteps := 1000000 }) only [go_sem, ↓reduceIte, reduceCtorEq, Nat.reduceEqDiff, Nat.reduceAdd, Nat.reduceMul, Nat.reduceSub, Nat.reduceLeDiff, Int.reduceLT, Int.reduceLE, Int.reduceEq, Int.reduceSub, Int.reduceAdd, Int.reduceMul, Int.reduceNeg, Int.reduceToNat, h2_0, h2_1, h2_2, h2_10, h2_3, b2_3, ni2_3, pi2_3, qi2_3, ri2_3, fc]) <;> (try with_reducible rfl))
        all_goals try (first | omega | (simp only [n_i64, n_u8]; omega) | (simp only [n_i64, n_u8, lnA]; omega) | (simp only [lnA]; done))
        rw [occ_J, show ((p.length : Int) + 1 - fromI 1 h).toNat = J by omega]
      · simp [occJ]
      · simp [occJ]
theorem occ_emp {p q : List Int} {d : Nat} {c : List Int} : (occ 1 p q d (c.map (· + 1))).length = (occ 0 p q d c).length := by rw [occ_shift, List.length_map]
theorem has_dec {p q : List Int} : decide (0 < ((occ 1 p q q.length []).length : Int)) = hasB p q := by
  have := occ_emp (p := p) (q := q) (d := q.length) (c := [])
  rw [List.map_nil] at this
  rw [this, hasB]
  cases occ 0 p q q.length [] with
  | nil => rfl
  | cons x l => simp
end Go.Gl
