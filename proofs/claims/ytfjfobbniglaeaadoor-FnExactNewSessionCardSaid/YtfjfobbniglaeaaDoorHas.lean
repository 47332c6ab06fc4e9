/-
  Occurrences of patterns: what their functions compute. Conditions: none.
-/
import Derived.Test.YtfjfobbniglaeaaDoorPerms
import Derived.Test.YtfjfobbniglaeaaDoorLaw1
import Derived.Test.YtfjfobbniglaeaaDoorClone
set_option linter.unusedSimpArgs false
set_option linter.unusedVariables false
set_option maxRecDepth 20000
set_option linter.unusedSectionVars false
namespace Go.Gl
open Go Go.Proofs
variable [Amb] [NoQ]
/-- Does a place more agree with a pattern? (Places are counted from b.) -/
def fitK (b : Int) (p q c : List Int) (i : Int) (k : Nat) : Bool := (List.range k).all fun l => decide (q.getD l 0 < q.getD c.length 0) == decide (p.getD (c.getD l 0 - b).toNat 0 < p.getD (i - b).toNat 0)
def fitB (b : Int) (p q c : List Int) (i : Int) : Bool := fitK b p q c i c.length
theorem fitK_succ {b : Int} {p q c : List Int} {i : Int} {k : Nat} : fitK b p q c i (k + 1) = (fitK b p q c i k && (decide (q.getD k 0 < q.getD c.length 0) == decide (p.getD (c.getD k 0 - b).toNat 0 < p.getD (i - b).toNat 0))) := by
  simp [fitK, List.range_succ]
def fromI (b : Int) (c : List Int) : Int := if c.length = 0 then b else c.getD (c.length - 1) 0 + 1
/-- The occurrences that begin so, d places more. -/
def occ (b : Int) (p q : List Int) : Nat → List Int → List (List Int)
  | 0, c => [c]
  | d + 1, c => (List.range ((p.length : Int) + b - fromI b c).toNat).flatMap fun j : Nat => if fitB b p q c (fromI b c + j) = true then occ b p q d (c ++ [fromI b c + j]) else []
/-- .. the first J places looked at. -/
def occJ (b : Int) (p q : List Int) (d : Nat) (c : List Int) (J : Nat) : List (List Int) :=
  (List.range J).flatMap fun j : Nat => if fitB b p q c (fromI b c + j) = true then occ b p q d (c ++ [fromI b c + j]) else []
theorem occ_J {b : Int} {p q : List Int} {d : Nat} {c : List Int} : occ b p q (d + 1) c = occJ b p q d c ((p.length : Int) + b - fromI b c).toNat := rfl
theorem occJ_succ {b : Int} {p q : List Int} {d : Nat} {c : List Int} {J : Nat} : occJ b p q d c (J + 1) = occJ b p q d c J ++ if fitB b p q c (fromI b c + J) = true then occ b p q d (c ++ [fromI b c + J]) else [] := by
  simp [occJ, List.range_succ]
theorem from_snoc {b i : Int} {c : List Int} : fromI b (c ++ [i]) = i + 1 := by
  rw [fromI, if_neg (by simp)]; simp
theorem occ_len {b : Int} {p q : List Int} (hb : 0 ≤ b) : ∀ {d : Nat} {c : List Int}, b ≤ fromI b c → (occ b p q d c).length ≤ p.length ^ d
  | 0, c, _ => by simp [occ]
  | d + 1, c, hc => by
    have key : ∀ J, (occJ b p q d c J).length ≤ J * p.length ^ d := by
      intro J
      induction J with
      | zero => simp [occJ]
      | succ J ih =>
        rw [occJ_succ, List.length_append, Nat.succ_mul]
        split
        · have := occ_len (q := q) (p := p) hb (d := d) (c := c ++ [fromI b c + J]) (by rw [from_snoc]; omega)
          omega
        · simp; omega
    rw [occ_J, Nat.pow_succ, Nat.mul_comm]
    exact Nat.le_trans (key _) (Nat.mul_le_mul_right _ (by omega))
theorem occ_nil {b : Int} {p q : List Int} : ∀ {d : Nat} {c : List Int}, 1 ≤ d → (p.length : Int) + b < fromI b c + d → occ b p q d c = []
  | d + 1, c, _, h => by
    rw [occ, List.flatMap_eq_nil_iff]
    intro j hj
    rw [List.mem_range] at hj
    split
    · exact occ_nil (by omega) (by rw [from_snoc]; omega)
    · rfl
def hasB (p q : List Int) : Bool := !(occ 0 p q q.length []).isEmpty
theorem fitB_shift {p q c : List Int} {i : Int} : fitB 1 p q (c.map (· + 1)) (i + 1) = fitB 0 p q c i := by
  simp only [fitB, fitK, List.length_map]
  rw [Bool.eq_iff_iff, List.all_eq_true, List.all_eq_true]
  refine forall_congr' fun l => imp_congr_right fun hl => ?_
  rw [List.mem_range] at hl
  have e1 : (c.map (· + 1)).getD l 0 - 1 = c.getD l 0 - 0 := by
    rw [List.getD_eq_getElem?_getD, List.getElem?_map, List.getD_eq_getElem?_getD, List.getElem?_eq_getElem hl]; simp
  rw [e1, show i + 1 - 1 = i - 0 by omega]
theorem from_shift {c : List Int} : fromI 1 (c.map (· + 1)) = fromI 0 c + 1 := by
  unfold fromI
  rw [List.length_map]
  split
  · rfl
  · rename_i h
    rw [List.getD_eq_getElem?_getD, List.getElem?_map, List.getD_eq_getElem?_getD, List.getElem?_eq_getElem (by omega)]; simp
theorem occ_shift {p q : List Int} : ∀ {d : Nat} {c : List Int}, occ 1 p q d (c.map (· + 1)) = (occ 0 p q d c).map (List.map (· + 1))
  | 0, c => rfl
  | d + 1, c => by
    rw [occ, occ, from_shift, List.map_flatMap]
    rw [show ((p.length : Int) + 1 - (fromI 0 c + 1)) = p.length + 0 - fromI 0 c by omega]
    congr 1; funext j
    rw [show fromI 0 c + 1 + (j : Int) = (fromI 0 c + j) + 1 by omega, fitB_shift]
    split
    · rw [show List.map (· + 1) c ++ [fromI 0 c + (j : Int) + 1] = List.map (· + 1) (c ++ [fromI 0 c + (j : Int)]) by simp, occ_shift]
    · rfl
theorem fitK_mono {b : Int} {p q c : List Int} {i : Int} {k n : Nat} (hk : k ≤ n) (h : fitK b p q c i k = false) : fitK b p q c i n = false := by
  induction hk with
  | refl => exact h
  | step _ ih => rw [fitK_succ, ih]; rfl
theorem spec_l7Fits_c {m0 m1 m2 : Bool} (p q c : List Int) (i : Int) (hq : q.length ≤ 8) (hp : p.length ≤ 8) (hc0 : c.length < q.length) (hx : ∀ x ∈ c, 1 ≤ x ∧ x ≤ p.length) (hi : 1 ≤ i ∧ i ≤ p.length) : Fun Tryd.prog 106 [(.sl (.lent m0) (List.map (PV.int .i64) (p))), (.sl (.lent m1) (List.map (PV.int .i64) (q))), (.sl (.lent m2) (List.map (PV.int .i64) ((c ++ [i]))))] [(.bool (fitB 1 p q c i))] := by
  refine fO sg0 [6] Tryd.func106 ?_
  have e1 : (c ++ [i]).getD c.length 0 = i := by simp
  refine dEa trivial ?_
  all_goals try (refine zlf ?_; repeat' first | exact zso | refine And.intro ?_ ?_ | (refine zim ?_; intro zb hc) | (refine zin ?_; intro zb) | intro j')
  all_goals try refine zbx ?_
  refine v_loopB (fun ms1 S1 => ∃ (k : Nat), S1.e 0 = .p (.sl (.lent m0) (List.map (PV.int .i64) (p))) ∧ S1.e 1 = .p (.sl (.lent m1) (List.map (PV.int .i64) (q))) ∧ S1.e 2 = .p (.sl (.lent m2) (List.map (PV.int .i64) ((c ++ [i])))) ∧ S1.e 7 = .p (.int .i64 (c.length)) ∧ S1.e 8 = .p (.int .i64 (k)) ∧ (k ≤ c.length) ∧ (fitK 1 p q c i k = true) ∧ ms1 = c.length - k) ((fun (k : Nat) => c.length - k) (0)) ?_ ⟨0, dC trivial ?_⟩
  all_goals try (refine zlf ?_; repeat' first | exact zso | refine And.intro ?_ ?_ | (refine zim ?_; intro zb hc) | (refine zin ?_; intro zb) | intro j')
  all_goals try refine zbx ?_
  rintro ms1 S1 ⟨k, h1_0, h1_1, h1_2, h1_7, h1_8, c1_0, c1_1, hm1⟩
  have fL1 := (And.intro h1_0 (And.intro h1_1 (And.intro h1_2 (And.intro h1_7 h1_8))))
  by_cases hk : k < c.length
  · have e2 : (c ++ [i]).getD k 0 = c.getD k 0 := by simp [List.getD_eq_getElem?_getD, List.getElem?_append_left hk]
    have e3 := hx _ (getD_mem (d := 0) hk)
    refine dEa (And.intro fL1 (And.intro @e1 @e2)) ?_
    all_goals try (refine zlf ?_; repeat' first | exact zso | refine And.intro ?_ ?_ | (refine zim ?_; intro zb hc) | (refine zin ?_; intro zb) | intro j')
    all_goals try refine zbx ?_
    · exact (fitK_mono (k := k + 1) (by omega) (by rw [fitK_succ, c1_1, Bool.true_and]; simpa using hc)).symm
    · focus
        refine q_lp_n ((fun (k : Nat) => c.length - k) (k+1)) (dC fL1 ?_) ⟨k+1, dC fL1 ?_⟩
        all_goals try (refine zlf ?_; repeat' first | exact zso | refine And.intro ?_ ?_ | (refine zim ?_; intro zb hc) | (refine zin ?_; intro zb) | intro j')
        all_goals try refine zbx ?_
      rw [fitK_succ, c1_1, Bool.true_and, beq_iff_eq]; simpa using hc
  · refine dEa (And.intro fL1 @e1) ?_
    all_goals try (refine zlf ?_; repeat' first | exact zso | refine And.intro ?_ ?_ | (refine zim ?_; intro zb hc) | (refine zin ?_; intro zb) | intro j')
    all_goals try refine zbx ?_
    obtain rfl : k = c.length := by omega
    exact c1_1.symm
def sgFd : FuncId → List Bool := fun f => if f = 96 then [false, false, false, true] else if f = 8589934688 then [false, false, true] else []
theorem sgFd_eq {f : FuncId} : sgFd f = if f = 96 then [false, false, false, true] else if f = 8589934688 then [false, false, true] else [] := _root_.id rfl
theorem way_sgFd : wayE sgFd = false ∧ wayN sgFd = false ∧ wayS sgFd = false ∧ wayZ sgFd = false ∧ wayM sgFd = false := ⟨rfl, rfl, rfl, rfl, rfl⟩
attribute [go_sem] sgFd_eq way_sgFd
set_option maxHeartbeats 1000000 in
theorem spec_l7Find_c {m0 m1 : Bool} (p q : List Int) (hp : p.length ≤ 8) (hq : q.length ≤ 8) : ∀ (d : Nat) (h : List Int) (out : List (List Int)), h.length + d = q.length → (∀ x ∈ h, 1 ≤ x ∧ x ≤ p.length) → out.length + 8 ^ d ≤ 1099511627776 →
    CallT Tryd.prog true 96 [.pv (.sl (.lent m0) (List.map (PV.int .i64) p)), .pv (.sl (.lent m1) (List.map (PV.int .i64) q)), .pv (.sl (.lent false) (List.map (PV.int .i64) h)), .mu false (List.map (elI false) out)] [none, none, none, none] [.sl .own (List.map (elI false) (out ++ occ 1 p q d h))] := by
  intro d
  induction d with
  | zero =>
    intro h out hd hx ho
    refine CallT.of (sg := sgFd) (ts := [8]) mo Tryd.func96 rfl rfl rfl rfl (by kernel_rfl) (by simp only [go_sem]) rfl rfl ?_
    have cE1 := @spec_l7Fits_c
    refine dTa trivial ?_
    all_goals try (refine zlf ?_; repeat' first | exact zso | refine And.intro ?_ ?_ | (refine zim ?_; intro zb hc) | (refine zin ?_; intro zb) | intro j')
    all_goals try refine zbx ?_
    all_goals (rw [tk1]; rfl)
  | succ d ih =>
    intro h out hd hx ho
    have f0 : 1 ≤ fromI 1 h ∧ fromI 1 h ≤ p.length + 1 := by
      unfold fromI
      split
      · omega
      · have := hx _ (getD_mem (d := 0) (show h.length - 1 < h.length by omega)); omega
    refine CallT.of (sg := sgFd) (ts := [8]) mo Tryd.func96 rfl rfl rfl rfl (by kernel_rfl) (by simp only [go_sem]) rfl rfl ?_
    have cE1 := @spec_l7Fits_c
    have lenJ : ∀ J : Nat, (J : Int) ≤ p.length + 1 - fromI 1 h → (occJ 1 p q d h J).length ≤ J * 8 ^ d := by
      intro J
      induction J with
      | zero => intro _; simp [occJ]
      | succ J ihJ =>
        intro hJ
        have h1 := ihJ (by omega)
        have h2 : (if fitB 1 p q h (fromI 1 h + J) = true then occ 1 p q d (h ++ [fromI 1 h + J]) else []).length ≤ 8 ^ d := by
          split
          · exact Nat.le_trans (occ_len (by decide) (by rw [from_snoc]; omega)) (Nat.pow_le_pow_left hp d)
          · exact Nat.zero_le _
        rw [occJ_succ, List.length_append, Nat.succ_mul]
        exact Nat.add_le_add h1 h2
    by_cases hn : h.length = 0
    · have f1 : fromI 1 h = 1 := if_pos hn
      refine dTa @hn ?_
      all_goals try (refine zlf ?_; repeat' first | exact zso | refine And.intro ?_ ?_ | (refine zim ?_; intro zb hc) | (refine zin ?_; intro zb) | intro j')
      all_goals try refine zbx ?_
      refine v_loopB (fun ms1 S1 => ∃ (J : Nat), S1.e 0 = .p (.sl (.lent m0) (List.map (PV.int .i64) (p))) ∧ S1.e 1 = .p (.sl (.lent m1) (List.map (PV.int .i64) (q))) ∧ S1.e 2 = .p (.sl (.lent false) (List.map (PV.int .i64) (h))) ∧ OwnM (S1.e 3) S1.h S1.n (elI false) ((out ++ occJ 1 p q d h J).length) (out ++ occJ 1 p q d h J) ∧ S1.e 10 = .p (.int .i64 ((fromI 1 h + J))) ∧ ((J : Int) ≤ p.length + 1 - fromI 1 h) ∧ ms1 = p.length + 1 - J) ((fun (J : Nat) => p.length + 1 - J) (0)) ?_ ⟨0, dC trivial ?_⟩
      all_goals try (refine zlf ?_; repeat' first | exact zso | refine And.intro ?_ ?_ | (refine zim ?_; intro zb hc) | (refine zin ?_; intro zb) | intro j')
      all_goals try refine zbx ?_
      rintro ms1 S1 ⟨J, h1_0, h1_1, h1_2, o1_3, h1_10, c1_0, hm1⟩
      obtain ⟨i1_3, mm1_3, h1_3, b1_3, l1_3⟩ := o1_3.out
      have ni1_3 := znds (x := i1_3) (n := S1.n)
      have fL1 := (And.intro h1_0 (And.intro h1_1 (And.intro h1_2 (And.intro h1_10 (And.intro h1_3 (And.intro b1_3 ni1_3))))))
      have b1 := lenJ J (by omega)
      by_cases hJ : fromI 1 h + J ≤ p.length
      · have cM1 := @ih
        refine dTa (And.intro fL1 @tk1) ?_
        all_goals try (refine zlf ?_; repeat' first | exact zso | refine And.intro ?_ ?_ | (refine zim ?_; intro zb hc) | (refine zin ?_; intro zb) | intro j')
        all_goals try refine zbx ?_
        · intro x hx'
          rcases List.mem_append.1 hx' with hx' | hx'
          · exact hx x hx'
          · simp at hx'; subst hx'; omega
        · have h8 : J + 1 ≤ 8 := by omega
          have h9 := Nat.mul_le_mul_right (8 ^ d) h8
          have h10 : 8 ^ (d + 1) = 8 * 8 ^ d := by rw [Nat.pow_succ, Nat.mul_comm]
          rw [Nat.succ_mul] at h9
          rw [List.length_append]; omega
        · focus
            refine q_lp_n ((fun (J : Nat) => p.length + 1 - J) (J+1)) (dC fL1 ?_) ⟨J+1, dC fL1 ?_⟩
            all_goals try (refine zlf ?_; repeat' first | exact zso | refine And.intro ?_ ?_ | (refine zim ?_; intro zb hc) | (refine zin ?_; intro zb) | intro j')
            all_goals try refine zbx ?_
          all_goals (rw [occJ_succ, if_pos hc]; try simp only [List.length_append, List.append_assoc, Nat.add_assoc])
        · focus
            refine q_lp_n ((fun (J : Nat) => p.length + 1 - J) (J+1)) (dC fL1 ?_) ⟨J+1, dC fL1 ?_⟩
            all_goals try (refine zlf ?_; repeat' first | exact zso | refine And.intro ?_ ?_ | (refine zim ?_; intro zb hc) | (refine zin ?_; intro zb) | intro j')
            all_goals try refine zbx ?_
          all_goals (rw [occJ_succ, if_neg (by rw [hc]; decide), List.append_nil])
      · have cM1 := @ih
        refine dTa fL1 ?_
        all_goals try (refine zlf ?_; repeat' first | exact zso | refine And.intro ?_ ?_ | (refine zim ?_; intro zb hc) | (refine zin ?_; intro zb) | intro j')
        all_goals try refine zbx ?_
        rw [occ_J, show ((p.length : Int) + 1 - fromI 1 h).toNat = J by omega]
      · simp [occJ]
      · simp [occJ]
    · skip
      have f1 : fromI 1 h = h.getD (h.length - 1) 0 + 1 := if_neg hn
      have f2 : ((h.length : Int) - 1).toNat = h.length - 1 := by omega
      have g1 := hx _ (getD_mem (d := 0) (show h.length - 1 < h.length by omega))
      have cM1 := trivial
      refine dTa @f2 ?_
      all_goals try (refine zlf ?_; repeat' first | exact zso | refine And.intro ?_ ?_ | (refine zim ?_; intro zb hc) | (refine zin ?_; intro zb) | intro j')
      all_goals try refine zbx ?_
      refine v_loopB (fun ms2 S2 => ∃ (J : Nat), S2.e 0 = .p (.sl (.lent m0) (List.map (PV.int .i64) (p))) ∧ S2.e 1 = .p (.sl (.lent m1) (List.map (PV.int .i64) (q))) ∧ S2.e 2 = .p (.sl (.lent false) (List.map (PV.int .i64) (h))) ∧ OwnM (S2.e 3) S2.h S2.n (elI false) ((out ++ occJ 1 p q d h J).length) (out ++ occJ 1 p q d h J) ∧ S2.e 10 = .p (.int .i64 ((fromI 1 h + J))) ∧ ((J : Int) ≤ p.length + 1 - fromI 1 h) ∧ ms2 = p.length + 1 - J) ((fun (J : Nat) => p.length + 1 - J) (0)) ?_ ⟨0, dC trivial ?_⟩
      all_goals try (refine zlf ?_; repeat' first | exact zso | refine And.intro ?_ ?_ | (refine zim ?_; intro zb hc) | (refine zin ?_; intro zb) | intro j')
      all_goals try refine zbx ?_
      rintro ms2 S2 ⟨J, h2_0, h2_1, h2_2, o2_3, h2_10, c2_0, hm2⟩
      obtain ⟨i2_3, mm2_3, h2_3, b2_3, l2_3⟩ := o2_3.out
      have ni2_3 := znds (x := i2_3) (n := S2.n)
      have fL2 := (And.intro h2_0 (And.intro h2_1 (And.intro h2_2 (And.intro h2_10 (And.intro h2_3 (And.intro b2_3 ni2_3))))))
      have b1 := lenJ J (by omega)
      by_cases hJ : fromI 1 h + J ≤ p.length
      · have cM1 := @ih
        refine dTa (And.intro fL2 @tk1) ?_
        all_goals try (refine zlf ?_; repeat' first | exact zso | refine And.intro ?_ ?_ | (refine zim ?_; intro zb hc) | (refine zin ?_; intro zb) | intro j')
        all_goals try refine zbx ?_
        · intro x hx'
          rcases List.mem_append.1 hx' with hx' | hx'
          · exact hx x hx'
          · simp at hx'; subst hx'; omega
        · have h8 : J + 1 ≤ 8 := by omega
          have h9 := Nat.mul_le_mul_right (8 ^ d) h8
          have h10 : 8 ^ (d + 1) = 8 * 8 ^ d := by rw [Nat.pow_succ, Nat.mul_comm]
          rw [Nat.succ_mul] at h9
          rw [List.length_append]; omega
        · focus
            refine q_lp_n ((fun (J : Nat) => p.length + 1 - J) (J+1)) (dC fL2 ?_) ⟨J+1, dC fL2 ?_⟩
            all_goals try (refine zlf ?_; repeat' first | exact zso | refine And.intro ?_ ?_ | (refine zim ?_; intro zb hc) | (refine zin ?_; intro zb) | intro j')
            all_goals try refine zbx ?_
          all_goals (rw [occJ_succ, if_pos hc]; try simp only [List.length_append, List.append_assoc, Nat.add_assoc])
        · focus
            refine q_lp_n ((fun (J : Nat) => p.length + 1 - J) (J+1)) (dC fL2 ?_) ⟨J+1, dC fL2 ?_⟩
            all_goals try (refine zlf ?_; repeat' first | exact zso | refine And.intro ?_ ?_ | (refine zim ?_; intro zb hc) | (refine zin ?_; intro zb) | intro j')
            all_goals try refine zbx ?_
          all_goals (rw [occJ_succ, if_neg (by rw [hc]; decide), List.append_nil])
      · have cM1 := @ih
        refine dTa fL2 ?_
        all_goals try (refine zlf ?_; repeat' first | exact zso | refine And.intro ?_ ?_ | (refine zim ?_; intro zb hc) | (refine zin ?_; intro zb) | intro j')
        all_goals try refine zbx ?_
        rw [occ_J, show ((p.length : Int) + 1 - fromI 1 h).toNat = J by omega]
      · simp [occJ]
      · simp [occJ]
theorem occ_emp {p q : List Int} {d : Nat} {c : List Int} : (occ 1 p q d (c.map (· + 1))).length = (occ 0 p q d c).length := by rw [occ_shift, List.length_map]
theorem has_dec {p q : List Int} : decide (0 < ((occ 1 p q q.length []).length : Int)) = hasB p q := by
  have := occ_emp (p := p) (q := q) (d := q.length) (c := [])
  rw [List.map_nil] at this
  rw [this, hasB]
  cases occ 0 p q q.length [] with
  | nil => rfl
  | cons x l => simp
theorem spec_l7Has_c {m0 m1 : Bool} (p q : List Int) (hp : p.length ≤ 8) (hq : q.length ≤ 8) : Fun Tryd.prog 81 [(.sl (.lent m0) (List.map (PV.int .i64) (p))), (.sl (.lent m1) (List.map (PV.int .i64) (q)))] [(.bool (hasB p q))] := by
  refine fO sgFd [4] Tryd.func81 ?_
  have h9 := spec_l7Find_c (m0 := m0) (m1 := m1) p q hp hq q.length [] [] (Nat.zero_add _) (by simp) (by have h2 : 8 ^ q.length ≤ 8 ^ 8 := Nat.pow_le_pow_right (by omega) (by omega); simp only [List.length_nil, Nat.zero_add]; omega)
  simp only [List.map_nil, List.nil_append] at h9
  have cM1 := @h9
  refine dEa trivial ?_
  all_goals try (refine zlf ?_; repeat' first | exact zso | refine And.intro ?_ ?_ | (refine zim ?_; intro zb hc) | (refine zin ?_; intro zb) | intro j')
  all_goals try refine zbx ?_
  exact has_dec
theorem occ_end {b : Int} {p q : List Int} {d : Nat} {c : List Int} {J : Nat} (h1 : occJ b p q d c J = []) (h2 : ∀ j : Nat, J ≤ j → (j : Int) < p.length + b - fromI b c → occ b p q d (c ++ [fromI b c + j]) = []) : occ b p q (d + 1) c = [] := by
  rw [occ, List.flatMap_eq_nil_iff]
  intro j hj
  rw [List.mem_range] at hj
  by_cases hJ : j < J
  · rw [occJ, List.flatMap_eq_nil_iff] at h1
    exact h1 j (List.mem_range.2 hJ)
  · rw [h2 j (by omega) (by omega)]; split <;> rfl
theorem occ_hit {b : Int} {p q : List Int} {d : Nat} {c : List Int} {J : Nat} (hj : (J : Int) < p.length + b - fromI b c) (h1 : fitB b p q c (fromI b c + J) = true) (h2 : occ b p q d (c ++ [fromI b c + J]) ≠ []) : occ b p q (d + 1) c ≠ [] := by
  intro h
  rw [occ, List.flatMap_eq_nil_iff] at h
  have := h J (List.mem_range.2 (by omega))
  rw [if_pos h1] at this
  exact h2 this
set_option maxHeartbeats 1000000 in
theorem impl_has_c {m0 m1 : Bool} (p q : List Int) (hp : p.length ≤ 8) (hq : q.length ≤ 8) : ∀ (d : Nat) {m2 : Bool} (c : List Int), c.length + d = q.length → (∀ x ∈ c, 0 ≤ x ∧ x < p.length) →
    Fun Tryd.prog 78 [.sl (.lent m0) (List.map (PV.int .i64) p), .sl (.lent m1) (List.map (PV.int .i64) q), .sl (.lent m2) (List.map (PV.int .i64) c)] [.bool (!(occ 0 p q d c).isEmpty)] := by
  intro d
  induction d with
  | zero =>
    intro m2 c hd hx
    refine fO sg0 [6] Tryd.func78 ?_
    have cE1 := @slices_Clone_c
    refine dEa trivial ?_
    all_goals try (refine zlf ?_; repeat' first | exact zso | refine And.intro ?_ ?_ | (refine zim ?_; intro zb hc) | (refine zin ?_; intro zb) | intro j')
    all_goals try refine zbx ?_
    rfl
  | succ d ih =>
    intro m2 c hd hx
    have f0 : 0 ≤ fromI 0 c ∧ fromI 0 c ≤ p.length := by
      unfold fromI
      split
      · omega
      · have := hx _ (getD_mem (d := 0) (show c.length - 1 < c.length by omega)); omega
    by_cases hn : c.length = 0
    · have f1 : fromI 0 c = 0 := if_pos hn
      refine fO sg0 [6] Tryd.func78 ?_
      have cE1 := @slices_Clone_c
      refine dEa @hn ?_
      all_goals try (refine zlf ?_; repeat' first | exact zso | refine And.intro ?_ ?_ | (refine zim ?_; intro zb hc) | (refine zin ?_; intro zb) | intro j')
      all_goals try refine zbx ?_
      refine v_loopB (fun ms1 S1 => ∃ (J : Nat), S1.e 0 = .p (.sl (.lent m0) (List.map (PV.int .i64) (p))) ∧ S1.e 1 = .p (.sl (.lent m1) (List.map (PV.int .i64) (q))) ∧ S1.e 2 = .p (.sl (.lent m2) (List.map (PV.int .i64) (c))) ∧ S1.e 8 = .p (.int .i64 (c.length)) ∧ S1.e 9 = .p (.int .i64 ((fromI 0 c + J))) ∧ ((J : Int) ≤ p.length - fromI 0 c) ∧ (occJ 0 p q d c J = []) ∧ ms1 = p.length - J) ((fun (J : Nat) => p.length - J) (0)) ?_ ⟨0, dIa trivial ?_⟩
      all_goals try (refine zlf ?_; repeat' first | exact zso | refine And.intro ?_ ?_ | (refine zim ?_; intro zb hc) | (refine zin ?_; intro zb) | intro j')
      all_goals try refine zbx ?_
      rintro ms1 S1 ⟨J, h1_0, h1_1, h1_2, h1_8, h1_9, c1_0, c1_1, hm1⟩
      have fL1 := (And.intro h1_0 (And.intro h1_1 (And.intro h1_2 (And.intro h1_8 h1_9))))
      refine dEa fL1 ?_
      all_goals try (refine zlf ?_; repeat' first | exact zso | refine And.intro ?_ ?_ | (refine zim ?_; intro zb hc) | (refine zin ?_; intro zb) | intro j')
      all_goals try refine zbx ?_
      · refine v_loopB (fun ms2 S2 => ∃ (k : Nat), S2.e 0 = .p (.sl (.lent m0) (List.map (PV.int .i64) (p))) ∧ S2.e 1 = .p (.sl (.lent m1) (List.map (PV.int .i64) (q))) ∧ S2.e 2 = .p (.sl (.lent m2) (List.map (PV.int .i64) (c))) ∧ S2.e 8 = .p (.int .i64 (c.length)) ∧ S2.e 9 = .p (.int .i64 ((fromI 0 c + J))) ∧ S2.e 10 = .p (.bool (fitK 0 p q c (fromI 0 c + J) k)) ∧ S2.e 42 = .p (.sl (.lent m2) (List.map (PV.int .i64) (c))) ∧ S2.e 43 = .p (.int .i64 (c.length)) ∧ S2.e 44 = .p (.int .i64 (k)) ∧ (k ≤ c.length) ∧ ((J : Int) ≤ p.length - fromI 0 c - (d + 1)) ∧ S1.n ≤ S2.n ∧ ms2 = c.length - k) ((fun (k : Nat) => c.length - k) (0)) ?_ ⟨0, dC fL1 ?_⟩
        all_goals try (refine zlf ?_; repeat' first | exact zso | refine And.intro ?_ ?_ | (refine zim ?_; intro zb hc) | (refine zin ?_; intro zb) | intro j')
        all_goals try refine zbx ?_
        rintro ms2 S2 ⟨k, h2_0, h2_1, h2_2, h2_8, h2_9, h2_10, h2_42, h2_43, h2_44, c2_0, c2_1, u2_0, hm2⟩
        have fL2 := (And.intro h2_0 (And.intro h2_1 (And.intro h2_2 (And.intro h2_8 (And.intro h2_9 (And.intro h2_10 (And.intro h2_42 (And.intro h2_43 h2_44))))))))
        by_cases hk : k < c.length
        · omega
        · have g4 : k = c.length := by omega
          have ih1 := fun (m : Bool) => ih (m2 := m) (c ++ [fromI 0 c + J]) (by simp; omega) (by
            intro x hx'
            rcases List.mem_append.1 hx' with hx' | hx'
            · exact hx x hx'
            · simp at hx'; subst hx'; omega)
          have cE1 := @ih1; have cE2 := @slices_Clone_c
          refine dEa (And.intro fL2 @tk1) ?_
          all_goals try (refine zlf ?_; repeat' first | exact zso | refine And.intro ?_ ?_ | (refine zim ?_; intro zb hc) | (refine zin ?_; intro zb) | intro j')
          all_goals try refine zbx ?_
          · subst g4
            have o1 := occ_hit (b := 0) (p := p) (q := q) (d := d) (c := c) (J := J) (by omega) zb.1 (fun e => by rw [e] at hc; cases hc)
            cases ho : occ 0 p q (d + 1) c with
            | nil => exact absurd ho o1
            | cons _ _ => rfl
          · focus
              refine q_lp_n ((fun (J : Nat) => p.length - J) (J+1)) (dC fL2 ?_) ⟨J+1, dC fL2 ?_⟩
              all_goals try (refine zlf ?_; repeat' first | exact zso | refine And.intro ?_ ?_ | (refine zim ?_; intro zb hc) | (refine zin ?_; intro zb) | intro j')
              all_goals try refine zbx ?_
            have o2 : occ 0 p q d (c ++ [fromI 0 c + J]) = [] := by simpa using hc
            rw [occJ_succ, c1_1, o2]; split <;> rfl
          · focus
              refine q_lp_n ((fun (J : Nat) => p.length - J) (J+1)) (dC fL2 ?_) ⟨J+1, dC fL2 ?_⟩
              all_goals try (refine zlf ?_; repeat' first | exact zso | refine And.intro ?_ ?_ | (refine zim ?_; intro zb hc) | (refine zin ?_; intro zb) | intro j')
              all_goals try refine zbx ?_
            subst g4
            rw [occJ_succ, c1_1, if_neg (by rw [fitB, hc]; decide)]; rfl
      · have o3 : occ 0 p q (d + 1) c = [] := occ_end c1_1 fun j hj hj2 => by
          by_cases h0 : d = 0
          · omega
          · exact occ_nil (by omega) (by rw [from_snoc]; omega)
        rw [o3]; rfl
    · skip
      have f1 : fromI 0 c = c.getD (c.length - 1) 0 + 1 := if_neg hn
      have f2 : ((c.length : Int) - 1).toNat = c.length - 1 := by omega
      have g1 := hx _ (getD_mem (d := 0) (show c.length - 1 < c.length by omega))
      refine fO sg0 [6] Tryd.func78 ?_
      have cE1 := @slices_Clone_c
      refine dEa @f2 ?_
      all_goals try (refine zlf ?_; repeat' first | exact zso | refine And.intro ?_ ?_ | (refine zim ?_; intro zb hc) | (refine zin ?_; intro zb) | intro j')
      all_goals try refine zbx ?_
      refine v_loopB (fun ms3 S3 => ∃ (J : Nat), S3.e 0 = .p (.sl (.lent m0) (List.map (PV.int .i64) (p))) ∧ S3.e 1 = .p (.sl (.lent m1) (List.map (PV.int .i64) (q))) ∧ S3.e 2 = .p (.sl (.lent m2) (List.map (PV.int .i64) (c))) ∧ S3.e 8 = .p (.int .i64 (c.length)) ∧ S3.e 9 = .p (.int .i64 ((fromI 0 c + J))) ∧ ((J : Int) ≤ p.length - fromI 0 c) ∧ (occJ 0 p q d c J = []) ∧ ms3 = p.length - J) ((fun (J : Nat) => p.length - J) (0)) ?_ ⟨0, dIa trivial ?_⟩
      all_goals try (refine zlf ?_; repeat' first | exact zso | refine And.intro ?_ ?_ | (refine zim ?_; intro zb hc) | (refine zin ?_; intro zb) | intro j')
      all_goals try refine zbx ?_
      rintro ms3 S3 ⟨J, h3_0, h3_1, h3_2, h3_8, h3_9, c3_0, c3_1, hm3⟩
      have fL3 := (And.intro h3_0 (And.intro h3_1 (And.intro h3_2 (And.intro h3_8 h3_9))))
      refine dEa fL3 ?_
      all_goals try (refine zlf ?_; repeat' first | exact zso | refine And.intro ?_ ?_ | (refine zim ?_; intro zb hc) | (refine zin ?_; intro zb) | intro j')
      all_goals try refine zbx ?_
      · refine v_loopB (fun ms4 S4 => ∃ (k : Nat), S4.e 0 = .p (.sl (.lent m0) (List.map (PV.int .i64) (p))) ∧ S4.e 1 = .p (.sl (.lent m1) (List.map (PV.int .i64) (q))) ∧ S4.e 2 = .p (.sl (.lent m2) (List.map (PV.int .i64) (c))) ∧ S4.e 8 = .p (.int .i64 (c.length)) ∧ S4.e 9 = .p (.int .i64 ((fromI 0 c + J))) ∧ S4.e 10 = .p (.bool (fitK 0 p q c (fromI 0 c + J) k)) ∧ S4.e 42 = .p (.sl (.lent m2) (List.map (PV.int .i64) (c))) ∧ S4.e 43 = .p (.int .i64 (c.length)) ∧ S4.e 44 = .p (.int .i64 (k)) ∧ (k ≤ c.length) ∧ ((J : Int) ≤ p.length - fromI 0 c - (d + 1)) ∧ S3.n ≤ S4.n ∧ ms4 = c.length - k) ((fun (k : Nat) => c.length - k) (0)) ?_ ⟨0, dC fL3 ?_⟩
        all_goals try (refine zlf ?_; repeat' first | exact zso | refine And.intro ?_ ?_ | (refine zim ?_; intro zb hc) | (refine zin ?_; intro zb) | intro j')
        all_goals try refine zbx ?_
        rintro ms4 S4 ⟨k, h4_0, h4_1, h4_2, h4_8, h4_9, h4_10, h4_42, h4_43, h4_44, c4_0, c4_1, u4_0, hm4⟩
        have fL4 := (And.intro h4_0 (And.intro h4_1 (And.intro h4_2 (And.intro h4_8 (And.intro h4_9 (And.intro h4_10 (And.intro h4_42 (And.intro h4_43 h4_44))))))))
        by_cases hk : k < c.length
        · have g2 := hx _ (getD_mem (d := 0) hk)
          have g3 : (decide (p.getD (c.getD k 0).toNat 0 < p.getD (fromI 0 c + J).toNat 0) == decide (q.getD k 0 < q.getD c.length 0)) = (decide (q.getD k 0 < q.getD c.length 0) == decide (p.getD (c.getD k 0 - 0).toNat 0 < p.getD (fromI 0 c + J - 0).toNat 0)) := by
            rw [Int.sub_zero, Int.sub_zero, Bool.eq_iff_iff, beq_iff_eq, beq_iff_eq]; exact eq_comm
          refine dEa fL4 ?_
          all_goals try (refine zlf ?_; repeat' first | exact zso | refine And.intro ?_ ?_ | (refine zim ?_; intro zb hc) | (refine zin ?_; intro zb) | intro j')
          all_goals try refine zbx ?_
          · focus
              refine q_lp_n ((fun (k : Nat) => c.length - k) (k+1)) (dC fL4 ?_) ⟨k+1, dC fL4 ?_⟩
              all_goals try (refine zlf ?_; repeat' first | exact zso | refine And.intro ?_ ?_ | (refine zim ?_; intro zb hc) | (refine zin ?_; intro zb) | intro j')
              all_goals try refine zbx ?_
            rw [fitK_succ, hc, Bool.true_and]; exact g3
          · focus
              refine q_lp_n ((fun (k : Nat) => c.length - k) (k+1)) (dC fL4 ?_) ⟨k+1, dC fL4 ?_⟩
              all_goals try (refine zlf ?_; repeat' first | exact zso | refine And.intro ?_ ?_ | (refine zim ?_; intro zb hc) | (refine zin ?_; intro zb) | intro j')
              all_goals try refine zbx ?_
            rw [fitK_succ, hc]; rfl
        · have g4 : k = c.length := by omega
          have ih1 := fun (m : Bool) => ih (m2 := m) (c ++ [fromI 0 c + J]) (by simp; omega) (by
            intro x hx'
            rcases List.mem_append.1 hx' with hx' | hx'
            · exact hx x hx'
            · simp at hx'; subst hx'; omega)
          have cE1 := @ih1; have cE2 := @slices_Clone_c
          refine dEa (And.intro fL4 @tk1) ?_
          all_goals try (refine zlf ?_; repeat' first | exact zso | refine And.intro ?_ ?_ | (refine zim ?_; intro zb hc) | (refine zin ?_; intro zb) | intro j')
          all_goals try refine zbx ?_
          · subst g4
            have o1 := occ_hit (b := 0) (p := p) (q := q) (d := d) (c := c) (J := J) (by omega) zb.1 (fun e => by rw [e] at hc; cases hc)
            cases ho : occ 0 p q (d + 1) c with
            | nil => exact absurd ho o1
            | cons _ _ => rfl
          · focus
              refine q_lp_n ((fun (J : Nat) => p.length - J) (J+1)) (dC fL4 ?_) ⟨J+1, dC fL4 ?_⟩
              all_goals try (refine zlf ?_; repeat' first | exact zso | refine And.intro ?_ ?_ | (refine zim ?_; intro zb hc) | (refine zin ?_; intro zb) | intro j')
              all_goals try refine zbx ?_
            have o2 : occ 0 p q d (c ++ [fromI 0 c + J]) = [] := by simpa using hc
            rw [occJ_succ, c3_1, o2]; split <;> rfl
          · focus
              refine q_lp_n ((fun (J : Nat) => p.length - J) (J+1)) (dC fL4 ?_) ⟨J+1, dC fL4 ?_⟩
              all_goals try (refine zlf ?_; repeat' first | exact zso | refine And.intro ?_ ?_ | (refine zim ?_; intro zb hc) | (refine zin ?_; intro zb) | intro j')
              all_goals try refine zbx ?_
            subst g4
            rw [occJ_succ, c3_1, if_neg (by rw [fitB, hc]; decide)]; rfl
      · have o3 : occ 0 p q (d + 1) c = [] := occ_end c3_1 fun j hj hj2 => by
          by_cases h0 : d = 0
          · omega
          · exact occ_nil (by omega) (by rw [from_snoc]; omega)
        rw [o3]; rfl
end Go.Gl
