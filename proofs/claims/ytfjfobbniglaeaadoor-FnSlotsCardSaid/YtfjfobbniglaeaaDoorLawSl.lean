/-
  The law of buildings: a permutation is built from its text, with one middle less than fills. Conditions: none.
-/
import Derived.Test.YtfjfobbniglaeaaDoorRbU
import Derived.Test.YtfjfobbniglaeaaDoorRb
import Derived.Test.YtfjfobbniglaeaaDoorCntS
import Derived.Test.YtfjfobbniglaeaaDoorSUp
import Derived.Test.YtfjfobbniglaeaaDoorDrawT
import Derived.Test.YtfjfobbniglaeaaDoorDrwC
import Derived.Test.YtfjfobbniglaeaaDoorSame
import Derived.Test.YtfjfobbniglaeaaDoorSamL
set_option linter.unusedSimpArgs false
set_option linter.unusedVariables false
set_option maxRecDepth 20000
set_option linter.unusedSectionVars false
namespace Go.Gl
open Go Go.Proofs
variable [Amb] [NoQ]
variable [TabA]
theorem cs_one : ∀ n : Nat, n < 6 → (cntL (fun p => decide (gsI p ≤ 1)) (permL (n + 1)) : Nat) = 2 ^ n := by decide +kernel
theorem bld_len {p : List Int} : (bldT p).length ≤ 176 := by
  unfold bldT; split
  · rename_i h
    have pf := isPerm_facts h
    have := txB_len pf.2 pf.1 (Nat.le_refl _)
    omega
  · simp
theorem spec_DrawBuildingOf_x (b : List UInt8) (hb : b.length ≤ 1048576) : ∃ p, Fun Tryd.prog 6 [.sl (.lent false) (b.map u8P)] [.sl .own (List.map (PV.int .i64) p)] ∧ SmL p := by
  obtain ⟨s1, p, c1, hp⟩ := spec_l2Bent_x b ⟨0, newH b (min b.length 4000)⟩ hb
  refine ⟨p, ?_, hp⟩
  refine fO sgCu [2] Tryd.func6 ?_
  have cE1 := @spec_l1New_c
  have cM1 := @c1
  refine dEa trivial ?_
  all_goals try (refine zlf ?_; repeat' first | exact zso | refine And.intro ?_ ?_ | (refine zim ?_; intro zb hc) | (refine zin ?_; intro zb) | intro j')
  all_goals try refine zbx ?_
theorem spec_DrawRunBuilding_x (b : List UInt8) (hb : b.length ≤ 1048576) : ∃ t, Fun Tryd.prog 8 [.sl (.lent false) (b.map u8P)] [.str t] ∧ t.length ≤ 192 := by
  obtain ⟨s1, p, c1, hp⟩ := spec_l2Any_x b ⟨0, newH b (min b.length 4000)⟩ hb
  have h8 := (isPerm_facts hp).1
  have hl := bld_len (p := p)
  obtain ⟨s3, u, c3, hu⟩ := spec_l1Turned_x (m0 := true) b s1 (bldT p) [[102], [109], [108, 49], [49], [50], [114], [102, 49]] hb (by omega) (by decide) (by decide) (by decide)
  simp only [List.map_cons, List.map_nil] at c3
  refine ⟨u, ?_, by omega⟩
  refine fO sgCu [2] Tryd.func8 ?_
  have cE1 := @spec_l1New_c; have cE2 := @spec_BuildingOf_c
  have cM1 := @c1; have cM2 := @c3
  refine dEa trivial ?_
  all_goals try (refine zlf ?_; repeat' first | exact zso | refine And.intro ?_ ?_ | (refine zim ?_; intro zb hc) | (refine zin ?_; intro zb) | intro j')
  all_goals try refine zbx ?_
theorem spec_DrawCountSlots_x (b : List UInt8) (hb : b.length ≤ 1048576) : ∃ n k, Fun Tryd.prog 11 [.sl (.lent false) (b.map u8P)] [.int .i64 n, .int .i64 k] ∧ -1 ≤ n ∧ n ≤ 6 ∧ -1 ≤ k ∧ k ≤ 5 := by
  have q1 := bwX_r (b := b) (s := ⟨0, newH b (min b.length 4000)⟩) (n := 7)
  have q2 := bwX_r (b := b) (s := bwS b ⟨0, newH b (min b.length 4000)⟩ 7) (n := 5)
  have q3 := bitI_r (decide (bwX b (bwS b (bwS b ⟨0, newH b (min b.length 4000)⟩ 7) 5) 12 = 0))
  refine ⟨bwX b ⟨0, newH b (min b.length 4000)⟩ 7 - 1, bwX b (bwS b ⟨0, newH b (min b.length 4000)⟩ 7) 5 - bitI (decide (bwX b (bwS b (bwS b ⟨0, newH b (min b.length 4000)⟩ 7) 5) 12 = 0)), ?_, by omega, by omega, by omega, by omega⟩
  refine fO sgCu [2, 3] Tryd.func11 ?_
  have cE1 := @spec_l1Bit_c; have cE2 := @spec_l1New_c; have cM1 := @spec_l1Below_c; have cM2 := @spec_l1Once_c
  refine dEa trivial ?_
  all_goals try (refine zlf ?_; repeat' first | exact zso | refine And.intro ?_ ?_ | (refine zim ?_; intro zb hc) | (refine zin ?_; intro zb) | intro j')
  all_goals try refine zbx ?_
theorem spec_DrawSlotsUpTo_x (b : List UInt8) (hb : b.length ≤ 1048576) : ∃ L n, Fun Tryd.prog 12 [.sl (.lent false) (b.map u8P)] [.sl .own (List.map (elI false) L), .int .i64 n] ∧ BnL L ∧ -1 ≤ n ∧ n ≤ 7 := by
  obtain ⟨L, n, c1, hL, h0, h1⟩ := spec_l12Case_x b hb
  refine ⟨L, n, ?_, hL, h0, h1⟩
  refine fO sg0 [2, 3] Tryd.func12 ?_
  have cE1 := @c1
  refine dEa trivial ?_
  all_goals try (refine zlf ?_; repeat' first | exact zso | refine And.intro ?_ ?_ | (refine zim ?_; intro zb hc) | (refine zin ?_; intro zb) | intro j')
  all_goals try refine zbx ?_
theorem rbL_sm {t : List UInt8} : (rbL t).length ≤ 8 := by
  cases h : rbB t with
  | true => exact (isPerm_facts (rb_back h).1).1
  | false =>
    have : rbR t = none := by simpa [rbB] using h
    rw [rbL, this]; simp
theorem rb_text {t : List UInt8} (h : rbB t = true) : bldT (rbL t) = t := by
  obtain ⟨h1, _, h3⟩ := rb_back h
  rw [bldT, if_pos h1, h3]
theorem bld_nil {p : List Int} : bldT p = [] ↔ ¬ (isPermB p = true ∧ p ≠ []) := by
  unfold bldT
  split
  · rename_i h
    have pf := isPerm_facts h
    have hl := txB_two pf.1 pf.2 (Nat.le_refl _)
    constructor
    · intro e; rw [e] at hl
      intro q
      have := List.length_pos_iff.2 q.2
      simp at hl; omega
    · intro q
      have : p = [] := by
        by_cases e : p = []
        · exact e
        · exact absurd ⟨h, e⟩ q
      subst this; rfl
  · rename_i h; simp [h]
theorem cs_pow {n : Int} (h1 : 1 ≤ n) (h6 : n ≤ 6) : csB n 1 = 2 ^ (n - 1).toNat := by
  obtain ⟨m, rfl⟩ : ∃ m : Nat, n = (m : Int) + 1 := ⟨(n - 1).toNat, by omega⟩
  rw [csB, if_pos ⟨⟨by omega, h6⟩, by omega, by omega⟩, show ((m : Int) + 1).toNat = m + 1 by omega, cs_one m (by omega), show ((m : Int) + 1 - 1).toNat = m by omega]
  simp
set_option maxHeartbeats 8000000 in
theorem laws_FnSlots_c (b : List UInt8) : Fun Tryd.prog 3 [(.sl (.lent false) (List.map u8P (b)))] [(.bool (true))] := by
  by_cases hs : b.length ≤ 1048576
  · obtain ⟨p, d1, hp⟩ := spec_DrawBuildingOf_x b hs
    obtain ⟨t, d2, ht⟩ := spec_DrawRunBuilding_x b hs
    obtain ⟨n, k, d3, n0, n1, k0, k1⟩ := spec_DrawCountSlots_x b hs
    obtain ⟨L, m, d4, hL, m0, m1⟩ := spec_DrawSlotsUpTo_x b hs
    have p1 := hp.len
    have q1 := rbL_sm (t := t)
    have q2 := bld_len (p := p)
    have q3 := rbL_sm (t := bldT p)
    have q4 := hL.len
    have q5 : ∀ l ∈ L, l.length ≤ 1048576 := fun l hl => by have := (hL.row l hl).len; omega
    have f1 : rbB t = true → bldT (rbL t) = t := rb_text
    have f2 : 1 ≤ n → n ≤ 6 → k = 1 → csB n k = 1 * 2 ^ (n - 1).toNat := fun a b c => by rw [c, Int.one_mul]; exact cs_pow a b
    have g8 : 1 ≤ n → n ≤ 6 → inR IntKind.u64 (n - 1) := fun a b => ⟨by show (0 : Int) ≤ _; omega, by show _ ≤ (18446744073709551615 : Int); omega⟩
    have g9 : 1 ≤ n → n ≤ 6 → inR IntKind.i64 (1 * 2 ^ (n - 1).toNat) := fun a b => by
      have : n = 1 ∨ n = 2 ∨ n = 3 ∨ n = 4 ∨ n = 5 ∨ n = 6 := by omega
      rcases this with h | h | h | h | h | h <;> subst h <;> exact ⟨by decide, by decide⟩
    by_cases hq : isPermB p = true ∧ p ≠ []
    · have pf := isPerm_facts hq.1
      have e0 : ¬ bldT p = [] := fun e => bld_nil.1 e hq
      have e1 : bldT p = txB p p.length := by rw [bldT, if_pos hq.1]
      have e2 : gsI p = mxB p p.length := by rw [gsI, if_pos hq.1]
      obtain ⟨r1, r2⟩ := rb_perm pf.1 pf.2 hq.2
      have r3 := txB_two pf.1 pf.2 (Nat.le_refl _)
      obtain ⟨r4, r5⟩ := fills pf.1 pf.2 hq.2
      rw [← e1] at r1 r2 r3 r4 r5
      rw [← e2] at r5
      have u5 : (Tryd.prog.underlying 3).isSome = true := by kernel_rfl
      refine fO sg0 [2] Tryd.func3 ?_
      have cE1 := @laws_big_c; have cE2 := @impl_CountSlots_c; have cE3 := @spec_CountSlots_c; have cE4 := @impl_BuildingOf_c; have cE5 := @impl_RunBuilding_c; have cE6 := @spec_RunBuilding_c
      have cE7 := @spec_BuildingOf_c; have cE8 := @laws_sameInts_c; have cE9 := @impl_SlotsUpTo_c; have cE10 := @spec_SlotsUpTo_c; have cE11 := @impl_GreatestSlots_c; have cE12 := @spec_GreatestSlots_c
      have cE13 := @spec_IsPerm_c
      have cE1 := @d1; have cE2 := @d2; have cE3 := @d3; have cE4 := @d4; have cE5 := @laws_big_c; have cE6 := @impl_CountSlots_c
      have cE7 := @spec_CountSlots_c; have cE8 := @impl_BuildingOf_c; have cE9 := @impl_RunBuilding_c; have cE10 := @spec_RunBuilding_c; have cE11 := @spec_BuildingOf_c; have cE12 := @laws_sameInts_c
      have cE13 := @impl_SlotsUpTo_c; have cE14 := @spec_SlotsUpTo_c; have cE15 := @impl_GreatestSlots_c; have cE16 := @spec_GreatestSlots_c; have cE17 := @spec_IsPerm_c
      refine dEa (And.intro @strself (And.intro @dsI (And.intro @isI (And.intro @bsB (And.intro @f1 (And.intro @f2 (And.intro @e0 (And.intro @r1 (And.intro @r2 @u5))))))))) ?_
      all_goals try (refine zlf ?_; repeat' first | exact zso | refine And.intro ?_ ?_ | (refine zim ?_; intro zb hc) | (refine zin ?_; intro zb) | intro j')
      all_goals try refine zbx ?_
      all_goals try exact g8 (by omega) (by omega)
      all_goals try exact g9 (by omega) (by omega)
      all_goals
        refine v_loopB (fun ms1 S1 => ∃ (j : Nat), OwnL (S1.e 3) S1.h S1.n (PV.int .i64) ((p).length) (p) ∧ S1.e 4 = .p (.str (bldT p)) ∧ OwnL (S1.e 14) S1.h S1.n (PV.int .i64) ((p).length) (p) ∧ S1.e 15 = .p (.bool (true)) ∧ S1.e 16 = .p (.int .i64 (cnB 109 (bldT p) j)) ∧ S1.e 17 = .p (.int .i64 (cnB 102 (bldT p) j)) ∧ S1.e 18 = .p (.int .i64 (2 * (j : Int))) ∧ (j ≤ p.length) ∧ NId (S1.e 14) (S1.e 3) ∧ ms1 = p.length - j) ((fun (j : Nat) => p.length - j) (0)) ?_ ⟨0, dC trivial ?_⟩
        all_goals try (refine zlf ?_; repeat' first | exact zso | refine And.intro ?_ ?_ | (refine zim ?_; intro zb hc) | (refine zin ?_; intro zb) | intro j')
        all_goals try refine zbx ?_
        rintro ms1 S1 ⟨j, o1_3, h1_4, o1_14, h1_15, h1_16, h1_17, h1_18, c1_0, u1_0, hm1⟩
        obtain ⟨i1_3, h1_3, b1_3, l1_3⟩ := o1_3.out
        obtain ⟨i1_14, h1_14, b1_14, l1_14⟩ := o1_14.out
        have k1_0 := (u1_0).out h1_14 h1_3
        have ni1_3 := znds (x := i1_3) (n := S1.n)
        have ni1_14 := znds (x := i1_14) (n := S1.n)
        have di1_3i1_14 := zdne (x := i1_3) (y := i1_14)
        have fL1 := (And.intro h1_4 (And.intro h1_15 (And.intro h1_16 (And.intro h1_17 (And.intro h1_18 (And.intro h1_3 (And.intro b1_3 (And.intro h1_14 (And.intro b1_14 (And.intro ni1_3 (And.intro ni1_14 di1_3i1_14)))))))))))
        have g1 := cnB_r 109 (bldT p) j
        have g2 := cnB_r 102 (bldT p) j
        have g3 := ((bldT p).getD (2 * j) 0).toNat_lt
        by_cases hj : j < p.length
        · have t4 : (2 * (j : Int)).toNat = 2 * j := by omega
          have v9 : cnB 109 (bldT p) (j + 1) = cnB 109 (bldT p) j + bitI (decide ((((bldT p).getD (2 * j) 0).toNat : Int) = 109)) := by rw [cnB]; congr 2; rw [decide_eq_decide, ← UInt8.toNat_inj]; exact ⟨fun h => by rw [h]; rfl, fun h => by have : (109 : UInt8).toNat = 109 := rfl; omega⟩
          have v2 : cnB 102 (bldT p) (j + 1) = cnB 102 (bldT p) j + bitI (decide ((((bldT p).getD (2 * j) 0).toNat : Int) = 102)) := by rw [cnB]; congr 2; rw [decide_eq_decide, ← UInt8.toNat_inj]; exact ⟨fun h => by rw [h]; rfl, fun h => by have : (102 : UInt8).toNat = 102 := rfl; omega⟩
          have cE1 := @laws_big_c; have cE2 := @impl_CountSlots_c; have cE3 := @spec_CountSlots_c; have cE4 := @impl_BuildingOf_c; have cE5 := @impl_RunBuilding_c; have cE6 := @spec_RunBuilding_c
          have cE7 := @spec_BuildingOf_c; have cE8 := @laws_sameInts_c; have cE9 := @impl_SlotsUpTo_c; have cE10 := @spec_SlotsUpTo_c; have cE11 := @impl_GreatestSlots_c; have cE12 := @spec_GreatestSlots_c
          have cE13 := @spec_IsPerm_c; have cE14 := trivial; have cE15 := trivial; have cE16 := trivial; have cE17 := trivial
          refine dEa (And.intro fL1 @t4) ?_
          all_goals try (refine zlf ?_; repeat' first | exact zso | refine And.intro ?_ ?_ | (refine zim ?_; intro zb hc) | (refine zin ?_; intro zb) | intro j')
          all_goals try refine zbx ?_
          · have hz := zb.1
            rw [decide_eq_true hz] at v9
            rw [decide_eq_false hc] at v2
            focus
              refine q_lp_n ((fun (j : Nat) => p.length - j) (j+1)) (dC fL1 ?_) ⟨j+1, dC fL1 ?_⟩
              all_goals try (refine zlf ?_; repeat' first | exact zso | refine And.intro ?_ ?_ | (refine zim ?_; intro zb hc) | (refine zin ?_; intro zb) | intro j')
              all_goals try refine zbx ?_
            all_goals first | (rw [v9]; rfl) | (rw [v2]; simp [bitI]; done)
          · have hz := zb.1
            rw [decide_eq_false hz] at v9
            rw [decide_eq_true hc] at v2
            focus
              refine q_lp_n ((fun (j : Nat) => p.length - j) (j+1)) (dC fL1 ?_) ⟨j+1, dC fL1 ?_⟩
              all_goals try (refine zlf ?_; repeat' first | exact zso | refine And.intro ?_ ?_ | (refine zim ?_; intro zb hc) | (refine zin ?_; intro zb) | intro j')
              all_goals try refine zbx ?_
            all_goals first | (rw [v2]; rfl) | (rw [v9]; simp [bitI]; done)
          · have hz := zb.1
            rw [decide_eq_false hz] at v9
            rw [decide_eq_false hc] at v2
            focus
              refine q_lp_n ((fun (j : Nat) => p.length - j) (j+1)) (dC fL1 ?_) ⟨j+1, dC fL1 ?_⟩
              all_goals try (refine zlf ?_; repeat' first | exact zso | refine And.intro ?_ ?_ | (refine zim ?_; intro zb hc) | (refine zin ?_; intro zb) | intro j')
              all_goals try refine zbx ?_
            all_goals first | (rw [v9]; simp [bitI]; done) | (rw [v2]; simp [bitI]; done)
        · obtain rfl : j = p.length := by omega
          have cE1 := @laws_big_c; have cE2 := @impl_CountSlots_c; have cE3 := @spec_CountSlots_c; have cE4 := @impl_BuildingOf_c; have cE5 := @impl_RunBuilding_c; have cE6 := @spec_RunBuilding_c
          have cE7 := @spec_BuildingOf_c; have cE8 := @laws_sameInts_c; have cE9 := @impl_SlotsUpTo_c; have cE10 := @spec_SlotsUpTo_c; have cE11 := @impl_GreatestSlots_c; have cE12 := @spec_GreatestSlots_c
          have cE13 := @spec_IsPerm_c; have cE14 := trivial; have cE15 := trivial; have cE16 := trivial; have cE17 := trivial
          refine dEa fL1 ?_
          all_goals try (refine zlf ?_; repeat' first | exact zso | refine And.intro ?_ ?_ | (refine zim ?_; intro zb hc) | (refine zin ?_; intro zb) | intro j')
          all_goals try refine zbx ?_
          all_goals exact decide_eq_true r5
    · have e0 := bld_nil.2 hq
      have e1 : isPermB p = false ∨ (isPermB p = true ∧ p.length = 0) := by
        by_cases h : isPermB p = true
        · refine .inr ⟨h, ?_⟩
          by_cases e : p = []
          · rw [e]; rfl
          · exact absurd ⟨h, e⟩ hq
        · exact .inl (by simpa using h)
      have u5 : (Tryd.prog.underlying 3).isSome = true := by kernel_rfl
      rcases e1 with e1 | ⟨e1, e2⟩
      all_goals
        refine fO sg0 [2] Tryd.func3 ?_
        have cE1 := @laws_big_c; have cE2 := @impl_CountSlots_c; have cE3 := @spec_CountSlots_c; have cE4 := @impl_BuildingOf_c; have cE5 := @impl_RunBuilding_c; have cE6 := @spec_RunBuilding_c
        have cE7 := @spec_BuildingOf_c; have cE8 := @laws_sameInts_c; have cE9 := @impl_SlotsUpTo_c; have cE10 := @spec_SlotsUpTo_c; have cE11 := @impl_GreatestSlots_c; have cE12 := @spec_GreatestSlots_c
        have cE13 := @spec_IsPerm_c
        have cE1 := @d1; have cE2 := @d2; have cE3 := @d3; have cE4 := @d4; have cE5 := @laws_big_c; have cE6 := @impl_CountSlots_c
        have cE7 := @spec_CountSlots_c; have cE8 := @impl_BuildingOf_c; have cE9 := @impl_RunBuilding_c; have cE10 := @spec_RunBuilding_c; have cE11 := @spec_BuildingOf_c; have cE12 := @laws_sameInts_c
        have cE13 := @impl_SlotsUpTo_c; have cE14 := @spec_SlotsUpTo_c; have cE15 := @impl_GreatestSlots_c; have cE16 := @spec_GreatestSlots_c; have cE17 := @spec_IsPerm_c
        refine dEa (And.intro @strself (And.intro @dsI (And.intro @isI (And.intro @bsB (And.intro @f1 (And.intro @f2 (And.intro @e0 (And.intro @e1 @u5)))))))) ?_
        all_goals try (refine zlf ?_; repeat' first | exact zso | refine And.intro ?_ ?_ | (refine zim ?_; intro zb hc) | (refine zin ?_; intro zb) | intro j')
        all_goals try refine zbx ?_
        all_goals try exact g8 (by omega) (by omega)
        all_goals try exact g9 (by omega) (by omega)
        all_goals exact decide_eq_true (by omega)
  · refine fO sg0 [2] Tryd.func3 ?_
    have cE1 := @laws_big_c; have cE2 := @impl_CountSlots_c; have cE3 := @spec_CountSlots_c; have cE4 := @impl_BuildingOf_c; have cE5 := @impl_RunBuilding_c; have cE6 := @spec_RunBuilding_c
    have cE7 := @spec_BuildingOf_c; have cE8 := @laws_sameInts_c; have cE9 := @impl_SlotsUpTo_c; have cE10 := @spec_SlotsUpTo_c; have cE11 := @impl_GreatestSlots_c; have cE12 := @spec_GreatestSlots_c
    have cE13 := @spec_IsPerm_c
    have c1 : decide ((1048576 : Int) < b.length) = true := decide_eq_true (by omega)
    refine dE @c1 ?_
    all_goals try (refine zlf ?_; repeat' first | exact zso | refine And.intro ?_ ?_ | (refine zim ?_; intro zb hc) | (refine zin ?_; intro zb) | intro j')
    all_goals try refine zbx ?_
end Go.Gl
