/-
  Draws of permutations with grids. Conditions: none.
-/
import Derived.Test.YtknmheddofilbaaDrawG
import Derived.Test.YtknmheddofilbaaFindG
set_option linter.unusedSimpArgs false
set_option linter.unusedVariables false
set_option maxRecDepth 20000
set_option linter.unusedSectionVars false
namespace Go.Gl
open Go Go.Proofs
variable [Amb]
/-- The permutations tried, one after the other. -/
def csP (b : List UInt8) (p0 : List Int) (s0 : Cu) : Nat → List Int × Cu
  | 0 => (p0, s0)
  | k + 1 => drL b (bwS b (csP b p0 s0 k).2 6) (1 + bwX b (csP b p0 s0 k).2 6).toNat
theorem csP_sm {b : List UInt8} {p0 : List Int} {s0 : Cu} (h : SmL p0) : ∀ {k : Nat}, SmL (csP b p0 s0 k).1
  | 0 => h
  | k + 1 => by
    have q := bwX_r (b := b) (s := (csP b p0 s0 k).2) (n := 6)
    rw [csP]
    refine SmL.of ?_
    simp only [isPermB, drL_perm, drL_len, Bool.and_true, decide_eq_true_eq]; omega
/-- Which one is taken. -/
noncomputable def csK (b : List UInt8) (p0 : List Int) (s0 : Cu) (m : List (List Int)) : Nat → Nat → Nat
  | 0, k => k
  | f + 1, k => if (fndB (csP b p0 s0 k).1 m).2 = true then k else csK b p0 s0 m f (k + 1)
def sgCase : FuncId → List Bool := fun f => if f = 148 then [true] else if f = 89 then [true] else if f = 88 then [true] else if f = 119 then [true] else if f = 144 then [true] else if f = 180 then [true] else if f = 143 then [true] else if f = 90 then [true] else if f = 4294967297 then [true, false, false] else []
theorem sgCase_eq {f : FuncId} : sgCase f = if f = 148 then [true] else if f = 89 then [true] else if f = 88 then [true] else if f = 119 then [true] else if f = 144 then [true] else if f = 180 then [true] else if f = 143 then [true] else if f = 90 then [true] else if f = 4294967297 then [true, false, false] else [] := _root_.id rfl
theorem way_sgCase : wayE sgCase = false ∧ wayN sgCase = true ∧ wayS sgCase = false ∧ wayZ sgCase = false := ⟨rfl, rfl, rfl, rfl⟩
attribute [go_sem] sgCase_eq way_sgCase
set_option maxHeartbeats 1600000 in
theorem spec_l32Case_x (b : List UInt8) (hb : b.length ≤ 1048576) : ∃ p m, Fun Try.prog 81 [.sl (.lent false) (b.map u8P)] [.sl .own (List.map (PV.int .i64) p), .dl (List.map (List.map (PV.int .i64)) m)] ∧ SmL p ∧ GrL m := by
  obtain ⟨s1, m, c1, hm⟩ := spec_l32Draw_x b ⟨0, newH b (min b.length 4000)⟩ hb
  obtain ⟨s2, p0, c2, hp⟩ := spec_l2Bent_x b s1 hb
  have m1 := hm.len
  have m2 : ∀ l ∈ m, l.length ≤ 1048576 := fun l h => by have := hm.row l h; omega
  refine ⟨(csP b p0 s2 (csK b p0 s2 m 4 0)).1, m, ?_, csP_sm hp, hm⟩
  refine fO sgCase [2, 3] Try.func81 ?_
  have cE1 := @spec_l1New_c; have cE2 := @spec_FindGrid_c; have cM1 := @spec_l1Below_c; have cM2 := @spec_l2Draw_c
  have cM3 := @c1; have cM4 := @c2
  refine dEa trivial ?_
  all_goals try (refine zlf ?_; repeat' first | exact zso | refine And.intro ?_ ?_ | (refine zim ?_; intro zb hc) | (refine zin ?_; intro zb) | intro j')
  all_goals try refine zbx ?_
  refine v_loopB (fun ms1 S1 => ∃ (k : Nat), PtrL (S1.e 4) S1.h S1.n (.live false (curC b (csP b p0 s2 k).2)) ∧ DwnL (S1.e 5) S1.h S1.n (PV.int .i64) ((m).length) (m) ∧ OwnL (S1.e 6) S1.h S1.n (PV.int .i64) (((csP b p0 s2 k).1).length) ((csP b p0 s2 k).1) ∧ S1.e 7 = .p (.int .i64 (k)) ∧ (k ≤ 4) ∧ (csK b p0 s2 m 4 0 = csK b p0 s2 m (4 - k) k) ∧ NId (S1.e 5) (asR (S1.e 4)) ∧ NId (S1.e 6) (asR (S1.e 4)) ∧ NId (S1.e 6) (S1.e 5) ∧ ms1 = 4 - k) ((fun (k : Nat) => 4 - k) (0)) ?_ ⟨0, dC trivial ?_⟩
  all_goals try (refine zlf ?_; repeat' first | exact zso | refine And.intro ?_ ?_ | (refine zim ?_; intro zb hc) | (refine zin ?_; intro zb) | intro j')
  all_goals try refine zbx ?_
  rintro ms1 S1 ⟨k, o1_4, o1_5, o1_6, h1_7, c1_0, c1_1, u1_0, u1_1, u1_2, hm1⟩
  obtain ⟨i1_4, h1_4, b1_4, l1_4⟩ := o1_4.out
  obtain ⟨i1_5, h1_5, b1_5, l1_5⟩ := o1_5.out
  obtain ⟨i1_6, h1_6, b1_6, l1_6⟩ := o1_6.out
  have k1_0 := (u1_0).out h1_5 (asR_eq h1_4)
  have k1_1 := (u1_1).out h1_6 (asR_eq h1_4)
  have k1_2 := (u1_2).out h1_6 h1_5
  have ni1_4 := znds (x := i1_4) (n := S1.n)
  have ni1_5 := znds (x := i1_5) (n := S1.n)
  have ni1_6 := znds (x := i1_6) (n := S1.n)
  have di1_4i1_5 := zdne (x := i1_4) (y := i1_5)
  have di1_4i1_6 := zdne (x := i1_4) (y := i1_6)
  have di1_5i1_6 := zdne (x := i1_5) (y := i1_6)
  have fL1 := (And.intro h1_7 (And.intro h1_4 (And.intro b1_4 (And.intro h1_5 (And.intro b1_5 (And.intro h1_6 (And.intro b1_6 (And.intro ni1_4 (And.intro ni1_5 (And.intro ni1_6 (And.intro di1_4i1_5 (And.intro di1_4i1_6 di1_5i1_6))))))))))))
  · have hs := csP_sm (b := b) (s0 := s2) hp (k := k)
    have h1 := hs.len
    have q := bwX_r (b := b) (s := (csP b p0 s2 k).2) (n := 6)
    have hn : csP b p0 s2 (k + 1) = drL b (bwS b (csP b p0 s2 k).2 6) (1 + bwX b (csP b p0 s2 k).2 6).toNat := rfl
    by_cases hk : k < 4
    · have e1 : csK b p0 s2 m (4 - k) k = if (fndB (csP b p0 s2 k).1 m).2 = true then k else csK b p0 s2 m (4 - (k + 1)) (k + 1) := by
        rw [show 4 - k = (4 - (k + 1)) + 1 by omega, csK]
      rw [e1] at c1_1
      by_cases hf : (fndB (csP b p0 s2 k).1 m).2 = true
      · rw [if_pos hf] at c1_1
        rw [c1_1]
        have cM3 := trivial; have cM4 := trivial
        refine dEa (And.intro fL1 @hf) ?_
        all_goals try (refine zlf ?_; repeat' first | exact zso | refine And.intro ?_ ?_ | (refine zim ?_; intro zb hc) | (refine zin ?_; intro zb) | intro j')
        all_goals try refine zbx ?_
        all_goals first | exact m2 | trace_state
      · rw [if_neg hf] at c1_1
        rw [Bool.not_eq_true] at hf
        have g1 : (drL b (bwS b (csP b p0 s2 k).2 6) (1 + bwX b (csP b p0 s2 k).2 6).toNat) = csP b p0 s2 (k + 1) := rfl
        have cM3 := trivial; have cM4 := trivial
        refine dEa (And.intro fL1 @hf) ?_
        all_goals try (refine zlf ?_; repeat' first | exact zso | refine And.intro ?_ ?_ | (refine zim ?_; intro zb hc) | (refine zin ?_; intro zb) | intro j')
        all_goals try refine zbx ?_
        focus
          refine q_lp_n ((fun (k : Nat) => 4 - k) (k+1)) (dC fL1 ?_) ⟨k+1, dC fL1 ?_⟩
          all_goals try (refine zlf ?_; repeat' first | exact zso | refine And.intro ?_ ?_ | (refine zim ?_; intro zb hc) | (refine zin ?_; intro zb) | intro j')
          all_goals try refine zbx ?_
        all_goals first | (rw [hn]; done) | (rw [hn]; rfl) | trace_state
    · obtain rfl : k = 4 := by omega
      have e1 : csK b p0 s2 m (4 - 4) 4 = 4 := rfl
      rw [e1] at c1_1
      rw [c1_1]
      have cM3 := trivial; have cM4 := trivial
      refine dEa fL1 ?_
      all_goals try (refine zlf ?_; repeat' first | exact zso | refine And.intro ?_ ?_ | (refine zim ?_; intro zb hc) | (refine zin ?_; intro zb) | intro j')
      all_goals try refine zbx ?_
      all_goals trace_state
  all_goals trace_state
theorem spec_DrawFindGrid_x (b : List UInt8) (hb : b.length ≤ 1048576) : ∃ p m, Fun Try.prog 10 [.sl (.lent false) (b.map u8P)] [.sl .own (List.map (PV.int .i64) p), .dl (List.map (List.map (PV.int .i64)) m)] ∧ SmL p ∧ GrL m := by
  obtain ⟨p, m, c1, h1, h2⟩ := spec_l32Case_x b hb
  refine ⟨p, m, ?_, h1, h2⟩
  refine fO sgCase [2, 3] Try.func10 ?_
  have cE1 := @c1
  refine dEa trivial ?_
  all_goals try (refine zlf ?_; repeat' first | exact zso | refine And.intro ?_ ?_ | (refine zim ?_; intro zb hc) | (refine zin ?_; intro zb) | intro j')
  all_goals try refine zbx ?_
  all_goals trace_state
theorem spec_DrawGridCounts_x (b : List UInt8) (hb : b.length ≤ 1048576) : ∃ m n, Fun Try.prog 14 [.sl (.lent false) (b.map u8P)] [.dl (List.map (List.map (PV.int .i64)) m), .int .i64 n] ∧ GrL m ∧ -1 ≤ n ∧ n ≤ 4 := by
  obtain ⟨s1, m, c1, hm⟩ := spec_l32Draw_x b ⟨0, newH b (min b.length 4000)⟩ hb
  have q := bwX_r (b := b) (s := s1) (n := 5)
  have q2 := bitI_r (decide (bwX b (bwS b s1 5) 12 = 0))
  refine ⟨m, bwX b s1 5 - bitI (decide (bwX b (bwS b s1 5) 12 = 0)), ?_, hm, by omega, by omega⟩
  refine fO sgCase [2, 3] Try.func14 ?_
  have cE1 := @spec_l1Bit_c; have cE2 := @spec_l1New_c; have cM1 := @spec_l1Below_c; have cM2 := @spec_l1Once_c
  have cM3 := @c1
  refine dEa trivial ?_
  all_goals try (refine zlf ?_; repeat' first | exact zso | refine And.intro ?_ ?_ | (refine zim ?_; intro zb hc) | (refine zin ?_; intro zb) | intro j')
  all_goals try refine zbx ?_
  all_goals trace_state
def blL (b : List UInt8) (s : Cu) (n : Int) : Nat → List Int × Cu
  | 0 => ([], s)
  | k + 1 => ((blL b s n k).1 ++ [bwX b (blL b s n k).2 n], bwS b (blL b s n k).2 n)
theorem blL_len {b : List UInt8} {s : Cu} {n : Int} : ∀ {k : Nat}, (blL b s n k).1.length = k
  | 0 => rfl
  | k + 1 => by rw [blL]; simp [blL_len]
theorem dj4 {a b c d : Nat} {x y z u : Pl} (h : a ≠ b ∧ a ≠ c ∧ a ≠ d ∧ b ≠ c ∧ b ≠ d ∧ c ≠ d) : F0 [(1, a, x), (17, b, y), (33, c, z), (49, d, u)] := by
  simp only [F0, List.pairwise_cons, List.mem_cons, List.not_mem_nil, or_false, forall_eq_or_imp, forall_eq, List.Pairwise.nil, and_true, false_imp_iff, implies_true]
  exact ⟨⟨.inl h.1, .inl h.2.1, .inl h.2.2.1⟩, ⟨.inl h.2.2.2.1, .inl h.2.2.2.2.1⟩, .inl h.2.2.2.2.2⟩
set_option maxHeartbeats 4000000 in
theorem spec_DrawFitsGrid_x (b : List UInt8) (hb : b.length ≤ 1048576) : ∃ p m x y, Fun Try.prog 13 [.sl (.lent false) (b.map u8P)] [.sl .own (List.map (PV.int .i64) p), .dl (List.map (List.map (PV.int .i64)) m), .sl (.lent false) (List.map (PV.int .i64) x), .sl (.lent false) (List.map (PV.int .i64) y)] ∧ SmL p ∧ GrL m ∧ x.length ≤ 1048576 ∧ y.length ≤ 1048576 := by
  obtain ⟨p, m, c1, hp, hm⟩ := spec_l32Case_x b hb
  have p1 := hp.len
  have m1 := hm.len
  have m2 : ∀ l ∈ m, l.length ≤ 1048576 := fun l h => by have := hm.row l h; omega
  have m3 : 0 < m.length → (m.getD 0 []).length ≤ 3 := fun h => hm.row _ (getD_mem h)
  obtain ⟨s0, hs0⟩ : ∃ s0, (⟨0, newH b (min b.length 4000)⟩ : Cu) = s0 := ⟨_, rfl⟩
  have fl : (fndB p m).1.1.length ≤ 1048576 ∧ (fndB p m).1.2.length ≤ 1048576 := by
    unfold fndB
    split
    · rename_i h
      simp only [Bool.and_eq_true] at h
      have := fndG_len h.1 h.2; omega
    · simp
  by_cases h0 : (fndB p m).2 = true ∧ bwX b s0 2 = 0
  · obtain ⟨f1, f2⟩ := h0
    refine ⟨p, m, (fndB p m).1.1, (fndB p m).1.2, ?_, hp, hm, fl.1, fl.2⟩
    refine fO sgCase [2, 3, 4, 5] Try.func13 ?_
    have cE1 := @spec_l1New_c; have cE2 := @spec_FindGrid_c; have cM1 := @spec_l1Once_c; have cM2 := @spec_l1Below_c
    have cE1 := @c1; have cE2 := @spec_l1New_c; have cE3 := @spec_FindGrid_c
    refine dEa (And.intro @hs0 (And.intro @f1 @f2)) ?_
    all_goals try (refine zlf ?_; repeat' first | exact zso | refine And.intro ?_ ?_ | (refine zim ?_; intro zb hc) | (refine zin ?_; intro zb) | intro j')
    all_goals try refine zbx ?_
    all_goals first | exact m2 | trace_state
  · have ln : (m.getD 0 []).length - 1 ≤ 1048576 := by
      by_cases q : 0 < m.length
      · have := m3 q; omega
      · rw [List.eq_nil_of_length_eq_zero (l := m) (by omega)]; simp
    by_cases f1 : (fndB p m).2 = true
    · have f2 : (bwX b s0 2 = 0) = False := eq_false fun e => h0 ⟨f1, e⟩
      refine ⟨p, m, (blL b (bwS b s0 2) ((p.length : Int) + 1) ((m.getD 0 []).length - 1)).1, (blL b (blL b (bwS b s0 2) ((p.length : Int) + 1) ((m.getD 0 []).length - 1)).2 ((p.length : Int) + 2) (m.length - 1)).1, ?_, hp, hm, by rw [blL_len]; exact ln, by rw [blL_len]; omega⟩
      refine fO sgCase [2, 3, 4, 5] Try.func13 ?_
      have cE1 := @spec_l1New_c; have cE2 := @spec_FindGrid_c; have cM1 := @spec_l1Once_c; have cM2 := @spec_l1Below_c
      have cE1 := @c1; have cE2 := @spec_l1New_c; have cE3 := @spec_FindGrid_c
      refine dEa (And.intro @hs0 (And.intro @f1 @f2)) ?_
      all_goals try (refine zlf ?_; repeat' first | exact zso | refine And.intro ?_ ?_ | (refine zim ?_; intro zb hc) | (refine zin ?_; intro zb) | intro j')
      all_goals try refine zbx ?_
      refine v_loopB (fun ms1 S1 => ∃ (k : Nat), OwnL (S1.e 6) S1.h S1.n (PV.int .i64) ((p).length) (p) ∧ DwnL (S1.e 7) S1.h S1.n (PV.int .i64) ((m).length) (m) ∧ PtrL (S1.e 8) S1.h S1.n (.live false (curC b (blL b (bwS b s0 2) ((p.length : Int) + 1) k).2)) ∧ OwnL (S1.e 12) S1.h S1.n (PV.int .i64) (((blL b (bwS b s0 2) ((p.length : Int) + 1) k).1).length) ((blL b (bwS b s0 2) ((p.length : Int) + 1) k).1) ∧ OwnL (S1.e 13) S1.h S1.n (PV.int .i64) ((([] : List Int)).length) (([] : List Int)) ∧ S1.e 14 = .p (.int .i64 ((k+1))) ∧ (k ≤ (m.getD 0 []).length - 1) ∧ NId (S1.e 7) (S1.e 6) ∧ NId (asR (S1.e 8)) (S1.e 6) ∧ NId (asR (S1.e 8)) (S1.e 7) ∧ NId (S1.e 12) (S1.e 6) ∧ NId (S1.e 12) (S1.e 7) ∧ NId (S1.e 12) (asR (S1.e 8)) ∧ NId (S1.e 13) (S1.e 6) ∧ NId (S1.e 13) (S1.e 7) ∧ NId (S1.e 13) (asR (S1.e 8)) ∧ NId (S1.e 13) (S1.e 12) ∧ ms1 = (m.getD 0 []).length - 1 - k) ((fun (k : Nat) => (m.getD 0 []).length - 1 - k) (0)) ?_ ⟨0, dC trivial ?_⟩
      all_goals try (refine zlf ?_; repeat' first | exact zso | refine And.intro ?_ ?_ | (refine zim ?_; intro zb hc) | (refine zin ?_; intro zb) | intro j')
      all_goals try refine zbx ?_
      rintro ms1 S1 ⟨k, o1_6, o1_7, o1_8, o1_12, o1_13, h1_14, c1_0, u1_0, u1_1, u1_2, u1_3, u1_4, u1_5, u1_6, u1_7, u1_8, u1_9, hm1⟩
      obtain ⟨i1_6, h1_6, b1_6, l1_6⟩ := o1_6.out
      obtain ⟨i1_7, h1_7, b1_7, l1_7⟩ := o1_7.out
      obtain ⟨i1_8, h1_8, b1_8, l1_8⟩ := o1_8.out
      obtain ⟨i1_12, h1_12, b1_12, l1_12⟩ := o1_12.out
      obtain ⟨i1_13, h1_13, b1_13, l1_13⟩ := o1_13.out
      have k1_0 := (u1_0).out h1_7 h1_6
      have k1_1 := (u1_1).out (asR_eq h1_8) h1_6
      have k1_2 := (u1_2).out (asR_eq h1_8) h1_7
      have k1_3 := (u1_3).out h1_12 h1_6
      have k1_4 := (u1_4).out h1_12 h1_7
      have k1_5 := (u1_5).out h1_12 (asR_eq h1_8)
      have k1_6 := (u1_6).out h1_13 h1_6
      have k1_7 := (u1_7).out h1_13 h1_7
      have k1_8 := (u1_8).out h1_13 (asR_eq h1_8)
      have k1_9 := (u1_9).out h1_13 h1_12
      have ni1_6 := znds (x := i1_6) (n := S1.n)
      have ni1_7 := znds (x := i1_7) (n := S1.n)
      have ni1_8 := znds (x := i1_8) (n := S1.n)
      have ni1_12 := znds (x := i1_12) (n := S1.n)
      have ni1_13 := znds (x := i1_13) (n := S1.n)
      have di1_6i1_7 := zdne (x := i1_6) (y := i1_7)
      have di1_6i1_8 := zdne (x := i1_6) (y := i1_8)
      have di1_6i1_12 := zdne (x := i1_6) (y := i1_12)
      have di1_6i1_13 := zdne (x := i1_6) (y := i1_13)
      have di1_7i1_8 := zdne (x := i1_7) (y := i1_8)
      have di1_7i1_12 := zdne (x := i1_7) (y := i1_12)
      have di1_7i1_13 := zdne (x := i1_7) (y := i1_13)
      have di1_8i1_12 := zdne (x := i1_8) (y := i1_12)
      have di1_8i1_13 := zdne (x := i1_8) (y := i1_13)
      have di1_12i1_13 := zdne (x := i1_12) (y := i1_13)
      have fL1 := (And.intro h1_14 (And.intro h1_6 (And.intro b1_6 (And.intro h1_7 (And.intro b1_7 (And.intro h1_8 (And.intro b1_8 (And.intro h1_12 (And.intro b1_12 (And.intro h1_13 (And.intro b1_13 (And.intro ni1_6 (And.intro ni1_7 (And.intro ni1_8 (And.intro ni1_12 (And.intro ni1_13 (And.intro di1_6i1_7 (And.intro di1_6i1_8 (And.intro di1_6i1_12 (And.intro di1_6i1_13 (And.intro di1_7i1_8 (And.intro di1_7i1_12 (And.intro di1_7i1_13 (And.intro di1_8i1_12 (And.intro di1_8i1_13 di1_12i1_13)))))))))))))))))))))))))
      · have v1 := blL_len (b := b) (s := (bwS b s0 2)) (n := (p.length : Int) + 1) (k := k)
        by_cases g1 : 0 < m.length
        · have v2 := m3 g1
          by_cases g0 : k < (m.getD 0 []).length - 1
          · have cE1 := @spec_l1New_c; have cE2 := @spec_FindGrid_c; have cE3 := trivial
            refine dEa fL1 ?_
            all_goals try (refine zlf ?_; repeat' first | exact zso | refine And.intro ?_ ?_ | (refine zim ?_; intro zb hc) | (refine zin ?_; intro zb) | intro j')
            all_goals try refine zbx ?_
            focus
              refine q_lp_n ((fun (k : Nat) => (m.getD 0 []).length - 1 - k) (k+1)) (dC fL1 ?_) ⟨k+1, dC fL1 ?_⟩
              all_goals try (refine zlf ?_; repeat' first | exact zso | refine And.intro ?_ ?_ | (refine zim ?_; intro zb hc) | (refine zin ?_; intro zb) | intro j')
              all_goals try refine zbx ?_
            all_goals first | rfl | (rw [blL]; simp; done) | trace_state
          · obtain rfl : k = (m.getD 0 []).length - 1 := by omega
            have cE1 := @spec_l1New_c; have cE2 := @spec_FindGrid_c; have cE3 := trivial
            refine dEa fL1 ?_
            all_goals try (refine zlf ?_; repeat' first | exact zso | refine And.intro ?_ ?_ | (refine zim ?_; intro zb hc) | (refine zin ?_; intro zb) | intro j')
            all_goals try refine zbx ?_
            refine v_loopB (fun ms2 S2 => ∃ (j : Nat), OwnL (S2.e 6) S2.h S2.n (PV.int .i64) ((p).length) (p) ∧ DwnL (S2.e 7) S2.h S2.n (PV.int .i64) ((m).length) (m) ∧ PtrL (S2.e 8) S2.h S2.n (.live false (curC b (blL b (blL b (bwS b s0 2) ((p.length : Int) + 1) ((m.getD 0 []).length - 1)).2 ((p.length : Int) + 2) j).2)) ∧ OwnL (S2.e 12) S2.h S2.n (PV.int .i64) (((blL b (bwS b s0 2) ((p.length : Int) + 1) ((m.getD 0 []).length - 1)).1).length) ((blL b (bwS b s0 2) ((p.length : Int) + 1) ((m.getD 0 []).length - 1)).1) ∧ OwnL (S2.e 13) S2.h S2.n (PV.int .i64) (((blL b (blL b (bwS b s0 2) ((p.length : Int) + 1) ((m.getD 0 []).length - 1)).2 ((p.length : Int) + 2) j).1).length) ((blL b (blL b (bwS b s0 2) ((p.length : Int) + 1) ((m.getD 0 []).length - 1)).2 ((p.length : Int) + 2) j).1) ∧ S2.e 15 = .p (.int .i64 ((j+1))) ∧ (j ≤ m.length - 1) ∧ NId (S2.e 7) (S2.e 6) ∧ NId (asR (S2.e 8)) (S2.e 6) ∧ NId (asR (S2.e 8)) (S2.e 7) ∧ NId (S2.e 12) (S2.e 6) ∧ NId (S2.e 12) (S2.e 7) ∧ NId (S2.e 12) (asR (S2.e 8)) ∧ NId (S2.e 13) (S2.e 6) ∧ NId (S2.e 13) (S2.e 7) ∧ NId (S2.e 13) (asR (S2.e 8)) ∧ NId (S2.e 13) (S2.e 12) ∧ S1.n ≤ S2.n ∧ ms2 = m.length - 1 - j) ((fun (j : Nat) => m.length - 1 - j) (0)) ?_ ⟨0, dC fL1 ?_⟩
            all_goals try (refine zlf ?_; repeat' first | exact zso | refine And.intro ?_ ?_ | (refine zim ?_; intro zb hc) | (refine zin ?_; intro zb) | intro j')
            all_goals try refine zbx ?_
            rintro ms2 S2 ⟨j, o2_6, o2_7, o2_8, o2_12, o2_13, h2_15, c2_0, u2_0, u2_1, u2_2, u2_3, u2_4, u2_5, u2_6, u2_7, u2_8, u2_9, u2_10, hm2⟩
            obtain ⟨i2_6, h2_6, b2_6, l2_6⟩ := o2_6.out
            obtain ⟨i2_7, h2_7, b2_7, l2_7⟩ := o2_7.out
            obtain ⟨i2_8, h2_8, b2_8, l2_8⟩ := o2_8.out
            obtain ⟨i2_12, h2_12, b2_12, l2_12⟩ := o2_12.out
            obtain ⟨i2_13, h2_13, b2_13, l2_13⟩ := o2_13.out
            have k2_0 := (u2_0).out h2_7 h2_6
            have k2_1 := (u2_1).out (asR_eq h2_8) h2_6
            have k2_2 := (u2_2).out (asR_eq h2_8) h2_7
            have k2_3 := (u2_3).out h2_12 h2_6
            have k2_4 := (u2_4).out h2_12 h2_7
            have k2_5 := (u2_5).out h2_12 (asR_eq h2_8)
            have k2_6 := (u2_6).out h2_13 h2_6
            have k2_7 := (u2_7).out h2_13 h2_7
            have k2_8 := (u2_8).out h2_13 (asR_eq h2_8)
            have k2_9 := (u2_9).out h2_13 h2_12
            have ni2_6 := znds (x := i2_6) (n := S2.n)
            have ni2_7 := znds (x := i2_7) (n := S2.n)
            have ni2_8 := znds (x := i2_8) (n := S2.n)
            have ni2_12 := znds (x := i2_12) (n := S2.n)
            have ni2_13 := znds (x := i2_13) (n := S2.n)
            have di2_6i2_7 := zdne (x := i2_6) (y := i2_7)
            have di2_6i2_8 := zdne (x := i2_6) (y := i2_8)
            have di2_6i2_12 := zdne (x := i2_6) (y := i2_12)
            have di2_6i2_13 := zdne (x := i2_6) (y := i2_13)
            have di2_7i2_8 := zdne (x := i2_7) (y := i2_8)
            have di2_7i2_12 := zdne (x := i2_7) (y := i2_12)
            have di2_7i2_13 := zdne (x := i2_7) (y := i2_13)
            have di2_8i2_12 := zdne (x := i2_8) (y := i2_12)
            have di2_8i2_13 := zdne (x := i2_8) (y := i2_13)
            have di2_12i2_13 := zdne (x := i2_12) (y := i2_13)
            have fL2 := (And.intro h2_15 (And.intro h2_6 (And.intro b2_6 (And.intro h2_7 (And.intro b2_7 (And.intro h2_8 (And.intro b2_8 (And.intro h2_12 (And.intro b2_12 (And.intro h2_13 (And.intro b2_13 (And.intro ni2_6 (And.intro ni2_7 (And.intro ni2_8 (And.intro ni2_12 (And.intro ni2_13 (And.intro di2_6i2_7 (And.intro di2_6i2_8 (And.intro di2_6i2_12 (And.intro di2_6i2_13 (And.intro di2_7i2_8 (And.intro di2_7i2_12 (And.intro di2_7i2_13 (And.intro di2_8i2_12 (And.intro di2_8i2_13 di2_12i2_13)))))))))))))))))))))))))
            · have v3 := blL_len (b := b) (s := (blL b (bwS b s0 2) ((p.length : Int) + 1) ((m.getD 0 []).length - 1)).2) (n := (p.length : Int) + 2) (k := j)
              by_cases g2 : j < m.length - 1
              · have cE1 := @spec_l1New_c; have cE2 := @spec_FindGrid_c; have cE3 := trivial
                refine dEa fL2 ?_
                all_goals try (refine zlf ?_; repeat' first | exact zso | refine And.intro ?_ ?_ | (refine zim ?_; intro zb hc) | (refine zin ?_; intro zb) | intro j')
                all_goals try refine zbx ?_
                focus
                  refine q_lp_n ((fun (j : Nat) => m.length - 1 - j) (j+1)) (dC fL2 ?_) ⟨j+1, dC fL2 ?_⟩
                  all_goals try (refine zlf ?_; repeat' first | exact zso | refine And.intro ?_ ?_ | (refine zim ?_; intro zb hc) | (refine zin ?_; intro zb) | intro j')
                  all_goals try refine zbx ?_
                all_goals first | rfl | (rw [blL]; simp; done) | trace_state
              · obtain rfl : j = m.length - 1 := by omega
                have cE1 := @spec_l1New_c; have cE2 := @spec_FindGrid_c; have cE3 := trivial
                refine dEa fL2 ?_
                all_goals try (refine zlf ?_; repeat' first | exact zso | refine And.intro ?_ ?_ | (refine zim ?_; intro zb hc) | (refine zin ?_; intro zb) | intro j')
                all_goals try refine zbx ?_
                all_goals first | exact dj4 (by omega) | trace_state
            all_goals first | rfl | trace_state
        · have hz : m = [] := List.eq_nil_of_length_eq_zero (by omega)
          have k0 : k = 0 := by rw [hz] at c1_0; simpa using c1_0
          have kz : (m.getD 0 []).length - 1 = 0 := by rw [hz]; rfl
          subst k0
          rw [kz]
          have cE1 := @spec_l1New_c; have cE2 := @spec_FindGrid_c; have cE3 := trivial
          refine dEa fL1 ?_
          all_goals try (refine zlf ?_; repeat' first | exact zso | refine And.intro ?_ ?_ | (refine zim ?_; intro zb hc) | (refine zin ?_; intro zb) | intro j')
          all_goals try refine zbx ?_
          refine v_loopB (fun ms2 S2 => ∃ (j : Nat), OwnL (S2.e 6) S2.h S2.n (PV.int .i64) ((p).length) (p) ∧ DwnL (S2.e 7) S2.h S2.n (PV.int .i64) ((m).length) (m) ∧ PtrL (S2.e 8) S2.h S2.n (.live false (curC b (blL b (blL b (bwS b s0 2) ((p.length : Int) + 1) 0).2 ((p.length : Int) + 2) j).2)) ∧ OwnL (S2.e 12) S2.h S2.n (PV.int .i64) (((blL b (bwS b s0 2) ((p.length : Int) + 1) 0).1).length) ((blL b (bwS b s0 2) ((p.length : Int) + 1) 0).1) ∧ OwnL (S2.e 13) S2.h S2.n (PV.int .i64) (((blL b (blL b (bwS b s0 2) ((p.length : Int) + 1) 0).2 ((p.length : Int) + 2) j).1).length) ((blL b (blL b (bwS b s0 2) ((p.length : Int) + 1) 0).2 ((p.length : Int) + 2) j).1) ∧ S2.e 15 = .p (.int .i64 ((j+1))) ∧ (j ≤ m.length - 1) ∧ NId (S2.e 7) (S2.e 6) ∧ NId (asR (S2.e 8)) (S2.e 6) ∧ NId (asR (S2.e 8)) (S2.e 7) ∧ NId (S2.e 12) (S2.e 6) ∧ NId (S2.e 12) (S2.e 7) ∧ NId (S2.e 12) (asR (S2.e 8)) ∧ NId (S2.e 13) (S2.e 6) ∧ NId (S2.e 13) (S2.e 7) ∧ NId (S2.e 13) (asR (S2.e 8)) ∧ NId (S2.e 13) (S2.e 12) ∧ S1.n ≤ S2.n ∧ ms2 = m.length - 1 - j) ((fun (j : Nat) => m.length - 1 - j) (0)) ?_ ⟨0, dC fL1 ?_⟩
          all_goals try (refine zlf ?_; repeat' first | exact zso | refine And.intro ?_ ?_ | (refine zim ?_; intro zb hc) | (refine zin ?_; intro zb) | intro j')
          all_goals try refine zbx ?_
          rintro ms2 S2 ⟨j, o2_6, o2_7, o2_8, o2_12, o2_13, h2_15, c2_0, u2_0, u2_1, u2_2, u2_3, u2_4, u2_5, u2_6, u2_7, u2_8, u2_9, u2_10, hm2⟩
          obtain ⟨i2_6, h2_6, b2_6, l2_6⟩ := o2_6.out
          obtain ⟨i2_7, h2_7, b2_7, l2_7⟩ := o2_7.out
          obtain ⟨i2_8, h2_8, b2_8, l2_8⟩ := o2_8.out
          obtain ⟨i2_12, h2_12, b2_12, l2_12⟩ := o2_12.out
          obtain ⟨i2_13, h2_13, b2_13, l2_13⟩ := o2_13.out
          have k2_0 := (u2_0).out h2_7 h2_6
          have k2_1 := (u2_1).out (asR_eq h2_8) h2_6
          have k2_2 := (u2_2).out (asR_eq h2_8) h2_7
          have k2_3 := (u2_3).out h2_12 h2_6
          have k2_4 := (u2_4).out h2_12 h2_7
          have k2_5 := (u2_5).out h2_12 (asR_eq h2_8)
          have k2_6 := (u2_6).out h2_13 h2_6
          have k2_7 := (u2_7).out h2_13 h2_7
          have k2_8 := (u2_8).out h2_13 (asR_eq h2_8)
          have k2_9 := (u2_9).out h2_13 h2_12
          have ni2_6 := znds (x := i2_6) (n := S2.n)
          have ni2_7 := znds (x := i2_7) (n := S2.n)
          have ni2_8 := znds (x := i2_8) (n := S2.n)
          have ni2_12 := znds (x := i2_12) (n := S2.n)
          have ni2_13 := znds (x := i2_13) (n := S2.n)
          have di2_6i2_7 := zdne (x := i2_6) (y := i2_7)
          have di2_6i2_8 := zdne (x := i2_6) (y := i2_8)
          have di2_6i2_12 := zdne (x := i2_6) (y := i2_12)
          have di2_6i2_13 := zdne (x := i2_6) (y := i2_13)
          have di2_7i2_8 := zdne (x := i2_7) (y := i2_8)
          have di2_7i2_12 := zdne (x := i2_7) (y := i2_12)
          have di2_7i2_13 := zdne (x := i2_7) (y := i2_13)
          have di2_8i2_12 := zdne (x := i2_8) (y := i2_12)
          have di2_8i2_13 := zdne (x := i2_8) (y := i2_13)
          have di2_12i2_13 := zdne (x := i2_12) (y := i2_13)
          have fL2 := (And.intro h2_15 (And.intro h2_6 (And.intro b2_6 (And.intro h2_7 (And.intro b2_7 (And.intro h2_8 (And.intro b2_8 (And.intro h2_12 (And.intro b2_12 (And.intro h2_13 (And.intro b2_13 (And.intro ni2_6 (And.intro ni2_7 (And.intro ni2_8 (And.intro ni2_12 (And.intro ni2_13 (And.intro di2_6i2_7 (And.intro di2_6i2_8 (And.intro di2_6i2_12 (And.intro di2_6i2_13 (And.intro di2_7i2_8 (And.intro di2_7i2_12 (And.intro di2_7i2_13 (And.intro di2_8i2_12 (And.intro di2_8i2_13 di2_12i2_13)))))))))))))))))))))))))
          · have v3 := blL_len (b := b) (s := (blL b (bwS b s0 2) ((p.length : Int) + 1) 0).2) (n := (p.length : Int) + 2) (k := j)
            by_cases g2 : j < m.length - 1
            · exfalso; rw [hz] at g2; simp at g2
            · obtain rfl : j = m.length - 1 := by omega
              have cE1 := @spec_l1New_c; have cE2 := @spec_FindGrid_c; have cE3 := trivial
              refine dEa fL2 ?_
              all_goals try (refine zlf ?_; repeat' first | exact zso | refine And.intro ?_ ?_ | (refine zim ?_; intro zb hc) | (refine zin ?_; intro zb) | intro j')
              all_goals try refine zbx ?_
              all_goals first | exact dj4 (by omega) | trace_state
          all_goals first | rfl | trace_state
        all_goals first | exact m2 | trace_state
    · rw [Bool.not_eq_true] at f1
      refine ⟨p, m, (blL b s0 ((p.length : Int) + 1) ((m.getD 0 []).length - 1)).1, (blL b (blL b s0 ((p.length : Int) + 1) ((m.getD 0 []).length - 1)).2 ((p.length : Int) + 2) (m.length - 1)).1, ?_, hp, hm, by rw [blL_len]; exact ln, by rw [blL_len]; omega⟩
      refine fO sgCase [2, 3, 4, 5] Try.func13 ?_
      have cE1 := @spec_l1New_c; have cE2 := @spec_FindGrid_c; have cM1 := @spec_l1Once_c; have cM2 := @spec_l1Below_c
      have cE1 := @c1; have cE2 := @spec_l1New_c; have cE3 := @spec_FindGrid_c
      refine dEa (And.intro @hs0 @f1) ?_
      all_goals try (refine zlf ?_; repeat' first | exact zso | refine And.intro ?_ ?_ | (refine zim ?_; intro zb hc) | (refine zin ?_; intro zb) | intro j')
      all_goals try refine zbx ?_
      refine v_loopB (fun ms1 S1 => ∃ (k : Nat), OwnL (S1.e 6) S1.h S1.n (PV.int .i64) ((p).length) (p) ∧ DwnL (S1.e 7) S1.h S1.n (PV.int .i64) ((m).length) (m) ∧ PtrL (S1.e 8) S1.h S1.n (.live false (curC b (blL b s0 ((p.length : Int) + 1) k).2)) ∧ OwnL (S1.e 12) S1.h S1.n (PV.int .i64) (((blL b s0 ((p.length : Int) + 1) k).1).length) ((blL b s0 ((p.length : Int) + 1) k).1) ∧ OwnL (S1.e 13) S1.h S1.n (PV.int .i64) ((([] : List Int)).length) (([] : List Int)) ∧ S1.e 14 = .p (.int .i64 ((k+1))) ∧ (k ≤ (m.getD 0 []).length - 1) ∧ NId (S1.e 7) (S1.e 6) ∧ NId (asR (S1.e 8)) (S1.e 6) ∧ NId (asR (S1.e 8)) (S1.e 7) ∧ NId (S1.e 12) (S1.e 6) ∧ NId (S1.e 12) (S1.e 7) ∧ NId (S1.e 12) (asR (S1.e 8)) ∧ NId (S1.e 13) (S1.e 6) ∧ NId (S1.e 13) (S1.e 7) ∧ NId (S1.e 13) (asR (S1.e 8)) ∧ NId (S1.e 13) (S1.e 12) ∧ ms1 = (m.getD 0 []).length - 1 - k) ((fun (k : Nat) => (m.getD 0 []).length - 1 - k) (0)) ?_ ⟨0, dC trivial ?_⟩
      all_goals try (refine zlf ?_; repeat' first | exact zso | refine And.intro ?_ ?_ | (refine zim ?_; intro zb hc) | (refine zin ?_; intro zb) | intro j')
      all_goals try refine zbx ?_
      rintro ms1 S1 ⟨k, o1_6, o1_7, o1_8, o1_12, o1_13, h1_14, c1_0, u1_0, u1_1, u1_2, u1_3, u1_4, u1_5, u1_6, u1_7, u1_8, u1_9, hm1⟩
      obtain ⟨i1_6, h1_6, b1_6, l1_6⟩ := o1_6.out
      obtain ⟨i1_7, h1_7, b1_7, l1_7⟩ := o1_7.out
      obtain ⟨i1_8, h1_8, b1_8, l1_8⟩ := o1_8.out
      obtain ⟨i1_12, h1_12, b1_12, l1_12⟩ := o1_12.out
      obtain ⟨i1_13, h1_13, b1_13, l1_13⟩ := o1_13.out
      have k1_0 := (u1_0).out h1_7 h1_6
      have k1_1 := (u1_1).out (asR_eq h1_8) h1_6
      have k1_2 := (u1_2).out (asR_eq h1_8) h1_7
      have k1_3 := (u1_3).out h1_12 h1_6
      have k1_4 := (u1_4).out h1_12 h1_7
      have k1_5 := (u1_5).out h1_12 (asR_eq h1_8)
      have k1_6 := (u1_6).out h1_13 h1_6
      have k1_7 := (u1_7).out h1_13 h1_7
      have k1_8 := (u1_8).out h1_13 (asR_eq h1_8)
      have k1_9 := (u1_9).out h1_13 h1_12
      have ni1_6 := znds (x := i1_6) (n := S1.n)
      have ni1_7 := znds (x := i1_7) (n := S1.n)
      have ni1_8 := znds (x := i1_8) (n := S1.n)
      have ni1_12 := znds (x := i1_12) (n := S1.n)
      have ni1_13 := znds (x := i1_13) (n := S1.n)
      have di1_6i1_7 := zdne (x := i1_6) (y := i1_7)
      have di1_6i1_8 := zdne (x := i1_6) (y := i1_8)
      have di1_6i1_12 := zdne (x := i1_6) (y := i1_12)
      have di1_6i1_13 := zdne (x := i1_6) (y := i1_13)
      have di1_7i1_8 := zdne (x := i1_7) (y := i1_8)
      have di1_7i1_12 := zdne (x := i1_7) (y := i1_12)
      have di1_7i1_13 := zdne (x := i1_7) (y := i1_13)
      have di1_8i1_12 := zdne (x := i1_8) (y := i1_12)
      have di1_8i1_13 := zdne (x := i1_8) (y := i1_13)
      have di1_12i1_13 := zdne (x := i1_12) (y := i1_13)
      have fL1 := (And.intro h1_14 (And.intro h1_6 (And.intro b1_6 (And.intro h1_7 (And.intro b1_7 (And.intro h1_8 (And.intro b1_8 (And.intro h1_12 (And.intro b1_12 (And.intro h1_13 (And.intro b1_13 (And.intro ni1_6 (And.intro ni1_7 (And.intro ni1_8 (And.intro ni1_12 (And.intro ni1_13 (And.intro di1_6i1_7 (And.intro di1_6i1_8 (And.intro di1_6i1_12 (And.intro di1_6i1_13 (And.intro di1_7i1_8 (And.intro di1_7i1_12 (And.intro di1_7i1_13 (And.intro di1_8i1_12 (And.intro di1_8i1_13 di1_12i1_13)))))))))))))))))))))))))
      · have v1 := blL_len (b := b) (s := s0) (n := (p.length : Int) + 1) (k := k)
        by_cases g1 : 0 < m.length
        · have v2 := m3 g1
          by_cases g0 : k < (m.getD 0 []).length - 1
          · have cE1 := @spec_l1New_c; have cE2 := @spec_FindGrid_c; have cE3 := trivial
            refine dEa fL1 ?_
            all_goals try (refine zlf ?_; repeat' first | exact zso | refine And.intro ?_ ?_ | (refine zim ?_; intro zb hc) | (refine zin ?_; intro zb) | intro j')
            all_goals try refine zbx ?_
            focus
              refine q_lp_n ((fun (k : Nat) => (m.getD 0 []).length - 1 - k) (k+1)) (dC fL1 ?_) ⟨k+1, dC fL1 ?_⟩
              all_goals try (refine zlf ?_; repeat' first | exact zso | refine And.intro ?_ ?_ | (refine zim ?_; intro zb hc) | (refine zin ?_; intro zb) | intro j')
              all_goals try refine zbx ?_
            all_goals first | rfl | (rw [blL]; simp; done) | trace_state
          · obtain rfl : k = (m.getD 0 []).length - 1 := by omega
            have cE1 := @spec_l1New_c; have cE2 := @spec_FindGrid_c; have cE3 := trivial
            refine dEa fL1 ?_
            all_goals try (refine zlf ?_; repeat' first | exact zso | refine And.intro ?_ ?_ | (refine zim ?_; intro zb hc) | (refine zin ?_; intro zb) | intro j')
            all_goals try refine zbx ?_
            refine v_loopB (fun ms2 S2 => ∃ (j : Nat), OwnL (S2.e 6) S2.h S2.n (PV.int .i64) ((p).length) (p) ∧ DwnL (S2.e 7) S2.h S2.n (PV.int .i64) ((m).length) (m) ∧ PtrL (S2.e 8) S2.h S2.n (.live false (curC b (blL b (blL b s0 ((p.length : Int) + 1) ((m.getD 0 []).length - 1)).2 ((p.length : Int) + 2) j).2)) ∧ OwnL (S2.e 12) S2.h S2.n (PV.int .i64) (((blL b s0 ((p.length : Int) + 1) ((m.getD 0 []).length - 1)).1).length) ((blL b s0 ((p.length : Int) + 1) ((m.getD 0 []).length - 1)).1) ∧ OwnL (S2.e 13) S2.h S2.n (PV.int .i64) (((blL b (blL b s0 ((p.length : Int) + 1) ((m.getD 0 []).length - 1)).2 ((p.length : Int) + 2) j).1).length) ((blL b (blL b s0 ((p.length : Int) + 1) ((m.getD 0 []).length - 1)).2 ((p.length : Int) + 2) j).1) ∧ S2.e 15 = .p (.int .i64 ((j+1))) ∧ (j ≤ m.length - 1) ∧ NId (S2.e 7) (S2.e 6) ∧ NId (asR (S2.e 8)) (S2.e 6) ∧ NId (asR (S2.e 8)) (S2.e 7) ∧ NId (S2.e 12) (S2.e 6) ∧ NId (S2.e 12) (S2.e 7) ∧ NId (S2.e 12) (asR (S2.e 8)) ∧ NId (S2.e 13) (S2.e 6) ∧ NId (S2.e 13) (S2.e 7) ∧ NId (S2.e 13) (asR (S2.e 8)) ∧ NId (S2.e 13) (S2.e 12) ∧ S1.n ≤ S2.n ∧ ms2 = m.length - 1 - j) ((fun (j : Nat) => m.length - 1 - j) (0)) ?_ ⟨0, dC fL1 ?_⟩
            all_goals try (refine zlf ?_; repeat' first | exact zso | refine And.intro ?_ ?_ | (refine zim ?_; intro zb hc) | (refine zin ?_; intro zb) | intro j')
            all_goals try refine zbx ?_
            rintro ms2 S2 ⟨j, o2_6, o2_7, o2_8, o2_12, o2_13, h2_15, c2_0, u2_0, u2_1, u2_2, u2_3, u2_4, u2_5, u2_6, u2_7, u2_8, u2_9, u2_10, hm2⟩
            obtain ⟨i2_6, h2_6, b2_6, l2_6⟩ := o2_6.out
            obtain ⟨i2_7, h2_7, b2_7, l2_7⟩ := o2_7.out
            obtain ⟨i2_8, h2_8, b2_8, l2_8⟩ := o2_8.out
            obtain ⟨i2_12, h2_12, b2_12, l2_12⟩ := o2_12.out
            obtain ⟨i2_13, h2_13, b2_13, l2_13⟩ := o2_13.out
            have k2_0 := (u2_0).out h2_7 h2_6
            have k2_1 := (u2_1).out (asR_eq h2_8) h2_6
            have k2_2 := (u2_2).out (asR_eq h2_8) h2_7
            have k2_3 := (u2_3).out h2_12 h2_6
            have k2_4 := (u2_4).out h2_12 h2_7
            have k2_5 := (u2_5).out h2_12 (asR_eq h2_8)
            have k2_6 := (u2_6).out h2_13 h2_6
            have k2_7 := (u2_7).out h2_13 h2_7
            have k2_8 := (u2_8).out h2_13 (asR_eq h2_8)
            have k2_9 := (u2_9).out h2_13 h2_12
            have ni2_6 := znds (x := i2_6) (n := S2.n)
            have ni2_7 := znds (x := i2_7) (n := S2.n)
            have ni2_8 := znds (x := i2_8) (n := S2.n)
            have ni2_12 := znds (x := i2_12) (n := S2.n)
            have ni2_13 := znds (x := i2_13) (n := S2.n)
            have di2_6i2_7 := zdne (x := i2_6) (y := i2_7)
            have di2_6i2_8 := zdne (x := i2_6) (y := i2_8)
            have di2_6i2_12 := zdne (x := i2_6) (y := i2_12)
            have di2_6i2_13 := zdne (x := i2_6) (y := i2_13)
            have di2_7i2_8 := zdne (x := i2_7) (y := i2_8)
            have di2_7i2_12 := zdne (x := i2_7) (y := i2_12)
            have di2_7i2_13 := zdne (x := i2_7) (y := i2_13)
            have di2_8i2_12 := zdne (x := i2_8) (y := i2_12)
            have di2_8i2_13 := zdne (x := i2_8) (y := i2_13)
            have di2_12i2_13 := zdne (x := i2_12) (y := i2_13)
            have fL2 := (And.intro h2_15 (And.intro h2_6 (And.intro b2_6 (And.intro h2_7 (And.intro b2_7 (And.intro h2_8 (And.intro b2_8 (And.intro h2_12 (And.intro b2_12 (And.intro h2_13 (And.intro b2_13 (And.intro ni2_6 (And.intro ni2_7 (And.intro ni2_8 (And.intro ni2_12 (And.intro ni2_13 (And.intro di2_6i2_7 (And.intro di2_6i2_8 (And.intro di2_6i2_12 (And.intro di2_6i2_13 (And.intro di2_7i2_8 (And.intro di2_7i2_12 (And.intro di2_7i2_13 (And.intro di2_8i2_12 (And.intro di2_8i2_13 di2_12i2_13)))))))))))))))))))))))))
            · have v3 := blL_len (b := b) (s := (blL b s0 ((p.length : Int) + 1) ((m.getD 0 []).length - 1)).2) (n := (p.length : Int) + 2) (k := j)
              by_cases g2 : j < m.length - 1
              · have cE1 := @spec_l1New_c; have cE2 := @spec_FindGrid_c; have cE3 := trivial
                refine dEa fL2 ?_
                all_goals try (refine zlf ?_; repeat' first | exact zso | refine And.intro ?_ ?_ | (refine zim ?_; intro zb hc) | (refine zin ?_; intro zb) | intro j')
                all_goals try refine zbx ?_
                focus
                  refine q_lp_n ((fun (j : Nat) => m.length - 1 - j) (j+1)) (dC fL2 ?_) ⟨j+1, dC fL2 ?_⟩
                  all_goals try (refine zlf ?_; repeat' first | exact zso | refine And.intro ?_ ?_ | (refine zim ?_; intro zb hc) | (refine zin ?_; intro zb) | intro j')
                  all_goals try refine zbx ?_
                all_goals first | rfl | (rw [blL]; simp; done) | trace_state
              · obtain rfl : j = m.length - 1 := by omega
                have cE1 := @spec_l1New_c; have cE2 := @spec_FindGrid_c; have cE3 := trivial
                refine dEa fL2 ?_
                all_goals try (refine zlf ?_; repeat' first | exact zso | refine And.intro ?_ ?_ | (refine zim ?_; intro zb hc) | (refine zin ?_; intro zb) | intro j')
                all_goals try refine zbx ?_
                all_goals first | exact dj4 (by omega) | trace_state
            all_goals first | rfl | trace_state
        · have hz : m = [] := List.eq_nil_of_length_eq_zero (by omega)
          have k0 : k = 0 := by rw [hz] at c1_0; simpa using c1_0
          have kz : (m.getD 0 []).length - 1 = 0 := by rw [hz]; rfl
          subst k0
          rw [kz]
          have cE1 := @spec_l1New_c; have cE2 := @spec_FindGrid_c; have cE3 := trivial
          refine dEa fL1 ?_
          all_goals try (refine zlf ?_; repeat' first | exact zso | refine And.intro ?_ ?_ | (refine zim ?_; intro zb hc) | (refine zin ?_; intro zb) | intro j')
          all_goals try refine zbx ?_
          refine v_loopB (fun ms2 S2 => ∃ (j : Nat), OwnL (S2.e 6) S2.h S2.n (PV.int .i64) ((p).length) (p) ∧ DwnL (S2.e 7) S2.h S2.n (PV.int .i64) ((m).length) (m) ∧ PtrL (S2.e 8) S2.h S2.n (.live false (curC b (blL b (blL b s0 ((p.length : Int) + 1) 0).2 ((p.length : Int) + 2) j).2)) ∧ OwnL (S2.e 12) S2.h S2.n (PV.int .i64) (((blL b s0 ((p.length : Int) + 1) 0).1).length) ((blL b s0 ((p.length : Int) + 1) 0).1) ∧ OwnL (S2.e 13) S2.h S2.n (PV.int .i64) (((blL b (blL b s0 ((p.length : Int) + 1) 0).2 ((p.length : Int) + 2) j).1).length) ((blL b (blL b s0 ((p.length : Int) + 1) 0).2 ((p.length : Int) + 2) j).1) ∧ S2.e 15 = .p (.int .i64 ((j+1))) ∧ (j ≤ m.length - 1) ∧ NId (S2.e 7) (S2.e 6) ∧ NId (asR (S2.e 8)) (S2.e 6) ∧ NId (asR (S2.e 8)) (S2.e 7) ∧ NId (S2.e 12) (S2.e 6) ∧ NId (S2.e 12) (S2.e 7) ∧ NId (S2.e 12) (asR (S2.e 8)) ∧ NId (S2.e 13) (S2.e 6) ∧ NId (S2.e 13) (S2.e 7) ∧ NId (S2.e 13) (asR (S2.e 8)) ∧ NId (S2.e 13) (S2.e 12) ∧ S1.n ≤ S2.n ∧ ms2 = m.length - 1 - j) ((fun (j : Nat) => m.length - 1 - j) (0)) ?_ ⟨0, dC fL1 ?_⟩
          all_goals try (refine zlf ?_; repeat' first | exact zso | refine And.intro ?_ ?_ | (refine zim ?_; intro zb hc) | (refine zin ?_; intro zb) | intro j')
          all_goals try refine zbx ?_
          rintro ms2 S2 ⟨j, o2_6, o2_7, o2_8, o2_12, o2_13, h2_15, c2_0, u2_0, u2_1, u2_2, u2_3, u2_4, u2_5, u2_6, u2_7, u2_8, u2_9, u2_10, hm2⟩
          obtain ⟨i2_6, h2_6, b2_6, l2_6⟩ := o2_6.out
          obtain ⟨i2_7, h2_7, b2_7, l2_7⟩ := o2_7.out
          obtain ⟨i2_8, h2_8, b2_8, l2_8⟩ := o2_8.out
          obtain ⟨i2_12, h2_12, b2_12, l2_12⟩ := o2_12.out
          obtain ⟨i2_13, h2_13, b2_13, l2_13⟩ := o2_13.out
          have k2_0 := (u2_0).out h2_7 h2_6
          have k2_1 := (u2_1).out (asR_eq h2_8) h2_6
          have k2_2 := (u2_2).out (asR_eq h2_8) h2_7
          have k2_3 := (u2_3).out h2_12 h2_6
          have k2_4 := (u2_4).out h2_12 h2_7
          have k2_5 := (u2_5).out h2_12 (asR_eq h2_8)
          have k2_6 := (u2_6).out h2_13 h2_6
          have k2_7 := (u2_7).out h2_13 h2_7
          have k2_8 := (u2_8).out h2_13 (asR_eq h2_8)
          have k2_9 := (u2_9).out h2_13 h2_12
          have ni2_6 := znds (x := i2_6) (n := S2.n)
          have ni2_7 := znds (x := i2_7) (n := S2.n)
          have ni2_8 := znds (x := i2_8) (n := S2.n)
          have ni2_12 := znds (x := i2_12) (n := S2.n)
          have ni2_13 := znds (x := i2_13) (n := S2.n)
          have di2_6i2_7 := zdne (x := i2_6) (y := i2_7)
          have di2_6i2_8 := zdne (x := i2_6) (y := i2_8)
          have di2_6i2_12 := zdne (x := i2_6) (y := i2_12)
          have di2_6i2_13 := zdne (x := i2_6) (y := i2_13)
          have di2_7i2_8 := zdne (x := i2_7) (y := i2_8)
          have di2_7i2_12 := zdne (x := i2_7) (y := i2_12)
          have di2_7i2_13 := zdne (x := i2_7) (y := i2_13)
          have di2_8i2_12 := zdne (x := i2_8) (y := i2_12)
          have di2_8i2_13 := zdne (x := i2_8) (y := i2_13)
          have di2_12i2_13 := zdne (x := i2_12) (y := i2_13)
          have fL2 := (And.intro h2_15 (And.intro h2_6 (And.intro b2_6 (And.intro h2_7 (And.intro b2_7 (And.intro h2_8 (And.intro b2_8 (And.intro h2_12 (And.intro b2_12 (And.intro h2_13 (And.intro b2_13 (And.intro ni2_6 (And.intro ni2_7 (And.intro ni2_8 (And.intro ni2_12 (And.intro ni2_13 (And.intro di2_6i2_7 (And.intro di2_6i2_8 (And.intro di2_6i2_12 (And.intro di2_6i2_13 (And.intro di2_7i2_8 (And.intro di2_7i2_12 (And.intro di2_7i2_13 (And.intro di2_8i2_12 (And.intro di2_8i2_13 di2_12i2_13)))))))))))))))))))))))))
          · have v3 := blL_len (b := b) (s := (blL b s0 ((p.length : Int) + 1) 0).2) (n := (p.length : Int) + 2) (k := j)
            by_cases g2 : j < m.length - 1
            · exfalso; rw [hz] at g2; simp at g2
            · obtain rfl : j = m.length - 1 := by omega
              have cE1 := @spec_l1New_c; have cE2 := @spec_FindGrid_c; have cE3 := trivial
              refine dEa fL2 ?_
              all_goals try (refine zlf ?_; repeat' first | exact zso | refine And.intro ?_ ?_ | (refine zim ?_; intro zb hc) | (refine zin ?_; intro zb) | intro j')
              all_goals try refine zbx ?_
              all_goals first | exact dj4 (by omega) | trace_state
          all_goals first | rfl | trace_state
        all_goals first | exact m2 | trace_state
    all_goals first | exact m2 | trace_state
