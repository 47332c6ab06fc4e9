/-
  The law of grids. Conditions: none.
-/
import Derived.Test.YtknmheddofilbaaDrawG2
import Derived.Test.YtknmheddofilbaaGrdL
set_option linter.unusedSimpArgs false
set_option linter.unusedVariables false
set_option maxRecDepth 20000
set_option linter.unusedSectionVars false
namespace Go.Gl
open Go Go.Proofs
variable [Amb]
theorem dsI {a : List Int} : decide (a = a) = true := by simp
theorem dsL {a : List (List Int)} : decide (a = a) = true := by simp
theorem bsB {a : Bool} : (a == a) = true := by simp
theorem gcB_len {m : List (List Int)} {n : Int} : (gcB m n).length ≤ 1048576 := by
  unfold gcB; split
  · rw [gcL_len]; omega
  · simp
set_option maxHeartbeats 8000000 in
theorem laws_FnGrids_c (b : List UInt8) : Fun Try.prog 3 [(.sl (.lent false) (List.map u8P (b)))] [(.bool (true))] := by
  by_cases hs : b.length ≤ 1048576
  · obtain ⟨p, m, d1, hp, hm⟩ := spec_DrawFindGrid_x b hs
    obtain ⟨q, g, x, y, d2, hq, hg, hx, hy⟩ := spec_DrawFitsGrid_x b hs
    obtain ⟨u, n, d3, hu, hn0, hn1⟩ := spec_DrawGridCounts_x b hs
    have p1 := hp.len
    have q1 := hq.len
    have m1 := hm.len
    have g1 := hg.len
    have u1 := hu.len
    have m2 : ∀ l ∈ m, l.length ≤ 1048576 := fun l h => by have := hm.row l h; omega
    have g2 : ∀ l ∈ g, l.length ≤ 1048576 := fun l h => by have := hg.row l h; omega
    have u2 : ∀ l ∈ u, l.length ≤ 1048576 := fun l h => by have := hu.row l h; omega
    have m3 : ∀ l ∈ m, l.length ≤ 1099511627776 := fun l h => by have := m2 l h; omega
    have fl : (fndB p m).1.1.length ≤ 1048576 ∧ (fndB p m).1.2.length ≤ 1048576 := by
      unfold fndB
      split
      · rename_i h
        simp only [Bool.and_eq_true] at h
        have := fndG_len h.1 h.2; omega
      · simp
    have gl := gcB_len (m := u) (n := n)
    have tl : (tgL m).length ≤ 3 ∧ ∀ l ∈ tgL m, l.length ≤ 1048576 := by
      unfold tgL
      split
      · rename_i h
        obtain ⟨w1, w2, w3, w4, w5⟩ := grid_facts h
        refine ⟨by simp; omega, fun l hl => ?_⟩
        obtain ⟨i, _, rfl⟩ := List.mem_map.1 hl
        simp [tgR]; omega
      · simp
    have lo : ∀ l ∈ lowL p, l.length ≤ 1048576 := fun l h => by
      obtain ⟨k, hk, rfl⟩ := low_mem h
      rw [woL_len hk]; omega
    have ll := lowL_len (p := p)
    by_cases hf : (fndB p m).2 = true
    · obtain ⟨hq1, hg1, hfit⟩ := fit_found hf
      have ft : (fndB (inv p) (tgL m)).2 = true := (turn_same hq1 hg1).trans hf
      have il : (inv p).length ≤ 9 := by rw [inv_len]; omega
      refine fO sg0 [2] Try.func3 ?_
      have cE1 := @laws_big_c; have cE2 := @impl_FindGrid_c; have cE3 := @spec_FindGrid_c; have cE4 := @impl_TurnGrid_c; have cE5 := @spec_TurnGrid_c; have cE6 := @laws_sameInts_c
      have cE7 := @impl_FitsGrid_c; have cE8 := @spec_FitsGrid_c; have cE9 := @impl_GridCounts_c; have cE10 := @spec_GridCounts_c; have cE11 := @laws_sameLists_c; have cE12 := @impl_IsGrid_c
      have cE13 := @spec_IsGrid_c; have cE14 := @spec_LowersOf_c; have cE15 := @spec_IsPerm_c; have cE16 := @spec_InversePerm_c
      have cE1 := @d1; have cE2 := @d2; have cE3 := @d3; have cE4 := @laws_big_c; have cE5 := @impl_FindGrid_c; have cE6 := @spec_FindGrid_c
      have cE7 := @impl_TurnGrid_c; have cE8 := @spec_TurnGrid_c; have cE9 := @laws_sameInts_c; have cE10 := @impl_FitsGrid_c; have cE11 := @spec_FitsGrid_c; have cE12 := @impl_GridCounts_c
      have cE13 := @spec_GridCounts_c; have cE14 := @laws_sameLists_c; have cE15 := @impl_IsGrid_c; have cE16 := @spec_IsGrid_c; have cE17 := @spec_LowersOf_c; have cE18 := @spec_IsPerm_c
      have cE19 := @spec_InversePerm_c
      refine dEa (And.intro @dsI (And.intro @dsL (And.intro @bsB (And.intro @hf (And.intro @hfit (And.intro @hq1 @hg1)))))) ?_
      all_goals try (refine zlf ?_; repeat' first | exact zso | refine And.intro ?_ ?_ | (refine zim ?_; intro zb hc) | (refine zin ?_; intro zb) | intro j')
      all_goals try refine zbx ?_
      all_goals try first | exact m2 | exact g2 | exact u2 | exact m3 | exact fl.1 | exact fl.2 | exact tl.2
      refine v_loopB (fun ms1 S1 => ∃ (k : Nat), OwnL (S1.e 3) S1.h S1.n (PV.int .i64) ((p).length) (p) ∧ DwnL (S1.e 4) S1.h S1.n (PV.int .i64) ((m).length) (m) ∧ S1.e 7 = .p (.bool (true)) ∧ DwnL (S1.e 17) S1.h S1.n (PV.int .i64) ((tgL m).length) (tgL m) ∧ S1.e 18 = .p (.bool (true)) ∧ OwnL (S1.e 21) S1.h S1.n (elI false) ((lowL p).length) (lowL p) ∧ S1.e 22 = .p (.int .i64 (k)) ∧ (k ≤ (lowL p).length) ∧ NId (S1.e 4) (S1.e 3) ∧ NId (S1.e 17) (S1.e 3) ∧ NId (S1.e 17) (S1.e 4) ∧ NId (S1.e 21) (S1.e 3) ∧ NId (S1.e 21) (S1.e 4) ∧ NId (S1.e 21) (S1.e 17) ∧ ms1 = (lowL p).length - k) ((fun (k : Nat) => (lowL p).length - k) (0)) ?_ ⟨0, dC trivial ?_⟩
      all_goals try (refine zlf ?_; repeat' first | exact zso | refine And.intro ?_ ?_ | (refine zim ?_; intro zb hc) | (refine zin ?_; intro zb) | intro j')
      all_goals try refine zbx ?_
      rintro ms1 S1 ⟨k, o1_3, o1_4, h1_7, o1_17, h1_18, o1_21, h1_22, c1_0, u1_0, u1_1, u1_2, u1_3, u1_4, u1_5, hm1⟩
      obtain ⟨i1_3, h1_3, b1_3, l1_3⟩ := o1_3.out
      obtain ⟨i1_4, h1_4, b1_4, l1_4⟩ := o1_4.out
      obtain ⟨i1_17, h1_17, b1_17, l1_17⟩ := o1_17.out
      obtain ⟨i1_21, h1_21, b1_21, l1_21⟩ := o1_21.out
      have k1_0 := (u1_0).out h1_4 h1_3
      have k1_1 := (u1_1).out h1_17 h1_3
      have k1_2 := (u1_2).out h1_17 h1_4
      have k1_3 := (u1_3).out h1_21 h1_3
      have k1_4 := (u1_4).out h1_21 h1_4
      have k1_5 := (u1_5).out h1_21 h1_17
      have ni1_3 := znds (x := i1_3) (n := S1.n)
      have ni1_4 := znds (x := i1_4) (n := S1.n)
      have ni1_17 := znds (x := i1_17) (n := S1.n)
      have ni1_21 := znds (x := i1_21) (n := S1.n)
      have di1_3i1_4 := zdne (x := i1_3) (y := i1_4)
      have di1_3i1_17 := zdne (x := i1_3) (y := i1_17)
      have di1_3i1_21 := zdne (x := i1_3) (y := i1_21)
      have di1_4i1_17 := zdne (x := i1_4) (y := i1_17)
      have di1_4i1_21 := zdne (x := i1_4) (y := i1_21)
      have di1_17i1_21 := zdne (x := i1_17) (y := i1_21)
      have fL1 := (And.intro h1_7 (And.intro h1_18 (And.intro h1_22 (And.intro h1_3 (And.intro b1_3 (And.intro h1_4 (And.intro b1_4 (And.intro h1_17 (And.intro b1_17 (And.intro h1_21 (And.intro b1_21 (And.intro ni1_3 (And.intro ni1_4 (And.intro ni1_17 (And.intro ni1_21 (And.intro di1_3i1_4 (And.intro di1_3i1_17 (And.intro di1_3i1_21 (And.intro di1_4i1_17 (And.intro di1_4i1_21 di1_17i1_21))))))))))))))))))))
      · by_cases g0 : k < (lowL p).length
        · have w1 := getD_mem (d := []) g0
          have w2 := low_fit hf w1
          have w3 := lo _ w1
          have cE1 := @laws_big_c; have cE2 := @impl_FindGrid_c; have cE3 := @spec_FindGrid_c; have cE4 := @impl_TurnGrid_c; have cE5 := @spec_TurnGrid_c; have cE6 := @laws_sameInts_c
          have cE7 := @impl_FitsGrid_c; have cE8 := @spec_FitsGrid_c; have cE9 := @impl_GridCounts_c; have cE10 := @spec_GridCounts_c; have cE11 := @laws_sameLists_c; have cE12 := @impl_IsGrid_c
          have cE13 := @spec_IsGrid_c; have cE14 := @spec_LowersOf_c; have cE15 := @spec_IsPerm_c; have cE16 := @spec_InversePerm_c; have cE17 := trivial; have cE18 := trivial
          have cE19 := trivial
          refine dEa (And.intro fL1 @w2) ?_
          all_goals try (refine zlf ?_; repeat' first | exact zso | refine And.intro ?_ ?_ | (refine zim ?_; intro zb hc) | (refine zin ?_; intro zb) | intro j')
          all_goals try refine zbx ?_
          focus
            refine q_lp_n ((fun (k : Nat) => (lowL p).length - k) (k+1)) (dC fL1 ?_) ⟨k+1, dC fL1 ?_⟩
            all_goals try (refine zlf ?_; repeat' first | exact zso | refine And.intro ?_ ?_ | (refine zim ?_; intro zb hc) | (refine zin ?_; intro zb) | intro j')
            all_goals try refine zbx ?_
          all_goals first | rfl | exact m2 | exact g2 | exact u2 | exact m3 | exact fl.1 | exact fl.2 | exact tl.2 | trace_state
        · obtain rfl : k = (lowL p).length := by omega
          have cE1 := @laws_big_c; have cE2 := @impl_FindGrid_c; have cE3 := @spec_FindGrid_c; have cE4 := @impl_TurnGrid_c; have cE5 := @spec_TurnGrid_c; have cE6 := @laws_sameInts_c
          have cE7 := @impl_FitsGrid_c; have cE8 := @spec_FitsGrid_c; have cE9 := @impl_GridCounts_c; have cE10 := @spec_GridCounts_c; have cE11 := @laws_sameLists_c; have cE12 := @impl_IsGrid_c
          have cE13 := @spec_IsGrid_c; have cE14 := @spec_LowersOf_c; have cE15 := @spec_IsPerm_c; have cE16 := @spec_InversePerm_c; have cE17 := trivial; have cE18 := trivial
          have cE19 := trivial
          refine dEa (And.intro fL1 (And.intro @hq1 @ft)) ?_
          all_goals try (refine zlf ?_; repeat' first | exact zso | refine And.intro ?_ ?_ | (refine zim ?_; intro zb hc) | (refine zin ?_; intro zb) | intro j')
          all_goals try refine zbx ?_
          all_goals first | rfl | exact m2 | exact g2 | exact u2 | exact m3 | exact fl.1 | exact fl.2 | exact tl.2 | trace_state
      all_goals first | rfl | exact m2 | exact g2 | exact u2 | exact m3 | exact fl.1 | exact fl.2 | exact tl.2 | trace_state
    · rw [Bool.not_eq_true] at hf
      by_cases hg1 : gridB m = true
      · by_cases hq1 : isPermB p = true
        · have ft : (fndB (inv p) (tgL m)).2 = false := (turn_same hq1 hg1).trans hf
          have il : (inv p).length ≤ 9 := by rw [inv_len]; omega
          refine fO sg0 [2] Try.func3 ?_
          have cE1 := @laws_big_c; have cE2 := @impl_FindGrid_c; have cE3 := @spec_FindGrid_c; have cE4 := @impl_TurnGrid_c; have cE5 := @spec_TurnGrid_c; have cE6 := @laws_sameInts_c
          have cE7 := @impl_FitsGrid_c; have cE8 := @spec_FitsGrid_c; have cE9 := @impl_GridCounts_c; have cE10 := @spec_GridCounts_c; have cE11 := @laws_sameLists_c; have cE12 := @impl_IsGrid_c
          have cE13 := @spec_IsGrid_c; have cE14 := @spec_LowersOf_c; have cE15 := @spec_IsPerm_c; have cE16 := @spec_InversePerm_c
          have cE1 := @d1; have cE2 := @d2; have cE3 := @d3; have cE4 := @laws_big_c; have cE5 := @impl_FindGrid_c; have cE6 := @spec_FindGrid_c
          have cE7 := @impl_TurnGrid_c; have cE8 := @spec_TurnGrid_c; have cE9 := @laws_sameInts_c; have cE10 := @impl_FitsGrid_c; have cE11 := @spec_FitsGrid_c; have cE12 := @impl_GridCounts_c
          have cE13 := @spec_GridCounts_c; have cE14 := @laws_sameLists_c; have cE15 := @impl_IsGrid_c; have cE16 := @spec_IsGrid_c; have cE17 := @spec_LowersOf_c; have cE18 := @spec_IsPerm_c
          have cE19 := @spec_InversePerm_c
          refine dEa (And.intro @dsI (And.intro @dsL (And.intro @bsB (And.intro @hf (And.intro @hq1 (And.intro @hg1 @ft)))))) ?_
          all_goals try (refine zlf ?_; repeat' first | exact zso | refine And.intro ?_ ?_ | (refine zim ?_; intro zb hc) | (refine zin ?_; intro zb) | intro j')
          all_goals try refine zbx ?_
          all_goals first | rfl | exact m2 | exact g2 | exact u2 | exact m3 | exact fl.1 | exact fl.2 | exact tl.2 | trace_state
        · rw [Bool.not_eq_true] at hq1
          refine fO sg0 [2] Try.func3 ?_
          have cE1 := @laws_big_c; have cE2 := @impl_FindGrid_c; have cE3 := @spec_FindGrid_c; have cE4 := @impl_TurnGrid_c; have cE5 := @spec_TurnGrid_c; have cE6 := @laws_sameInts_c
          have cE7 := @impl_FitsGrid_c; have cE8 := @spec_FitsGrid_c; have cE9 := @impl_GridCounts_c; have cE10 := @spec_GridCounts_c; have cE11 := @laws_sameLists_c; have cE12 := @impl_IsGrid_c
          have cE13 := @spec_IsGrid_c; have cE14 := @spec_LowersOf_c; have cE15 := @spec_IsPerm_c; have cE16 := @spec_InversePerm_c
          have cE1 := @d1; have cE2 := @d2; have cE3 := @d3; have cE4 := @laws_big_c; have cE5 := @impl_FindGrid_c; have cE6 := @spec_FindGrid_c
          have cE7 := @impl_TurnGrid_c; have cE8 := @spec_TurnGrid_c; have cE9 := @laws_sameInts_c; have cE10 := @impl_FitsGrid_c; have cE11 := @spec_FitsGrid_c; have cE12 := @impl_GridCounts_c
          have cE13 := @spec_GridCounts_c; have cE14 := @laws_sameLists_c; have cE15 := @impl_IsGrid_c; have cE16 := @spec_IsGrid_c; have cE17 := @spec_LowersOf_c; have cE18 := @spec_IsPerm_c
          have cE19 := @spec_InversePerm_c
          refine dEa (And.intro @dsI (And.intro @dsL (And.intro @bsB (And.intro @hf (And.intro @hq1 @hg1))))) ?_
          all_goals try (refine zlf ?_; repeat' first | exact zso | refine And.intro ?_ ?_ | (refine zim ?_; intro zb hc) | (refine zin ?_; intro zb) | intro j')
          all_goals try refine zbx ?_
          all_goals first | rfl | exact m2 | exact g2 | exact u2 | exact m3 | exact fl.1 | exact fl.2 | exact tl.2 | trace_state
      · rw [Bool.not_eq_true] at hg1
        refine fO sg0 [2] Try.func3 ?_
        have cE1 := @laws_big_c; have cE2 := @impl_FindGrid_c; have cE3 := @spec_FindGrid_c; have cE4 := @impl_TurnGrid_c; have cE5 := @spec_TurnGrid_c; have cE6 := @laws_sameInts_c
        have cE7 := @impl_FitsGrid_c; have cE8 := @spec_FitsGrid_c; have cE9 := @impl_GridCounts_c; have cE10 := @spec_GridCounts_c; have cE11 := @laws_sameLists_c; have cE12 := @impl_IsGrid_c
        have cE13 := @spec_IsGrid_c; have cE14 := @spec_LowersOf_c; have cE15 := @spec_IsPerm_c; have cE16 := @spec_InversePerm_c
        have cE1 := @d1; have cE2 := @d2; have cE3 := @d3; have cE4 := @laws_big_c; have cE5 := @impl_FindGrid_c; have cE6 := @spec_FindGrid_c
        have cE7 := @impl_TurnGrid_c; have cE8 := @spec_TurnGrid_c; have cE9 := @laws_sameInts_c; have cE10 := @impl_FitsGrid_c; have cE11 := @spec_FitsGrid_c; have cE12 := @impl_GridCounts_c
        have cE13 := @spec_GridCounts_c; have cE14 := @laws_sameLists_c; have cE15 := @impl_IsGrid_c; have cE16 := @spec_IsGrid_c; have cE17 := @spec_LowersOf_c; have cE18 := @spec_IsPerm_c
        have cE19 := @spec_InversePerm_c
        refine dEa (And.intro @dsI (And.intro @dsL (And.intro @bsB (And.intro @hf @hg1)))) ?_
        all_goals try (refine zlf ?_; repeat' first | exact zso | refine And.intro ?_ ?_ | (refine zim ?_; intro zb hc) | (refine zin ?_; intro zb) | intro j')
        all_goals try refine zbx ?_
        all_goals first | rfl | exact m2 | exact g2 | exact u2 | exact m3 | exact fl.1 | exact fl.2 | exact tl.2 | trace_state
  · refine fO sg0 [2] Try.func3 ?_
    have cE1 := @laws_big_c; have cE2 := @impl_FindGrid_c; have cE3 := @spec_FindGrid_c; have cE4 := @impl_TurnGrid_c; have cE5 := @spec_TurnGrid_c; have cE6 := @laws_sameInts_c
    have cE7 := @impl_FitsGrid_c; have cE8 := @spec_FitsGrid_c; have cE9 := @impl_GridCounts_c; have cE10 := @spec_GridCounts_c; have cE11 := @laws_sameLists_c; have cE12 := @impl_IsGrid_c
    have cE13 := @spec_IsGrid_c; have cE14 := @spec_LowersOf_c; have cE15 := @spec_IsPerm_c; have cE16 := @spec_InversePerm_c
    have c1 : decide ((1048576 : Int) < b.length) = true := decide_eq_true (by omega)
    refine dE @c1 ?_
    all_goals try (refine zlf ?_; repeat' first | exact zso | refine And.intro ?_ ?_ | (refine zim ?_; intro zb hc) | (refine zin ?_; intro zb) | intro j')
    all_goals try refine zbx ?_
end Go.Gl
