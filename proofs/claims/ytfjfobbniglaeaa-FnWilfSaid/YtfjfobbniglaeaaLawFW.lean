/-
  The law of groups. Conditions: none.
-/
import Derived.Test.YtfjfobbniglaeaaWlf3
import Derived.Test.YtfjfobbniglaeaaWlfD
import Derived.Test.YtfjfobbniglaeaaSamL
set_option linter.unusedSimpArgs false
set_option linter.unusedVariables false
set_option maxRecDepth 20000
set_option linter.unusedSectionVars false
namespace Go.Gl
open Go Go.Proofs
variable [Amb]
/-- How many the first groups hold. -/
def sumG (G : List (List (List Int))) (i : Nat) : Int := (((G.take i).map List.length).sum : Nat)
theorem sumG_0 {G : List (List (List Int))} : sumG G 0 = 0 := rfl
theorem sumG_succ {G : List (List (List Int))} {i : Nat} (h : i < G.length) : sumG G (i + 1) = sumG G i + (G.getD i []).length := by
  rw [sumG, sumG, take_getD (d := []) h, List.map_append, List.sum_append]; simp
theorem sumG_b {G : List (List (List Int))} (h : ∀ g ∈ G, g.length ≤ 24) : ∀ {i : Nat}, i ≤ G.length → 0 ≤ sumG G i ∧ sumG G i ≤ 24 * i
  | 0, _ => by rw [sumG_0]; omega
  | i + 1, hi => by
    have h1 := sumG_b h (i := i) (by omega)
    have h2 := h _ (getD_mem (d := []) (show i < G.length by omega))
    rw [sumG_succ (by omega)]; omega
theorem fac_few : ∀ K, K < 5 → 1 ≤ K → ([0, 1, 2, 6, 24].getD K 0 : Nat) = facR (K : Nat) := by decide +kernel
theorem wgR_ok {k n : Int} (hn : 0 ≤ n ∧ n ≤ 5 ∨ n = 7) : (wgR k n).length ≤ 24 ∧ (∀ g ∈ wgR k n, g.length ≤ 24 ∧ ∀ p ∈ g, isPermB p = true ∧ g.contains p.reverse = true ∧ g.contains (cplL p) = true) ∧
    (0 < (wgR k n).length → sumG (wgR k n) (wgR k n).length = facR k) ∧ (k = 3 → (wgR k n).length ≤ 1) := by
  by_cases h : 1 ≤ k ∧ k ≤ 4 ∧ 0 ≤ n ∧ n ≤ 6
  · obtain ⟨K, rfl⟩ := Int.eq_ofNat_of_zero_le (show 0 ≤ k by omega)
    have e : wgR (K : Nat) n = wgL K n := if_pos h
    have h1 := wg_ok (k := K) (n := n) (by omega) (by omega) (by omega) (by omega)
    have h2 := few_perms K (by omega)
    obtain ⟨_, l2, l3⟩ := wgS_len (n := n) (L := permL K) (j := (permL K).length)
    rw [e]
    simp only [wgK, Bool.and_eq_true, decide_eq_true_eq, List.all_eq_true, Bool.or_eq_true] at h1
    obtain ⟨⟨⟨h3, h4⟩, h5⟩, h6⟩ := h1
    refine ⟨Nat.le_trans l2 h2, fun g hg => ⟨Nat.le_trans (l3 g hg) h2, fun p hp => ?_⟩, fun _ => ?_, fun e3 => ?_⟩
    · have := h3 g hg p hp
      exact ⟨this.2, this.1.1, this.1.2⟩
    · rw [sumG, List.take_of_length_le (Nat.le_refl _), h4]
      exact fac_few K (by omega) (by omega)
    · rcases h5 with h5 | h5
      · exact absurd (show K = 3 by omega) h5
      · exact h5
  · have e : wgR k n = [] := if_neg h
    rw [e]; simp
theorem cat_B {x : Int} (h1 : 1 ≤ x) (h5 : x ≤ 5) : catR x = ((classB [[2, 3, 1]] x).length : Int) := by
  obtain ⟨X, rfl⟩ := Int.eq_ofNat_of_zero_le (show 0 ≤ x by omega)
  rw [classB, if_pos ⟨cat_bas.1, by omega, by omega⟩, Int.toNat_natCast]
  exact cat_cls X (by omega) (by omega)
theorem sr_B {y : Int} (h0 : 0 ≤ y) (h4 : y ≤ 4) : srR y = ((classB [[2, 4, 1, 3], [3, 1, 4, 2]] (y + 1)).length : Int) := by
  obtain ⟨Y, rfl⟩ := Int.eq_ofNat_of_zero_le h0
  rw [classB, if_pos ⟨cat_bas.2, by omega, by omega⟩, show ((Y : Int) + 1).toNat = Y + 1 by omega]
  exact sr_cls Y (by omega)
theorem classB_len {L : List (List Int)} {n : Int} : (classB L n).length ≤ 8 ^ 8 := by
  unfold classB; split
  · exact class_len (by omega)
  · simp
set_option maxHeartbeats 8000000 in
theorem laws_FnWilf_c (b : List UInt8) : Fun Try.prog 6 [(.sl (.lent false) (List.map u8P (b)))] [(.bool (true))] := by
  by_cases hs : b.length ≤ 1048576
  · obtain ⟨a, c, n, d1, ⟨a1, a2⟩, c1, c2⟩ := spec_DrawAreWilfLike_x b hs
    obtain ⟨k, m, d2, k0, k5, hm⟩ := spec_DrawWilfGroups_x b hs
    obtain ⟨x, d3, x0, x1⟩ := spec_DrawCatalanNumber_x b hs
    obtain ⟨y, d4, y0, y1⟩ := spec_DrawSchroederNumber_x b hs
    obtain ⟨z, d5, z0, z1⟩ := spec_DrawFibonacciNumber_x b hs
    obtain ⟨L, l, d6, L1, L2⟩ := spec_DrawKnownCounts_x b hs
    obtain ⟨g1, g2, g3, g4⟩ := wgR_ok (k := k) (n := m) hm
    have w1 := impl_WilfGroups_c k m
    have w2 := spec_WilfGroups_c k m
    generalize wgR k m = G at *
    have o1 := fun m0 : Bool => spec_ClassOf_c (m0 := m0) (e0 := false) [[2, 3, 1]] x (by simp) (by simp)
    have o2 := fun m0 : Bool => spec_ClassOf_c (m0 := m0) (e0 := false) [[2, 4, 1, 3], [3, 1, 4, 2]] (y + 1) (by simp) (by simp)
    simp only [List.map_cons, List.map_nil, elI_eq] at o1 o2
    have s1 := classB_len (L := [[2, 3, 1]]) (n := x)
    have s2 := classB_len (L := [[2, 4, 1, 3], [3, 1, 4, 2]]) (n := y + 1)
    refine fO sg0 [2] Try.func6 ?_
    have cE1 := @laws_big_c; have cE2 := @impl_WilfGroups_c; have cE3 := @spec_WilfGroups_c; have cE4 := @impl_CatalanNumber_c; have cE5 := @spec_CatalanNumber_c; have cE6 := @impl_SchroederNumber_c
    have cE7 := @spec_SchroederNumber_c; have cE8 := @impl_FibonacciNumber_c; have cE9 := @spec_FibonacciNumber_c; have cE10 := @spec_FactorialOf_c; have cE11 := @impl_AreWilfLike_c; have cE12 := @spec_AreWilfLike_c
    have cE13 := @impl_KnownCounts_c; have cE14 := @spec_KnownCounts_c; have cE15 := @laws_sameLists_c; have cE16 := @spec_ReversePerm_c; have cE17 := @laws_hasList_c; have cE18 := @spec_ComplementPerm_c
    have cE19 := @spec_ClassOf_c; have cD1 := zdh [false, false, false, false, false, false, false, false, true, false] []; have cD2 := zdh [false, false, false, false, false, false, false, false, false, false, false, true, true, false, false, false, false, false, false, false, false, false, false, false, false, false, true, true, false, false] [(0, 11), (1, 11), (2, 11), (3, 11), (15, 26), (16, 26), (17, 26), (18, 26)]
    have cE1 := @d1; have cE2 := @d2; have cE3 := @d3; have cE4 := @d4; have cE5 := @d5; have cE6 := @d6
    have cE7 := @w1; have cE8 := @w2; have cE9 := @o1; have cE10 := @o2; have cE11 := @laws_big_c; have cE12 := @impl_WilfGroups_c
    have cE13 := @spec_WilfGroups_c; have cE14 := @impl_CatalanNumber_c; have cE15 := @spec_CatalanNumber_c; have cE16 := @impl_SchroederNumber_c; have cE17 := @spec_SchroederNumber_c; have cE18 := @impl_FibonacciNumber_c
    have cE19 := @spec_FibonacciNumber_c; have cE20 := @spec_FactorialOf_c; have cE21 := @impl_AreWilfLike_c; have cE22 := @spec_AreWilfLike_c; have cE23 := @impl_KnownCounts_c; have cE24 := @spec_KnownCounts_c
    have cE25 := @laws_sameLists_c; have cE26 := @spec_ReversePerm_c; have cE27 := @laws_hasList_c; have cE28 := @spec_ComplementPerm_c
    refine dEa (And.intro @strself (And.intro @dsI (And.intro @isI @bsB))) ?_
    all_goals try (refine zlf ?_; repeat' first | exact zso | refine And.intro ?_ ?_ | (refine zim ?_; intro zb hc) | (refine zin ?_; intro zb) | intro j')
    all_goals try refine zbx ?_
    refine v_loopB (fun ms1 S1 => ∃ (i : Nat), S1.e 6 = .p (.int .i64 (k)) ∧ DwnL (S1.e 8) S1.h S1.n (elI false) ((G).length) (G) ∧ DwnL (S1.e 9) S1.h S1.n (elI false) ((G).length) (G) ∧ S1.e 10 = .p (.int .i64 (x)) ∧ S1.e 11 = .p (.int .i64 (y)) ∧ S1.e 15 = .p (.int .i64 (sumG G i)) ∧ S1.e 16 = .p (.int .i64 (i)) ∧ (i ≤ G.length) ∧ NId (S1.e 9) (S1.e 8) ∧ ms1 = G.length - i) ((fun (i : Nat) => G.length - i) (0)) ?_ ⟨0, dC trivial ?_⟩
    all_goals try (refine zlf ?_; repeat' first | exact zso | refine And.intro ?_ ?_ | (refine zim ?_; intro zb hc) | (refine zin ?_; intro zb) | intro j')
    all_goals try refine zbx ?_
    rintro ms1 S1 ⟨i, h1_6, o1_8, o1_9, h1_10, h1_11, h1_15, h1_16, c1_0, u1_0, hm1⟩
    obtain ⟨i1_8, h1_8, b1_8, l1_8⟩ := o1_8.out
    obtain ⟨i1_9, h1_9, b1_9, l1_9⟩ := o1_9.out
    have k1_0 := (u1_0).out h1_9 h1_8
    have ni1_8 := znds (x := i1_8) (n := S1.n)
    have ni1_9 := znds (x := i1_9) (n := S1.n)
    have di1_8i1_9 := zdne (x := i1_8) (y := i1_9)
    have fL1 := (And.intro h1_6 (And.intro h1_10 (And.intro h1_11 (And.intro h1_15 (And.intro h1_16 (And.intro h1_8 (And.intro b1_8 (And.intro h1_9 (And.intro b1_9 (And.intro ni1_8 (And.intro ni1_9 di1_8i1_9)))))))))))
    · have e0 := sumG_b (fun g hg => (g2 g hg).1) c1_0
      by_cases hi : i < G.length
      · obtain ⟨e1, e2⟩ := g2 _ (getD_mem (d := []) hi)
        have e3 := sumG_succ hi
        generalize hg : G.getD i [] = g at *
        have e4 : ∀ p ∈ g, p.length ≤ 1099511627776 := fun p hp => by have := (isP_8 (e2 p hp).1).1; omega
        have cE1 := @laws_big_c; have cE2 := @impl_WilfGroups_c; have cE3 := @spec_WilfGroups_c; have cE4 := @impl_CatalanNumber_c; have cE5 := @spec_CatalanNumber_c; have cE6 := @impl_SchroederNumber_c
        have cE7 := @spec_SchroederNumber_c; have cE8 := @impl_FibonacciNumber_c; have cE9 := @spec_FibonacciNumber_c; have cE10 := @spec_FactorialOf_c; have cE11 := @impl_AreWilfLike_c; have cE12 := @spec_AreWilfLike_c
        have cE13 := @impl_KnownCounts_c; have cE14 := @spec_KnownCounts_c; have cE15 := @laws_sameLists_c; have cE16 := @spec_ReversePerm_c; have cE17 := @laws_hasList_c; have cE18 := @spec_ComplementPerm_c
        have cE19 := @spec_ClassOf_c; have cE20 := trivial; have cE21 := trivial; have cE22 := trivial; have cE23 := trivial; have cE24 := trivial
        have cE25 := trivial; have cE26 := trivial; have cE27 := trivial; have cE28 := trivial
        refine dEa (And.intro fL1 (And.intro @hg @dsL)) ?_
        all_goals try (refine zlf ?_; repeat' first | exact zso | refine And.intro ?_ ?_ | (refine zim ?_; intro zb hc) | (refine zin ?_; intro zb) | intro j')
        all_goals try refine zbx ?_
        all_goals try exact e4
        refine v_loopB (fun ms2 S2 => ∃ (j : Nat), S2.e 6 = .p (.int .i64 (k)) ∧ DwnL (S2.e 8) S2.h S2.n (elI false) ((G).length) (G) ∧ DwnL (S2.e 9) S2.h S2.n (elI false) ((G).length) (G) ∧ S2.e 10 = .p (.int .i64 (x)) ∧ S2.e 11 = .p (.int .i64 (y)) ∧ S2.e 15 = .p (.int .i64 (sumG G (i + 1))) ∧ S2.e 16 = .p (.int .i64 (i)) ∧ S2.e 17 = .p (.int .i64 (j)) ∧ (j ≤ g.length) ∧ NId (S2.e 9) (S2.e 8) ∧ S1.n ≤ S2.n ∧ ms2 = g.length - j) ((fun (j : Nat) => g.length - j) (0)) ?_ ⟨0, dC fL1 ?_⟩
        all_goals try (refine zlf ?_; repeat' first | exact zso | refine And.intro ?_ ?_ | (refine zim ?_; intro zb hc) | (refine zin ?_; intro zb) | intro j')
        all_goals try refine zbx ?_
        rintro ms2 S2 ⟨j, h2_6, o2_8, o2_9, h2_10, h2_11, h2_15, h2_16, h2_17, c2_0, u2_0, u2_1, hm2⟩
        obtain ⟨i2_8, h2_8, b2_8, l2_8⟩ := o2_8.out
        obtain ⟨i2_9, h2_9, b2_9, l2_9⟩ := o2_9.out
        have k2_0 := (u2_0).out h2_9 h2_8
        have ni2_8 := znds (x := i2_8) (n := S2.n)
        have ni2_9 := znds (x := i2_9) (n := S2.n)
        have di2_8i2_9 := zdne (x := i2_8) (y := i2_9)
        have fL2 := (And.intro h2_6 (And.intro h2_10 (And.intro h2_11 (And.intro h2_15 (And.intro h2_16 (And.intro h2_17 (And.intro h2_8 (And.intro b2_8 (And.intro h2_9 (And.intro b2_9 (And.intro ni2_8 (And.intro ni2_9 di2_8i2_9))))))))))))
        · by_cases hj : j < g.length
          · obtain ⟨e5, e6, e7⟩ := e2 _ (getD_mem (d := []) hj)
            have e8 := (isP_8 e5).1
            have e9 : (cplL (g.getD j [])).length ≤ 8 := by rw [cplL_len]; exact e8
            have e10 : (g.getD j []).reverse.length ≤ 8 := by rw [List.length_reverse]; exact e8
            have cE1 := @laws_big_c; have cE2 := @impl_WilfGroups_c; have cE3 := @spec_WilfGroups_c; have cE4 := @impl_CatalanNumber_c; have cE5 := @spec_CatalanNumber_c; have cE6 := @impl_SchroederNumber_c
            have cE7 := @spec_SchroederNumber_c; have cE8 := @impl_FibonacciNumber_c; have cE9 := @spec_FibonacciNumber_c; have cE10 := @spec_FactorialOf_c; have cE11 := @impl_AreWilfLike_c; have cE12 := @spec_AreWilfLike_c
            have cE13 := @impl_KnownCounts_c; have cE14 := @spec_KnownCounts_c; have cE15 := @laws_sameLists_c; have cE16 := @spec_ReversePerm_c; have cE17 := @laws_hasList_c; have cE18 := @spec_ComplementPerm_c
            have cE19 := @spec_ClassOf_c; have cE20 := trivial; have cE21 := trivial; have cE22 := trivial; have cE23 := trivial; have cE24 := trivial
            have cE25 := trivial; have cE26 := trivial; have cE27 := trivial; have cE28 := trivial
            refine dEa (And.intro fL2 (And.intro @hg (And.intro @e6 @e7))) ?_
            all_goals try (refine zlf ?_; repeat' first | exact zso | refine And.intro ?_ ?_ | (refine zim ?_; intro zb hc) | (refine zin ?_; intro zb) | intro j')
            all_goals try refine zbx ?_
            all_goals try exact e4
            focus
              refine q_lp_n ((fun (j : Nat) => g.length - j) (j+1)) (dC fL2 ?_) ⟨j+1, dC fL2 ?_⟩
              all_goals try (refine zlf ?_; repeat' first | exact zso | refine And.intro ?_ ?_ | (refine zim ?_; intro zb hc) | (refine zin ?_; intro zb) | intro j')
              all_goals try refine zbx ?_
          · obtain rfl : j = g.length := by omega
            have cE1 := @laws_big_c; have cE2 := @impl_WilfGroups_c; have cE3 := @spec_WilfGroups_c; have cE4 := @impl_CatalanNumber_c; have cE5 := @spec_CatalanNumber_c; have cE6 := @impl_SchroederNumber_c
            have cE7 := @spec_SchroederNumber_c; have cE8 := @impl_FibonacciNumber_c; have cE9 := @spec_FibonacciNumber_c; have cE10 := @spec_FactorialOf_c; have cE11 := @impl_AreWilfLike_c; have cE12 := @spec_AreWilfLike_c
            have cE13 := @impl_KnownCounts_c; have cE14 := @spec_KnownCounts_c; have cE15 := @laws_sameLists_c; have cE16 := @spec_ReversePerm_c; have cE17 := @laws_hasList_c; have cE18 := @spec_ComplementPerm_c
            have cE19 := @spec_ClassOf_c; have cE20 := trivial; have cE21 := trivial; have cE22 := trivial; have cE23 := trivial; have cE24 := trivial
            have cE25 := trivial; have cE26 := trivial; have cE27 := trivial; have cE28 := trivial
            refine dEa (And.intro fL2 @hg) ?_
            all_goals try (refine zlf ?_; repeat' first | exact zso | refine And.intro ?_ ?_ | (refine zim ?_; intro zb hc) | (refine zin ?_; intro zb) | intro j')
            all_goals try refine zbx ?_
            focus
              refine q_lp_n ((fun (i : Nat) => G.length - i) (i+1)) (dC fL2 ?_) ⟨i+1, dC fL2 ?_⟩
              all_goals try (refine zlf ?_; repeat' first | exact zso | refine And.intro ?_ ?_ | (refine zim ?_; intro zb hc) | (refine zin ?_; intro zb) | intro j')
              all_goals try refine zbx ?_
        all_goals first | (rw [e3]; done) | trace_state
      · obtain rfl : i = G.length := by omega
        have f1 : decide ((0 : Int) < (G.length : Int)) = true → sumG G G.length = facR k := fun h => g3 (by have := of_decide_eq_true h; omega)
        have f2 : decide (k = 3) = true → decide ((1 : Int) < (G.length : Int)) = false := fun h => decide_eq_false (by have := g4 (of_decide_eq_true h); omega)
        have f3 : decide (1 ≤ x) = true → decide (x ≤ 5) = true → catR x = ((classB [[2, 3, 1]] x).length : Int) := fun h1 h2 => cat_B (of_decide_eq_true h1) (of_decide_eq_true h2)
        have f4 : decide (y < 0) = false → decide (4 < y) = false → srR y = ((classB [[2, 4, 1, 3], [3, 1, 4, 2]] (y + 1)).length : Int) := fun h1 h2 => sr_B (by have := of_decide_eq_false h1; omega) (by have := of_decide_eq_false h2; omega)
        have cE1 := @w1; have cE2 := @w2; have cE3 := @o1; have cE4 := @o2; have cE5 := @laws_big_c; have cE6 := @impl_WilfGroups_c
        have cE7 := @spec_WilfGroups_c; have cE8 := @impl_CatalanNumber_c; have cE9 := @spec_CatalanNumber_c; have cE10 := @impl_SchroederNumber_c; have cE11 := @spec_SchroederNumber_c; have cE12 := @impl_FibonacciNumber_c
        have cE13 := @spec_FibonacciNumber_c; have cE14 := @spec_FactorialOf_c; have cE15 := @impl_AreWilfLike_c; have cE16 := @spec_AreWilfLike_c; have cE17 := @impl_KnownCounts_c; have cE18 := @spec_KnownCounts_c
        have cE19 := @laws_sameLists_c; have cE20 := @spec_ReversePerm_c; have cE21 := @laws_hasList_c; have cE22 := @spec_ComplementPerm_c; have cE23 := trivial; have cE24 := trivial
        have cE25 := trivial; have cE26 := trivial; have cE27 := trivial; have cE28 := trivial
        refine dEa (And.intro fL1 (And.intro @isI (And.intro @f1 (And.intro @f2 (And.intro @f3 @f4))))) ?_
        all_goals try (refine zlf ?_; repeat' first | exact zso | refine And.intro ?_ ?_ | (refine zim ?_; intro zb hc) | (refine zin ?_; intro zb) | intro j')
        all_goals try refine zbx ?_
        all_goals trace_state
    all_goals trace_state
  · refine fO sg0 [2] Try.func6 ?_
    have cE1 := @laws_big_c; have cE2 := @impl_WilfGroups_c; have cE3 := @spec_WilfGroups_c; have cE4 := @impl_CatalanNumber_c; have cE5 := @spec_CatalanNumber_c; have cE6 := @impl_SchroederNumber_c
    have cE7 := @spec_SchroederNumber_c; have cE8 := @impl_FibonacciNumber_c; have cE9 := @spec_FibonacciNumber_c; have cE10 := @spec_FactorialOf_c; have cE11 := @impl_AreWilfLike_c; have cE12 := @spec_AreWilfLike_c
    have cE13 := @impl_KnownCounts_c; have cE14 := @spec_KnownCounts_c; have cE15 := @laws_sameLists_c; have cE16 := @spec_ReversePerm_c; have cE17 := @laws_hasList_c; have cE18 := @spec_ComplementPerm_c
    have cE19 := @spec_ClassOf_c; have cD1 := zdh [false, false, false, false, false, false, false, false, true, false] []; have cD2 := zdh [false, false, false, false, false, false, false, false, false, false, false, true, true, false, false, false, false, false, false, false, false, false, false, false, false, false, true, true, false, false] [(0, 11), (1, 11), (2, 11), (3, 11), (15, 26), (16, 26), (17, 26), (18, 26)]
    have c1 : decide ((1048576 : Int) < b.length) = true := decide_eq_true (by omega)
    refine dE @c1 ?_
    all_goals try (refine zlf ?_; repeat' first | exact zso | refine And.intro ?_ ?_ | (refine zim ?_; intro zb hc) | (refine zin ?_; intro zb) | intro j')
    all_goals try refine zbx ?_
end Go.Gl
