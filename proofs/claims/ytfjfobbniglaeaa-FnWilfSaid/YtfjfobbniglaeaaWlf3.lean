/-
  Permutations in groups by the counts of their classes: what the reference computes. Conditions: none.
-/
import Derived.Test.YtfjfobbniglaeaaWlf2
set_option linter.unusedSimpArgs false
set_option linter.unusedVariables false
set_option maxRecDepth 20000
set_option linter.unusedSectionVars false
namespace Go.Gl
open Go Go.Proofs
variable [Amb]
theorem m3_a : nest2T Try.prog 42 = true := by kernel_rfl
theorem m3_b : nest2T Try.prog 28 = false := by kernel_rfl
theorem m3_c : nest2T Try.prog 22 = false := by kernel_rfl
attribute [local go_sem] m3_a m3_b m3_c
set_option maxHeartbeats 4000000 in
theorem spec_WilfGroups_c (k n : Int) : Fun Try.prog 24 [(.int .i64 (k)), (.int .i64 (n))] [(.dl (List.map (List.map (elI false)) (wgR k n)))] := by
  by_cases h0 : 1 ≤ k ∧ k ≤ 4 ∧ 0 ≤ n ∧ n ≤ 6
  · obtain ⟨K, rfl⟩ := Int.eq_ofNat_of_zero_le (show 0 ≤ k by omega)
    have hr : wgR (K : Nat) n = wgL K n := if_pos h0
    rw [hr]
    have b1 := few_perms K (by omega)
    have b2 := fun p h => one_basis K (by omega) (by omega) p h
    have e0 : permsB (K : Nat) = permL K := if_pos (by omega)
    refine fO sgWs [4] Try.func24 ?_
    have cE1 := @spec_l1In_c; have cE2 := @spec_PermsOf_c; have cE3 := @spec_ClassCounts_c; have cE4 := @spec_l2Same_c; have cD1 := zdh [false, false, false, false, false, false, false, false, false, false, true, true, false, true] [(0, 10), (1, 10), (2, 10), (3, 10), (4, 10), (5, 10), (0, 11), (1, 11)]
    refine dEa @e0 ?_
    all_goals try (refine zlf ?_; repeat' first | exact zso | refine And.intro ?_ ?_ | (refine zim ?_; intro zb hc) | (refine zin ?_; intro zb) | intro j')
    all_goals try refine zbx ?_
    refine v_loopB (fun ms1 S1 => ∃ (j : Nat) (cs : List Nat) (L : RowsG), S1.e 0 = .p (.int .i64 (K)) ∧ S1.e 1 = .p (.int .i64 (n)) ∧ GwnL (S1.e 5) S1.h S1.n (elI false) (cs) (L) ∧ OwnL (S1.e 6) S1.h S1.n (elI false) (((wgS n (permL K) j).1).length) ((wgS n (permL K) j).1) ∧ OwnL (S1.e 7) S1.h S1.n (elI false) ((permL K).length) (permL K) ∧ S1.e 8 = .p (.int .i64 (j)) ∧ (j ≤ (permL K).length) ∧ (Tb cs L (wgS n (permL K) j).2) ∧ NId (S1.e 6) (S1.e 5) ∧ NId (S1.e 7) (S1.e 5) ∧ NId (S1.e 7) (S1.e 6) ∧ ms1 = (permL K).length - j) ((fun (j : Nat) (cs : List Nat) (L : RowsG) => (permL K).length - j) (0) ([]) ([])) ?_ ⟨0, [], [], dC trivial ?_⟩
    all_goals try (refine zlf ?_; repeat' first | exact zso | refine And.intro ?_ ?_ | (refine zim ?_; intro zb hc) | (refine zin ?_; intro zb) | intro j')
    all_goals try refine zbx ?_
    rintro ms1 S1 ⟨j, cs, L, h1_0, h1_1, o1_5, o1_6, o1_7, h1_8, c1_0, c1_1, u1_0, u1_1, u1_2, hm1⟩
    obtain ⟨i1_5, h1_5, b1_5, l1_5⟩ := o1_5.out
    obtain ⟨i1_6, h1_6, b1_6, l1_6⟩ := o1_6.out
    obtain ⟨i1_7, h1_7, b1_7, l1_7⟩ := o1_7.out
    have k1_0 := (u1_0).out h1_6 h1_5
    have k1_1 := (u1_1).out h1_7 h1_5
    have k1_2 := (u1_2).out h1_7 h1_6
    have ni1_5 := znds (x := i1_5) (n := S1.n)
    have ni1_6 := znds (x := i1_6) (n := S1.n)
    have ni1_7 := znds (x := i1_7) (n := S1.n)
    have di1_5i1_6 := zdne (x := i1_5) (y := i1_6)
    have di1_5i1_7 := zdne (x := i1_5) (y := i1_7)
    have di1_6i1_7 := zdne (x := i1_6) (y := i1_7)
    have fL1 := (And.intro h1_0 (And.intro h1_1 (And.intro h1_8 (And.intro h1_5 (And.intro b1_5 (And.intro h1_6 (And.intro b1_6 (And.intro h1_7 (And.intro b1_7 (And.intro ni1_5 (And.intro ni1_6 (And.intro ni1_7 (And.intro di1_5i1_6 (And.intro di1_5i1_7 di1_6i1_7))))))))))))))
    · obtain ⟨l1, l2, l3⟩ := wgS_len (n := n) (L := permL K) (j := j)
      have lc := c1_1.len
      by_cases hj : j < (permL K).length
      · obtain ⟨p, hp⟩ : ∃ p, (permL K).getD j [] = p := ⟨_, rfl⟩
        have hm : p ∈ permL K := by rw [← hp]; exact getD_mem hj
        have hb := b2 p hm
        have q2 : wgS n (permL K) (j + 1) = if fstG (ccR [p] n) (wgS n (permL K) j).1 = (wgS n (permL K) j).1.length then ((wgS n (permL K) j).1 ++ [ccR [p] n], (wgS n (permL K) j).2 ++ [[p]])
          else ((wgS n (permL K) j).1, (wgS n (permL K) j).2.set (fstG (ccR [p] n) (wgS n (permL K) j).1) ((wgS n (permL K) j).2.getD (fstG (ccR [p] n) (wgS n (permL K) j).1) [] ++ [p])) := by rw [← hp]; rfl
        have dr : ∀ d ∈ (wgS n (permL K) j).1, d.length ≤ 7 := wgS_row
        generalize (wgS n (permL K) j).1 = D at *
        generalize (wgS n (permL K) j).2 = T at *
        obtain ⟨x, hx⟩ : ∃ x, ccR [p] n = x := ⟨_, rfl⟩
        have xl := cc_len (L := [p]) (n := n)
        have pl : p.length ≤ 8 := by have := permL_row _ hm; omega
        have cc := fun m0 : Bool => spec_ClassCounts_c (m0 := m0) (e0 := false) [p] n (by simp) (fun q hq => by rw [List.mem_singleton] at hq; subst hq; omega)
        rw [hx] at q2 xl cc
        simp only [List.map_cons, List.map_nil, elI_eq] at cc
        obtain ⟨f1, f2⟩ := fstG_spec (x := x) (l := D)
        have h3 := fstG_le (x := x) (l := D)
        have cE1 := @cc; have cE2 := @spec_l1In_c; have cE3 := @spec_PermsOf_c
        refine dEa (And.intro fL1 @hp) ?_
        all_goals try (refine zlf ?_; repeat' first | exact zso | refine And.intro ?_ ?_ | (refine zim ?_; intro zb hc) | (refine zin ?_; intro zb) | intro j')
        all_goals try refine zbx ?_
        refine v_loopB (fun ms2 S2 => ∃ (q : Nat), S2.e 0 = .p (.int .i64 (K)) ∧ S2.e 1 = .p (.int .i64 (n)) ∧ GwnL (S2.e 5) S2.h S2.n (elI false) (cs) (L) ∧ OwnL (S2.e 6) S2.h S2.n (elI false) ((D).length) (D) ∧ OwnL (S2.e 7) S2.h S2.n (elI false) ((permL K).length) (permL K) ∧ S2.e 8 = .p (.int .i64 (j)) ∧ OwnL (S2.e 9) S2.h S2.n (PV.int .i64) ((x).length) (x) ∧ S2.e 10 = .p (.int .i64 (q)) ∧ (q ≤ fstG x D) ∧ NId (S2.e 6) (S2.e 5) ∧ NId (S2.e 7) (S2.e 5) ∧ NId (S2.e 7) (S2.e 6) ∧ NId (S2.e 9) (S2.e 5) ∧ NId (S2.e 9) (S2.e 6) ∧ NId (S2.e 9) (S2.e 7) ∧ S1.n ≤ S2.n ∧ ms2 = fstG x D - q) ((fun (q : Nat) => fstG x D - q) (0)) ?_ ⟨0, dC fL1 ?_⟩
        all_goals try (refine zlf ?_; repeat' first | exact zso | refine And.intro ?_ ?_ | (refine zim ?_; intro zb hc) | (refine zin ?_; intro zb) | intro j')
        all_goals try refine zbx ?_
        rintro ms2 S2 ⟨q, h2_0, h2_1, o2_5, o2_6, o2_7, h2_8, o2_9, h2_10, c2_0, u2_0, u2_1, u2_2, u2_3, u2_4, u2_5, u2_6, hm2⟩
        obtain ⟨i2_5, h2_5, b2_5, l2_5⟩ := o2_5.out
        obtain ⟨i2_6, h2_6, b2_6, l2_6⟩ := o2_6.out
        obtain ⟨i2_7, h2_7, b2_7, l2_7⟩ := o2_7.out
        obtain ⟨i2_9, h2_9, b2_9, l2_9⟩ := o2_9.out
        have k2_0 := (u2_0).out h2_6 h2_5
        have k2_1 := (u2_1).out h2_7 h2_5
        have k2_2 := (u2_2).out h2_7 h2_6
        have k2_3 := (u2_3).out h2_9 h2_5
        have k2_4 := (u2_4).out h2_9 h2_6
        have k2_5 := (u2_5).out h2_9 h2_7
        have ni2_5 := znds (x := i2_5) (n := S2.n)
        have ni2_6 := znds (x := i2_6) (n := S2.n)
        have ni2_7 := znds (x := i2_7) (n := S2.n)
        have ni2_9 := znds (x := i2_9) (n := S2.n)
        have di2_5i2_6 := zdne (x := i2_5) (y := i2_6)
        have di2_5i2_7 := zdne (x := i2_5) (y := i2_7)
        have di2_5i2_9 := zdne (x := i2_5) (y := i2_9)
        have di2_6i2_7 := zdne (x := i2_6) (y := i2_7)
        have di2_6i2_9 := zdne (x := i2_6) (y := i2_9)
        have di2_7i2_9 := zdne (x := i2_7) (y := i2_9)
        have fL2 := (And.intro h2_0 (And.intro h2_1 (And.intro h2_8 (And.intro h2_10 (And.intro h2_5 (And.intro b2_5 (And.intro h2_6 (And.intro b2_6 (And.intro h2_7 (And.intro b2_7 (And.intro h2_9 (And.intro b2_9 (And.intro ni2_5 (And.intro ni2_6 (And.intro ni2_7 (And.intro ni2_9 (And.intro di2_5i2_6 (And.intro di2_5i2_7 (And.intro di2_5i2_9 (And.intro di2_6i2_7 (And.intro di2_6i2_9 di2_7i2_9)))))))))))))))))))))
        · by_cases hq : q < fstG x D
          · have f3 : (D.getD q [] = x) = False := eq_false (f1 q hq)
            have f4 := dr _ (getD_mem (d := []) (show q < D.length by omega))
            have cE1 := @spec_l1In_c; have cE2 := @spec_PermsOf_c; have cE3 := @spec_ClassCounts_c
            refine dEa (And.intro fL2 @f3) ?_
            all_goals try (refine zlf ?_; repeat' first | exact zso | refine And.intro ?_ ?_ | (refine zim ?_; intro zb hc) | (refine zin ?_; intro zb) | intro j')
            all_goals try refine zbx ?_
            focus
              refine q_lp_n ((fun (q : Nat) => fstG x D - q) (q+1)) (dC fL2 ?_) ⟨q+1, dC fL2 ?_⟩
              all_goals try (refine zlf ?_; repeat' first | exact zso | refine And.intro ?_ ?_ | (refine zim ?_; intro zb hc) | (refine zin ?_; intro zb) | intro j')
              all_goals try refine zbx ?_
          · obtain rfl : q = fstG x D := by omega
            by_cases hr2 : fstG x D = D.length
            · rw [if_pos hr2] at q2
              have g0 : ((D.length : Int) = (D.length : Int)) = True := eq_true rfl
              have p3 := tb_grow (i := D.length) (l := [p]) (tb_snoc (l := ([] : List (List Int))) c1_1) (by simp; omega)
              have e1 : (cs ++ [L.length]).getD D.length 0 = L.length := ga_eq (by omega)
              have e2 : (L ++ [some ([] : List (List Int))])[L.length]? = some (some []) := ge_eq rfl
              have e9 : (T ++ [([] : List (List Int))]).set D.length [p] = T ++ [[p]] := by rw [l1]; simp
              rw [e1, e9] at p3
              have cE1 := @spec_l1In_c; have cE2 := @spec_PermsOf_c; have cE3 := @spec_ClassCounts_c
              refine dEa (And.intro fL2 (And.intro @hp (And.intro @hr2 (And.intro @e1 @e2)))) ?_
              all_goals try (refine zlf ?_; repeat' first | exact zso | refine And.intro ?_ ?_ | (refine zim ?_; intro zb hc) | (refine zin ?_; intro zb) | intro j')
              all_goals try refine zbx ?_
              focus
                refine q_lp_n ((fun (j : Nat) (cs : List Nat) (L : RowsG) => (permL K).length - j) (j+1) ((cs ++ [L.length]).set D.length ((L ++ [some []]).set L.length none).length) ((L ++ [some []]).set L.length none ++ [some [p]])) (dC fL2 ?_) ⟨j+1, (cs ++ [L.length]).set D.length ((L ++ [some []]).set L.length none).length, (L ++ [some []]).set L.length none ++ [some [p]], dC fL2 ?_⟩
                all_goals try (refine zlf ?_; repeat' first | exact zso | refine And.intro ?_ ?_ | (refine zim ?_; intro zb hc) | (refine zin ?_; intro zb) | intro j')
                all_goals try refine zbx ?_
              all_goals first | (rw [q2]; exact p3) | (rw [q2]; done) | (rw [q2]; rfl) | (rw [q2]; simp; done) | trace_state
            · rw [if_neg hr2] at q2
              have f5 : (D.getD (fstG x D) [] = x) = True := eq_true (f2 (by omega))
              have f6 := dr _ (getD_mem (d := []) (show fstG x D < D.length by omega))
              have e2 := c1_1.at_ (fstG x D) (by omega)
              have e3 := l3 (T.getD (fstG x D) []) (getD_mem (by omega))
              have p4 := tb_grow (i := fstG x D) (l := T.getD (fstG x D) [] ++ [p]) c1_1 (by omega)
              have cE1 := @spec_l1In_c; have cE2 := @spec_PermsOf_c; have cE3 := @spec_ClassCounts_c
              refine dEa (And.intro fL2 (And.intro @hp (And.intro @e2 @f5))) ?_
              all_goals try (refine zlf ?_; repeat' first | exact zso | refine And.intro ?_ ?_ | (refine zim ?_; intro zb hc) | (refine zin ?_; intro zb) | intro j')
              all_goals try refine zbx ?_
              focus
                refine q_lp_n ((fun (j : Nat) (cs : List Nat) (L : RowsG) => (permL K).length - j) (j+1) (cs.set (fstG x D) (L.set (cs.getD (fstG x D) 0) none).length) (L.set (cs.getD (fstG x D) 0) none ++ [some (T.getD (fstG x D) [] ++ [p])])) (dC fL2 ?_) ⟨j+1, cs.set (fstG x D) (L.set (cs.getD (fstG x D) 0) none).length, L.set (cs.getD (fstG x D) 0) none ++ [some (T.getD (fstG x D) [] ++ [p])], dC fL2 ?_⟩
                all_goals try (refine zlf ?_; repeat' first | exact zso | refine And.intro ?_ ?_ | (refine zim ?_; intro zb hc) | (refine zin ?_; intro zb) | intro j')
                all_goals try refine zbx ?_
              all_goals first | (rw [q2]; exact p4) | (rw [q2]; done) | (rw [q2]; rfl) | trace_state
        all_goals trace_state
      · obtain rfl : j = (permL K).length := by omega
        have cE1 := @spec_l1In_c; have cE2 := @spec_PermsOf_c; have cE3 := @spec_ClassCounts_c
        refine dEa fL1 ?_
        all_goals try (refine zlf ?_; repeat' first | exact zso | refine And.intro ?_ ?_ | (refine zim ?_; intro zb hc) | (refine zin ?_; intro zb) | intro j')
        all_goals try refine zbx ?_
        refine fd_go c1_1 (fun h => by cases h) rfl c1_1.len ?_
        simp only [FK, FL, fins, F0, List.nil_append, List.cons_append, List.append_nil]
        exact List.pairwise_singleton _ _
    all_goals first | exact Tb.nil | trace_state
  · have hr : wgR k n = [] := if_neg h0
    rw [hr]
    refine fO sgWs [4] Try.func24 ?_
    have cE1 := @spec_l1In_c; have cE2 := @spec_PermsOf_c; have cE3 := @spec_ClassCounts_c; have cE4 := @spec_l2Same_c; have cD1 := zdh [false, false, false, false, false, false, false, false, false, false, true, true, false, true] [(0, 10), (1, 10), (2, 10), (3, 10), (4, 10), (5, 10), (0, 11), (1, 11)]
    refine dEa trivial ?_
    all_goals try (refine zlf ?_; repeat' first | exact zso | refine And.intro ?_ ?_ | (refine zim ?_; intro zb hc) | (refine zin ?_; intro zb) | intro j')
    all_goals try refine zbx ?_
    all_goals trace_state
end Go.Gl
