/-
 Simple permutations one below the other: what the reference computes. Conditions: none.
-/
import Derived.Test.YtfjfobbniglaeaaSimC2
set_option linter.unusedSimpArgs false
set_option linter.unusedVariables false
set_option maxRecDepth 20000
set_option linter.unusedSectionVars false
namespace Go.Gl
open Go Go.Proofs
variable [Amb] [NoQ]
theorem fil_sn {L : List (List Int)} {j : Nat} (h : j < L.length) (hp : isSimB (L.getD j []) = true) : (L.take (j + 1)).filter isSimB = (L.take j).filter isSimB ++ [L.getD j []] := by
 rw [fil_snoc h, if_pos hp]
theorem fil_sz {L : List (List Int)} {j : Nat} (h : j < L.length) (hp : isSimB (L.getD j []) = false) : (L.take (j + 1)).filter isSimB = (L.take j).filter isSimB := by
 rw [fil_snoc h, hp]; simp
theorem pi_perm : ∀ n, n < 9 → ∀ p ∈ exL n, (ptR p (n - 2)).all isPermB = true := by decide +kernel
set_option maxHeartbeats 2000000 in
theorem spec_SimpleChain_f_c {m0 : Bool} (p : List Int) (hl : p.length ≤ 1048576) : Fun Try.prog 18 [(.sl (.lent m0) (List.map (PV.int .i64) (p)))] [(.sl .own (List.map (elI false) (chB p))), (.bool ((isPermB p && isSimB p)))] := by
 by_cases hp : isPermB p = true
 ·by_cases hs : isSimB p = true
  ·obtain ⟨h8, hq⟩ := isP_8 hp
   have e0 : chB p = chL p.length p := by rw [chB, hp, hs]; rfl
   have e9 : List.take p.length p = p := List.take_of_length_le (Nat.le_refl _)
   rw [e0, hp, hs]
   refine fO sg0 [2, 3] Try.func18 ?_
   have cE1 := @spec_IsSimple_c; have cE2 := @spec_SimpleLowers_c; have cE3 := @spec_SimpleLowers_n_c; have cE4 := @spec_PatternsIn_c
   refine dEa (And.intro @hp (And.intro @hs (And.intro @Bool.and_self @e9))) ?_
   all_goals try (refine zlf ?_; repeat' first | exact zso | refine And.intro ?_ ?_ | (refine zim ?_; intro zb hc) | (refine zin ?_; intro zb) | intro j')
   all_goals try refine zbx ?_
   refine v_loopB (fun ms1 S1 => ∃ (b : Bool) (id : Nat) (d : Nat) (q : List Int) (pre : List (List Int)), S1.e 4 = (bif b then AV.p (.sl (.lent false) (List.map (PV.int .i64) q)) else AV.ref id 0 q.length) ∧ OwnL (S1.e 5) S1.h S1.n (elI false) ((pre ++ [q]).length) (pre ++ [q]) ∧ (isPermB q = true) ∧ (isSimB q = true) ∧ (q.length ≤ d) ∧ (pre.length + q.length ≤ p.length) ∧ (pre ++ chL d q = chL p.length p) ∧ (b = true ∨ (id < S1.n ∧ S1.h id = .froz false (List.map (PV.int .i64) q))) ∧ ms1 = q.length) ((fun (b : Bool) (id : Nat) (d : Nat) (q : List Int) (pre : List (List Int)) => q.length) (false) (1793) (p.length) (p) ([])) ?_ ⟨false, 1793, p.length, p, [], dC trivial ?_⟩
   all_goals try (refine zlf ?_; repeat' first | exact zso | refine And.intro ?_ ?_ | (refine zim ?_; intro zb hc) | (refine zin ?_; intro zb) | intro j')
   all_goals try refine zbx ?_
   rintro ms1 S1 ⟨b, id, d, q, pre, h1_4, o1_5, c1_0, c1_1, c1_2, c1_3, c1_4, c1_5, hm1⟩
   obtain ⟨i1_5, h1_5, b1_5, l1_5⟩ := o1_5.out
   have ni1_5 := znds (x := i1_5) (n := S1.n)
   have fL1 := (And.intro h1_4 (And.intro h1_5 (And.intro b1_5 ni1_5)))
   ·cases b
    ·have i12 : id < S1.n ∧ S1.h id = .froz false (List.map (PV.int .i64) q) := by
      rcases c1_5 with h | h
      ·cases h
      ·exact h
     obtain ⟨i1, i2⟩ := i12
     have i3 : ¬ id = i1_5 := by
      intro e; subst e; rw [i2] at b1_5; cases b1_5
     have n4 := znds i1
     have n5 := zdne i3
     obtain ⟨g8, gq⟩ := isP_8 c1_0
     by_cases h2 : 2 < q.length
     ·have hN := nxS_ok c1_0 c1_1 h2
      have hM := nxQ_mem c1_0 c1_1 h2
      obtain ⟨n1, n2, n3, _, _⟩ := hN.2 _ hM
      obtain ⟨d, rfl⟩ : ∃ e, d = e + 1 := ⟨d - 1, by omega⟩
      have q4 := c1_4
      rw [chL, if_pos h2] at q4
      have b0 := smpL_len (p := q)
      have b3 := ptR_len (p := q) (k := q.length - 2) g8 (by omega)
      have b4 := ptR_row (p := q) (k := q.length - 2) g8 (by omega)
      have e7 : List.take (nxQ q).length (nxQ q) = nxQ q := List.take_of_length_le (Nat.le_refl _)
      have cP := fun m0 : Bool => spec_PatternsIn_c (m0 := m0) q (q.length - 2) c1_0 (by omega)
      rw [show ((q.length - 2 : Nat) : Int) = (q.length : Int) - 2 by omega] at cP
      by_cases he : smpL q = []
      ·have h4 : 4 ≤ q.length := by
        rcases Nat.lt_or_ge q.length 4 with g | g
        ·have := sim_3 q (permL_mem.2 ⟨gq, by omega⟩)
         rw [this] at c1_1; cases c1_1
        ·exact g
       have hx := smp_nil gq g8 h4 c1_1 he
       obtain ⟨_, _, w1, _, _⟩ := pi_all q.length (by omega) q hx
       have w2 := pi_perm q.length (by omega) q hx
       rw [w1] at cP
       have e5 : (((smpL q).length : Int) = 0) = True := eq_true (by rw [he]; rfl)
       have e6 : nxS q = (ptR q (q.length - 2)).filter isSimB := if_pos he
       have e8 : ((ptR q (q.length - 2)).filter isSimB).getD 0 [] = nxQ q := by rw [nxQ, e6]
       have b5 : 0 < ((ptR q (q.length - 2)).filter isSimB).length := by rw [← e6]; exact List.length_pos_iff.2 hN.1
       have cE1 := @cP; have cE3 := @spec_IsSimple_c; have cE4 := trivial
       refine dEa (And.intro fL1 (And.intro @i2 (And.intro @n4 (And.intro @n5 @e5)))) ?_
       all_goals try (refine zlf ?_; repeat' first | exact zso | refine And.intro ?_ ?_ | (refine zim ?_; intro zb hc) | (refine zin ?_; intro zb) | intro j')
       all_goals try refine zbx ?_
       refine v_loopB (fun ms2 S2 => ∃ (j : Nat), OwnL (S2.e 5) S2.h S2.n (elI false) ((pre ++ [q]).length) (pre ++ [q]) ∧ OwnL (S2.e 6) S2.h S2.n (elI false) ((((ptR q (q.length - 2)).take j).filter isSimB).length) (((ptR q (q.length - 2)).take j).filter isSimB) ∧ OwnL (S2.e 7) S2.h S2.n (elI false) ((ptR q (q.length - 2)).length) (ptR q (q.length - 2)) ∧ S2.e 8 = .p (.int .i64 (j)) ∧ (j ≤ (ptR q (q.length - 2)).length) ∧ NId (S2.e 6) (S2.e 5) ∧ NId (S2.e 7) (S2.e 5) ∧ NId (S2.e 7) (S2.e 6) ∧ S1.n ≤ S2.n ∧ ms2 = (ptR q (q.length - 2)).length - j) ((fun (j : Nat) => (ptR q (q.length - 2)).length - j) (0)) ?_ ⟨0, dC fL1 ?_⟩
       all_goals try (refine zlf ?_; repeat' first | exact zso | refine And.intro ?_ ?_ | (refine zim ?_; intro zb hc) | (refine zin ?_; intro zb) | intro j')
       all_goals try refine zbx ?_
       rintro ms2 S2 ⟨j, o2_5, o2_6, o2_7, h2_8, c2_0, u2_0, u2_1, u2_2, u2_3, hm2⟩
       obtain ⟨i2_5, h2_5, b2_5, l2_5⟩ := o2_5.out
       obtain ⟨i2_6, h2_6, b2_6, l2_6⟩ := o2_6.out
       obtain ⟨i2_7, h2_7, b2_7, l2_7⟩ := o2_7.out
       have k2_0 := (u2_0).out h2_6 h2_5
       have k2_1 := (u2_1).out h2_7 h2_5
       have k2_2 := (u2_2).out h2_7 h2_6
       have ni2_5 := znds (x := i2_5) (n := S2.n)
       have ni2_6 := znds (x := i2_6) (n := S2.n)
       have ni2_7 := znds (x := i2_7) (n := S2.n)
       have di2_5i2_6 := zdne (x := i2_5) (y := i2_6)
       have di2_5i2_7 := zdne (x := i2_5) (y := i2_7)
       have di2_6i2_7 := zdne (x := i2_6) (y := i2_7)
       have fL2 := (And.intro h2_8 (And.intro h2_5 (And.intro b2_5 (And.intro h2_6 (And.intro b2_6 (And.intro h2_7 (And.intro b2_7 (And.intro ni2_5 (And.intro ni2_6 (And.intro ni2_7 (And.intro di2_5i2_6 (And.intro di2_5i2_7 di2_6i2_7))))))))))))
       ·have b6 := fil_len (p := isSimB) (L := ptR q (q.length - 2)) (j := j) (by omega)
        by_cases hj : j < (ptR q (q.length - 2)).length
        ·have w3 := List.all_eq_true.1 w2 _ (getD_mem (d := []) hj)
         have w4 := (b4 _ (getD_mem (d := []) hj)).1
         have cE1 := @spec_IsSimple_c; have cE3 := @spec_SimpleLowers_n_c; have cE4 := @spec_PatternsIn_c
         refine dEa (And.intro fL2 (And.intro @w3 @Bool.true_and)) ?_
         all_goals try (refine zlf ?_; repeat' first | exact zso | refine And.intro ?_ ?_ | (refine zim ?_; intro zb hc) | (refine zin ?_; intro zb) | intro j')
         all_goals try refine zbx ?_
         ·focus
           refine q_lp_n ((fun (j : Nat) => (ptR q (q.length - 2)).length - j) (j+1)) (dC fL2 ?_) ⟨j+1, dC fL2 ?_⟩
           all_goals try (refine zlf ?_; repeat' first | exact zso | refine And.intro ?_ ?_ | (refine zim ?_; intro zb hc) | (refine zin ?_; intro zb) | intro j')
           all_goals try refine zbx ?_
          all_goals (rw [fil_sn hj hc])
          all_goals first | (simp; done) | trace_state
         ·focus
           refine q_lp_n ((fun (j : Nat) => (ptR q (q.length - 2)).length - j) (j+1)) (dC fL2 ?_) ⟨j+1, dC fL2 ?_⟩
           all_goals try (refine zlf ?_; repeat' first | exact zso | refine And.intro ?_ ?_ | (refine zim ?_; intro zb hc) | (refine zin ?_; intro zb) | intro j')
           all_goals try refine zbx ?_
          all_goals (rw [fil_sz hj hc])
        ·obtain rfl : j = (ptR q (q.length - 2)).length := by omega
         rw [List.take_of_length_le (Nat.le_refl _)] at *
         have cE1 := @spec_IsSimple_c; have cE3 := @spec_SimpleLowers_n_c; have cE4 := @spec_PatternsIn_c
         refine dEa (And.intro fL2 (And.intro @e8 @e7)) ?_
         all_goals try (refine zlf ?_; repeat' first | exact zso | refine And.intro ?_ ?_ | (refine zim ?_; intro zb hc) | (refine zin ?_; intro zb) | intro j')
         all_goals try refine zbx ?_
         focus
          refine q_lp_n ((fun (b : Bool) (id : Nat) (d : Nat) (q : List Int) (pre : List (List Int)) => q.length) (true) (0) (d) (nxQ q) (pre ++ [q])) (dC fL2 ?_) ⟨true, 0, d, nxQ q, pre ++ [q], dC fL2 ?_⟩
          all_goals try (refine zlf ?_; repeat' first | exact zso | refine And.intro ?_ ?_ | (refine zim ?_; intro zb hc) | (refine zin ?_; intro zb) | intro j')
          all_goals try refine zbx ?_
         all_goals first | exact .inl rfl | trace_state
       all_goals first | (rw [he]; rfl) | trace_state
      ·have e6 : nxS q = smpL q := if_neg he
       have b5 : 0 < (smpL q).length := List.length_pos_iff.2 he
       have e5 : (((smpL q).length : Int) = 0) = False := eq_false (by omega)
       have e8 : (smpL q).getD 0 [] = nxQ q := by rw [nxQ, e6]
       have cE1 := @spec_SimpleLowers_c; have cE2 := @spec_IsSimple_c; have cE3 := trivial; have cE4 := trivial
       refine dEa (And.intro fL1 (And.intro @i2 (And.intro @n4 (And.intro @n5 (And.intro @e5 (And.intro @e8 @e7)))))) ?_
       all_goals try (refine zlf ?_; repeat' first | exact zso | refine And.intro ?_ ?_ | (refine zim ?_; intro zb hc) | (refine zin ?_; intro zb) | intro j')
       all_goals try refine zbx ?_
       focus
        refine q_lp_n ((fun (b : Bool) (id : Nat) (d : Nat) (q : List Int) (pre : List (List Int)) => q.length) (true) (0) (d) (nxQ q) (pre ++ [q])) (dC fL1 ?_) ⟨true, 0, d, nxQ q, pre ++ [q], dC fL1 ?_⟩
        all_goals try (refine zlf ?_; repeat' first | exact zso | refine And.intro ?_ ?_ | (refine zim ?_; intro zb hc) | (refine zin ?_; intro zb) | intro j')
        all_goals try refine zbx ?_
       all_goals first | exact .inl rfl | trace_state
     ·have e3 := chL_end (d := d) h2
      rw [e3] at c1_4
      have cE1 := @spec_IsSimple_c; have cE2 := @spec_SimpleLowers_c; have cE3 := @spec_SimpleLowers_n_c; have cE4 := @spec_PatternsIn_c
      refine dEa (And.intro fL1 (And.intro @i2 (And.intro @n4 @n5))) ?_
      all_goals try (refine zlf ?_; repeat' first | exact zso | refine And.intro ?_ ?_ | (refine zim ?_; intro zb hc) | (refine zin ?_; intro zb) | intro j')
      all_goals try refine zbx ?_
      all_goals trace_state
    ·have i0 : True := trivial
     obtain ⟨g8, gq⟩ := isP_8 c1_0
     by_cases h2 : 2 < q.length
     ·have hN := nxS_ok c1_0 c1_1 h2
      have hM := nxQ_mem c1_0 c1_1 h2
      obtain ⟨n1, n2, n3, _, _⟩ := hN.2 _ hM
      obtain ⟨d, rfl⟩ : ∃ e, d = e + 1 := ⟨d - 1, by omega⟩
      have q4 := c1_4
      rw [chL, if_pos h2] at q4
      have b0 := smpL_len (p := q)
      have b3 := ptR_len (p := q) (k := q.length - 2) g8 (by omega)
      have b4 := ptR_row (p := q) (k := q.length - 2) g8 (by omega)
      have e7 : List.take (nxQ q).length (nxQ q) = nxQ q := List.take_of_length_le (Nat.le_refl _)
      have cP := fun m0 : Bool => spec_PatternsIn_c (m0 := m0) q (q.length - 2) c1_0 (by omega)
      rw [show ((q.length - 2 : Nat) : Int) = (q.length : Int) - 2 by omega] at cP
      by_cases he : smpL q = []
      ·have h4 : 4 ≤ q.length := by
        rcases Nat.lt_or_ge q.length 4 with g | g
        ·have := sim_3 q (permL_mem.2 ⟨gq, by omega⟩)
         rw [this] at c1_1; cases c1_1
        ·exact g
       have hx := smp_nil gq g8 h4 c1_1 he
       obtain ⟨_, _, w1, _, _⟩ := pi_all q.length (by omega) q hx
       have w2 := pi_perm q.length (by omega) q hx
       rw [w1] at cP
       have e5 : (((smpL q).length : Int) = 0) = True := eq_true (by rw [he]; rfl)
       have e6 : nxS q = (ptR q (q.length - 2)).filter isSimB := if_pos he
       have e8 : ((ptR q (q.length - 2)).filter isSimB).getD 0 [] = nxQ q := by rw [nxQ, e6]
       have b5 : 0 < ((ptR q (q.length - 2)).filter isSimB).length := by rw [← e6]; exact List.length_pos_iff.2 hN.1
       have cE1 := @cP; have cE2 := @spec_SimpleLowers_c; have cE3 := @spec_IsSimple_c; have cE4 := trivial
       refine dEa (And.intro fL1 @e5) ?_
       all_goals try (refine zlf ?_; repeat' first | exact zso | refine And.intro ?_ ?_ | (refine zim ?_; intro zb hc) | (refine zin ?_; intro zb) | intro j')
       all_goals try refine zbx ?_
       refine v_loopB (fun ms2 S2 => ∃ (j : Nat), OwnL (S2.e 5) S2.h S2.n (elI false) ((pre ++ [q]).length) (pre ++ [q]) ∧ OwnL (S2.e 6) S2.h S2.n (elI false) ((((ptR q (q.length - 2)).take j).filter isSimB).length) (((ptR q (q.length - 2)).take j).filter isSimB) ∧ OwnL (S2.e 7) S2.h S2.n (elI false) ((ptR q (q.length - 2)).length) (ptR q (q.length - 2)) ∧ S2.e 8 = .p (.int .i64 (j)) ∧ (j ≤ (ptR q (q.length - 2)).length) ∧ NId (S2.e 6) (S2.e 5) ∧ NId (S2.e 7) (S2.e 5) ∧ NId (S2.e 7) (S2.e 6) ∧ S1.n ≤ S2.n ∧ ms2 = (ptR q (q.length - 2)).length - j) ((fun (j : Nat) => (ptR q (q.length - 2)).length - j) (0)) ?_ ⟨0, dC fL1 ?_⟩
       all_goals try (refine zlf ?_; repeat' first | exact zso | refine And.intro ?_ ?_ | (refine zim ?_; intro zb hc) | (refine zin ?_; intro zb) | intro j')
       all_goals try refine zbx ?_
       rintro ms2 S2 ⟨j, o2_5, o2_6, o2_7, h2_8, c2_0, u2_0, u2_1, u2_2, u2_3, hm2⟩
       obtain ⟨i2_5, h2_5, b2_5, l2_5⟩ := o2_5.out
       obtain ⟨i2_6, h2_6, b2_6, l2_6⟩ := o2_6.out
       obtain ⟨i2_7, h2_7, b2_7, l2_7⟩ := o2_7.out
       have k2_0 := (u2_0).out h2_6 h2_5
       have k2_1 := (u2_1).out h2_7 h2_5
       have k2_2 := (u2_2).out h2_7 h2_6
       have ni2_5 := znds (x := i2_5) (n := S2.n)
       have ni2_6 := znds (x := i2_6) (n := S2.n)
       have ni2_7 := znds (x := i2_7) (n := S2.n)
       have di2_5i2_6 := zdne (x := i2_5) (y := i2_6)
       have di2_5i2_7 := zdne (x := i2_5) (y := i2_7)
       have di2_6i2_7 := zdne (x := i2_6) (y := i2_7)
       have fL2 := (And.intro h2_8 (And.intro h2_5 (And.intro b2_5 (And.intro h2_6 (And.intro b2_6 (And.intro h2_7 (And.intro b2_7 (And.intro ni2_5 (And.intro ni2_6 (And.intro ni2_7 (And.intro di2_5i2_6 (And.intro di2_5i2_7 di2_6i2_7))))))))))))
       ·have b6 := fil_len (p := isSimB) (L := ptR q (q.length - 2)) (j := j) (by omega)
        by_cases hj : j < (ptR q (q.length - 2)).length
        ·have w3 := List.all_eq_true.1 w2 _ (getD_mem (d := []) hj)
         have w4 := (b4 _ (getD_mem (d := []) hj)).1
         have cE1 := @spec_IsSimple_c; have cE2 := @spec_SimpleLowers_c; have cE3 := @spec_SimpleLowers_n_c; have cE4 := @spec_PatternsIn_c
         refine dEa (And.intro fL2 (And.intro @w3 @Bool.true_and)) ?_
         all_goals try (refine zlf ?_; repeat' first | exact zso | refine And.intro ?_ ?_ | (refine zim ?_; intro zb hc) | (refine zin ?_; intro zb) | intro j')
         all_goals try refine zbx ?_
         ·focus
           refine q_lp_n ((fun (j : Nat) => (ptR q (q.length - 2)).length - j) (j+1)) (dC fL2 ?_) ⟨j+1, dC fL2 ?_⟩
           all_goals try (refine zlf ?_; repeat' first | exact zso | refine And.intro ?_ ?_ | (refine zim ?_; intro zb hc) | (refine zin ?_; intro zb) | intro j')
           all_goals try refine zbx ?_
          all_goals (rw [fil_sn hj hc])
          all_goals first | (simp; done) | trace_state
         ·focus
           refine q_lp_n ((fun (j : Nat) => (ptR q (q.length - 2)).length - j) (j+1)) (dC fL2 ?_) ⟨j+1, dC fL2 ?_⟩
           all_goals try (refine zlf ?_; repeat' first | exact zso | refine And.intro ?_ ?_ | (refine zim ?_; intro zb hc) | (refine zin ?_; intro zb) | intro j')
           all_goals try refine zbx ?_
          all_goals (rw [fil_sz hj hc])
        ·obtain rfl : j = (ptR q (q.length - 2)).length := by omega
         rw [List.take_of_length_le (Nat.le_refl _)] at *
         have cE1 := @spec_IsSimple_c; have cE2 := @spec_SimpleLowers_c; have cE3 := @spec_SimpleLowers_n_c; have cE4 := @spec_PatternsIn_c
         refine dEa (And.intro fL2 (And.intro @e8 @e7)) ?_
         all_goals try (refine zlf ?_; repeat' first | exact zso | refine And.intro ?_ ?_ | (refine zim ?_; intro zb hc) | (refine zin ?_; intro zb) | intro j')
         all_goals try refine zbx ?_
         focus
          refine q_lp_n ((fun (b : Bool) (id : Nat) (d : Nat) (q : List Int) (pre : List (List Int)) => q.length) (true) (0) (d) (nxQ q) (pre ++ [q])) (dC fL2 ?_) ⟨true, 0, d, nxQ q, pre ++ [q], dC fL2 ?_⟩
          all_goals try (refine zlf ?_; repeat' first | exact zso | refine And.intro ?_ ?_ | (refine zim ?_; intro zb hc) | (refine zin ?_; intro zb) | intro j')
          all_goals try refine zbx ?_
         all_goals first | exact .inl rfl | trace_state
       all_goals first | (rw [he]; rfl) | trace_state
      ·have e6 : nxS q = smpL q := if_neg he
       have b5 : 0 < (smpL q).length := List.length_pos_iff.2 he
       have e5 : (((smpL q).length : Int) = 0) = False := eq_false (by omega)
       have e8 : (smpL q).getD 0 [] = nxQ q := by rw [nxQ, e6]
       have cE1 := @spec_SimpleLowers_c; have cE2 := @spec_IsSimple_c; have cE3 := trivial; have cE4 := trivial
       refine dEa (And.intro fL1 (And.intro @e5 (And.intro @e8 @e7))) ?_
       all_goals try (refine zlf ?_; repeat' first | exact zso | refine And.intro ?_ ?_ | (refine zim ?_; intro zb hc) | (refine zin ?_; intro zb) | intro j')
       all_goals try refine zbx ?_
       focus
        refine q_lp_n ((fun (b : Bool) (id : Nat) (d : Nat) (q : List Int) (pre : List (List Int)) => q.length) (true) (0) (d) (nxQ q) (pre ++ [q])) (dC fL1 ?_) ⟨true, 0, d, nxQ q, pre ++ [q], dC fL1 ?_⟩
        all_goals try (refine zlf ?_; repeat' first | exact zso | refine And.intro ?_ ?_ | (refine zim ?_; intro zb hc) | (refine zin ?_; intro zb) | intro j')
        all_goals try refine zbx ?_
       all_goals first | exact .inl rfl | trace_state
     ·have e3 := chL_end (d := d) h2
      rw [e3] at c1_4
      have cE1 := @spec_IsSimple_c; have cE2 := @spec_SimpleLowers_c; have cE3 := @spec_SimpleLowers_n_c; have cE4 := @spec_PatternsIn_c
      refine dEa (And.intro fL1 @h2) ?_
      all_goals try (refine zlf ?_; repeat' first | exact zso | refine And.intro ?_ ?_ | (refine zim ?_; intro zb hc) | (refine zin ?_; intro zb) | intro j')
      all_goals try refine zbx ?_
      all_goals trace_state
   all_goals trace_state
  ·rw [Bool.not_eq_true] at hs
   rw [chB, hp, hs]
   refine fO sg0 [2, 3] Try.func18 ?_
   have cE1 := @spec_IsSimple_c; have cE2 := @spec_SimpleLowers_c; have cE3 := @spec_SimpleLowers_n_c; have cE4 := @spec_PatternsIn_c
   refine dEa (And.intro @hp @hs) ?_
   all_goals try (refine zlf ?_; repeat' first | exact zso | refine And.intro ?_ ?_ | (refine zim ?_; intro zb hc) | (refine zin ?_; intro zb) | intro j')
   all_goals try refine zbx ?_
   all_goals trace_state
 ·rw [Bool.not_eq_true] at hp
  rw [chB, hp]
  refine fO sg0 [2, 3] Try.func18 ?_
  have cE1 := @spec_IsSimple_c; have cE2 := @spec_SimpleLowers_c; have cE3 := @spec_SimpleLowers_n_c; have cE4 := @spec_PatternsIn_c
  refine dEa @hp ?_
  all_goals try (refine zlf ?_; repeat' first | exact zso | refine And.intro ?_ ?_ | (refine zim ?_; intro zb hc) | (refine zin ?_; intro zb) | intro j')
  all_goals try refine zbx ?_
  all_goals trace_state
end Go.Gl
