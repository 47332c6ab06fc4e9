/-
  What the functions compute, and what the law asks of it: texts joined. Conditions: those that each lemma names.
-/
import Derived.Test.YtfjfobbniglaeaaGreatT4
set_option linter.unusedSimpArgs false
set_option linter.unusedVariables false
set_option maxRecDepth 20000
set_option linter.unusedSectionVars false
namespace Go.Gl
open Go Go.Proofs
variable [Amb] [NoQ]
set_option maxHeartbeats 8000000 in
theorem fs_odd (b : List UInt8) (hs : b.length ≤ 1048576) (p e q : List Int) (n m k : Int) (d1 : Fun Tryz.prog 5 [.sl (.lent false) (b.map u8P)] [.sl .own (List.map (PV.int .i64) p)]) (hp : p.length ≤ 1048576) (d2 : Fun Tryz.prog 8 [.sl (.lent false) (b.map u8P)] [.int .i64 n]) (n0 : -1 ≤ n) (n1 : n ≤ 6) (d3 : Fun Tryz.prog 10 [.sl (.lent false) (b.map u8P)] [.sl .own (List.map (PV.int .i64) e)]) (he : isPermB e = true) (d4 : Fun Tryz.prog 11 [.sl (.lent false) (b.map u8P)] [.sl .own (List.map (PV.int .i64) q)]) (hq : q.length ≤ 1048576) (d5 : Fun Tryz.prog 12 [.sl (.lent false) (b.map u8P)] [.int .i64 m]) (m0 : -1 ≤ m) (m1 : m ≤ 9) (d6 : Fun Tryz.prog 13 [.sl (.lent false) (b.map u8P)] [.int .i64 k]) (k0 : -1 ≤ k) (k1 : k ≤ 6) (h2 : 4 ≤ e.length → ¬ (e.length : Int).tmod 2 = 0) : Fun Tryz.prog 3 [.sl (.lent false) (b.map u8P)] [.bool true] := by
 have e8 := (isP_8 he).1
 obtain ⟨g1, g2, g3, g4, g5⟩ := chB_f (p := p)
 obtain ⟨l1, l2⟩ := slB_f (p := q)
 have s1 := simsB_le (n := n)
 have s2 : ∀ l ∈ simsB n, l.length ≤ 1099511627776 := fun l hl => by have := simsB_row l hl; omega
 have l3 : ∀ l ∈ slB q, l.length ≤ 1099511627776 := fun l hl => by have := l2 l hl; omega
 have g6 : ∀ l ∈ chB p, l.length ≤ 1099511627776 := fun l hl => by have := g2 l hl; omega
 have o1 := eo_few (n := m)
 have o2 := eo_perm e.length (by omega)
 have o3 := sycL_len (p := eoL (e.length : Nat))
 have o4 : ∀ l ∈ sycL (eoL (e.length : Nat)), l.length ≤ 1099511627776 := fun l hl => by have := sycL_lens (by omega) l hl; omega
 have x1 := exc_known he
 obtain ⟨V, v1, v2⟩ := sim_V n1 n0
 obtain ⟨o5, o6⟩ := o2
 have w1 := fun m0 : Bool => impl_SimpleChain_f_c (m0 := m0) p hp
 have w2 := fun m0 : Bool => spec_SimpleChain_f_c (m0 := m0) p hp
 generalize hB : (isPermB p && isSimB p) = B at *
 generalize hC : chB p = C at *
 generalize hX : (sycL (eoL (e.length : Nat))).contains e = X at *
 have x3 : excB e = false := by rw [x1]; exact no_even h2
 refine fO sg0 [2] Tryz.func3 ?_
 have cE1 := @laws_big_c; have cE2 := @impl_SimplesOf_f_c; have cE3 := @spec_SimplesOf_c; have cE4 := @impl_EvenOdd_c; have cE5 := @spec_EvenOdd_c; have cE6 := @impl_CountInflations_c
 have cE7 := @spec_CountInflations_c; have cE8 := @impl_SimpleChain_f_c; have cE9 := @spec_SimpleChain_f_c; have cE10 := @laws_sameLists_c; have cE11 := @impl_IsExceptional_c; have cE12 := @spec_IsExceptional_c
 have cE13 := @impl_SimpleLowers_f_c; have cE14 := @spec_SimpleLowers_c; have cE15 := @spec_SimpleLowers_n_c; have cE16 := @laws_sameInts_c; have cE17 := @spec_SymmetryClass_c; have cE18 := @laws_hasList_c
 have cE19 := @spec_IsPerm_c; have cE20 := @spec_IsSimple_c; have cE21 := @spec_HasPattern_c; have cD1 := zdh [false, false, false, false, true, false, false, false, false, false, false, false, false, false, false, false, false, false, false, true, false, false, false] []
 have cE1 := @d1; have cE2 := @d2; have cE3 := @d3; have cE4 := @d4; have cE5 := @d5; have cE6 := @d6
 have cE7 := @w1; have cE8 := @w2; have cE9 := @impl_SimplesOf_f_c; have cE10 := @laws_big_c; have cE11 := @spec_SimplesOf_c; have cE12 := @impl_EvenOdd_c
 have cE13 := @spec_EvenOdd_c; have cE14 := @impl_CountInflations_c; have cE15 := @spec_CountInflations_c; have cE16 := @impl_SimpleLowers_f_c; have cE17 := @spec_SimpleLowers_n_c; have cE18 := @impl_SimpleChain_f_c
 have cE19 := @spec_SimpleChain_f_c; have cE20 := @laws_sameLists_c; have cE21 := @impl_IsExceptional_c; have cE22 := @spec_IsExceptional_c; have cE23 := @laws_sameInts_c; have cE24 := @spec_SymmetryClass_c
 have cE25 := @laws_hasList_c; have cE26 := @spec_IsPerm_c; have cE27 := @spec_IsSimple_c; have cE28 := @spec_HasPattern_c
 refine dEa (And.intro @dsL (And.intro @dsI (And.intro @isI (And.intro @bsB (And.intro @he (And.intro @v1 (And.intro @hB (And.intro @hX (And.intro @o5 @x3))))))))) ?_
 all_goals try (refine zlf ?_; repeat' first | exact zso | refine And.intro ?_ ?_ | (refine zim ?_; intro zb hc) | (refine zin ?_; intro zb) | intro j')
 all_goals try refine zbx ?_
 all_goals try (exfalso; omega)
 all_goals
  refine v_loopB (fun ms1 S1 => ∃ (i : Nat), OwnL (S1.e 4) S1.h S1.n (elI false) ((C).length) (C) ∧ S1.e 5 = .p (.bool (B)) ∧ S1.e 15 = .p (.int .i64 (i)) ∧ (i ≤ C.length) ∧ ms1 = C.length - i) ((fun (i : Nat) => C.length - i) (0)) ?_ ⟨0, dC trivial ?_⟩
  all_goals try (refine zlf ?_; repeat' first | exact zso | refine And.intro ?_ ?_ | (refine zim ?_; intro zb hc) | (refine zin ?_; intro zb) | intro j')
  all_goals try refine zbx ?_
  rintro ms1 S1 ⟨i, o1_4, h1_5, h1_15, c1_0, hm1⟩
  obtain ⟨i1_4, h1_4, b1_4, l1_4⟩ := o1_4.out
  have ni1_4 := znds (x := i1_4) (n := S1.n)
  have fL1 := (And.intro h1_5 (And.intro h1_15 (And.intro h1_4 (And.intro b1_4 ni1_4))))
  ·by_cases hi : i < C.length
   ·obtain ⟨z1, z2⟩ := g3 i hi
    have z3 := sim_row z1 z2
    have z5 := (isP_8 z1).1
    by_cases h0 : 0 < i
    ·have z4 := g4 (i - 1) (by omega)
     rw [show i - 1 + 1 = i by omega] at z4
     have z6 := (isP_8 (g3 (i - 1) (by omega)).1).1
     have z7 : ((i : Int) - 1).toNat = i - 1 := by omega
     have cE1 := @laws_big_c; have cE2 := @impl_SimplesOf_f_c; have cE3 := @spec_SimplesOf_c; have cE4 := @impl_EvenOdd_c; have cE5 := @spec_EvenOdd_c; have cE6 := @impl_CountInflations_c
     have cE7 := @spec_CountInflations_c; have cE8 := @impl_SimpleChain_f_c; have cE9 := @spec_SimpleChain_f_c; have cE10 := @laws_sameLists_c; have cE11 := @impl_IsExceptional_c; have cE12 := @spec_IsExceptional_c
     have cE13 := @impl_SimpleLowers_f_c; have cE14 := @spec_SimpleLowers_c; have cE15 := @spec_SimpleLowers_n_c; have cE16 := @laws_sameInts_c; have cE17 := @spec_SymmetryClass_c; have cE18 := @laws_hasList_c
     have cE19 := @spec_IsPerm_c; have cE20 := @spec_IsSimple_c; have cE21 := @spec_HasPattern_c; have cE22 := trivial; have cE23 := trivial; have cE24 := trivial
     have cE25 := trivial; have cE26 := trivial; have cE27 := trivial; have cE28 := trivial
     refine dEa (And.intro fL1 (And.intro @z3 (And.intro @z4 @z7))) ?_
     all_goals try (refine zlf ?_; repeat' first | exact zso | refine And.intro ?_ ?_ | (refine zim ?_; intro zb hc) | (refine zin ?_; intro zb) | intro j')
     all_goals try refine zbx ?_
     focus
      refine q_lp_n ((fun (i : Nat) => C.length - i) (i+1)) (dC fL1 ?_) ⟨i+1, dC fL1 ?_⟩
      all_goals try (refine zlf ?_; repeat' first | exact zso | refine And.intro ?_ ?_ | (refine zim ?_; intro zb hc) | (refine zin ?_; intro zb) | intro j')
      all_goals try refine zbx ?_
     all_goals trace_state
    ·have cE1 := @laws_big_c; have cE2 := @impl_SimplesOf_f_c; have cE3 := @spec_SimplesOf_c; have cE4 := @impl_EvenOdd_c; have cE5 := @spec_EvenOdd_c; have cE6 := @impl_CountInflations_c
     have cE7 := @spec_CountInflations_c; have cE8 := @impl_SimpleChain_f_c; have cE9 := @spec_SimpleChain_f_c; have cE10 := @laws_sameLists_c; have cE11 := @impl_IsExceptional_c; have cE12 := @spec_IsExceptional_c
     have cE13 := @impl_SimpleLowers_f_c; have cE14 := @spec_SimpleLowers_c; have cE15 := @spec_SimpleLowers_n_c; have cE16 := @laws_sameInts_c; have cE17 := @spec_SymmetryClass_c; have cE18 := @laws_hasList_c
     have cE19 := @spec_IsPerm_c; have cE20 := @spec_IsSimple_c; have cE21 := @spec_HasPattern_c; have cE22 := trivial; have cE23 := trivial; have cE24 := trivial
     have cE25 := trivial; have cE26 := trivial; have cE27 := trivial; have cE28 := trivial
     refine dEa (And.intro fL1 @z3) ?_
     all_goals try (refine zlf ?_; repeat' first | exact zso | refine And.intro ?_ ?_ | (refine zim ?_; intro zb hc) | (refine zin ?_; intro zb) | intro j')
     all_goals try refine zbx ?_
     focus
      refine q_lp_n ((fun (i : Nat) => C.length - i) (i+1)) (dC fL1 ?_) ⟨i+1, dC fL1 ?_⟩
      all_goals try (refine zlf ?_; repeat' first | exact zso | refine And.intro ?_ ?_ | (refine zim ?_; intro zb hc) | (refine zin ?_; intro zb) | intro j')
      all_goals try refine zbx ?_
     all_goals trace_state
   ·obtain rfl : i = C.length := by omega
    cases hb : B with
    | true =>
     obtain ⟨y1, y2⟩ := g5 hb
     have y3 : ((C.length : Int) - 1).toNat = C.length - 1 := by omega
     have cE1 := @laws_big_c; have cE2 := @impl_SimplesOf_f_c; have cE3 := @spec_SimplesOf_c; have cE4 := @impl_EvenOdd_c; have cE5 := @spec_EvenOdd_c; have cE6 := @impl_CountInflations_c
     have cE7 := @spec_CountInflations_c; have cE8 := @impl_SimpleChain_f_c; have cE9 := @spec_SimpleChain_f_c; have cE10 := @laws_sameLists_c; have cE11 := @impl_IsExceptional_c; have cE12 := @spec_IsExceptional_c
     have cE13 := @impl_SimpleLowers_f_c; have cE14 := @spec_SimpleLowers_c; have cE15 := @spec_SimpleLowers_n_c; have cE16 := @laws_sameInts_c; have cE17 := @spec_SymmetryClass_c; have cE18 := @laws_hasList_c
     have cE19 := @spec_IsPerm_c; have cE20 := @spec_IsSimple_c; have cE21 := @spec_HasPattern_c; have cE22 := trivial; have cE23 := trivial; have cE24 := trivial
     have cE25 := trivial; have cE26 := trivial; have cE27 := trivial; have cE28 := trivial
     refine dEa (And.intro fL1 (And.intro @hb @y3)) ?_
     all_goals try (refine zlf ?_; repeat' first | exact zso | refine And.intro ?_ ?_ | (refine zim ?_; intro zb hc) | (refine zin ?_; intro zb) | intro j')
     all_goals try refine zbx ?_
     all_goals exact decide_eq_true (by omega)
    | false =>
     have cE1 := @laws_big_c; have cE2 := @impl_SimplesOf_f_c; have cE3 := @spec_SimplesOf_c; have cE4 := @impl_EvenOdd_c; have cE5 := @spec_EvenOdd_c; have cE6 := @impl_CountInflations_c
     have cE7 := @spec_CountInflations_c; have cE8 := @impl_SimpleChain_f_c; have cE9 := @spec_SimpleChain_f_c; have cE10 := @laws_sameLists_c; have cE11 := @impl_IsExceptional_c; have cE12 := @spec_IsExceptional_c
     have cE13 := @impl_SimpleLowers_f_c; have cE14 := @spec_SimpleLowers_c; have cE15 := @spec_SimpleLowers_n_c; have cE16 := @laws_sameInts_c; have cE17 := @spec_SymmetryClass_c; have cE18 := @laws_hasList_c
     have cE19 := @spec_IsPerm_c; have cE20 := @spec_IsSimple_c; have cE21 := @spec_HasPattern_c; have cE22 := trivial; have cE23 := trivial; have cE24 := trivial
     have cE25 := trivial; have cE26 := trivial; have cE27 := trivial; have cE28 := trivial
     refine dEa (And.intro fL1 @hb) ?_
     all_goals try (refine zlf ?_; repeat' first | exact zso | refine And.intro ?_ ?_ | (refine zim ?_; intro zb hc) | (refine zin ?_; intro zb) | intro j')
     all_goals try refine zbx ?_
     all_goals trace_state
 all_goals trace_state
theorem laws_FnSimples_c (b : List UInt8) : Fun Tryz.prog 3 [(.sl (.lent false) (List.map u8P (b)))] [(.bool (true))] := by
 by_cases hs : b.length ≤ 1048576
 ·obtain ⟨p, d1, hp⟩ := spec_DrawSimpleChain_x b hs
  obtain ⟨n, d2, n0, n1⟩ := spec_DrawSimplesOf_x b hs
  obtain ⟨e, d3, he⟩ := spec_DrawIsExceptional_x b hs
  obtain ⟨q, d4, hq⟩ := spec_DrawSimpleLowers_x b hs
  obtain ⟨m, d5, m0, m1⟩ := spec_DrawEvenOdd_x b hs
  obtain ⟨k, d6, k0, k1⟩ := spec_DrawCountInflations_x b hs
  by_cases h4 : 4 ≤ e.length ∧ (e.length : Int).tmod 2 = 0
  ·exact fs_even b hs p e q n m k d1 hp d2 n0 n1 d3 he d4 hq d5 m0 m1 d6 k0 k1 h4.1 h4.2
  ·exact fs_odd b hs p e q n m k d1 hp d2 n0 n1 d3 he d4 hq d5 m0 m1 d6 k0 k1 (fun x y => h4 ⟨x, y⟩)
 ·refine fO sg0 [2] Tryz.func3 ?_
  have cE1 := @laws_big_c; have cE2 := @impl_SimplesOf_f_c; have cE3 := @spec_SimplesOf_c; have cE4 := @impl_EvenOdd_c; have cE5 := @spec_EvenOdd_c; have cE6 := @impl_CountInflations_c
  have cE7 := @spec_CountInflations_c; have cE8 := @impl_SimpleChain_f_c; have cE9 := @spec_SimpleChain_f_c; have cE10 := @laws_sameLists_c; have cE11 := @impl_IsExceptional_c; have cE12 := @spec_IsExceptional_c
  have cE13 := @impl_SimpleLowers_f_c; have cE14 := @spec_SimpleLowers_c; have cE15 := @spec_SimpleLowers_n_c; have cE16 := @laws_sameInts_c; have cE17 := @spec_SymmetryClass_c; have cE18 := @laws_hasList_c
  have cE19 := @spec_IsPerm_c; have cE20 := @spec_IsSimple_c; have cE21 := @spec_HasPattern_c; have cD1 := zdh [false, false, false, false, true, false, false, false, false, false, false, false, false, false, false, false, false, false, false, true, false, false, false] []
  have c1 : decide ((1048576 : Int) < b.length) = true := decide_eq_true (by omega)
  refine dE @c1 ?_
  all_goals try (refine zlf ?_; repeat' first | exact zso | refine And.intro ?_ ?_ | (refine zim ?_; intro zb hc) | (refine zin ?_; intro zb) | intro j')
  all_goals try refine zbx ?_
end Go.Gl
