/-
 The patterns in a permutation, as rows of the holder's own. Conditions: none.
-/
import Derived.Test.YtfjfobbniglaeaaPatI
import Derived.Test.YtfjfobbniglaeaaOrdO
set_option linter.unusedSimpArgs false
set_option linter.unusedVariables false
set_option maxRecDepth 20000
set_option linter.unusedSectionVars false
namespace Go.Gl
open Go Go.Proofs
variable [Amb] [NoQ]
def sgPtD : FuncId → List Bool := fun f => []
theorem sgPtD_eq {f : FuncId} : sgPtD f = [] := _root_.id rfl
theorem way_sgPtD : wayE sgPtD = false ∧ wayN sgPtD = false ∧ wayS sgPtD = false ∧ wayZ sgPtD = false ∧ wayM sgPtD = false := ⟨rfl, rfl, rfl, rfl, rfl⟩
attribute [go_sem] sgPtD_eq way_sgPtD
theorem impl_PatternsIn_d_c {m0 : Bool} (p : List Int) (k : Nat) (hp : isPermB p = true) (hk : k ≤ p.length) (h0 : 0 < (plK p.length k).length) : Fun Try.prog 58 [(.sl (.lent m0) (List.map (PV.int .i64) (p))), (.int .i64 (k))] [(.dl (List.map (List.map (PV.int .i64)) (ptR p k)))] := by
 refine fO sgPtD [4] Try.func58 ?_
 have cE1 := @impl_IsPerm_c; have cE2 := @impl_places_c; have cE3 := @impl_pattern_c; have cE4 := @impl_ordered_d_c; have cE5 := @impl_ordered_a_c; have cE6 := @impl_ordered_c
 obtain ⟨h8, hq⟩ := isP_8 hp
 have l1 := plK_len p.length (by omega) k (by omega)
 have cE1 := @impl_ordered_d_c; have cE2 := @impl_IsPerm_c; have cE3 := @impl_places_c; have cE4 := @impl_pattern_c; have cE5 := trivial; have cE6 := trivial
 refine dEa @hp ?_
 all_goals try (refine zlf ?_; repeat' first | exact zso | refine And.intro ?_ ?_ | (refine zim ?_; intro zb hc) | (refine zin ?_; intro zb) | intro j')
 all_goals try refine zbx ?_
 refine v_loopB (fun ms1 S1 => ∃ (i : Nat), S1.e 0 = .p (.sl (.lent m0) (List.map (PV.int .i64) (p))) ∧ OwnL (S1.e 5) S1.h S1.n (elI false) ((((plK p.length k).take i).map fun l => patL (ptA p l)).length) (((plK p.length k).take i).map fun l => patL (ptA p l)) ∧ OwnL (S1.e 28) S1.h S1.n (elI false) ((plK p.length k).length) (plK p.length k) ∧ S1.e 29 = .p (.int .i64 ((plK p.length k).length)) ∧ S1.e 30 = .p (.int .i64 (i)) ∧ (i ≤ (plK p.length k).length) ∧ NId (S1.e 28) (S1.e 5) ∧ ms1 = (plK p.length k).length - i) ((fun (i : Nat) => (plK p.length k).length - i) (0)) ?_ ⟨0, dC trivial ?_⟩
 all_goals try (refine zlf ?_; repeat' first | exact zso | refine And.intro ?_ ?_ | (refine zim ?_; intro zb hc) | (refine zin ?_; intro zb) | intro j')
 all_goals try refine zbx ?_
 rintro ms1 S1 ⟨i, h1_0, o1_5, o1_28, h1_29, h1_30, c1_0, u1_0, hm1⟩
 obtain ⟨i1_5, h1_5, b1_5, l1_5⟩ := o1_5.out
 obtain ⟨i1_28, h1_28, b1_28, l1_28⟩ := o1_28.out
 have k1_0 := (u1_0).out h1_28 h1_5
 have ni1_5 := znds (x := i1_5) (n := S1.n)
 have ni1_28 := znds (x := i1_28) (n := S1.n)
 have di1_5i1_28 := zdne (x := i1_5) (y := i1_28)
 have fL1 := (And.intro h1_0 (And.intro h1_29 (And.intro h1_30 (And.intro h1_5 (And.intro b1_5 (And.intro h1_28 (And.intro b1_28 (And.intro ni1_5 (And.intro ni1_28 di1_5i1_28)))))))))
 ·by_cases hi : i < (plK p.length k).length
  ·obtain ⟨f1, f2, _, _⟩ := plK_f _ (getD_mem (d := []) hi)
   generalize hl : (plK p.length k).getD i [] = l at *
   have cE1 := @impl_IsPerm_c; have cE2 := @impl_places_c; have cE3 := @impl_pattern_c; have cE4 := @impl_ordered_d_c; have cE5 := @impl_ordered_a_c; have cE6 := @impl_ordered_c
   refine dEa (And.intro fL1 @hl) ?_
   all_goals try (refine zlf ?_; repeat' first | exact zso | refine And.intro ?_ ?_ | (refine zim ?_; intro zb hc) | (refine zin ?_; intro zb) | intro j')
   all_goals try refine zbx ?_
   refine v_loopB (fun ms2 S2 => ∃ (m : Nat), S2.e 0 = .p (.sl (.lent m0) (List.map (PV.int .i64) (p))) ∧ OwnL (S2.e 5) S2.h S2.n (elI false) ((((plK p.length k).take i).map fun l => patL (ptA p l)).length) (((plK p.length k).take i).map fun l => patL (ptA p l)) ∧ OwnL (S2.e 28) S2.h S2.n (elI false) ((plK p.length k).length) (plK p.length k) ∧ S2.e 29 = .p (.int .i64 ((plK p.length k).length)) ∧ S2.e 30 = .p (.int .i64 (i)) ∧ S2.e 35 = .p (.sl (.lent false) (List.map (PV.int .i64) (l))) ∧ S2.e 36 = .p (.int .i64 (l.length)) ∧ S2.e 37 = .p (.int .i64 (m)) ∧ OwnL (S2.e 8) S2.h S2.n (PV.int .i64) ((ptA p (l.take m)).length) (ptA p (l.take m)) ∧ (m ≤ l.length) ∧ NId (S2.e 28) (S2.e 5) ∧ NId (S2.e 8) (S2.e 5) ∧ NId (S2.e 8) (S2.e 28) ∧ S1.n ≤ S2.n ∧ ms2 = l.length - m) ((fun (m : Nat) => l.length - m) (0)) ?_ ⟨0, dC fL1 ?_⟩
   all_goals try (refine zlf ?_; repeat' first | exact zso | refine And.intro ?_ ?_ | (refine zim ?_; intro zb hc) | (refine zin ?_; intro zb) | intro j')
   all_goals try refine zbx ?_
   rintro ms2 S2 ⟨m, h2_0, o2_5, o2_28, h2_29, h2_30, h2_35, h2_36, h2_37, o2_8, c2_0, u2_0, u2_1, u2_2, u2_3, hm2⟩
   obtain ⟨i2_5, h2_5, b2_5, l2_5⟩ := o2_5.out
   obtain ⟨i2_28, h2_28, b2_28, l2_28⟩ := o2_28.out
   obtain ⟨i2_8, h2_8, b2_8, l2_8⟩ := o2_8.out
   have k2_0 := (u2_0).out h2_28 h2_5
   have k2_1 := (u2_1).out h2_8 h2_5
   have k2_2 := (u2_2).out h2_8 h2_28
   have ni2_5 := znds (x := i2_5) (n := S2.n)
   have ni2_28 := znds (x := i2_28) (n := S2.n)
   have ni2_8 := znds (x := i2_8) (n := S2.n)
   have di2_5i2_28 := zdne (x := i2_5) (y := i2_28)
   have di2_5i2_8 := zdne (x := i2_5) (y := i2_8)
   have di2_28i2_8 := zdne (x := i2_28) (y := i2_8)
   have fL2 := (And.intro h2_0 (And.intro h2_29 (And.intro h2_30 (And.intro h2_35 (And.intro h2_36 (And.intro h2_37 (And.intro h2_5 (And.intro b2_5 (And.intro h2_28 (And.intro b2_28 (And.intro h2_8 (And.intro b2_8 (And.intro ni2_5 (And.intro ni2_28 (And.intro ni2_8 (And.intro di2_5i2_28 (And.intro di2_5i2_8 di2_28i2_8)))))))))))))))))
   ·have b1 : (ptA p (l.take m)).length = m := by simp [ptA]; omega
    by_cases hm : m < l.length
    ·have f3 := f2 _ (getD_mem (d := 0) hm)
     have cE1 := @impl_IsPerm_c; have cE2 := @impl_places_c; have cE3 := @impl_pattern_c; have cE4 := @impl_ordered_d_c; have cE5 := @impl_ordered_a_c; have cE6 := @impl_ordered_c
     refine dEa fL2 ?_
     all_goals try (refine zlf ?_; repeat' first | exact zso | refine And.intro ?_ ?_ | (refine zim ?_; intro zb hc) | (refine zin ?_; intro zb) | intro j')
     all_goals try refine zbx ?_
     focus
      refine q_lp_n ((fun (m : Nat) => l.length - m) (m+1)) (dC fL2 ?_) ⟨m+1, dC fL2 ?_⟩
      all_goals try (refine zlf ?_; repeat' first | exact zso | refine And.intro ?_ ?_ | (refine zim ?_; intro zb hc) | (refine zin ?_; intro zb) | intro j')
      all_goals try refine zbx ?_
     all_goals first | (simp only [ptA]; rw [take_getD (d := 0) hm, List.map_append]; done) | (simp only [ptA]; rw [take_getD (d := 0) hm, List.map_append]; rfl) | (simp [ptA]; omega) | trace_state
    ·obtain rfl : m = l.length := by omega
     have e7 : List.take l.length l = l := List.take_of_length_le (Nat.le_refl _)
     have e8 : (ptA p l).length = l.length := by simp [ptA]
     have cE1 := @impl_IsPerm_c; have cE2 := @impl_places_c; have cE3 := @impl_pattern_c; have cE4 := @impl_ordered_d_c; have cE5 := @impl_ordered_a_c; have cE6 := @impl_ordered_c
     refine dEa (And.intro fL2 (And.intro @e7 @e8)) ?_
     all_goals try (refine zlf ?_; repeat' first | exact zso | refine And.intro ?_ ?_ | (refine zim ?_; intro zb hc) | (refine zin ?_; intro zb) | intro j')
     all_goals try refine zbx ?_
     focus
      refine q_lp_n ((fun (i : Nat) => (plK p.length k).length - i) (i+1)) (dC fL2 ?_) ⟨i+1, dC fL2 ?_⟩
      all_goals try (refine zlf ?_; repeat' first | exact zso | refine And.intro ?_ ?_ | (refine zim ?_; intro zb hc) | (refine zin ?_; intro zb) | intro j')
      all_goals try refine zbx ?_
     all_goals first | (rw [take_getD (d := []) hi, List.map_append, hl, show List.take l.length (ptA p l) = ptA p l from List.take_of_length_le (by omega)]; rfl) | trace_state
   all_goals trace_state
  ·obtain rfl : i = (plK p.length k).length := by omega
   have cE1 := @impl_ordered_d_c; have cE2 := @impl_IsPerm_c; have cE3 := @impl_places_c; have cE4 := @impl_pattern_c; have cE5 := trivial; have cE6 := trivial
   refine dEa fL1 ?_
   all_goals try (refine zlf ?_; repeat' first | exact zso | refine And.intro ?_ ?_ | (refine zim ?_; intro zb hc) | (refine zin ?_; intro zb) | intro j')
   all_goals try refine zbx ?_
   ·intro l h
    obtain ⟨x, hx, rfl⟩ := List.mem_map.1 h
    have := (plK_f x hx).1
    rw [patL_len]; simp only [ptA, List.length_map]; omega
   ·rfl
 all_goals trace_state
end Go.Gl
