/-
 The patterns of a length in a permutation: what their functions compute. Conditions: none.
-/
import Derived.Test.YtfjfobbniglaeaaSlN
import Derived.Test.YtfjfobbniglaeaaSimM
import Derived.Test.YtfjfobbniglaeaaOrd
import Derived.Test.YtfjfobbniglaeaaPat
import Derived.Test.YtfjfobbniglaeaaPerm
import Derived.Test.YtfjfobbniglaeaaClone
import Derived.Test.YtfjfobbniglaeaaBasis
import Derived.Test.YtfjfobbniglaeaaNum
import Derived.Test.YtfjfobbniglaeaaSrtB
set_option linter.unusedSimpArgs false
set_option linter.unusedVariables false
set_option maxRecDepth 20000
set_option linter.unusedSectionVars false
namespace Go.Gl
open Go Go.Proofs
variable [Amb] [NoQ]
/-- The next place to be chosen. -/
def fsQ (q : List Int) : Int := if q.length = 0 then 1 else q.getD (q.length - 1) 0 + 1
def plE (n : Nat) (q : List Int) (m : Nat) : List (List Int) := (List.range m).map fun i : Nat => q ++ [fsQ q + (i : Int)]
def plF (n : Nat) (q : List Int) : List (List Int) := plE n q ((n : Int) + 1 - fsQ q).toNat
def plK (n : Nat) : Nat → List (List Int)
 | 0 => [[]]
 | k + 1 => (plK n k).flatMap (plF n)
theorem plE_succ {n m : Nat} {q : List Int} : plE n q (m + 1) = plE n q m ++ [q ++ [fsQ q + (m : Int)]] := by simp [plE, List.range_succ]
theorem plE_len {n m : Nat} {q : List Int} : (plE n q m).length = m := by simp [plE]
theorem plK_len : ∀ n, n < 9 → ∀ k, k < 9 → (plK n k).length ≤ 70 := by decide +kernel
theorem plK_f {n : Nat} : ∀ {k : Nat}, ∀ q ∈ plK n k, q.length = k ∧ (∀ x ∈ q, 1 ≤ x ∧ x ≤ n) ∧ 1 ≤ fsQ q ∧ fsQ q ≤ n + 1
 | 0, q, h => by simp [plK] at h; subst h; simp [fsQ]; omega
 | k + 1, q, h => by
  rw [plK, List.mem_flatMap] at h
  obtain ⟨r, hr, h⟩ := h
  rw [plF, plE, List.mem_map] at h
  obtain ⟨i, hi, rfl⟩ := h
  rw [List.mem_range] at hi
  obtain ⟨h1, h2, h3, h4⟩ := plK_f r hr
  have e : fsQ (r ++ [fsQ r + (i : Int)]) = fsQ r + i + 1 := by
   rw [fsQ, if_neg (by simp)]
   rw [List.getD_eq_getElem?_getD, List.getElem?_append_right (by simp)]
   simp
  refine ⟨by simp [h1], fun x hx => ?_, by omega, by omega⟩
  rcases List.mem_append.1 hx with q | q
  ·exact h2 x q
  ·rw [List.mem_singleton] at q; subst q; omega
theorem fl_take {α β : Type} {f : α → List β} {l : List α} {i : Nat} : ((l.take i).flatMap f).length ≤ (l.flatMap f).length := by
 conv => rhs; rw [← List.take_append_drop i l, List.flatMap_append, List.length_append]
 omega
theorem impl_places_c (n k : Nat) (hn : n ≤ 8) (hk : k ≤ 8) : Fun Try.prog 105 [(.int .i64 (n)), (.int .i64 (k))] [(.sl .own (List.map (elI false) (plK n k)))] := by
 refine fO sg0 [4] Try.func105 ?_
 have cE1 := @slices_Clone_c
 refine dEa trivial ?_
 all_goals try (refine zlf ?_; repeat' first | exact zso | refine And.intro ?_ ?_ | (refine zim ?_; intro zb hc) | (refine zin ?_; intro zb) | intro j')
 all_goals try refine zbx ?_
 refine v_loopB (fun ms1 S1 => ∃ (j : Nat), S1.e 0 = .p (.int .i64 (n)) ∧ OwnL (S1.e 5) S1.h S1.n (elI false) ((plK n j).length) (plK n j) ∧ S1.e 13 = .p (.int .i64 (k)) ∧ S1.e 14 = .p (.int .i64 (j)) ∧ (j ≤ k) ∧ ms1 = k - j) ((fun (j : Nat) => k - j) (0)) ?_ ⟨0, dC trivial ?_⟩
 all_goals try (refine zlf ?_; repeat' first | exact zso | refine And.intro ?_ ?_ | (refine zim ?_; intro zb hc) | (refine zin ?_; intro zb) | intro j')
 all_goals try refine zbx ?_
 rintro ms1 S1 ⟨j, h1_0, o1_5, h1_13, h1_14, c1_0, hm1⟩
 obtain ⟨i1_5, h1_5, b1_5, l1_5⟩ := o1_5.out
 have ni1_5 := znds (x := i1_5) (n := S1.n)
 have fL1 := (And.intro h1_0 (And.intro h1_13 (And.intro h1_14 (And.intro h1_5 (And.intro b1_5 ni1_5)))))
 ·have l1 := plK_len n (by omega) j (by omega)
  by_cases hj : j < k
  ·have l2 := plK_len n (by omega) (j + 1) (by omega)
   rw [plK] at l2
   refine dEa fL1 ?_
   all_goals try (refine zlf ?_; repeat' first | exact zso | refine And.intro ?_ ?_ | (refine zim ?_; intro zb hc) | (refine zin ?_; intro zb) | intro j')
   all_goals try refine zbx ?_
   refine v_loopB (fun ms2 S2 => ∃ (i : Nat), S2.e 0 = .p (.int .i64 (n)) ∧ OwnL (S2.e 17) S2.h S2.n (elI false) ((plK n j).length) (plK n j) ∧ S2.e 18 = .p (.int .i64 ((plK n j).length)) ∧ S2.e 19 = .p (.int .i64 (i)) ∧ OwnL (S2.e 6) S2.h S2.n (elI false) ((((plK n j).take i).flatMap (plF n)).length) (((plK n j).take i).flatMap (plF n)) ∧ S2.e 13 = .p (.int .i64 (k)) ∧ S2.e 14 = .p (.int .i64 (j)) ∧ (i ≤ (plK n j).length) ∧ NId (S2.e 6) (S2.e 17) ∧ S1.n ≤ S2.n ∧ ms2 = (plK n j).length - i) ((fun (i : Nat) => (plK n j).length - i) (0)) ?_ ⟨0, dC fL1 ?_⟩
   all_goals try (refine zlf ?_; repeat' first | exact zso | refine And.intro ?_ ?_ | (refine zim ?_; intro zb hc) | (refine zin ?_; intro zb) | intro j')
   all_goals try refine zbx ?_
   rintro ms2 S2 ⟨i, h2_0, o2_17, h2_18, h2_19, o2_6, h2_13, h2_14, c2_0, u2_0, u2_1, hm2⟩
   obtain ⟨i2_17, h2_17, b2_17, l2_17⟩ := o2_17.out
   obtain ⟨i2_6, h2_6, b2_6, l2_6⟩ := o2_6.out
   have k2_0 := (u2_0).out h2_6 h2_17
   have ni2_17 := znds (x := i2_17) (n := S2.n)
   have ni2_6 := znds (x := i2_6) (n := S2.n)
   have di2_17i2_6 := zdne (x := i2_17) (y := i2_6)
   have fL2 := (And.intro h2_0 (And.intro h2_18 (And.intro h2_19 (And.intro h2_13 (And.intro h2_14 (And.intro h2_17 (And.intro b2_17 (And.intro h2_6 (And.intro b2_6 (And.intro ni2_17 (And.intro ni2_6 di2_17i2_6)))))))))))
   ·have l3 := fl_take (f := plF n) (l := plK n j) (i := i)
    by_cases hi : i < (plK n j).length
    ·obtain ⟨f1, f2, f3, f4⟩ := plK_f _ (getD_mem (d := []) hi)
     generalize hq : (plK n j).getD i [] = q at *
     by_cases hq0 : q.length = 0
     ·have e1 : fsQ q = 1 := if_pos hq0
      have e2 : ((q.length : Int) = 0) = True := eq_true (by omega)
      refine dEa (And.intro fL2 @hq) ?_
      all_goals try (refine zlf ?_; repeat' first | exact zso | refine And.intro ?_ ?_ | (refine zim ?_; intro zb hc) | (refine zin ?_; intro zb) | intro j')
      all_goals try refine zbx ?_
      refine v_loopB (fun ms4 S4 => ∃ (m : Nat), S4.e 0 = .p (.int .i64 (n)) ∧ OwnL (S4.e 17) S4.h S4.n (elI false) ((plK n j).length) (plK n j) ∧ S4.e 18 = .p (.int .i64 ((plK n j).length)) ∧ S4.e 19 = .p (.int .i64 (i)) ∧ S4.e 8 = .p (.sl (.lent false) (List.map (PV.int .i64) (q))) ∧ S4.e 10 = .p (.int .i64 ((fsQ q + m))) ∧ OwnL (S4.e 6) S4.h S4.n (elI false) ((((plK n j).take i).flatMap (plF n) ++ plE n q m).length) (((plK n j).take i).flatMap (plF n) ++ plE n q m) ∧ S4.e 13 = .p (.int .i64 (k)) ∧ S4.e 14 = .p (.int .i64 (j)) ∧ ((m : Int) ≤ n + 1 - fsQ q) ∧ NId (S4.e 6) (S4.e 17) ∧ S2.n ≤ S4.n ∧ ms4 = n + 1 - m) ((fun (m : Nat) => n + 1 - m) (0)) ?_ ⟨0, dC fL2 ?_⟩
      all_goals try (refine zlf ?_; repeat' first | exact zso | refine And.intro ?_ ?_ | (refine zim ?_; intro zb hc) | (refine zin ?_; intro zb) | intro j')
      all_goals try refine zbx ?_
      rintro ms4 S4 ⟨m, h4_0, o4_17, h4_18, h4_19, h4_8, h4_10, o4_6, h4_13, h4_14, c4_0, u4_0, u4_1, hm4⟩
      obtain ⟨i4_17, h4_17, b4_17, l4_17⟩ := o4_17.out
      obtain ⟨i4_6, h4_6, b4_6, l4_6⟩ := o4_6.out
      have k4_0 := (u4_0).out h4_6 h4_17
      have ni4_17 := znds (x := i4_17) (n := S4.n)
      have ni4_6 := znds (x := i4_6) (n := S4.n)
      have di4_17i4_6 := zdne (x := i4_17) (y := i4_6)
      have fL4 := (And.intro h4_0 (And.intro h4_18 (And.intro h4_19 (And.intro h4_8 (And.intro h4_10 (And.intro h4_13 (And.intro h4_14 (And.intro h4_17 (And.intro b4_17 (And.intro h4_6 (And.intro b4_6 (And.intro ni4_17 (And.intro ni4_6 di4_17i4_6)))))))))))))
      ·have l4 := plE_len (n := n) (q := q) (m := m)
       by_cases hm : fsQ q + m ≤ n
       ·have e9 : ∀ x : Int, List.take (q.length + 1) (q ++ [x]) = q ++ [x] := fun x => List.take_of_length_le (by simp)
        refine dEa (And.intro fL4 @e9) ?_
        all_goals try (refine zlf ?_; repeat' first | exact zso | refine And.intro ?_ ?_ | (refine zim ?_; intro zb hc) | (refine zin ?_; intro zb) | intro j')
        all_goals try refine zbx ?_
        focus
         refine q_lp_n ((fun (m : Nat) => n + 1 - m) (m+1)) (dC fL4 ?_) ⟨m+1, dC fL4 ?_⟩
         all_goals try (refine zlf ?_; repeat' first | exact zso | refine And.intro ?_ ?_ | (refine zim ?_; intro zb hc) | (refine zin ?_; intro zb) | intro j')
         all_goals try refine zbx ?_
        all_goals first | (rw [plE_succ, ← List.append_assoc]; done) | (simp only [List.length_append, plE_len]; omega) | (rw [plE_succ]; simp; done) | trace_state
       ·refine dEa fL4 ?_
        all_goals try (refine zlf ?_; repeat' first | exact zso | refine And.intro ?_ ?_ | (refine zim ?_; intro zb hc) | (refine zin ?_; intro zb) | intro j')
        all_goals try refine zbx ?_
        focus
         refine q_lp_n ((fun (i : Nat) => (plK n j).length - i) (i+1)) (dC fL4 ?_) ⟨i+1, dC fL4 ?_⟩
         all_goals try (refine zlf ?_; repeat' first | exact zso | refine And.intro ?_ ?_ | (refine zim ?_; intro zb hc) | (refine zin ?_; intro zb) | intro j')
         all_goals try refine zbx ?_
        all_goals first | (rw [take_getD (d := []) hi, List.flatMap_append, hq]; simp only [List.flatMap_cons, List.flatMap_nil, List.append_nil]; rw [plF, show ((n : Int) + 1 - fsQ q).toNat = m by omega]; done) | trace_state
      all_goals first | (simp [plE]; done) | trace_state
     ·have e1 : fsQ q = q.getD (q.length - 1) 0 + 1 := if_neg hq0
      have f5 := f2 _ (getD_mem (d := 0) (show q.length - 1 < q.length by omega))
      have e3 : ((q.length : Int) - 1).toNat = q.length - 1 := by omega
      refine dEa (And.intro fL2 (And.intro @hq @e3)) ?_
      all_goals try (refine zlf ?_; repeat' first | exact zso | refine And.intro ?_ ?_ | (refine zim ?_; intro zb hc) | (refine zin ?_; intro zb) | intro j')
      all_goals try refine zbx ?_
      refine v_loopB (fun ms4 S4 => ∃ (m : Nat), S4.e 0 = .p (.int .i64 (n)) ∧ OwnL (S4.e 17) S4.h S4.n (elI false) ((plK n j).length) (plK n j) ∧ S4.e 18 = .p (.int .i64 ((plK n j).length)) ∧ S4.e 19 = .p (.int .i64 (i)) ∧ S4.e 8 = .p (.sl (.lent false) (List.map (PV.int .i64) (q))) ∧ S4.e 10 = .p (.int .i64 ((fsQ q + m))) ∧ OwnL (S4.e 6) S4.h S4.n (elI false) ((((plK n j).take i).flatMap (plF n) ++ plE n q m).length) (((plK n j).take i).flatMap (plF n) ++ plE n q m) ∧ S4.e 13 = .p (.int .i64 (k)) ∧ S4.e 14 = .p (.int .i64 (j)) ∧ ((m : Int) ≤ n + 1 - fsQ q) ∧ NId (S4.e 6) (S4.e 17) ∧ S2.n ≤ S4.n ∧ ms4 = n + 1 - m) ((fun (m : Nat) => n + 1 - m) (0)) ?_ ⟨0, dC fL2 ?_⟩
      all_goals try (refine zlf ?_; repeat' first | exact zso | refine And.intro ?_ ?_ | (refine zim ?_; intro zb hc) | (refine zin ?_; intro zb) | intro j')
      all_goals try refine zbx ?_
      rintro ms4 S4 ⟨m, h4_0, o4_17, h4_18, h4_19, h4_8, h4_10, o4_6, h4_13, h4_14, c4_0, u4_0, u4_1, hm4⟩
      obtain ⟨i4_17, h4_17, b4_17, l4_17⟩ := o4_17.out
      obtain ⟨i4_6, h4_6, b4_6, l4_6⟩ := o4_6.out
      have k4_0 := (u4_0).out h4_6 h4_17
      have ni4_17 := znds (x := i4_17) (n := S4.n)
      have ni4_6 := znds (x := i4_6) (n := S4.n)
      have di4_17i4_6 := zdne (x := i4_17) (y := i4_6)
      have fL4 := (And.intro h4_0 (And.intro h4_18 (And.intro h4_19 (And.intro h4_8 (And.intro h4_10 (And.intro h4_13 (And.intro h4_14 (And.intro h4_17 (And.intro b4_17 (And.intro h4_6 (And.intro b4_6 (And.intro ni4_17 (And.intro ni4_6 di4_17i4_6)))))))))))))
      ·have l4 := plE_len (n := n) (q := q) (m := m)
       by_cases hm : fsQ q + m ≤ n
       ·have e9 : ∀ x : Int, List.take (q.length + 1) (q ++ [x]) = q ++ [x] := fun x => List.take_of_length_le (by simp)
        refine dEa (And.intro fL4 @e9) ?_
        all_goals try (refine zlf ?_; repeat' first | exact zso | refine And.intro ?_ ?_ | (refine zim ?_; intro zb hc) | (refine zin ?_; intro zb) | intro j')
        all_goals try refine zbx ?_
        focus
         refine q_lp_n ((fun (m : Nat) => n + 1 - m) (m+1)) (dC fL4 ?_) ⟨m+1, dC fL4 ?_⟩
         all_goals try (refine zlf ?_; repeat' first | exact zso | refine And.intro ?_ ?_ | (refine zim ?_; intro zb hc) | (refine zin ?_; intro zb) | intro j')
         all_goals try refine zbx ?_
        all_goals first | (rw [plE_succ, ← List.append_assoc]; done) | (simp only [List.length_append, plE_len]; omega) | (rw [plE_succ]; simp; done) | trace_state
       ·refine dEa fL4 ?_
        all_goals try (refine zlf ?_; repeat' first | exact zso | refine And.intro ?_ ?_ | (refine zim ?_; intro zb hc) | (refine zin ?_; intro zb) | intro j')
        all_goals try refine zbx ?_
        focus
         refine q_lp_n ((fun (i : Nat) => (plK n j).length - i) (i+1)) (dC fL4 ?_) ⟨i+1, dC fL4 ?_⟩
         all_goals try (refine zlf ?_; repeat' first | exact zso | refine And.intro ?_ ?_ | (refine zim ?_; intro zb hc) | (refine zin ?_; intro zb) | intro j')
         all_goals try refine zbx ?_
        all_goals first | (rw [take_getD (d := []) hi, List.flatMap_append, hq]; simp only [List.flatMap_cons, List.flatMap_nil, List.append_nil]; rw [plF, show ((n : Int) + 1 - fsQ q).toNat = m by omega]; done) | trace_state
      all_goals first | (simp [plE]; done) | trace_state
    ·obtain rfl : i = (plK n j).length := by omega
     refine dEa fL2 ?_
     all_goals try (refine zlf ?_; repeat' first | exact zso | refine And.intro ?_ ?_ | (refine zim ?_; intro zb hc) | (refine zin ?_; intro zb) | intro j')
     all_goals try refine zbx ?_
     focus
      refine q_lp_n ((fun (j : Nat) => k - j) (j+1)) (dC fL2 ?_) ⟨j+1, dC fL2 ?_⟩
      all_goals try (refine zlf ?_; repeat' first | exact zso | refine And.intro ?_ ?_ | (refine zim ?_; intro zb hc) | (refine zin ?_; intro zb) | intro j')
      all_goals try refine zbx ?_
     all_goals first | (rw [List.take_of_length_le (Nat.le_refl _), plK]; done) | trace_state
   all_goals trace_state
  ·obtain rfl : j = k := by omega
   refine dEa fL1 ?_
   all_goals try (refine zlf ?_; repeat' first | exact zso | refine And.intro ?_ ?_ | (refine zim ?_; intro zb hc) | (refine zin ?_; intro zb) | intro j')
   all_goals try refine zbx ?_
 all_goals trace_state
/-- The pattern at some places, counted from 1. -/
def ptA (p l : List Int) : List Int := l.map fun i => p.getD (i - 1).toNat 0
def ptR (p : List Int) (k : Nat) : List (List Int) := putL ((plK p.length k).map fun l => patL (ptA p l))
theorem impl_PatternsIn_c {m0 : Bool} (p : List Int) (k : Nat) (hp : isPermB p = true) (hk : k ≤ p.length) : Fun Try.prog 58 [(.sl (.lent m0) (List.map (PV.int .i64) (p))), (.int .i64 (k))] [(.sl .own (List.map (elI false) (ptR p k)))] := by
 refine fO sg0 [4] Try.func58 ?_
 have cE1 := @impl_IsPerm_c; have cE2 := @impl_places_c; have cE3 := @impl_pattern_c; have cE4 := @impl_ordered_a_c; have cE5 := @impl_ordered_c
 obtain ⟨h8, hq⟩ := isP_8 hp
 have l1 := plK_len p.length (by omega) k (by omega)
 have cE1 := @impl_ordered_a_c; have cE2 := @impl_IsPerm_c; have cE3 := @impl_places_c; have cE4 := @impl_pattern_c; have cE5 := trivial
 refine dEa @hp ?_
 all_goals try (refine zlf ?_; repeat' first | exact zso | refine And.intro ?_ ?_ | (refine zim ?_; intro zb hc) | (refine zin ?_; intro zb) | intro j')
 all_goals try refine zbx ?_
 refine v_loopB (fun ms1 S1 => ∃ (i : Nat), S1.e 0 = .p (.sl (.lent m0) (List.map (PV.int .i64) (p))) ∧ OwnL (S1.e 5) S1.h S1.n (elI false) ((((plK p.length k).take i).map fun l => patL (ptA p l)).length) (((plK p.length k).take i).map fun l => patL (ptA p l)) ∧ OwnL (S1.e 28) S1.h S1.n (elI false) ((plK p.length k).length) (plK p.length k) ∧ S1.e 29 = .p (.int .i64 ((plK p.length k).length)) ∧ S1.e 30 = .p (.int .i64 (i)) ∧ (i ≤ (plK p.length k).length) ∧ NId (S1.e 28) (S1.e 5) ∧ ms1 = (plK p.length k).length - i) ((fun (i : Nat) => (plK p.length k).length - i) (0)) ?_ ⟨0, dC trivial ?_⟩
 all_goals try (refine zlf ?_; repeat' first | exact zso | refine And.intro ?_ ?_ | (refine zim ?_; intro zb hc) | (refine zin ?_; intro zb) | intro j')
 all_goals try refine zbx ?_
 rintro ms1 S1 ⟨i, h1_0, o1_5, o1_28, h1_29, h1_30, c1_0, u1_0, hm1⟩
 obtain ⟨i1_5, h1_5, b1_5, l1_5⟩ := o1_5.out
 obtain ⟨i1_28, h1_28, b1_28, l1_28⟩ := o1_28.out
 have k1_0 := (u1_0).out h1_28 h1_5
 have ni1_5 := znds (x := i1_5) (n := S1.n)
 have ni1_28 := znds (x := i1_28) (n := S1.n)
 have di1_5i1_28 := zdne (x := i1_5) (y := i1_28)
 have fL1 := (And.intro h1_0 (And.intro h1_29 (And.intro h1_30 (And.intro h1_5 (And.intro b1_5 (And.intro h1_28 (And.intro b1_28 (And.intro ni1_5 (And.intro ni1_28 di1_5i1_28)))))))))
 ·by_cases hi : i < (plK p.length k).length
  ·obtain ⟨f1, f2, _, _⟩ := plK_f _ (getD_mem (d := []) hi)
   generalize hl : (plK p.length k).getD i [] = l at *
   have cE1 := @impl_IsPerm_c; have cE2 := @impl_places_c; have cE3 := @impl_pattern_c; have cE4 := @impl_ordered_a_c; have cE5 := @impl_ordered_c
   refine dEa (And.intro fL1 @hl) ?_
   all_goals try (refine zlf ?_; repeat' first | exact zso | refine And.intro ?_ ?_ | (refine zim ?_; intro zb hc) | (refine zin ?_; intro zb) | intro j')
   all_goals try refine zbx ?_
   refine v_loopB (fun ms2 S2 => ∃ (m : Nat), S2.e 0 = .p (.sl (.lent m0) (List.map (PV.int .i64) (p))) ∧ OwnL (S2.e 5) S2.h S2.n (elI false) ((((plK p.length k).take i).map fun l => patL (ptA p l)).length) (((plK p.length k).take i).map fun l => patL (ptA p l)) ∧ OwnL (S2.e 28) S2.h S2.n (elI false) ((plK p.length k).length) (plK p.length k) ∧ S2.e 29 = .p (.int .i64 ((plK p.length k).length)) ∧ S2.e 30 = .p (.int .i64 (i)) ∧ S2.e 35 = .p (.sl (.lent false) (List.map (PV.int .i64) (l))) ∧ S2.e 36 = .p (.int .i64 (l.length)) ∧ S2.e 37 = .p (.int .i64 (m)) ∧ OwnL (S2.e 8) S2.h S2.n (PV.int .i64) ((ptA p (l.take m)).length) (ptA p (l.take m)) ∧ (m ≤ l.length) ∧ NId (S2.e 28) (S2.e 5) ∧ NId (S2.e 8) (S2.e 5) ∧ NId (S2.e 8) (S2.e 28) ∧ S1.n ≤ S2.n ∧ ms2 = l.length - m) ((fun (m : Nat) => l.length - m) (0)) ?_ ⟨0, dC fL1 ?_⟩
   all_goals try (refine zlf ?_; repeat' first | exact zso | refine And.intro ?_ ?_ | (refine zim ?_; intro zb hc) | (refine zin ?_; intro zb) | intro j')
   all_goals try refine zbx ?_
   rintro ms2 S2 ⟨m, h2_0, o2_5, o2_28, h2_29, h2_30, h2_35, h2_36, h2_37, o2_8, c2_0, u2_0, u2_1, u2_2, u2_3, hm2⟩
   obtain ⟨i2_5, h2_5, b2_5, l2_5⟩ := o2_5.out
   obtain ⟨i2_28, h2_28, b2_28, l2_28⟩ := o2_28.out
   obtain ⟨i2_8, h2_8, b2_8, l2_8⟩ := o2_8.out
   have k2_0 := (u2_0).out h2_28 h2_5
   have k2_1 := (u2_1).out h2_8 h2_5
   have k2_2 := (u2_2).out h2_8 h2_28
   have ni2_5 := znds (x := i2_5) (n := S2.n)
   have ni2_28 := znds (x := i2_28) (n := S2.n)
   have ni2_8 := znds (x := i2_8) (n := S2.n)
   have di2_5i2_28 := zdne (x := i2_5) (y := i2_28)
   have di2_5i2_8 := zdne (x := i2_5) (y := i2_8)
   have di2_28i2_8 := zdne (x := i2_28) (y := i2_8)
   have fL2 := (And.intro h2_0 (And.intro h2_29 (And.intro h2_30 (And.intro h2_35 (And.intro h2_36 (And.intro h2_37 (And.intro h2_5 (And.intro b2_5 (And.intro h2_28 (And.intro b2_28 (And.intro h2_8 (And.intro b2_8 (And.intro ni2_5 (And.intro ni2_28 (And.intro ni2_8 (And.intro di2_5i2_28 (And.intro di2_5i2_8 di2_28i2_8)))))))))))))))))
   ·have b1 : (ptA p (l.take m)).length = m := by simp [ptA]; omega
    by_cases hm : m < l.length
    ·have f3 := f2 _ (getD_mem (d := 0) hm)
     have cE1 := @impl_IsPerm_c; have cE2 := @impl_places_c; have cE3 := @impl_pattern_c; have cE4 := @impl_ordered_a_c; have cE5 := @impl_ordered_c
     refine dEa fL2 ?_
     all_goals try (refine zlf ?_; repeat' first | exact zso | refine And.intro ?_ ?_ | (refine zim ?_; intro zb hc) | (refine zin ?_; intro zb) | intro j')
     all_goals try refine zbx ?_
     focus
      refine q_lp_n ((fun (m : Nat) => l.length - m) (m+1)) (dC fL2 ?_) ⟨m+1, dC fL2 ?_⟩
      all_goals try (refine zlf ?_; repeat' first | exact zso | refine And.intro ?_ ?_ | (refine zim ?_; intro zb hc) | (refine zin ?_; intro zb) | intro j')
      all_goals try refine zbx ?_
     all_goals first | (simp only [ptA]; rw [take_getD (d := 0) hm, List.map_append]; done) | (simp only [ptA]; rw [take_getD (d := 0) hm, List.map_append]; rfl) | (simp [ptA]; omega) | trace_state
    ·obtain rfl : m = l.length := by omega
     have e7 : List.take l.length l = l := List.take_of_length_le (Nat.le_refl _)
     have e8 : (ptA p l).length = l.length := by simp [ptA]
     have cE1 := @impl_IsPerm_c; have cE2 := @impl_places_c; have cE3 := @impl_pattern_c; have cE4 := @impl_ordered_a_c; have cE5 := @impl_ordered_c
     refine dEa (And.intro fL2 (And.intro @e7 @e8)) ?_
     all_goals try (refine zlf ?_; repeat' first | exact zso | refine And.intro ?_ ?_ | (refine zim ?_; intro zb hc) | (refine zin ?_; intro zb) | intro j')
     all_goals try refine zbx ?_
     focus
      refine q_lp_n ((fun (i : Nat) => (plK p.length k).length - i) (i+1)) (dC fL2 ?_) ⟨i+1, dC fL2 ?_⟩
      all_goals try (refine zlf ?_; repeat' first | exact zso | refine And.intro ?_ ?_ | (refine zim ?_; intro zb hc) | (refine zin ?_; intro zb) | intro j')
      all_goals try refine zbx ?_
     all_goals first | (rw [take_getD (d := []) hi, List.map_append, hl, show List.take l.length (ptA p l) = ptA p l from List.take_of_length_le (by omega)]; rfl) | trace_state
   all_goals trace_state
  ·obtain rfl : i = (plK p.length k).length := by omega
   have cE1 := @impl_ordered_a_c; have cE2 := @impl_IsPerm_c; have cE3 := @impl_places_c; have cE4 := @impl_pattern_c; have cE5 := trivial
   refine dEa fL1 ?_
   all_goals try (refine zlf ?_; repeat' first | exact zso | refine And.intro ?_ ?_ | (refine zim ?_; intro zb hc) | (refine zin ?_; intro zb) | intro j')
   all_goals try refine zbx ?_
   ·intro l h
    obtain ⟨x, hx, rfl⟩ := List.mem_map.1 h
    have := (plK_f x hx).1
    rw [patL_len]; simp only [ptA, List.length_map]; omega
   ·rfl
 all_goals trace_state
/-- The numbers at the places that a number's bits tell. -/
def selN (p : List Int) (s : Nat) : Nat → List Int
 | 0 => []
 | i + 1 => selN p s i ++ (if s / 2 ^ i % 2 = 1 then [p.getD i 0] else [])
def spS (p : List Int) (k : Nat) : Nat → List (List Int)
 | 0 => []
 | s + 1 => if (selN p s p.length).length = k then putP (spS p k s) (patL (selN p s p.length)) else spS p k s
theorem selN_len {p : List Int} {s : Nat} : ∀ {i : Nat}, (selN p s i).length ≤ i
 | 0 => Nat.le_refl _
 | i + 1 => by
  have := selN_len (p := p) (s := s) (i := i)
  rw [selN, List.length_append]; split <;> simp <;> omega
theorem spS_len {p : List Int} {k : Nat} : ∀ {s : Nat}, (spS p k s).length ≤ s
 | 0 => Nat.le_refl _
 | s + 1 => by
  have := spS_len (p := p) (k := k) (s := s)
  rw [spS]; split
  ·have h2 : (putP (spS p k s) (patL (selN p s p.length))).length ≤ (spS p k s).length + 1 := by
    unfold putP; split
    ·omega
    ·exact Nat.le_of_eq insS_len
   omega
  ·omega
theorem spS_row {p : List Int} {k : Nat} : ∀ {s : Nat}, ∀ l ∈ spS p k s, l.length ≤ p.length
 | 0, l, h => by simp [spS] at h
 | s + 1, l, h => by
  rw [spS] at h
  split at h
  ·rw [putP_mem] at h
   rcases h with rfl | h
   ·rw [patL_len]; exact selN_len
   ·exact spS_row l h
  ·exact spS_row l h
theorem pi_all : ∀ n, n < 9 → ∀ p ∈ exL n, isPermB p = true ∧ p.length = n ∧ spS p (n - 2) (2 ^ n) = ptR p (n - 2) ∧ ((ptR p (n - 2)).filter isSimB).length ≠ 0 ∧ ((ptR p (n - 2)).filter isSimB).all (fun q => isPermB q && decide (q.length = n - 2) && hasB p q) = true := by decide +kernel
end Go.Gl
