/-
  What the functions compute, and what the law asks of it: texts joined. Conditions: those that each lemma names.
-/
import Derived.Test.YtfjfobbniglaeaaGreatT3
import Derived.Test.YtfjfobbniglaeaaGreatT1
import Derived.Test.YtfjfobbniglaeaaGreatT2
set_option linter.unusedSimpArgs false
set_option linter.unusedVariables false
set_option maxRecDepth 20000
set_option linter.unusedSectionVars false
namespace Go.Gl
open Go Go.Proofs
variable [Amb] [NoQ]
/-- The next place to be chosen. -/
def fsQ (q : List Int) : Int := if q.length = 0 then 1 else q.getD (q.length - 1) 0 + 1
def plE (n : Nat) (q : List Int) (m : Nat) : List (List Int) := (List.range m).map fun i : Nat => q ++ [fsQ q + (i : Int)]
def plF (n : Nat) (q : List Int) : List (List Int) := plE n q ((n : Int) + 1 - fsQ q).toNat
def plK (n : Nat) : Nat → List (List Int)
 | 0 => [[]]
 | k + 1 => (plK n k).flatMap (plF n)
theorem plE_succ {n m : Nat} {q : List Int} : plE n q (m + 1) = plE n q m ++ [q ++ [fsQ q + (m : Int)]] := by simp [plE, List.range_succ]
theorem plE_len {n m : Nat} {q : List Int} : (plE n q m).length = m := by simp [plE]
theorem plK_len : ∀ n, n < 9 → ∀ k, k < 9 → (plK n k).length ≤ 70 := by decide +kernel
theorem plK_f {n : Nat} : ∀ {k : Nat}, ∀ q ∈ plK n k, q.length = k ∧ (∀ x ∈ q, 1 ≤ x ∧ x ≤ n) ∧ 1 ≤ fsQ q ∧ fsQ q ≤ n + 1
 | 0, q, h => by simp [plK] at h; subst h; simp [fsQ]; omega
 | k + 1, q, h => by
  rw [plK, List.mem_flatMap] at h
  obtain ⟨r, hr, h⟩ := h
  rw [plF, plE, List.mem_map] at h
  obtain ⟨i, hi, rfl⟩ := h
  rw [List.mem_range] at hi
  obtain ⟨h1, h2, h3, h4⟩ := plK_f r hr
  have e : fsQ (r ++ [fsQ r + (i : Int)]) = fsQ r + i + 1 := by
   rw [fsQ, if_neg (by simp)]
   rw [List.getD_eq_getElem?_getD, List.getElem?_append_right (by simp)]
   simp
  refine ⟨by simp [h1], fun x hx => ?_, by omega, by omega⟩
  rcases List.mem_append.1 hx with q | q
  ·exact h2 x q
  ·rw [List.mem_singleton] at q; subst q; omega
theorem fl_take {α β : Type} {f : α → List β} {l : List α} {i : Nat} : ((l.take i).flatMap f).length ≤ (l.flatMap f).length := by
 conv => rhs; rw [← List.take_append_drop i l, List.flatMap_append, List.length_append]
 omega
theorem impl_places_c (n k : Nat) (hn : n ≤ 8) (hk : k ≤ 8) : Fun Tryz.prog 66 [(.int .i64 (n)), (.int .i64 (k))] [(.sl .own (List.map (elI false) (plK n k)))] := by
 refine fO sg0 [4] Tryz.func66 ?_
 have cE1 := @slices_Clone_c
 refine dEa trivial ?_
 all_goals try (refine zlf ?_; repeat' first | exact zso | refine And.intro ?_ ?_ | (refine zim ?_; intro zb hc) | (refine zin ?_; intro zb) | intro j')
 all_goals try refine zbx ?_
 refine v_loopB (fun ms1 S1 => ∃ (j : Nat), S1.e 0 = .p (.int .i64 (n)) ∧ OwnL (S1.e 5) S1.h S1.n (elI false) ((plK n j).length) (plK n j) ∧ S1.e 13 = .p (.int .i64 (k)) ∧ S1.e 14 = .p (.int .i64 (j)) ∧ (j ≤ k) ∧ ms1 = k - j) ((fun (j : Nat) => k - j) (0)) ?_ ⟨0, dC trivial ?_⟩
 all_goals try (refine zlf ?_; repeat' first | exact zso | refine And.intro ?_ ?_ | (refine zim ?_; intro zb hc) | (refine zin ?_; intro zb) | intro j')
 all_goals try refine zbx ?_
 rintro ms1 S1 ⟨j, h1_0, o1_5, h1_13, h1_14, c1_0, hm1⟩
 obtain ⟨i1_5, h1_5, b1_5, l1_5⟩ := o1_5.out
 have ni1_5 := znds (x := i1_5) (n := S1.n)
 have fL1 := (And.intro h1_0 (And.intro h1_13 (And.intro h1_14 (And.intro h1_5 (And.intro b1_5 ni1_5)))))
 ·have l1 := plK_len n (by omega) j (by omega)
  by_cases hj : j < k
  ·have l2 := plK_len n (by omega) (j + 1) (by omega)
   rw [plK] at l2
   refine dEa fL1 ?_
   all_goals try (refine zlf ?_; repeat' first | exact zso | refine And.intro ?_ ?_ | (refine zim ?_; intro zb hc) | (refine zin ?_; intro zb) | intro j')
   all_goals try refine zbx ?_
   refine v_loopB (fun ms2 S2 => ∃ (i : Nat), S2.e 0 = .p (.int .i64 (n)) ∧ OwnL (S2.e 17) S2.h S2.n (elI false) ((plK n j).length) (plK n j) ∧ S2.e 18 = .p (.int .i64 ((plK n j).length)) ∧ S2.e 19 = .p (.int .i64 (i)) ∧ OwnL (S2.e 6) S2.h S2.n (elI false) ((((plK n j).take i).flatMap (plF n)).length) (((plK n j).take i).flatMap (plF n)) ∧ S2.e 13 = .p (.int .i64 (k)) ∧ S2.e 14 = .p (.int .i64 (j)) ∧ (i ≤ (plK n j).length) ∧ NId (S2.e 6) (S2.e 17) ∧ S1.n ≤ S2.n ∧ ms2 = (plK n j).length - i) ((fun (i : Nat) => (plK n j).length - i) (0)) ?_ ⟨0, dC fL1 ?_⟩
   all_goals try (refine zlf ?_; repeat' first | exact zso | refine And.intro ?_ ?_ | (refine zim ?_; intro zb hc) | (refine zin ?_; intro zb) | intro j')
   all_goals try refine zbx ?_
   rintro ms2 S2 ⟨i, h2_0, o2_17, h2_18, h2_19, o2_6, h2_13, h2_14, c2_0, u2_0, u2_1, hm2⟩
   obtain ⟨i2_17, h2_17, b2_17, l2_17⟩ := o2_17.out
   obtain ⟨i2_6, h2_6, b2_6, l2_6⟩ := o2_6.out
   have k2_0 := (u2_0).out h2_6 h2_17
   have ni2_17 := znds (x := i2_17) (n := S2.n)
   have ni2_6 := znds (x := i2_6) (n := S2.n)
   have di2_17i2_6 := zdne (x := i2_17) (y := i2_6)
   have fL2 := (And.intro h2_0 (And.intro h2_18 (And.intro h2_19 (And.intro h2_13 (And.intro h2_14 (And.intro h2_17 (And.intro b2_17 (And.intro h2_6 (And.intro b2_6 (And.intro ni2_17 (And.intro ni2_6 di2_17i2_6)))))))))))
   ·have l3 := fl_take (f := plF n) (l := plK n j) (i := i)
    by_cases hi : i < (plK n j).length
    ·obtain ⟨f1, f2, f3, f4⟩ := plK_f _ (getD_mem (d := []) hi)
     generalize hq : (plK n j).getD i [] = q at *
     by_cases hq0 : q.length = 0
     ·have e1 : fsQ q = 1 := if_pos hq0
      have e2 : ((q.length : Int) = 0) = True := eq_true (by omega)
      refine dEa (And.intro fL2 @hq) ?_
      all_goals try (refine zlf ?_; repeat' first | exact zso | refine And.intro ?_ ?_ | (refine zim ?_; intro zb hc) | (refine zin ?_; intro zb) | intro j')
      all_goals try refine zbx ?_
      refine v_loopB (fun ms4 S4 => ∃ (m : Nat), S4.e 0 = .p (.int .i64 (n)) ∧ OwnL (S4.e 17) S4.h S4.n (elI false) ((plK n j).length) (plK n j) ∧ S4.e 18 = .p (.int .i64 ((plK n j).length)) ∧ S4.e 19 = .p (.int .i64 (i)) ∧ S4.e 8 = .p (.sl (.lent false) (List.map (PV.int .i64) (q))) ∧ S4.e 10 = .p (.int .i64 ((fsQ q + m))) ∧ OwnL (S4.e 6) S4.h S4.n (elI false) ((((plK n j).take i).flatMap (plF n) ++ plE n q m).length) (((plK n j).take i).flatMap (plF n) ++ plE n q m) ∧ S4.e 13 = .p (.int .i64 (k)) ∧ S4.e 14 = .p (.int .i64 (j)) ∧ ((m : Int) ≤ n + 1 - fsQ q) ∧ NId (S4.e 6) (S4.e 17) ∧ S2.n ≤ S4.n ∧ ms4 = n + 1 - m) ((fun (m : Nat) => n + 1 - m) (0)) ?_ ⟨0, dC fL2 ?_⟩
      all_goals try (refine zlf ?_; repeat' first | exact zso | refine And.intro ?_ ?_ | (refine zim ?_; intro zb hc) | (refine zin ?_; intro zb) | intro j')
      all_goals try refine zbx ?_
      rintro ms4 S4 ⟨m, h4_0, o4_17, h4_18, h4_19, h4_8, h4_10, o4_6, h4_13, h4_14, c4_0, u4_0, u4_1, hm4⟩
      obtain ⟨i4_17, h4_17, b4_17, l4_17⟩ := o4_17.out
      obtain ⟨i4_6, h4_6, b4_6, l4_6⟩ := o4_6.out
      have k4_0 := (u4_0).out h4_6 h4_17
      have ni4_17 := znds (x := i4_17) (n := S4.n)
      have ni4_6 := znds (x := i4_6) (n := S4.n)
      have di4_17i4_6 := zdne (x := i4_17) (y := i4_6)
      have fL4 := (And.intro h4_0 (And.intro h4_18 (And.intro h4_19 (And.intro h4_8 (And.intro h4_10 (And.intro h4_13 (And.intro h4_14 (And.intro h4_17 (And.intro b4_17 (And.intro h4_6 (And.intro b4_6 (And.intro ni4_17 (And.intro ni4_6 di4_17i4_6)))))))))))))
      ·have l4 := plE_len (n := n) (q := q) (m := m)
       by_cases hm : fsQ q + m ≤ n
       ·have e9 : ∀ x : Int, List.take (q.length + 1) (q ++ [x]) = q ++ [x] := fun x => List.take_of_length_le (by simp)
        refine dEa (And.intro fL4 @e9) ?_
        all_goals try (refine zlf ?_; repeat' first | exact zso | refine And.intro ?_ ?_ | (refine zim ?_; intro zb hc) | (refine zin ?_; intro zb) | intro j')
        all_goals try refine zbx ?_
        focus
         refine q_lp_n ((fun (m : Nat) => n + 1 - m) (m+1)) (dC fL4 ?_) ⟨m+1, dC fL4 ?_⟩
         all_goals try (refine zlf ?_; repeat' first | exact zso | refine And.intro ?_ ?_ | (refine zim ?_; intro zb hc) | (refine zin ?_; intro zb) | intro j')
         all_goals try refine zbx ?_
        all_goals first | (rw [plE_succ, ← List.append_assoc]; done) | (simp only [List.length_append, plE_len]; omega) | (rw [plE_succ]; simp; done) | trace_state
       ·refine dEa fL4 ?_
        all_goals try (refine zlf ?_; repeat' first | exact zso | refine And.intro ?_ ?_ | (refine zim ?_; intro zb hc) | (refine zin ?_; intro zb) | intro j')
        all_goals try refine zbx ?_
        focus
         refine q_lp_n ((fun (i : Nat) => (plK n j).length - i) (i+1)) (dC fL4 ?_) ⟨i+1, dC fL4 ?_⟩
         all_goals try (refine zlf ?_; repeat' first | exact zso | refine And.intro ?_ ?_ | (refine zim ?_; intro zb hc) | (refine zin ?_; intro zb) | intro j')
         all_goals try refine zbx ?_
        all_goals first | (rw [take_getD (d := []) hi, List.flatMap_append, hq]; simp only [List.flatMap_cons, List.flatMap_nil, List.append_nil]; rw [plF, show ((n : Int) + 1 - fsQ q).toNat = m by omega]; done) | trace_state
      all_goals first | (simp [plE]; done) | trace_state
     ·have e1 : fsQ q = q.getD (q.length - 1) 0 + 1 := if_neg hq0
      have f5 := f2 _ (getD_mem (d := 0) (show q.length - 1 < q.length by omega))
      have e3 : ((q.length : Int) - 1).toNat = q.length - 1 := by omega
      refine dEa (And.intro fL2 (And.intro @hq @e3)) ?_
      all_goals try (refine zlf ?_; repeat' first | exact zso | refine And.intro ?_ ?_ | (refine zim ?_; intro zb hc) | (refine zin ?_; intro zb) | intro j')
      all_goals try refine zbx ?_
      refine v_loopB (fun ms4 S4 => ∃ (m : Nat), S4.e 0 = .p (.int .i64 (n)) ∧ OwnL (S4.e 17) S4.h S4.n (elI false) ((plK n j).length) (plK n j) ∧ S4.e 18 = .p (.int .i64 ((plK n j).length)) ∧ S4.e 19 = .p (.int .i64 (i)) ∧ S4.e 8 = .p (.sl (.lent false) (List.map (PV.int .i64) (q))) ∧ S4.e 10 = .p (.int .i64 ((fsQ q + m))) ∧ OwnL (S4.e 6) S4.h S4.n (elI false) ((((plK n j).take i).flatMap (plF n) ++ plE n q m).length) (((plK n j).take i).flatMap (plF n) ++ plE n q m) ∧ S4.e 13 = .p (.int .i64 (k)) ∧ S4.e 14 = .p (.int .i64 (j)) ∧ ((m : Int) ≤ n + 1 - fsQ q) ∧ NId (S4.e 6) (S4.e 17) ∧ S2.n ≤ S4.n ∧ ms4 = n + 1 - m) ((fun (m : Nat) => n + 1 - m) (0)) ?_ ⟨0, dC fL2 ?_⟩
      all_goals try (refine zlf ?_; repeat' first | exact zso | refine And.intro ?_ ?_ | (refine zim ?_; intro zb hc) | (refine zin ?_; intro zb) | intro j')
      all_goals try refine zbx ?_
      rintro ms4 S4 ⟨m, h4_0, o4_17, h4_18, h4_19, h4_8, h4_10, o4_6, h4_13, h4_14, c4_0, u4_0, u4_1, hm4⟩
      obtain ⟨i4_17, h4_17, b4_17, l4_17⟩ := o4_17.out
      obtain ⟨i4_6, h4_6, b4_6, l4_6⟩ := o4_6.out
      have k4_0 := (u4_0).out h4_6 h4_17
      have ni4_17 := znds (x := i4_17) (n := S4.n)
      have ni4_6 := znds (x := i4_6) (n := S4.n)
      have di4_17i4_6 := zdne (x := i4_17) (y := i4_6)
      have fL4 := (And.intro h4_0 (And.intro h4_18 (And.intro h4_19 (And.intro h4_8 (And.intro h4_10 (And.intro h4_13 (And.intro h4_14 (And.intro h4_17 (And.intro b4_17 (And.intro h4_6 (And.intro b4_6 (And.intro ni4_17 (And.intro ni4_6 di4_17i4_6)))))))))))))
      ·have l4 := plE_len (n := n) (q := q) (m := m)
       by_cases hm : fsQ q + m ≤ n
       ·have e9 : ∀ x : Int, List.take (q.length + 1) (q ++ [x]) = q ++ [x] := fun x => List.take_of_length_le (by simp)
        refine dEa (And.intro fL4 @e9) ?_
        all_goals try (refine zlf ?_; repeat' first | exact zso | refine And.intro ?_ ?_ | (refine zim ?_; intro zb hc) | (refine zin ?_; intro zb) | intro j')
        all_goals try refine zbx ?_
        focus
         refine q_lp_n ((fun (m : Nat) => n + 1 - m) (m+1)) (dC fL4 ?_) ⟨m+1, dC fL4 ?_⟩
         all_goals try (refine zlf ?_; repeat' first | exact zso | refine And.intro ?_ ?_ | (refine zim ?_; intro zb hc) | (refine zin ?_; intro zb) | intro j')
         all_goals try refine zbx ?_
        all_goals first | (rw [plE_succ, ← List.append_assoc]; done) | (simp only [List.length_append, plE_len]; omega) | (rw [plE_succ]; simp; done) | trace_state
       ·refine dEa fL4 ?_
        all_goals try (refine zlf ?_; repeat' first | exact zso | refine And.intro ?_ ?_ | (refine zim ?_; intro zb hc) | (refine zin ?_; intro zb) | intro j')
        all_goals try refine zbx ?_
        focus
         refine q_lp_n ((fun (i : Nat) => (plK n j).length - i) (i+1)) (dC fL4 ?_) ⟨i+1, dC fL4 ?_⟩
         all_goals try (refine zlf ?_; repeat' first | exact zso | refine And.intro ?_ ?_ | (refine zim ?_; intro zb hc) | (refine zin ?_; intro zb) | intro j')
         all_goals try refine zbx ?_
        all_goals first | (rw [take_getD (d := []) hi, List.flatMap_append, hq]; simp only [List.flatMap_cons, List.flatMap_nil, List.append_nil]; rw [plF, show ((n : Int) + 1 - fsQ q).toNat = m by omega]; done) | trace_state
      all_goals first | (simp [plE]; done) | trace_state
    ·obtain rfl : i = (plK n j).length := by omega
     refine dEa fL2 ?_
     all_goals try (refine zlf ?_; repeat' first | exact zso | refine And.intro ?_ ?_ | (refine zim ?_; intro zb hc) | (refine zin ?_; intro zb) | intro j')
     all_goals try refine zbx ?_
     focus
      refine q_lp_n ((fun (j : Nat) => k - j) (j+1)) (dC fL2 ?_) ⟨j+1, dC fL2 ?_⟩
      all_goals try (refine zlf ?_; repeat' first | exact zso | refine And.intro ?_ ?_ | (refine zim ?_; intro zb hc) | (refine zin ?_; intro zb) | intro j')
      all_goals try refine zbx ?_
     all_goals first | (rw [List.take_of_length_le (Nat.le_refl _), plK]; done) | trace_state
   all_goals trace_state
  ·obtain rfl : j = k := by omega
   refine dEa fL1 ?_
   all_goals try (refine zlf ?_; repeat' first | exact zso | refine And.intro ?_ ?_ | (refine zim ?_; intro zb hc) | (refine zin ?_; intro zb) | intro j')
   all_goals try refine zbx ?_
 all_goals trace_state
/-- The pattern at some places, counted from 1. -/
def ptA (p l : List Int) : List Int := l.map fun i => p.getD (i - 1).toNat 0
def ptR (p : List Int) (k : Nat) : List (List Int) := putL ((plK p.length k).map fun l => patL (ptA p l))
theorem impl_PatternsIn_c {m0 : Bool} (p : List Int) (k : Nat) (hp : isPermB p = true) (hk : k ≤ p.length) : Fun Tryz.prog 38 [(.sl (.lent m0) (List.map (PV.int .i64) (p))), (.int .i64 (k))] [(.sl .own (List.map (elI false) (ptR p k)))] := by
 refine fO sg0 [4] Tryz.func38 ?_
 have cE1 := @impl_IsPerm_c; have cE2 := @impl_places_c; have cE3 := @impl_pattern_c; have cE4 := @impl_ordered_a_c; have cE5 := @impl_ordered_c
 obtain ⟨h8, hq⟩ := isP_8 hp
 have l1 := plK_len p.length (by omega) k (by omega)
 have cE1 := @impl_ordered_a_c; have cE2 := @impl_IsPerm_c; have cE3 := @impl_places_c; have cE4 := @impl_pattern_c; have cE5 := trivial
 refine dEa @hp ?_
 all_goals try (refine zlf ?_; repeat' first | exact zso | refine And.intro ?_ ?_ | (refine zim ?_; intro zb hc) | (refine zin ?_; intro zb) | intro j')
 all_goals try refine zbx ?_
 refine v_loopB (fun ms1 S1 => ∃ (i : Nat), S1.e 0 = .p (.sl (.lent m0) (List.map (PV.int .i64) (p))) ∧ OwnL (S1.e 5) S1.h S1.n (elI false) ((((plK p.length k).take i).map fun l => patL (ptA p l)).length) (((plK p.length k).take i).map fun l => patL (ptA p l)) ∧ OwnL (S1.e 28) S1.h S1.n (elI false) ((plK p.length k).length) (plK p.length k) ∧ S1.e 29 = .p (.int .i64 ((plK p.length k).length)) ∧ S1.e 30 = .p (.int .i64 (i)) ∧ (i ≤ (plK p.length k).length) ∧ NId (S1.e 28) (S1.e 5) ∧ ms1 = (plK p.length k).length - i) ((fun (i : Nat) => (plK p.length k).length - i) (0)) ?_ ⟨0, dC trivial ?_⟩
 all_goals try (refine zlf ?_; repeat' first | exact zso | refine And.intro ?_ ?_ | (refine zim ?_; intro zb hc) | (refine zin ?_; intro zb) | intro j')
 all_goals try refine zbx ?_
 rintro ms1 S1 ⟨i, h1_0, o1_5, o1_28, h1_29, h1_30, c1_0, u1_0, hm1⟩
 obtain ⟨i1_5, h1_5, b1_5, l1_5⟩ := o1_5.out
 obtain ⟨i1_28, h1_28, b1_28, l1_28⟩ := o1_28.out
 have k1_0 := (u1_0).out h1_28 h1_5
 have ni1_5 := znds (x := i1_5) (n := S1.n)
 have ni1_28 := znds (x := i1_28) (n := S1.n)
 have di1_5i1_28 := zdne (x := i1_5) (y := i1_28)
 have fL1 := (And.intro h1_0 (And.intro h1_29 (And.intro h1_30 (And.intro h1_5 (And.intro b1_5 (And.intro h1_28 (And.intro b1_28 (And.intro ni1_5 (And.intro ni1_28 di1_5i1_28)))))))))
 ·by_cases hi : i < (plK p.length k).length
  ·obtain ⟨f1, f2, _, _⟩ := plK_f _ (getD_mem (d := []) hi)
   generalize hl : (plK p.length k).getD i [] = l at *
   have cE1 := @impl_IsPerm_c; have cE2 := @impl_places_c; have cE3 := @impl_pattern_c; have cE4 := @impl_ordered_a_c; have cE5 := @impl_ordered_c
   refine dEa (And.intro fL1 @hl) ?_
   all_goals try (refine zlf ?_; repeat' first | exact zso | refine And.intro ?_ ?_ | (refine zim ?_; intro zb hc) | (refine zin ?_; intro zb) | intro j')
   all_goals try refine zbx ?_
   refine v_loopB (fun ms2 S2 => ∃ (m : Nat), S2.e 0 = .p (.sl (.lent m0) (List.map (PV.int .i64) (p))) ∧ OwnL (S2.e 5) S2.h S2.n (elI false) ((((plK p.length k).take i).map fun l => patL (ptA p l)).length) (((plK p.length k).take i).map fun l => patL (ptA p l)) ∧ OwnL (S2.e 28) S2.h S2.n (elI false) ((plK p.length k).length) (plK p.length k) ∧ S2.e 29 = .p (.int .i64 ((plK p.length k).length)) ∧ S2.e 30 = .p (.int .i64 (i)) ∧ S2.e 35 = .p (.sl (.lent false) (List.map (PV.int .i64) (l))) ∧ S2.e 36 = .p (.int .i64 (l.length)) ∧ S2.e 37 = .p (.int .i64 (m)) ∧ OwnL (S2.e 8) S2.h S2.n (PV.int .i64) ((ptA p (l.take m)).length) (ptA p (l.take m)) ∧ (m ≤ l.length) ∧ NId (S2.e 28) (S2.e 5) ∧ NId (S2.e 8) (S2.e 5) ∧ NId (S2.e 8) (S2.e 28) ∧ S1.n ≤ S2.n ∧ ms2 = l.length - m) ((fun (m : Nat) => l.length - m) (0)) ?_ ⟨0, dC fL1 ?_⟩
   all_goals try (refine zlf ?_; repeat' first | exact zso | refine And.intro ?_ ?_ | (refine zim ?_; intro zb hc) | (refine zin ?_; intro zb) | intro j')
   all_goals try refine zbx ?_
   rintro ms2 S2 ⟨m, h2_0, o2_5, o2_28, h2_29, h2_30, h2_35, h2_36, h2_37, o2_8, c2_0, u2_0, u2_1, u2_2, u2_3, hm2⟩
   obtain ⟨i2_5, h2_5, b2_5, l2_5⟩ := o2_5.out
   obtain ⟨i2_28, h2_28, b2_28, l2_28⟩ := o2_28.out
   obtain ⟨i2_8, h2_8, b2_8, l2_8⟩ := o2_8.out
   have k2_0 := (u2_0).out h2_28 h2_5
   have k2_1 := (u2_1).out h2_8 h2_5
   have k2_2 := (u2_2).out h2_8 h2_28
   have ni2_5 := znds (x := i2_5) (n := S2.n)
   have ni2_28 := znds (x := i2_28) (n := S2.n)
   have ni2_8 := znds (x := i2_8) (n := S2.n)
   have di2_5i2_28 := zdne (x := i2_5) (y := i2_28)
   have di2_5i2_8 := zdne (x := i2_5) (y := i2_8)
   have di2_28i2_8 := zdne (x := i2_28) (y := i2_8)
   have fL2 := (And.intro h2_0 (And.intro h2_29 (And.intro h2_30 (And.intro h2_35 (And.intro h2_36 (And.intro h2_37 (And.intro h2_5 (And.intro b2_5 (And.intro h2_28 (And.intro b2_28 (And.intro h2_8 (And.intro b2_8 (And.intro ni2_5 (And.intro ni2_28 (And.intro ni2_8 (And.intro di2_5i2_28 (And.intro di2_5i2_8 di2_28i2_8)))))))))))))))))
   ·have b1 : (ptA p (l.take m)).length = m := by simp [ptA]; omega
    by_cases hm : m < l.length
    ·have f3 := f2 _ (getD_mem (d := 0) hm)
     have cE1 := @impl_IsPerm_c; have cE2 := @impl_places_c; have cE3 := @impl_pattern_c; have cE4 := @impl_ordered_a_c; have cE5 := @impl_ordered_c
     refine dEa fL2 ?_
     all_goals try (refine zlf ?_; repeat' first | exact zso | refine And.intro ?_ ?_ | (refine zim ?_; intro zb hc) | (refine zin ?_; intro zb) | intro j')
     all_goals try refine zbx ?_
     focus
      refine q_lp_n ((fun (m : Nat) => l.length - m) (m+1)) (dC fL2 ?_) ⟨m+1, dC fL2 ?_⟩
      all_goals try (refine zlf ?_; repeat' first | exact zso | refine And.intro ?_ ?_ | (refine zim ?_; intro zb hc) | (refine zin ?_; intro zb) | intro j')
      all_goals try refine zbx ?_
     all_goals first | (simp only [ptA]; rw [take_getD (d := 0) hm, List.map_append]; done) | (simp only [ptA]; rw [take_getD (d := 0) hm, List.map_append]; rfl) | (simp [ptA]; omega) | trace_state
    ·obtain rfl : m = l.length := by omega
     have e7 : List.take l.length l = l := List.take_of_length_le (Nat.le_refl _)
     have e8 : (ptA p l).length = l.length := by simp [ptA]
     have cE1 := @impl_IsPerm_c; have cE2 := @impl_places_c; have cE3 := @impl_pattern_c; have cE4 := @impl_ordered_a_c; have cE5 := @impl_ordered_c
     refine dEa (And.intro fL2 (And.intro @e7 @e8)) ?_
     all_goals try (refine zlf ?_; repeat' first | exact zso | refine And.intro ?_ ?_ | (refine zim ?_; intro zb hc) | (refine zin ?_; intro zb) | intro j')
     all_goals try refine zbx ?_
     focus
      refine q_lp_n ((fun (i : Nat) => (plK p.length k).length - i) (i+1)) (dC fL2 ?_) ⟨i+1, dC fL2 ?_⟩
      all_goals try (refine zlf ?_; repeat' first | exact zso | refine And.intro ?_ ?_ | (refine zim ?_; intro zb hc) | (refine zin ?_; intro zb) | intro j')
      all_goals try refine zbx ?_
     all_goals first | (rw [take_getD (d := []) hi, List.map_append, hl, show List.take l.length (ptA p l) = ptA p l from List.take_of_length_le (by omega)]; rfl) | trace_state
   all_goals trace_state
  ·obtain rfl : i = (plK p.length k).length := by omega
   have cE1 := @impl_ordered_a_c; have cE2 := @impl_IsPerm_c; have cE3 := @impl_places_c; have cE4 := @impl_pattern_c; have cE5 := trivial
   refine dEa fL1 ?_
   all_goals try (refine zlf ?_; repeat' first | exact zso | refine And.intro ?_ ?_ | (refine zim ?_; intro zb hc) | (refine zin ?_; intro zb) | intro j')
   all_goals try refine zbx ?_
   ·intro l h
    obtain ⟨x, hx, rfl⟩ := List.mem_map.1 h
    have := (plK_f x hx).1
    rw [patL_len]; simp only [ptA, List.length_map]; omega
   ·rfl
 all_goals trace_state
/-- The numbers at the places that a number's bits tell. -/
def selN (p : List Int) (s : Nat) : Nat → List Int
 | 0 => []
 | i + 1 => selN p s i ++ (if s / 2 ^ i % 2 = 1 then [p.getD i 0] else [])
def spS (p : List Int) (k : Nat) : Nat → List (List Int)
 | 0 => []
 | s + 1 => if (selN p s p.length).length = k then putP (spS p k s) (patL (selN p s p.length)) else spS p k s
theorem selN_len {p : List Int} {s : Nat} : ∀ {i : Nat}, (selN p s i).length ≤ i
 | 0 => Nat.le_refl _
 | i + 1 => by
  have := selN_len (p := p) (s := s) (i := i)
  rw [selN, List.length_append]; split <;> simp <;> omega
theorem spS_len {p : List Int} {k : Nat} : ∀ {s : Nat}, (spS p k s).length ≤ s
 | 0 => Nat.le_refl _
 | s + 1 => by
  have := spS_len (p := p) (k := k) (s := s)
  rw [spS]; split
  ·have h2 : (putP (spS p k s) (patL (selN p s p.length))).length ≤ (spS p k s).length + 1 := by
    unfold putP; split
    ·omega
    ·exact Nat.le_of_eq insS_len
   omega
  ·omega
theorem spS_row {p : List Int} {k : Nat} : ∀ {s : Nat}, ∀ l ∈ spS p k s, l.length ≤ p.length
 | 0, l, h => by simp [spS] at h
 | s + 1, l, h => by
  rw [spS] at h
  split at h
  ·rw [putP_mem] at h
   rcases h with rfl | h
   ·rw [patL_len]; exact selN_len
   ·exact spS_row l h
  ·exact spS_row l h
theorem pi_all : ∀ n, n < 9 → ∀ p ∈ exL n, isPermB p = true ∧ p.length = n ∧ spS p (n - 2) (2 ^ n) = ptR p (n - 2) ∧ ((ptR p (n - 2)).filter isSimB).length ≠ 0 ∧ ((ptR p (n - 2)).filter isSimB).all (fun q => isPermB q && decide (q.length = n - 2) && hasB p q) = true := by decide +kernel
theorem bit_all : ∀ s, s < 256 → ∀ i, i < 8 → (s / 2 ^ i) &&& 1 = s / 2 ^ i % 2 := by decide
theorem bit_one {s i : Nat} : ((s : Int).fdiv (2 ^ i)) = ((s / 2 ^ i : Nat) : Int) := by
 rw [Int.fdiv_eq_ediv_of_nonneg _ (by exact_mod_cast Nat.zero_le _)]
 push_cast; rfl
theorem pow_8 : ∀ n, n < 9 → (1 : Int) * 2 ^ n = ((2 ^ n : Nat) : Int) ∧ 2 ^ n ≤ 256 := by decide
theorem n_6 {n : Int} : inR .u64 n = (0 ≤ n ∧ n ≤ 18446744073709551615) := by simp only [inR]; rfl
def sgPI : FuncId → List Bool := fun f => if f = 53 then [true] else []
theorem sgPI_eq {f : FuncId} : sgPI f = if f = 53 then [true] else [] := _root_.id rfl
theorem way_sgPI : wayE sgPI = false ∧ wayN sgPI = false ∧ wayS sgPI = false ∧ wayZ sgPI = false ∧ wayM sgPI = false := ⟨rfl, rfl, rfl, rfl, rfl⟩
attribute [go_sem] sgPI_eq way_sgPI
theorem spec_PatternsIn_c {m0 : Bool} (p : List Int) (k : Nat) (hp : isPermB p = true) (hk : k ≤ p.length) : Fun Tryz.prog 39 [(.sl (.lent m0) (List.map (PV.int .i64) (p))), (.int .i64 (k))] [(.sl .own (List.map (elI false) (spS p k (2 ^ p.length))))] := by
 refine fO sgPI [4] Tryz.func39 ?_
 have cE1 := @spec_l1In_c; have cE2 := @spec_IsPerm_c; have cE3 := @spec_l2Pattern_c; have cM1 := @spec_l3Put_c
 obtain ⟨h8, hq⟩ := isP_8 hp
 have u3 : (Tryz.prog.underlying 3).isSome = true := by rw [Tryz.underlying3]; rfl
 obtain ⟨e1, e2⟩ := pow_8 p.length (by omega)
 refine dEa @hp ?_
 all_goals try (refine zlf ?_; repeat' first | exact zso | refine And.intro ?_ ?_ | (refine zim ?_; intro zb hc) | (refine zin ?_; intro zb) | intro j')
 all_goals try refine zbx ?_
 refine v_loopB (fun ms1 S1 => ∃ (s : Nat), S1.e 0 = .p (.sl (.lent m0) (List.map (PV.int .i64) (p))) ∧ S1.e 1 = .p (.int .i64 (k)) ∧ OwnL (S1.e 5) S1.h S1.n (elI false) ((spS p k s).length) (spS p k s) ∧ S1.e 6 = .p (.int .i64 (s)) ∧ (s ≤ 2 ^ p.length) ∧ ms1 = 2 ^ p.length - s) ((fun (s : Nat) => 2 ^ p.length - s) (0)) ?_ ⟨0, dC trivial ?_⟩
 all_goals try (refine zlf ?_; repeat' first | exact zso | refine And.intro ?_ ?_ | (refine zim ?_; intro zb hc) | (refine zin ?_; intro zb) | intro j')
 all_goals try refine zbx ?_
 rintro ms1 S1 ⟨s, h1_0, h1_1, o1_5, h1_6, c1_0, hm1⟩
 obtain ⟨i1_5, h1_5, b1_5, l1_5⟩ := o1_5.out
 have ni1_5 := znds (x := i1_5) (n := S1.n)
 have fL1 := (And.intro h1_0 (And.intro h1_1 (And.intro h1_6 (And.intro h1_5 (And.intro b1_5 ni1_5)))))
 ·have b1 := spS_len (p := p) (k := k) (s := s)
  have b2 : ∀ l ∈ spS p k s, l.length ≤ 1048576 := fun l h => by have := spS_row l h; omega
  by_cases hs : s < 2 ^ p.length
  ·have hs' : ((s : Int) < 1 * 2 ^ p.length) = True := eq_true (by rw [e1]; omega)
   refine dEa (And.intro fL1 (And.intro @u3 @hs')) ?_
   all_goals try (refine zlf ?_; repeat' first | exact zso | refine And.intro ?_ ?_ | (refine zim ?_; intro zb hc) | (refine zin ?_; intro zb) | intro j')
   all_goals try refine zbx ?_
   ·rw [n_6]; omega
   refine v_loopB (fun ms2 S2 => ∃ (i : Nat), S2.e 0 = .p (.sl (.lent m0) (List.map (PV.int .i64) (p))) ∧ S2.e 1 = .p (.int .i64 (k)) ∧ OwnL (S2.e 5) S2.h S2.n (elI false) ((spS p k s).length) (spS p k s) ∧ S2.e 6 = .p (.int .i64 (s)) ∧ OwnL (S2.e 7) S2.h S2.n (PV.int .i64) ((selN p s i).length) (selN p s i) ∧ S2.e 8 = .p (.int .i64 (i)) ∧ (i ≤ p.length) ∧ NId (S2.e 7) (S2.e 5) ∧ S1.n ≤ S2.n ∧ ms2 = p.length - i) ((fun (i : Nat) => p.length - i) (0)) ?_ ⟨0, dC fL1 ?_⟩
   all_goals try (refine zlf ?_; repeat' first | exact zso | refine And.intro ?_ ?_ | (refine zim ?_; intro zb hc) | (refine zin ?_; intro zb) | intro j')
   all_goals try refine zbx ?_
   rintro ms2 S2 ⟨i, h2_0, h2_1, o2_5, h2_6, o2_7, h2_8, c2_0, u2_0, u2_1, hm2⟩
   obtain ⟨i2_5, h2_5, b2_5, l2_5⟩ := o2_5.out
   obtain ⟨i2_7, h2_7, b2_7, l2_7⟩ := o2_7.out
   have k2_0 := (u2_0).out h2_7 h2_5
   have ni2_5 := znds (x := i2_5) (n := S2.n)
   have ni2_7 := znds (x := i2_7) (n := S2.n)
   have di2_5i2_7 := zdne (x := i2_5) (y := i2_7)
   have fL2 := (And.intro h2_0 (And.intro h2_1 (And.intro h2_6 (And.intro h2_8 (And.intro h2_5 (And.intro b2_5 (And.intro h2_7 (And.intro b2_7 (And.intro ni2_5 (And.intro ni2_7 di2_5i2_7))))))))))
   ·have b3 := selN_len (p := p) (s := s) (i := i)
    by_cases hi : i < p.length
    ·have e3 := bit_one (s := s) (i := i)
     have e4 := bit_all s (Nat.lt_of_lt_of_le hs e2) i (by omega)
     have e5 := Nat.div_le_self s (2 ^ i)
     have s8 : s < 256 := Nat.lt_of_lt_of_le hs e2
     refine dEa (And.intro fL2 (And.intro @u3 (And.intro @e3 @e4))) ?_
     all_goals try (refine zlf ?_; repeat' first | exact zso | refine And.intro ?_ ?_ | (refine zim ?_; intro zb hc) | (refine zin ?_; intro zb) | intro j')
     all_goals try refine zbx ?_
     ·rw [n_6]; omega
     ·exact Int.natCast_nonneg _
     ·have e6 : ((s / 2 ^ i : Nat) : Int) ≤ 256 := Int.ofNat_le.2 (Nat.le_trans e5 (Nat.le_of_lt s8))
      have e7 : (0 : Int) ≤ ((s / 2 ^ i : Nat) : Int) := Int.natCast_nonneg _
      rw [n_i64]
      generalize ((s / 2 ^ i : Nat) : Int) = z at e6 e7 ⊢
      omega
     ·focus
       refine q_lp_n ((fun (i : Nat) => p.length - i) (i+1)) (dC fL2 ?_) ⟨i+1, dC fL2 ?_⟩
       all_goals try (refine zlf ?_; repeat' first | exact zso | refine And.intro ?_ ?_ | (refine zim ?_; intro zb hc) | (refine zin ?_; intro zb) | intro j')
       all_goals try refine zbx ?_
      all_goals (rw [selN, if_pos (by omega)])
      all_goals first | (simp; done) | trace_state
     ·focus
       refine q_lp_n ((fun (i : Nat) => p.length - i) (i+1)) (dC fL2 ?_) ⟨i+1, dC fL2 ?_⟩
       all_goals try (refine zlf ?_; repeat' first | exact zso | refine And.intro ?_ ?_ | (refine zim ?_; intro zb hc) | (refine zin ?_; intro zb) | intro j')
       all_goals try refine zbx ?_
      all_goals (rw [selN, if_neg (by omega), List.append_nil])
    ·obtain rfl : i = p.length := by omega
     have b5 : (patL (selN p s p.length)).length ≤ 8 := by rw [patL_len]; omega
     refine dEa (And.intro fL2 @u3) ?_
     all_goals try (refine zlf ?_; repeat' first | exact zso | refine And.intro ?_ ?_ | (refine zim ?_; intro zb hc) | (refine zin ?_; intro zb) | intro j')
     all_goals try refine zbx ?_
     ·focus
       refine q_lp_n ((fun (s : Nat) => 2 ^ p.length - s) (s+1)) (dC fL2 ?_) ⟨s+1, dC fL2 ?_⟩
       all_goals try (refine zlf ?_; repeat' first | exact zso | refine And.intro ?_ ?_ | (refine zim ?_; intro zb hc) | (refine zin ?_; intro zb) | intro j')
       all_goals try refine zbx ?_
      all_goals (rw [spS, if_pos (by omega)])
     ·focus
       refine q_lp_n ((fun (s : Nat) => 2 ^ p.length - s) (s+1)) (dC fL2 ?_) ⟨s+1, dC fL2 ?_⟩
       all_goals try (refine zlf ?_; repeat' first | exact zso | refine And.intro ?_ ?_ | (refine zim ?_; intro zb hc) | (refine zin ?_; intro zb) | intro j')
       all_goals try refine zbx ?_
      all_goals (rw [spS, if_neg (by omega)])
   all_goals trace_state
  ·have hs' : ((s : Int) < 1 * 2 ^ p.length) = False := eq_false (by rw [e1]; omega)
   obtain rfl : s = 2 ^ p.length := by omega
   refine dEa (And.intro fL1 (And.intro @u3 @hs')) ?_
   all_goals try (refine zlf ?_; repeat' first | exact zso | refine And.intro ?_ ?_ | (refine zim ?_; intro zb hc) | (refine zin ?_; intro zb) | intro j')
   all_goals try refine zbx ?_
   ·rw [n_6]; omega
   all_goals trace_state
 all_goals first | exact Nat.zero_le _ | trace_state
def hpB (p q : List Int) : Bool := isPermB p && isPermB q && hasB p q
def sgOc : FuncId → List Bool := fun f => if f = 108 then [false, false, false, true] else if f = 8589934700 then [false, false, true] else []
theorem sgOc_eq {f : FuncId} : sgOc f = if f = 108 then [false, false, false, true] else if f = 8589934700 then [false, false, true] else [] := _root_.id rfl
theorem way_sgOc : wayE sgOc = false ∧ wayN sgOc = false ∧ wayS sgOc = false ∧ wayZ sgOc = false ∧ wayM sgOc = false := ⟨rfl, rfl, rfl, rfl, rfl⟩
attribute [go_sem] sgOc_eq way_sgOc
theorem spec_OccurrencesOf_c {m0 m1 : Bool} (p q : List Int) (hp : isPermB p = true) (hq : isPermB q = true) : Fun Tryz.prog 86 [(.sl (.lent m0) (List.map (PV.int .i64) (p))), (.sl (.lent m1) (List.map (PV.int .i64) (q)))] [(.sl .own (List.map (elI false) (occ 1 p q q.length [])))] := by
 refine fO sgOc [4] Tryz.func86 ?_
 have cE1 := @spec_IsPerm_c
 have p8 := (isP_8 hp).1
 have q8 := (isP_8 hq).1
 have h9 := spec_l7Find_c (m0 := m0) (m1 := m1) p q p8 q8 q.length [] [] (Nat.zero_add _) (by simp) (by have h2 : 8 ^ q.length ≤ 8 ^ 8 := Nat.pow_le_pow_right (by omega) (by omega); simp only [List.length_nil, Nat.zero_add]; omega)
 simp only [List.map_nil, List.nil_append] at h9
 have cM1 := @h9
 refine dEa (And.intro @hp @hq) ?_
 all_goals try (refine zlf ?_; repeat' first | exact zso | refine And.intro ?_ ?_ | (refine zim ?_; intro zb hc) | (refine zin ?_; intro zb) | intro j')
 all_goals try refine zbx ?_
 all_goals trace_state
theorem spec_CountPattern_c {m0 m1 : Bool} (p q : List Int) (hp : p.length ≤ 1048576) (hq : q.length ≤ 1048576) : Fun Tryz.prog 57 [(.sl (.lent m0) (List.map (PV.int .i64) (p))), (.sl (.lent m1) (List.map (PV.int .i64) (q)))] [(.int .i64 ((if isPermB p && isPermB q then ((occ 1 p q q.length []).length : Int) else -1)))] := by
 by_cases h1 : isPermB p = true
 ·by_cases h2 : isPermB q = true
  ·rw [h1, h2]
   refine fO sg0 [4] Tryz.func57 ?_
   have cE1 := @spec_IsPerm_c; have cE2 := @spec_OccurrencesOf_c
   refine dEa (And.intro @h1 @h2) ?_
   all_goals try (refine zlf ?_; repeat' first | exact zso | refine And.intro ?_ ?_ | (refine zim ?_; intro zb hc) | (refine zin ?_; intro zb) | intro j')
   all_goals try refine zbx ?_
   all_goals trace_state
  ·rw [Bool.not_eq_true] at h2
   rw [h1, h2]
   refine fO sg0 [4] Tryz.func57 ?_
   have cE1 := @spec_IsPerm_c; have cE2 := @spec_OccurrencesOf_c
   refine dEa (And.intro @h1 @h2) ?_
   all_goals try (refine zlf ?_; repeat' first | exact zso | refine And.intro ?_ ?_ | (refine zim ?_; intro zb hc) | (refine zin ?_; intro zb) | intro j')
   all_goals try refine zbx ?_
 ·rw [Bool.not_eq_true] at h1
  rw [h1]
  refine fO sg0 [4] Tryz.func57 ?_
  have cE1 := @spec_IsPerm_c; have cE2 := @spec_OccurrencesOf_c
  refine dEa @h1 ?_
  all_goals try (refine zlf ?_; repeat' first | exact zso | refine And.intro ?_ ?_ | (refine zim ?_; intro zb hc) | (refine zin ?_; intro zb) | intro j')
  all_goals try refine zbx ?_
theorem spec_HasPattern_c {m0 m1 : Bool} (p q : List Int) (hp : p.length ≤ 1048576) (hq : q.length ≤ 1048576) : Fun Tryz.prog 29 [(.sl (.lent m0) (List.map (PV.int .i64) (p))), (.sl (.lent m1) (List.map (PV.int .i64) (q)))] [(.bool (hpB p q))] := by
 have e : hpB p q = decide (1 ≤ (if isPermB p && isPermB q then ((occ 1 p q q.length []).length : Int) else -1)) := by
  unfold hpB
  by_cases h : (isPermB p && isPermB q) = true
  ·rw [h, if_pos rfl, Bool.true_and, ← has_dec]
   rw [decide_eq_decide]; omega
  ·rw [if_neg h]
   rw [Bool.not_eq_true] at h
   rw [h]; rfl
 rw [e]
 refine fO sg0 [4] Tryz.func29 ?_
 have cE1 := @spec_CountPattern_c
 refine dEa trivial ?_
 all_goals try (refine zlf ?_; repeat' first | exact zso | refine And.intro ?_ ?_ | (refine zim ?_; intro zb hc) | (refine zin ?_; intro zb) | intro j')
 all_goals try refine zbx ?_
 all_goals trace_state
/-- Lists of rows as elements. -/
def elG (q : List (List Int)) : PV := .sl (.lent false) (List.map (elI false) q)
theorem elG_eq {q : List (List Int)} : elG q = .sl (.lent false) (List.map (elI false) q) := _root_.id rfl
theorem mp_elG {l : List (List (List Int))} {x : List (List Int)} {r : List PV} : List.map elG l ++ (PV.sl (.lent false) (List.map (elI false) x) :: r) = List.map elG (l ++ [x]) ++ r := by simp [elG]
instance : NDf elG := ⟨by intro a rows h; cases h⟩
theorem nr_frG {l : List (List Int)} : noRo (elG l) = true := noRoL_map (fun _ => nr_frI) l
theorem nrL_frG {l : List (List (List Int))} : noRoL (l.map elG) = true := noRoL_map (fun _ => nr_frG) l
attribute [go_sem] elG_eq mp_elG nrL_frG
/-- Places that agree with the pattern so far. -/
def Good (p q : List Int) (c : List Nat) : Prop := c.Pairwise (· < ·) ∧ (∀ x ∈ c, x < p.length) ∧ ∀ i j, i < j → j < c.length → (q.getD i 0 < q.getD j 0 ↔ p.getD (c.getD i 0) 0 < p.getD (c.getD j 0) 0)
theorem gd_l {α : Type} {a b : List α} {d : α} {i : Nat} (h : i < a.length) : (a ++ b).getD i d = a.getD i d := by
 rw [List.getD_eq_getElem?_getD, List.getElem?_append_left h, List.getD_eq_getElem?_getD]
theorem gd_r {α : Type} {a b : List α} {d : α} {i : Nat} (h : a.length ≤ i) : (a ++ b).getD i d = b.getD (i - a.length) d := by
 rw [List.getD_eq_getElem?_getD, List.getElem?_append_right h, List.getD_eq_getElem?_getD]
theorem gd_m {α β : Type} {f : α → β} {l : List α} {d : α} {e : β} {i : Nat} (h : i < l.length) : (l.map f).getD i e = f (l.getD i d) := by
 rw [List.getD_eq_getElem?_getD, List.getElem?_map, List.getD_eq_getElem?_getD, List.getElem?_eq_getElem h]; rfl
theorem gd_e {α : Type} {a : List α} {x d : α} : (a ++ [x]).getD a.length d = x := by rw [gd_r (Nat.le_refl _), Nat.sub_self]; rfl
theorem good_snoc {p q : List Int} {c : List Nat} {m : Nat} : Good p q (c ++ [m]) ↔ Good p q c ∧ (∀ x ∈ c, x < m) ∧ m < p.length ∧ ∀ l, l < c.length → (q.getD l 0 < q.getD c.length 0 ↔ p.getD (c.getD l 0) 0 < p.getD m 0) := by
 unfold Good
 rw [List.pairwise_append]
 constructor
 ·rintro ⟨⟨h1, _, h2⟩, h3, h4⟩
  refine ⟨⟨h1, fun x hx => h3 x (List.mem_append.2 (.inl hx)), fun i j hij hj => ?_⟩, fun x hx => h2 x hx m (by simp), h3 m (by simp), fun l hl => ?_⟩
  ·have := h4 i j hij (by simp; omega)
   rwa [gd_l (by omega), gd_l hj] at this
  ·have := h4 l c.length hl (by simp)
   rwa [gd_l hl, gd_e] at this
 ·rintro ⟨⟨h1, h3, h4⟩, h2, h5, h6⟩
  refine ⟨⟨h1, by simp, fun x hx y hy => by rw [List.mem_singleton] at hy; subst hy; exact h2 x hx⟩, fun x hx => ?_, fun i j hij hj => ?_⟩
  ·rcases List.mem_append.1 hx with g | g
   ·exact h3 x g
   ·rw [List.mem_singleton] at g; subst g; exact h5
  ·rw [List.length_append, List.length_singleton] at hj
   by_cases e : j = c.length
   ·subst e; rw [gd_l hij, gd_e]; exact h6 i hij
   ·rw [gd_l (by omega), gd_l (by omega)]; exact h4 i j hij (by omega)
def frN (c : List Nat) : Nat := if c.length = 0 then 0 else c.getD (c.length - 1) 0 + 1
theorem from_cast {c : List Nat} : fromI 0 (c.map Int.ofNat) = (frN c : Int) := by
 unfold fromI frN
 rw [List.length_map]
 split
 ·rfl
 ·rw [gd_m (d := 0) (by omega)]; simp
theorem frN_le {c : List Nat} (h : c.Pairwise (· < ·)) {m : Nat} : frN c ≤ m ↔ ∀ x ∈ c, x < m := by
 unfold frN
 constructor
 ·intro h1 x hx
  obtain ⟨i, hi, rfl⟩ := List.getElem_of_mem hx
  rw [if_neg (by omega), List.getD_eq_getElem?_getD, List.getElem?_eq_getElem (by omega)] at h1
  by_cases e : i = c.length - 1
  ·subst e; simp at h1; omega
  ·have := List.pairwise_iff_getElem.1 h i (c.length - 1) hi (by omega) (by omega)
   simp at h1; omega
 ·intro h1
  split
  ·omega
  ·have := h1 _ (getD_mem (d := 0) (show c.length - 1 < c.length by omega)); omega
theorem fit_cast {p q : List Int} {c : List Nat} {m : Nat} : fitB 0 p q (c.map Int.ofNat) (m : Int) = true ↔ ∀ l, l < c.length → (q.getD l 0 < q.getD c.length 0 ↔ p.getD (c.getD l 0) 0 < p.getD m 0) := by
 rw [fitB, fitK, List.all_eq_true, List.length_map]
 refine forall_congr' fun l => ?_
 rw [List.mem_range]
 refine imp_congr_right fun hl => ?_
 rw [gd_m (d := 0) hl, beq_iff_eq, show (Int.ofNat (c.getD l 0) - 0).toNat = c.getD l 0 by simp, show ((m : Int) - 0).toNat = m by simp]
 exact decide_eq_decide
theorem occ_ext {p q : List Int} : ∀ {d : Nat} {c : List Nat}, Good p q c → c.length + d = q.length → (occ 0 p q d (c.map Int.ofNat) ≠ [] ↔ ∃ t, t.length = d ∧ Good p q (c ++ t))
 | 0, c, hc, hd => by
  rw [occ]
  exact ⟨fun _ => ⟨[], rfl, by rwa [List.append_nil]⟩, fun _ h => by cases h⟩
 | d + 1, c, hc, hd => by
  rw [occ, ne_eq, List.flatMap_eq_nil_iff]
  constructor
  ·intro h
   obtain ⟨j, hj⟩ := Classical.not_forall.1 h
   rw [Classical.not_imp, List.mem_range, from_cast] at hj
   obtain ⟨h1, h2⟩ := hj
   rw [show ((frN c : Int) + (j : Int)) = ((frN c + j : Nat) : Int) by omega] at h2
   have h4 : fitB 0 p q (c.map Int.ofNat) ((frN c + j : Nat) : Int) = true := by
    cases e : fitB 0 p q (c.map Int.ofNat) ((frN c + j : Nat) : Int) with
    | true => rfl
    | false => rw [e] at h2; exact absurd rfl h2
   rw [if_pos h4] at h2
   have g : Good p q (c ++ [frN c + j]) := good_snoc.2 ⟨hc, (frN_le hc.1).1 (by omega), by omega, fit_cast.1 h4⟩
   have := (occ_ext (d := d) g (by simp; omega)).1 (by rw [List.map_append]; exact h2)
   obtain ⟨t, ht, hg⟩ := this
   exact ⟨(frN c + j) :: t, by simp [ht], by rwa [List.append_assoc] at hg⟩
  ·rintro ⟨t, ht, hg⟩ h
   cases t with
   | nil => simp at ht
   | cons m t =>
    rw [show c ++ m :: t = (c ++ [m]) ++ t by simp] at hg
    have g : Good p q (c ++ [m]) := by
     refine ⟨(List.pairwise_append.1 hg.1).1, fun x hx => hg.2.1 x (List.mem_append.2 (.inl hx)), fun i j hij hj => ?_⟩
     have := hg.2.2 i j hij (by rw [List.length_append]; omega)
     rwa [gd_l (a := c ++ [m]) (by omega), gd_l (a := c ++ [m]) hj] at this
    obtain ⟨_, g2, g3, g4⟩ := good_snoc.1 g
    have g5 := (frN_le hc.1).2 g2
    have := h (m - frN c) (List.mem_range.2 (by rw [from_cast]; omega))
    rw [from_cast, show ((frN c : Int) + ((m - frN c : Nat) : Int)) = (m : Int) by omega, if_pos (fit_cast.2 g4)] at this
    exact (occ_ext (d := d) g (by simp; omega)).2 ⟨t, by simpa using ht, hg⟩ (by rw [List.map_append]; exact this)
theorem hasB_iff {p q : List Int} : hasB p q = true ↔ ∃ c, c.length = q.length ∧ Good p q c := by
 have := occ_ext (p := p) (q := q) (d := q.length) (c := []) ⟨List.Pairwise.nil, by simp, by simp⟩ (by simp)
 rw [hasB]
 simp only [List.map_nil, List.nil_append] at this
 rw [← this]
 cases occ 0 p q q.length [] <;> simp
/-- What lies in a list lies in every list that holds it in the same order. -/
theorem hasB_of {p p' q : List Int} (g : Nat → Nat) (hm : ∀ i j, i < j → j < p.length → g i < g j) (hl : ∀ i, i < p.length → g i < p'.length)
  (ho : ∀ i j, i < p.length → j < p.length → (p.getD i 0 < p.getD j 0 ↔ p'.getD (g i) 0 < p'.getD (g j) 0)) (h : hasB p q = true) : hasB p' q = true := by
 obtain ⟨c, hc, h1, h2, h3⟩ := hasB_iff.1 h
 refine hasB_iff.2 ⟨c.map g, by simpa using hc, ?_, fun x hx => ?_, fun i j hij hj => ?_⟩
 ·rw [List.pairwise_map]
  exact List.Pairwise.imp_of_mem (fun ha hb hab => hm _ _ hab (h2 _ hb)) h1
 ·obtain ⟨y, hy, rfl⟩ := List.mem_map.1 hx
  exact hl y (h2 y hy)
 ·rw [List.length_map] at hj
  rw [gd_m (d := 0) (by omega), gd_m (d := 0) hj, h3 i j hij hj]
  exact ho _ _ (h2 _ (getD_mem (by omega))) (h2 _ (getD_mem hj))
/-! ### all permutations -/
theorem lack_iff {p : List Int} {n : Nat} {v : Int} : v ∈ lackL p n ↔ 1 ≤ v ∧ v ≤ n ∧ v ∉ p := by
 refine ⟨lackL_mem, fun ⟨h1, h2, h3⟩ => ?_⟩
 rw [lackL, List.mem_filter, List.mem_map]
 refine ⟨⟨(v - 1).toNat, List.mem_range.2 (by omega), by omega⟩, ?_⟩
 rw [Bool.not_eq_true', ← Bool.not_eq_true, List.contains_iff_mem]; exact h3
theorem lvl_all {n : Nat} : ∀ {k : Nat} {y : List Int}, y.length = k → (∀ v ∈ y, 1 ≤ v ∧ v ≤ (n : Int)) → y.Nodup → y ∈ lvl n k [[]]
 | 0, y, hk, _, _ => by rw [List.length_eq_zero_iff] at hk; subst hk; simp [lvl]
 | k + 1, y, hk, h1, h2 => by
  have hy : y = y.take k ++ [y.getD k 0] := by rw [← take_getD (by omega), List.take_of_length_le (by omega)]
  rw [hy] at h1 h2
  rw [List.nodup_append] at h2
  have ih := lvl_all (n := n) (k := k) (y := y.take k) (by simp; omega) (fun v hv => h1 v (List.mem_append.2 (.inl hv))) h2.1
  have h4 := h1 (y.getD k 0) (by simp)
  rw [lvl_succ, List.mem_flatMap]
  refine ⟨y.take k, ih, ?_⟩
  rw [extL, List.mem_map]
  exact ⟨y.getD k 0, lack_iff.2 ⟨h4.1, h4.2, fun e => h2.2.2 _ e _ (by simp) rfl⟩, hy.symm⟩
theorem permL_mem {n : Nat} {p : List Int} : p ∈ permL n ↔ permB p = true ∧ p.length = n := by
 refine ⟨fun h => ⟨permL_perm h, permL_row _ h⟩, fun ⟨h1, h2⟩ => ?_⟩
 obtain ⟨h3, h4⟩ := permB_iff.1 h1
 rw [h2] at h3
 exact lvl_all h2 h3 h4
/-! ### a number put at the end -/
/-! ### a class, length by length -/
/-- Those one below, or two below if there are none. -/
def nxS (p : List Int) : List (List Int) := if smpL p = [] then (ptR p (p.length - 2)).filter isSimB else smpL p
def nxQ (p : List Int) : List Int := (nxS p).getD 0 []
theorem rk_mono {x y : Int} (h : x < y) : ∀ {l : List Int}, (l.filter fun z => decide (z < x)).length + l.count x ≤ (l.filter fun z => decide (z < y)).length
 | [] => by simp
 | a :: l => by
  have ih := rk_mono h (l := l)
  rw [List.filter_cons, List.filter_cons, List.count_cons]
  by_cases h1 : a < x
  ·have h2 : a < y := by omega
   have h3 : ¬ a = x := by omega
   simp [h1, h2, h3]; omega
  ·by_cases h2 : a < y
   ·by_cases h3 : a = x
    ·simp [h1, h2, h3, h]; omega
    ·simp [h1, h2, h3]; omega
   ·have h3 : ¬ a = x := by omega
    simp [h1, h2, h3]; omega
theorem patL_at {r : List Int} {i : Nat} (hi : i < r.length) : (patL r).getD i 0 = (((r.filter fun z => decide (z < r.getD i 0)).length : Nat) : Int) + 1 := by
 rw [patL, List.getD_eq_getElem?_getD, List.getElem?_map, List.getElem?_eq_getElem hi, List.getD_eq_getElem?_getD, List.getElem?_eq_getElem hi]
 simp [rkI]
theorem patL_ord {r : List Int} {i j : Nat} (hi : i < r.length) (hj : j < r.length) : (patL r).getD i 0 < (patL r).getD j 0 ↔ r.getD i 0 < r.getD j 0 := by
 rw [patL_at hi, patL_at hj]
 have hc : ∀ k, k < r.length → 1 ≤ r.count (r.getD k 0) := fun k hk => List.one_le_count_iff.2 (getD_mem hk)
 have h1 := hc i hi
 have h2 := hc j hj
 rcases Int.lt_trichotomy (r.getD i 0) (r.getD j 0) with h | h | h
 ·have := rk_mono h (l := r); omega
 ·rw [h]; omega
 ·have := rk_mono h (l := r); omega
theorem rg_gd {n i : Nat} (h : i < n) : (List.range n).getD i 0 = i := by rw [List.getD_eq_getElem?_getD, List.getElem?_range h]; rfl
theorem has_self {p : List Int} : hasB p p = true := by
 rw [hasB_iff]
 refine ⟨List.range p.length, by simp, List.pairwise_lt_range, fun x hx => List.mem_range.1 hx, fun i j hij hj => ?_⟩
 rw [List.length_range] at hj
 rw [rg_gd (by omega), rg_gd hj]
def skJ (j k : Nat) : Nat := if k < j then k else k + 1
theorem skJ_at {p : List Int} {j k : Nat} (hj : j < p.length) (hk : k < p.length - 1) : (p.take j ++ p.drop (j + 1)).getD k 0 = p.getD (skJ j k) 0 := by
 unfold skJ
 by_cases h : k < j
 ·rw [if_pos h, List.getD_eq_getElem?_getD, List.getElem?_append_left (by simp; omega), List.getElem?_take_of_lt h, ← List.getD_eq_getElem?_getD]
 ·rw [if_neg h, List.getD_eq_getElem?_getD, List.getElem?_append_right (by simp; omega), List.getElem?_drop, List.length_take, List.getD_eq_getElem?_getD]
  congr 2; omega
theorem patL_sub {p : List Int} {k : Nat} (hk : k < p.length) : hasB p (woL p k) = true := by
 have hl := woL_len hk
 have hr : (p.take k ++ p.drop (k + 1)).length = p.length - 1 := by simp; omega
 refine hasB_of (p := woL p k) (skJ k) (fun i j hij _ => by unfold skJ; split <;> split <;> omega) (fun i hi => by unfold skJ; split <;> omega) (fun i j hi hj => ?_) has_self
 rw [woL, patL_ord (by omega) (by omega), skJ_at hk (by omega), skJ_at hk (by omega)]
theorem nxS_ok {p : List Int} (hp : isPermB p = true) (hs : isSimB p = true) (h2 : 2 < p.length) : nxS p ≠ [] ∧ ∀ q ∈ nxS p, isPermB q = true ∧ isSimB q = true ∧ q.length < p.length ∧ q.length + 2 ≥ p.length ∧ hasB p q = true := by
 obtain ⟨h8, hq⟩ := isP_8 hp
 have h4 : 4 ≤ p.length := by
  rcases Nat.lt_or_ge p.length 4 with g | g
  ·have e3 : p.length = 3 := by omega
   have := sim_3 p (permL_mem.2 ⟨hq, e3⟩)
   rw [this] at hs; cases hs
  ·exact g
 unfold nxS
 by_cases h : smpL p = []
 ·rw [if_pos h]
  have hx := smp_nil hq h8 h4 hs h
  obtain ⟨_, _, _, g4, g5⟩ := pi_all p.length (by omega) p hx
  refine ⟨fun e => g4 (by rw [e]; rfl), fun q hqm => ?_⟩
  have := List.all_eq_true.1 g5 q hqm
  simp only [Bool.and_eq_true, decide_eq_true_eq] at this
  exact ⟨this.1.1, (List.mem_filter.1 hqm).2, by omega, by omega, this.2⟩
 ·rw [if_neg h]
  refine ⟨h, fun q hqm => ?_⟩
  rw [smpL, List.mem_filter] at hqm
  obtain ⟨k, hk, rfl⟩ := low_mem hqm.1
  have e := woL_len hk
  exact ⟨(low_facts hq h8 hqm.1).2.1, hqm.2, by omega, by omega, patL_sub hk⟩
theorem nxQ_mem {p : List Int} (hp : isPermB p = true) (hs : isSimB p = true) (h2 : 2 < p.length) : nxQ p ∈ nxS p := by
 have h := (nxS_ok hp hs h2).1
 exact getD_mem (List.length_pos_iff.2 h)
/-- The chain below. -/
def chL : Nat → List Int → List (List Int)
 | 0, p => [p]
 | d + 1, p => if 2 < p.length then p :: chL d (nxQ p) else [p]
theorem chL_end {d : Nat} {q : List Int} (h : ¬ 2 < q.length) : chL d q = [q] := by
 cases d with
 | zero => rfl
 | succ d => rw [chL, if_neg h]
theorem ptR_len {p : List Int} {k : Nat} (h8 : p.length ≤ 8) (hk : k ≤ p.length) : (ptR p k).length ≤ 70 := by
 have := putL_len (L := (plK p.length k).map fun l => patL (ptA p l))
 rw [List.length_map] at this
 exact Nat.le_trans this (plK_len p.length (by omega) k (by omega))
theorem ptR_row {p : List Int} {k : Nat} (h8 : p.length ≤ 8) (hk : k ≤ p.length) : ∀ l ∈ ptR p k, l.length ≤ 8 ∧ ∀ x ∈ l, 0 ≤ x ∧ x ≤ 1048576 := by
 intro l h
 rw [ptR, putL, put_mem] at h
 rcases h with h | h
 ·obtain ⟨r, hr, rfl⟩ := List.mem_map.1 h
  have h1 := (plK_f r hr).1
  have h2 : (patL (ptA p r)).length = r.length := by rw [patL_len]; simp [ptA]
  refine ⟨by omega, fun x hx => ?_⟩
  rw [patL, List.mem_map] at hx
  obtain ⟨y, _, rfl⟩ := hx
  have := rkI_b (l := ptA p r) (x := y) (k := (ptA p r).length)
  have h3 : (ptA p r).length = r.length := by simp [ptA]
  omega
 ·cases h
def chB (p : List Int) : List (List Int) := if (isPermB p && isSimB p) = true then chL p.length p else []
theorem smpL_len {p : List Int} : (smpL p).length ≤ p.length := by
 have := List.length_filter_le isSimB (lowL p)
 have := lowL_len (p := p)
 unfold smpL; omega
theorem nx_e {q : List Int} (h1 : ((List.filter isSimB (lowL q)).length : Int) = 0) : smpL q = [] := List.length_eq_zero_iff.1 (by rw [smpL]; omega)
theorem nx_no {q : List Int} (hN : nxS q ≠ []) (h1 : ((List.filter isSimB (lowL q)).length : Int) = 0) (h2 : ((List.filter isSimB (ptR q (q.length - 2))).length : Int) = 0) : False := by
 refine hN ?_
 rw [nxS, if_pos (nx_e h1)]
 exact List.length_eq_zero_iff.1 (by omega)
theorem nx_2 {q : List Int} (h1 : ((List.filter isSimB (lowL q)).length : Int) = 0) : (List.filter isSimB (ptR q (q.length - 2))).getD 0 [] = nxQ q := by rw [nxQ, nxS, if_pos (nx_e h1)]
theorem nx_1 {q : List Int} (h1 : ¬ ((List.filter isSimB (lowL q)).length : Int) = 0) : (List.filter isSimB (lowL q)).getD 0 [] = nxQ q := by
 rw [nxQ, nxS, if_neg (fun e => h1 (by rw [show List.filter isSimB (lowL q) = smpL q from rfl, e]; rfl))]; rfl
def sgSmC : FuncId → List Bool := fun f => if f = 36 then [true] else []
theorem sgSmC_eq {f : FuncId} : sgSmC f = if f = 36 then [true] else [] := _root_.id rfl
theorem way_sgSmC : wayE sgSmC = false ∧ wayN sgSmC = false ∧ wayS sgSmC = false ∧ wayZ sgSmC = false ∧ wayM sgSmC = false := ⟨rfl, rfl, rfl, rfl, rfl⟩
attribute [go_sem] sgSmC_eq way_sgSmC
set_option maxHeartbeats 2000000 in
theorem impl_SimpleChain_f_c {m0 : Bool} (p : List Int) (hl : p.length ≤ 1048576) : Fun Tryz.prog 6 [(.sl (.lent m0) (List.map (PV.int .i64) (p)))] [(.sl .own (List.map (elI false) (chB p))), (.bool ((isPermB p && isSimB p)))] := by
 by_cases hp : isPermB p = true
 ·by_cases hs : isSimB p = true
  ·obtain ⟨h8, hq⟩ := isP_8 hp
   have e0 : chB p = chL p.length p := by rw [chB, hp, hs]; rfl
   rw [e0, hp, hs]
   refine fO sgSmC [2, 3] Tryz.func6 ?_
   have cE1 := @impl_IsSimple_c; have cE2 := @slices_Clone_c; have cE3 := @impl_lowers_c; have cE4 := @impl_PatternsIn_c; have cM1 := @impl_simples_c
   refine dEa (And.intro @hp (And.intro @hs @Bool.and_self)) ?_
   all_goals try (refine zlf ?_; repeat' first | exact zso | refine And.intro ?_ ?_ | (refine zim ?_; intro zb hc; repeat (have zc := zb.1; replace zb := zb.2)) | (refine zin ?_; intro zb) | intro j')
   all_goals try refine zbx ?_
   refine v_loopB (fun ms1 S1 => ∃ (u : Bool) (d : Nat) (q : List Int) (pre : List (List Int)), S1.e 0 = .p (.sl (.lent u) (List.map (PV.int .i64) q)) ∧ OwnL (S1.e 4) S1.h S1.n (elI false) ((pre ++ [q]).length) (pre ++ [q]) ∧ (isPermB q = true) ∧ (isSimB q = true) ∧ (q.length ≤ d) ∧ (pre.length + q.length ≤ p.length) ∧ (pre ++ chL d q = chL p.length p) ∧ ms1 = q.length) ((fun (u : Bool) (d : Nat) (q : List Int) (pre : List (List Int)) => q.length) (m0) (p.length) (p) ([])) ?_ ⟨m0, p.length, p, [], dC trivial ?_⟩
   all_goals try (refine zlf ?_; repeat' first | exact zso | refine And.intro ?_ ?_ | (refine zim ?_; intro zb hc; repeat (have zc := zb.1; replace zb := zb.2)) | (refine zin ?_; intro zb) | intro j')
   all_goals try refine zbx ?_
   rintro ms1 S1 ⟨u, d, q, pre, h1_0, o1_4, c1_0, c1_1, c1_2, c1_3, c1_4, hm1⟩
   obtain ⟨i1_4, h1_4, b1_4, l1_4⟩ := o1_4.out
   have ni1_4 := znds (x := i1_4) (n := S1.n)
   have fL1 := (And.intro h1_0 (And.intro h1_4 (And.intro b1_4 ni1_4)))
   ·obtain ⟨g8, gq⟩ := isP_8 c1_0
    by_cases h2 : 2 < q.length
    ·have hN := nxS_ok c1_0 c1_1 h2
     have hM := nxQ_mem c1_0 c1_1 h2
     obtain ⟨n1, n2, n3, _, _⟩ := hN.2 _ hM
     obtain ⟨d, rfl⟩ : ∃ e, d = e + 1 := ⟨d - 1, by omega⟩
     have q4 := c1_4
     rw [chL, if_pos h2] at q4
     have b0 := smpL_len (p := q)
     have b1 := lowL_len (p := q)
     have b2 : ∀ l ∈ lowL q, l.length ≤ 8 ∧ ∀ x ∈ l, 0 ≤ x ∧ x ≤ 1048576 := fun l h => ⟨(low_facts gq g8 h).1, (low_facts gq g8 h).2.2⟩
     have b3 := ptR_len (p := q) (k := q.length - 2) g8 (by omega)
     have b4 := ptR_row (p := q) (k := q.length - 2) g8 (by omega)
     have cP := impl_PatternsIn_c (m0 := u) q (q.length - 2) c1_0 (by omega)
     rw [show ((q.length - 2 : Nat) : Int) = (q.length : Int) - 2 by omega] at cP
     have b5 : ((List.filter isSimB (lowL q)).length : Int) ≤ 1048576 := by have := List.length_filter_le isSimB (lowL q); omega
     have b6 : ((List.filter isSimB (ptR q (q.length - 2))).length : Int) ≤ 1048576 := by have := List.length_filter_le isSimB (ptR q (q.length - 2)); omega
     have cE1 := @cP; have cE2 := @impl_IsSimple_c; have cE3 := @slices_Clone_c; have cE4 := @impl_lowers_c
     refine dEa fL1 ?_
     all_goals try (refine zlf ?_; repeat' first | exact zso | refine And.intro ?_ ?_ | (refine zim ?_; intro zb hc; repeat (have zc := zb.1; replace zb := zb.2)) | (refine zin ?_; intro zb) | intro j')
     all_goals try refine zbx ?_
     all_goals try first | exact b2 | exact b4 | exact (nx_no hN.1 (by assumption) hc).elim
     ·have hx := nx_2 (q := q) (by assumption)
      rw [hx]
      focus
       refine q_lp_n ((fun (u : Bool) (d : Nat) (q : List Int) (pre : List (List Int)) => q.length) (false) (d) (nxQ q) (pre ++ [q])) (dC fL1 ?_) ⟨false, d, nxQ q, pre ++ [q], dC fL1 ?_⟩
       all_goals try (refine zlf ?_; repeat' first | exact zso | refine And.intro ?_ ?_ | (refine zim ?_; intro zb hc; repeat (have zc := zb.1; replace zb := zb.2)) | (refine zin ?_; intro zb) | intro j')
       all_goals try refine zbx ?_
      all_goals trace_state
     ·have hx := nx_1 hc
      rw [hx]
      focus
       refine q_lp_n ((fun (u : Bool) (d : Nat) (q : List Int) (pre : List (List Int)) => q.length) (false) (d) (nxQ q) (pre ++ [q])) (dC fL1 ?_) ⟨false, d, nxQ q, pre ++ [q], dC fL1 ?_⟩
       all_goals try (refine zlf ?_; repeat' first | exact zso | refine And.intro ?_ ?_ | (refine zim ?_; intro zb hc; repeat (have zc := zb.1; replace zb := zb.2)) | (refine zin ?_; intro zb) | intro j')
       all_goals try refine zbx ?_
      all_goals trace_state
    ·have e3 := chL_end (d := d) h2
     rw [e3] at c1_4
     have cE1 := @impl_IsSimple_c; have cE2 := @slices_Clone_c; have cE3 := @impl_lowers_c; have cE4 := @impl_PatternsIn_c
     refine dEa fL1 ?_
     all_goals try (refine zlf ?_; repeat' first | exact zso | refine And.intro ?_ ?_ | (refine zim ?_; intro zb hc; repeat (have zc := zb.1; replace zb := zb.2)) | (refine zin ?_; intro zb) | intro j')
     all_goals try refine zbx ?_
     all_goals trace_state
   all_goals trace_state
  ·rw [Bool.not_eq_true] at hs
   rw [chB, hp, hs]
   refine fO sgSmC [2, 3] Tryz.func6 ?_
   have cE1 := @impl_IsSimple_c; have cE2 := @slices_Clone_c; have cE3 := @impl_lowers_c; have cE4 := @impl_PatternsIn_c; have cM1 := @impl_simples_c
   refine dEa (And.intro @hp @hs) ?_
   all_goals try (refine zlf ?_; repeat' first | exact zso | refine And.intro ?_ ?_ | (refine zim ?_; intro zb hc; repeat (have zc := zb.1; replace zb := zb.2)) | (refine zin ?_; intro zb) | intro j')
   all_goals try refine zbx ?_
   all_goals trace_state
 ·rw [Bool.not_eq_true] at hp
  rw [chB, hp]
  refine fO sgSmC [2, 3] Tryz.func6 ?_
  have cE1 := @impl_IsSimple_c; have cE2 := @slices_Clone_c; have cE3 := @impl_lowers_c; have cE4 := @impl_PatternsIn_c; have cM1 := @impl_simples_c
  refine dEa @hp ?_
  all_goals try (refine zlf ?_; repeat' first | exact zso | refine And.intro ?_ ?_ | (refine zim ?_; intro zb hc; repeat (have zc := zb.1; replace zb := zb.2)) | (refine zin ?_; intro zb) | intro j')
  all_goals try refine zbx ?_
  all_goals trace_state
theorem fil_sn {L : List (List Int)} {j : Nat} (h : j < L.length) (hp : isSimB (L.getD j []) = true) : (L.take (j + 1)).filter isSimB = (L.take j).filter isSimB ++ [L.getD j []] := by
 rw [fil_snoc h, if_pos hp]
theorem fil_sz {L : List (List Int)} {j : Nat} (h : j < L.length) (hp : isSimB (L.getD j []) = false) : (L.take (j + 1)).filter isSimB = (L.take j).filter isSimB := by
 rw [fil_snoc h, hp]; simp
theorem pi_perm : ∀ n, n < 9 → ∀ p ∈ exL n, (ptR p (n - 2)).all isPermB = true := by decide +kernel
set_option maxHeartbeats 2000000 in
theorem spec_SimpleChain_f_c {m0 : Bool} (p : List Int) (hl : p.length ≤ 1048576) : Fun Tryz.prog 7 [(.sl (.lent m0) (List.map (PV.int .i64) (p)))] [(.sl .own (List.map (elI false) (chB p))), (.bool ((isPermB p && isSimB p)))] := by
 by_cases hp : isPermB p = true
 ·by_cases hs : isSimB p = true
  ·obtain ⟨h8, hq⟩ := isP_8 hp
   have e0 : chB p = chL p.length p := by rw [chB, hp, hs]; rfl
   have e9 : List.take p.length p = p := List.take_of_length_le (Nat.le_refl _)
   rw [e0, hp, hs]
   refine fO sg0 [2, 3] Tryz.func7 ?_
   have cE1 := @spec_IsSimple_c; have cE2 := @spec_SimpleLowers_c; have cE3 := @spec_SimpleLowers_n_c; have cE4 := @spec_PatternsIn_c
   refine dEa (And.intro @hp (And.intro @hs (And.intro @Bool.and_self @e9))) ?_
   all_goals try (refine zlf ?_; repeat' first | exact zso | refine And.intro ?_ ?_ | (refine zim ?_; intro zb hc) | (refine zin ?_; intro zb) | intro j')
   all_goals try refine zbx ?_
   refine v_loopB (fun ms1 S1 => ∃ (b : Bool) (id : Nat) (d : Nat) (q : List Int) (pre : List (List Int)), S1.e 4 = (bif b then AV.p (.sl (.lent false) (List.map (PV.int .i64) q)) else AV.ref id 0 q.length) ∧ OwnL (S1.e 5) S1.h S1.n (elI false) ((pre ++ [q]).length) (pre ++ [q]) ∧ (isPermB q = true) ∧ (isSimB q = true) ∧ (q.length ≤ d) ∧ (pre.length + q.length ≤ p.length) ∧ (pre ++ chL d q = chL p.length p) ∧ (b = true ∨ (id < S1.n ∧ S1.h id = .froz false (List.map (PV.int .i64) q))) ∧ ms1 = q.length) ((fun (b : Bool) (id : Nat) (d : Nat) (q : List Int) (pre : List (List Int)) => q.length) (false) (1793) (p.length) (p) ([])) ?_ ⟨false, 1793, p.length, p, [], dC trivial ?_⟩
   all_goals try (refine zlf ?_; repeat' first | exact zso | refine And.intro ?_ ?_ | (refine zim ?_; intro zb hc) | (refine zin ?_; intro zb) | intro j')
   all_goals try refine zbx ?_
   rintro ms1 S1 ⟨b, id, d, q, pre, h1_4, o1_5, c1_0, c1_1, c1_2, c1_3, c1_4, c1_5, hm1⟩
   obtain ⟨i1_5, h1_5, b1_5, l1_5⟩ := o1_5.out
   have ni1_5 := znds (x := i1_5) (n := S1.n)
   have fL1 := (And.intro h1_4 (And.intro h1_5 (And.intro b1_5 ni1_5)))
   ·cases b
    ·have i12 : id < S1.n ∧ S1.h id = .froz false (List.map (PV.int .i64) q) := by
      rcases c1_5 with h | h
      ·cases h
      ·exact h
     obtain ⟨i1, i2⟩ := i12
     have i3 : ¬ id = i1_5 := by
      intro e; subst e; rw [i2] at b1_5; cases b1_5
     have n4 := znds i1
     have n5 := zdne i3
     obtain ⟨g8, gq⟩ := isP_8 c1_0
     by_cases h2 : 2 < q.length
     ·have hN := nxS_ok c1_0 c1_1 h2
      have hM := nxQ_mem c1_0 c1_1 h2
      obtain ⟨n1, n2, n3, _, _⟩ := hN.2 _ hM
      obtain ⟨d, rfl⟩ : ∃ e, d = e + 1 := ⟨d - 1, by omega⟩
      have q4 := c1_4
      rw [chL, if_pos h2] at q4
      have b0 := smpL_len (p := q)
      have b3 := ptR_len (p := q) (k := q.length - 2) g8 (by omega)
      have b4 := ptR_row (p := q) (k := q.length - 2) g8 (by omega)
      have e7 : List.take (nxQ q).length (nxQ q) = nxQ q := List.take_of_length_le (Nat.le_refl _)
      have cP := fun m0 : Bool => spec_PatternsIn_c (m0 := m0) q (q.length - 2) c1_0 (by omega)
      rw [show ((q.length - 2 : Nat) : Int) = (q.length : Int) - 2 by omega] at cP
      by_cases he : smpL q = []
      ·have h4 : 4 ≤ q.length := by
        rcases Nat.lt_or_ge q.length 4 with g | g
        ·have := sim_3 q (permL_mem.2 ⟨gq, by omega⟩)
         rw [this] at c1_1; cases c1_1
        ·exact g
       have hx := smp_nil gq g8 h4 c1_1 he
       obtain ⟨_, _, w1, _, _⟩ := pi_all q.length (by omega) q hx
       have w2 := pi_perm q.length (by omega) q hx
       rw [w1] at cP
       have e5 : (((smpL q).length : Int) = 0) = True := eq_true (by rw [he]; rfl)
       have e6 : nxS q = (ptR q (q.length - 2)).filter isSimB := if_pos he
       have e8 : ((ptR q (q.length - 2)).filter isSimB).getD 0 [] = nxQ q := by rw [nxQ, e6]
       have b5 : 0 < ((ptR q (q.length - 2)).filter isSimB).length := by rw [← e6]; exact List.length_pos_iff.2 hN.1
       have cE1 := @cP; have cE3 := @spec_IsSimple_c; have cE4 := trivial
       refine dEa (And.intro fL1 (And.intro @i2 (And.intro @n4 (And.intro @n5 @e5)))) ?_
       all_goals try (refine zlf ?_; repeat' first | exact zso | refine And.intro ?_ ?_ | (refine zim ?_; intro zb hc) | (refine zin ?_; intro zb) | intro j')
       all_goals try refine zbx ?_
       refine v_loopB (fun ms2 S2 => ∃ (j : Nat), OwnL (S2.e 5) S2.h S2.n (elI false) ((pre ++ [q]).length) (pre ++ [q]) ∧ OwnL (S2.e 6) S2.h S2.n (elI false) ((((ptR q (q.length - 2)).take j).filter isSimB).length) (((ptR q (q.length - 2)).take j).filter isSimB) ∧ OwnL (S2.e 7) S2.h S2.n (elI false) ((ptR q (q.length - 2)).length) (ptR q (q.length - 2)) ∧ S2.e 8 = .p (.int .i64 (j)) ∧ (j ≤ (ptR q (q.length - 2)).length) ∧ NId (S2.e 6) (S2.e 5) ∧ NId (S2.e 7) (S2.e 5) ∧ NId (S2.e 7) (S2.e 6) ∧ S1.n ≤ S2.n ∧ ms2 = (ptR q (q.length - 2)).length - j) ((fun (j : Nat) => (ptR q (q.length - 2)).length - j) (0)) ?_ ⟨0, dC fL1 ?_⟩
       all_goals try (refine zlf ?_; repeat' first | exact zso | refine And.intro ?_ ?_ | (refine zim ?_; intro zb hc) | (refine zin ?_; intro zb) | intro j')
       all_goals try refine zbx ?_
       rintro ms2 S2 ⟨j, o2_5, o2_6, o2_7, h2_8, c2_0, u2_0, u2_1, u2_2, u2_3, hm2⟩
       obtain ⟨i2_5, h2_5, b2_5, l2_5⟩ := o2_5.out
       obtain ⟨i2_6, h2_6, b2_6, l2_6⟩ := o2_6.out
       obtain ⟨i2_7, h2_7, b2_7, l2_7⟩ := o2_7.out
       have k2_0 := (u2_0).out h2_6 h2_5
       have k2_1 := (u2_1).out h2_7 h2_5
       have k2_2 := (u2_2).out h2_7 h2_6
       have ni2_5 := znds (x := i2_5) (n := S2.n)
       have ni2_6 := znds (x := i2_6) (n := S2.n)
       have ni2_7 := znds (x := i2_7) (n := S2.n)
       have di2_5i2_6 := zdne (x := i2_5) (y := i2_6)
       have di2_5i2_7 := zdne (x := i2_5) (y := i2_7)
       have di2_6i2_7 := zdne (x := i2_6) (y := i2_7)
       have fL2 := (And.intro h2_8 (And.intro h2_5 (And.intro b2_5 (And.intro h2_6 (And.intro b2_6 (And.intro h2_7 (And.intro b2_7 (And.intro ni2_5 (And.intro ni2_6 (And.intro ni2_7 (And.intro di2_5i2_6 (And.intro di2_5i2_7 di2_6i2_7))))))))))))
       ·have b6 := fil_len (p := isSimB) (L := ptR q (q.length - 2)) (j := j) (by omega)
        by_cases hj : j < (ptR q (q.length - 2)).length
        ·have w3 := List.all_eq_true.1 w2 _ (getD_mem (d := []) hj)
         have w4 := (b4 _ (getD_mem (d := []) hj)).1
         have cE1 := @spec_IsSimple_c; have cE3 := @spec_SimpleLowers_n_c; have cE4 := @spec_PatternsIn_c
         refine dEa (And.intro fL2 (And.intro @w3 @Bool.true_and)) ?_
         all_goals try (refine zlf ?_; repeat' first | exact zso | refine And.intro ?_ ?_ | (refine zim ?_; intro zb hc) | (refine zin ?_; intro zb) | intro j')
         all_goals try refine zbx ?_
         ·focus
           refine q_lp_n ((fun (j : Nat) => (ptR q (q.length - 2)).length - j) (j+1)) (dC fL2 ?_) ⟨j+1, dC fL2 ?_⟩
           all_goals try (refine zlf ?_; repeat' first | exact zso | refine And.intro ?_ ?_ | (refine zim ?_; intro zb hc) | (refine zin ?_; intro zb) | intro j')
           all_goals try refine zbx ?_
          all_goals (rw [fil_sn hj hc])
          all_goals first | (simp; done) | trace_state
         ·focus
           refine q_lp_n ((fun (j : Nat) => (ptR q (q.length - 2)).length - j) (j+1)) (dC fL2 ?_) ⟨j+1, dC fL2 ?_⟩
           all_goals try (refine zlf ?_; repeat' first | exact zso | refine And.intro ?_ ?_ | (refine zim ?_; intro zb hc) | (refine zin ?_; intro zb) | intro j')
           all_goals try refine zbx ?_
          all_goals (rw [fil_sz hj hc])
        ·obtain rfl : j = (ptR q (q.length - 2)).length := by omega
         rw [List.take_of_length_le (Nat.le_refl _)] at *
         have cE1 := @spec_IsSimple_c; have cE3 := @spec_SimpleLowers_n_c; have cE4 := @spec_PatternsIn_c
         refine dEa (And.intro fL2 (And.intro @e8 @e7)) ?_
         all_goals try (refine zlf ?_; repeat' first | exact zso | refine And.intro ?_ ?_ | (refine zim ?_; intro zb hc) | (refine zin ?_; intro zb) | intro j')
         all_goals try refine zbx ?_
         focus
          refine q_lp_n ((fun (b : Bool) (id : Nat) (d : Nat) (q : List Int) (pre : List (List Int)) => q.length) (true) (0) (d) (nxQ q) (pre ++ [q])) (dC fL2 ?_) ⟨true, 0, d, nxQ q, pre ++ [q], dC fL2 ?_⟩
          all_goals try (refine zlf ?_; repeat' first | exact zso | refine And.intro ?_ ?_ | (refine zim ?_; intro zb hc) | (refine zin ?_; intro zb) | intro j')
          all_goals try refine zbx ?_
         all_goals first | exact .inl rfl | trace_state
       all_goals first | (rw [he]; rfl) | trace_state
      ·have e6 : nxS q = smpL q := if_neg he
       have b5 : 0 < (smpL q).length := List.length_pos_iff.2 he
       have e5 : (((smpL q).length : Int) = 0) = False := eq_false (by omega)
       have e8 : (smpL q).getD 0 [] = nxQ q := by rw [nxQ, e6]
       have cE1 := @spec_SimpleLowers_c; have cE2 := @spec_IsSimple_c; have cE3 := trivial; have cE4 := trivial
       refine dEa (And.intro fL1 (And.intro @i2 (And.intro @n4 (And.intro @n5 (And.intro @e5 (And.intro @e8 @e7)))))) ?_
       all_goals try (refine zlf ?_; repeat' first | exact zso | refine And.intro ?_ ?_ | (refine zim ?_; intro zb hc) | (refine zin ?_; intro zb) | intro j')
       all_goals try refine zbx ?_
       focus
        refine q_lp_n ((fun (b : Bool) (id : Nat) (d : Nat) (q : List Int) (pre : List (List Int)) => q.length) (true) (0) (d) (nxQ q) (pre ++ [q])) (dC fL1 ?_) ⟨true, 0, d, nxQ q, pre ++ [q], dC fL1 ?_⟩
        all_goals try (refine zlf ?_; repeat' first | exact zso | refine And.intro ?_ ?_ | (refine zim ?_; intro zb hc) | (refine zin ?_; intro zb) | intro j')
        all_goals try refine zbx ?_
       all_goals first | exact .inl rfl | trace_state
     ·have e3 := chL_end (d := d) h2
      rw [e3] at c1_4
      have cE1 := @spec_IsSimple_c; have cE2 := @spec_SimpleLowers_c; have cE3 := @spec_SimpleLowers_n_c; have cE4 := @spec_PatternsIn_c
      refine dEa (And.intro fL1 (And.intro @i2 (And.intro @n4 @n5))) ?_
      all_goals try (refine zlf ?_; repeat' first | exact zso | refine And.intro ?_ ?_ | (refine zim ?_; intro zb hc) | (refine zin ?_; intro zb) | intro j')
      all_goals try refine zbx ?_
      all_goals trace_state
    ·have i0 : True := trivial
     obtain ⟨g8, gq⟩ := isP_8 c1_0
     by_cases h2 : 2 < q.length
     ·have hN := nxS_ok c1_0 c1_1 h2
      have hM := nxQ_mem c1_0 c1_1 h2
      obtain ⟨n1, n2, n3, _, _⟩ := hN.2 _ hM
      obtain ⟨d, rfl⟩ : ∃ e, d = e + 1 := ⟨d - 1, by omega⟩
      have q4 := c1_4
      rw [chL, if_pos h2] at q4
      have b0 := smpL_len (p := q)
      have b3 := ptR_len (p := q) (k := q.length - 2) g8 (by omega)
      have b4 := ptR_row (p := q) (k := q.length - 2) g8 (by omega)
      have e7 : List.take (nxQ q).length (nxQ q) = nxQ q := List.take_of_length_le (Nat.le_refl _)
      have cP := fun m0 : Bool => spec_PatternsIn_c (m0 := m0) q (q.length - 2) c1_0 (by omega)
      rw [show ((q.length - 2 : Nat) : Int) = (q.length : Int) - 2 by omega] at cP
      by_cases he : smpL q = []
      ·have h4 : 4 ≤ q.length := by
        rcases Nat.lt_or_ge q.length 4 with g | g
        ·have := sim_3 q (permL_mem.2 ⟨gq, by omega⟩)
         rw [this] at c1_1; cases c1_1
        ·exact g
       have hx := smp_nil gq g8 h4 c1_1 he
       obtain ⟨_, _, w1, _, _⟩ := pi_all q.length (by omega) q hx
       have w2 := pi_perm q.length (by omega) q hx
       rw [w1] at cP
       have e5 : (((smpL q).length : Int) = 0) = True := eq_true (by rw [he]; rfl)
       have e6 : nxS q = (ptR q (q.length - 2)).filter isSimB := if_pos he
       have e8 : ((ptR q (q.length - 2)).filter isSimB).getD 0 [] = nxQ q := by rw [nxQ, e6]
       have b5 : 0 < ((ptR q (q.length - 2)).filter isSimB).length := by rw [← e6]; exact List.length_pos_iff.2 hN.1
       have cE1 := @cP; have cE2 := @spec_SimpleLowers_c; have cE3 := @spec_IsSimple_c; have cE4 := trivial
       refine dEa (And.intro fL1 @e5) ?_
       all_goals try (refine zlf ?_; repeat' first | exact zso | refine And.intro ?_ ?_ | (refine zim ?_; intro zb hc) | (refine zin ?_; intro zb) | intro j')
       all_goals try refine zbx ?_
       refine v_loopB (fun ms2 S2 => ∃ (j : Nat), OwnL (S2.e 5) S2.h S2.n (elI false) ((pre ++ [q]).length) (pre ++ [q]) ∧ OwnL (S2.e 6) S2.h S2.n (elI false) ((((ptR q (q.length - 2)).take j).filter isSimB).length) (((ptR q (q.length - 2)).take j).filter isSimB) ∧ OwnL (S2.e 7) S2.h S2.n (elI false) ((ptR q (q.length - 2)).length) (ptR q (q.length - 2)) ∧ S2.e 8 = .p (.int .i64 (j)) ∧ (j ≤ (ptR q (q.length - 2)).length) ∧ NId (S2.e 6) (S2.e 5) ∧ NId (S2.e 7) (S2.e 5) ∧ NId (S2.e 7) (S2.e 6) ∧ S1.n ≤ S2.n ∧ ms2 = (ptR q (q.length - 2)).length - j) ((fun (j : Nat) => (ptR q (q.length - 2)).length - j) (0)) ?_ ⟨0, dC fL1 ?_⟩
       all_goals try (refine zlf ?_; repeat' first | exact zso | refine And.intro ?_ ?_ | (refine zim ?_; intro zb hc) | (refine zin ?_; intro zb) | intro j')
       all_goals try refine zbx ?_
       rintro ms2 S2 ⟨j, o2_5, o2_6, o2_7, h2_8, c2_0, u2_0, u2_1, u2_2, u2_3, hm2⟩
       obtain ⟨i2_5, h2_5, b2_5, l2_5⟩ := o2_5.out
       obtain ⟨i2_6, h2_6, b2_6, l2_6⟩ := o2_6.out
       obtain ⟨i2_7, h2_7, b2_7, l2_7⟩ := o2_7.out
       have k2_0 := (u2_0).out h2_6 h2_5
       have k2_1 := (u2_1).out h2_7 h2_5
       have k2_2 := (u2_2).out h2_7 h2_6
       have ni2_5 := znds (x := i2_5) (n := S2.n)
       have ni2_6 := znds (x := i2_6) (n := S2.n)
       have ni2_7 := znds (x := i2_7) (n := S2.n)
       have di2_5i2_6 := zdne (x := i2_5) (y := i2_6)
       have di2_5i2_7 := zdne (x := i2_5) (y := i2_7)
       have di2_6i2_7 := zdne (x := i2_6) (y := i2_7)
       have fL2 := (And.intro h2_8 (And.intro h2_5 (And.intro b2_5 (And.intro h2_6 (And.intro b2_6 (And.intro h2_7 (And.intro b2_7 (And.intro ni2_5 (And.intro ni2_6 (And.intro ni2_7 (And.intro di2_5i2_6 (And.intro di2_5i2_7 di2_6i2_7))))))))))))
       ·have b6 := fil_len (p := isSimB) (L := ptR q (q.length - 2)) (j := j) (by omega)
        by_cases hj : j < (ptR q (q.length - 2)).length
        ·have w3 := List.all_eq_true.1 w2 _ (getD_mem (d := []) hj)
         have w4 := (b4 _ (getD_mem (d := []) hj)).1
         have cE1 := @spec_IsSimple_c; have cE2 := @spec_SimpleLowers_c; have cE3 := @spec_SimpleLowers_n_c; have cE4 := @spec_PatternsIn_c
         refine dEa (And.intro fL2 (And.intro @w3 @Bool.true_and)) ?_
         all_goals try (refine zlf ?_; repeat' first | exact zso | refine And.intro ?_ ?_ | (refine zim ?_; intro zb hc) | (refine zin ?_; intro zb) | intro j')
         all_goals try refine zbx ?_
         ·focus
           refine q_lp_n ((fun (j : Nat) => (ptR q (q.length - 2)).length - j) (j+1)) (dC fL2 ?_) ⟨j+1, dC fL2 ?_⟩
           all_goals try (refine zlf ?_; repeat' first | exact zso | refine And.intro ?_ ?_ | (refine zim ?_; intro zb hc) | (refine zin ?_; intro zb) | intro j')
           all_goals try refine zbx ?_
          all_goals (rw [fil_sn hj hc])
          all_goals first | (simp; done) | trace_state
         ·focus
           refine q_lp_n ((fun (j : Nat) => (ptR q (q.length - 2)).length - j) (j+1)) (dC fL2 ?_) ⟨j+1, dC fL2 ?_⟩
           all_goals try (refine zlf ?_; repeat' first | exact zso | refine And.intro ?_ ?_ | (refine zim ?_; intro zb hc) | (refine zin ?_; intro zb) | intro j')
           all_goals try refine zbx ?_
          all_goals (rw [fil_sz hj hc])
        ·obtain rfl : j = (ptR q (q.length - 2)).length := by omega
         rw [List.take_of_length_le (Nat.le_refl _)] at *
         have cE1 := @spec_IsSimple_c; have cE2 := @spec_SimpleLowers_c; have cE3 := @spec_SimpleLowers_n_c; have cE4 := @spec_PatternsIn_c
         refine dEa (And.intro fL2 (And.intro @e8 @e7)) ?_
         all_goals try (refine zlf ?_; repeat' first | exact zso | refine And.intro ?_ ?_ | (refine zim ?_; intro zb hc) | (refine zin ?_; intro zb) | intro j')
         all_goals try refine zbx ?_
         focus
          refine q_lp_n ((fun (b : Bool) (id : Nat) (d : Nat) (q : List Int) (pre : List (List Int)) => q.length) (true) (0) (d) (nxQ q) (pre ++ [q])) (dC fL2 ?_) ⟨true, 0, d, nxQ q, pre ++ [q], dC fL2 ?_⟩
          all_goals try (refine zlf ?_; repeat' first | exact zso | refine And.intro ?_ ?_ | (refine zim ?_; intro zb hc) | (refine zin ?_; intro zb) | intro j')
          all_goals try refine zbx ?_
         all_goals first | exact .inl rfl | trace_state
       all_goals first | (rw [he]; rfl) | trace_state
      ·have e6 : nxS q = smpL q := if_neg he
       have b5 : 0 < (smpL q).length := List.length_pos_iff.2 he
       have e5 : (((smpL q).length : Int) = 0) = False := eq_false (by omega)
       have e8 : (smpL q).getD 0 [] = nxQ q := by rw [nxQ, e6]
       have cE1 := @spec_SimpleLowers_c; have cE2 := @spec_IsSimple_c; have cE3 := trivial; have cE4 := trivial
       refine dEa (And.intro fL1 (And.intro @e5 (And.intro @e8 @e7))) ?_
       all_goals try (refine zlf ?_; repeat' first | exact zso | refine And.intro ?_ ?_ | (refine zim ?_; intro zb hc) | (refine zin ?_; intro zb) | intro j')
       all_goals try refine zbx ?_
       focus
        refine q_lp_n ((fun (b : Bool) (id : Nat) (d : Nat) (q : List Int) (pre : List (List Int)) => q.length) (true) (0) (d) (nxQ q) (pre ++ [q])) (dC fL1 ?_) ⟨true, 0, d, nxQ q, pre ++ [q], dC fL1 ?_⟩
        all_goals try (refine zlf ?_; repeat' first | exact zso | refine And.intro ?_ ?_ | (refine zim ?_; intro zb hc) | (refine zin ?_; intro zb) | intro j')
        all_goals try refine zbx ?_
       all_goals first | exact .inl rfl | trace_state
     ·have e3 := chL_end (d := d) h2
      rw [e3] at c1_4
      have cE1 := @spec_IsSimple_c; have cE2 := @spec_SimpleLowers_c; have cE3 := @spec_SimpleLowers_n_c; have cE4 := @spec_PatternsIn_c
      refine dEa (And.intro fL1 @h2) ?_
      all_goals try (refine zlf ?_; repeat' first | exact zso | refine And.intro ?_ ?_ | (refine zim ?_; intro zb hc) | (refine zin ?_; intro zb) | intro j')
      all_goals try refine zbx ?_
      all_goals trace_state
   all_goals trace_state
  ·rw [Bool.not_eq_true] at hs
   rw [chB, hp, hs]
   refine fO sg0 [2, 3] Tryz.func7 ?_
   have cE1 := @spec_IsSimple_c; have cE2 := @spec_SimpleLowers_c; have cE3 := @spec_SimpleLowers_n_c; have cE4 := @spec_PatternsIn_c
   refine dEa (And.intro @hp @hs) ?_
   all_goals try (refine zlf ?_; repeat' first | exact zso | refine And.intro ?_ ?_ | (refine zim ?_; intro zb hc) | (refine zin ?_; intro zb) | intro j')
   all_goals try refine zbx ?_
   all_goals trace_state
 ·rw [Bool.not_eq_true] at hp
  rw [chB, hp]
  refine fO sg0 [2, 3] Tryz.func7 ?_
  have cE1 := @spec_IsSimple_c; have cE2 := @spec_SimpleLowers_c; have cE3 := @spec_SimpleLowers_n_c; have cE4 := @spec_PatternsIn_c
  refine dEa @hp ?_
  all_goals try (refine zlf ?_; repeat' first | exact zso | refine And.intro ?_ ?_ | (refine zim ?_; intro zb hc) | (refine zin ?_; intro zb) | intro j')
  all_goals try refine zbx ?_
  all_goals trace_state
/-- The last place up to which an interval from a place ends (all of the places do not count). -/
def endK (p : List Int) (a : Nat) : Nat → Nat
 | 0 => a + 1
 | k + 1 => if a + 2 ≤ k + 1 ∧ k + 1 - a < p.length ∧ isIntB p a (k + 1 : Nat) = true then k + 1 else endK p a k
theorem endK_b {p : List Int} {a : Nat} : ∀ {k : Nat}, a + 1 ≤ endK p a k ∧ (endK p a k ≤ k ∨ endK p a k = a + 1)
 | 0 => by simp [endK]
 | k + 1 => by
  have := endK_b (p := p) (a := a) (k := k)
  rw [endK]; split <;> omega
theorem endK_low {p : List Int} {a : Nat} : ∀ {k : Nat}, k ≤ a + 1 → endK p a k = a + 1
 | 0, _ => rfl
 | k + 1, h => by rw [endK, if_neg (by omega)]; exact endK_low (by omega)
/-- What is cut off so far: where to go on, the first numbers, the parts. -/
def cutL (p : List Int) : Nat → Nat × List Int × List (List Int)
 | 0 => (0, [], [])
 | j + 1 => if (cutL p j).1 < p.length then (endK p (cutL p j).1 p.length, (cutL p j).2.1 ++ [p.getD (cutL p j).1 0], (cutL p j).2.2 ++ [patL (segL p (cutL p j).1 (endK p (cutL p j).1 p.length))]) else cutL p j
theorem cutL_b {p : List Int} : ∀ {j : Nat}, (cutL p j).1 ≤ p.length ∧ (j ≤ (cutL p j).1 ∨ (cutL p j).1 = p.length) ∧ (cutL p j).2.1.length ≤ (cutL p j).1 ∧ (cutL p j).2.2.length = (cutL p j).2.1.length
 | 0 => by simp [cutL]
 | j + 1 => by
  have := cutL_b (p := p) (j := j)
  rw [cutL]
  split
  ·have h2 := endK_b (p := p) (a := (cutL p j).1) (k := p.length)
   simp only [List.length_append, List.length_cons, List.length_nil]
   omega
  ·omega
theorem cutL_end {p : List Int} {j : Nat} (h : (cutL p j).1 = p.length) : ∀ i, cutL p (j + i) = cutL p j
 | 0 => rfl
 | i + 1 => by
  rw [← Nat.add_assoc, cutL, cutL_end h i, if_neg (by omega)]
theorem cutL_fin {p : List Int} {j : Nat} (h : (cutL p j).1 = p.length) : cutL p j = cutL p p.length := by
 have h1 := cutL_b (p := p) (j := p.length)
 have h2 : (cutL p p.length).1 = p.length := by omega
 rcases Nat.le_total j p.length with hj | hj
 ·have := cutL_end h (p.length - j); rw [← this]; congr 1; omega
 ·have := cutL_end h2 (j - p.length); rw [← this]; congr 1; omega
theorem isInt_one {p : List Int} {a : Nat} (h : a < p.length) : isIntB p a ((a + 1 : Nat) : Int) = true := by
 have e : segL p a (a + 1) = [p.getD a 0] := by
  apply List.ext_getElem?; intro i
  simp only [segL, List.getElem?_drop, List.getElem?_take]
  cases i with
  | zero => simp [List.getD_eq_getElem?_getD, List.getElem?_eq_getElem h]
  | succ i => rw [if_neg (by omega)]; simp
 have e2 : ((a : Int)).toNat = a := by omega
 have e3 : (((a + 1 : Nat) : Int)).toNat = a + 1 := by omega
 rw [isIntB, e2, e3, e]
 simp [maxL, minL, maxT, minT]
 omega
def splL (p : List Int) : List Int × List (List Int) :=
 if p.length = 1 then ([1], [[1]]) else
 if 1 < (sumPt p).length then ([1, 2], [(sumPt p).getD 0 [], joinL ((sumPt p).drop 1) false]) else
 if 1 < (skewPt p).length then ([2, 1], [(skewPt p).getD 0 [], joinL ((skewPt p).drop 1) true]) else
 (patL (cutL p p.length).2.1, (cutL p p.length).2.2)
theorem skewPt_f {p : List Int} (hp : isPermB p = true) : (∀ l ∈ skewPt p, permB l = true) ∧ lenS (skewPt p) ≤ 8 ∧ (skewPt p).length ≤ 8 ∧ (∀ l ∈ skewPt p, isPermB l = true ∧ l.length ≤ 8 ∧ ∀ x ∈ l, 0 ≤ x ∧ x ≤ 8) := by
 have h := sumPt_f (cplL_isPerm hp)
 have e : lenS (skewPt p) = lenS (sumPt (cplL p)) := by
  simp only [lenS, skewPt, List.map_map]
  congr 1
  exact List.map_congr_left fun l _ => cplL_len
 refine ⟨fun l hl => ?_, by omega, by simp [skewPt]; omega, fun l hl => ?_⟩
 ·obtain ⟨q, hq, rfl⟩ := List.mem_map.1 hl
  exact cplL_perm (h.1 q hq)
 ·obtain ⟨q, hq, rfl⟩ := List.mem_map.1 hl
  have := cplL_isPerm (h.2.2.2 q hq).1
  exact ⟨this, (isPerm_facts this).1, perm_b8 this⟩
theorem parts_drop {L : List (List Int)} (h1 : ∀ l ∈ L, permB l = true) (h2 : lenS L ≤ 8) (h3 : L.length ≤ 8) (h4 : ∀ l ∈ L, isPermB l = true ∧ l.length ≤ 8 ∧ ∀ x ∈ l, 0 ≤ x ∧ x ≤ 8) :
  (L.drop 1).length ≤ 8 ∧ (∀ l ∈ L.drop 1, l.length ≤ 8) ∧ (∀ l ∈ L.drop 1, ∀ x ∈ l, 0 ≤ x ∧ x ≤ 8) :=
 ⟨by simp; omega, fun l hl => (h4 l (List.mem_of_mem_drop hl)).2.1, fun l hl => (h4 l (List.mem_of_mem_drop hl)).2.2⟩
def sgSt : FuncId → List Bool := fun f => if f = 4294967297 then [false, true, false, false] else []
theorem sgSt_eq {f : FuncId} : sgSt f = if f = 4294967297 then [false, true, false, false] else [] := _root_.id rfl
theorem way_sgSt : wayE sgSt = false ∧ wayN sgSt = false ∧ wayS sgSt = true ∧ wayZ sgSt = false ∧ wayM sgSt = false := ⟨rfl, rfl, rfl, rfl, rfl⟩
attribute [go_sem] sgSt_eq way_sgSt
set_option maxHeartbeats 1600000 in
theorem impl_split_c {m0 : Bool} (p : List Int) (hp : isPermB p = true) (h0 : 1 ≤ p.length) : Fun Tryz.prog 50 [(.sl (.lent m0) (List.map (PV.int .i64) (p)))] [(.agg [(.sl (.lent false) (List.map (PV.int .i64) ((splL p).1))), (.sl (.lent false) (List.map (elI false) ((splL p).2)))])] := by
 refine Fun.ofR (sg := sgSt) (rs := [.cell 2 50]) mo Tryz.func50 rfl rfl rfl rfl (by kernel_rfl) (by simp only [go_sem]) rfl ?_
 have cE1 := @impl_sumParts_c; have cE2 := @impl_joinParts_c; have cE3 := @impl_skewParts_c; have cE4 := @impl_isInterval_c; have cE5 := @impl_pattern_c; have cD1 := zdh [true, false, false, false, false, false, true, true, false, true] [(0, 1), (0, 2), (0, 3), (0, 4), (0, 5), (0, 6), (1, 6), (2, 6), (3, 6), (0, 7)]
 have cD2 := zdh [true, false, false, false, false, false, true, true, false, true] [(0, 1), (0, 2), (0, 3), (0, 4), (0, 5), (0, 6), (1, 6), (2, 6), (3, 6), (0, 7)]; have cD3 := zdh [false, false, false, false, false, false, true, true, true, false, true] [(0, 6), (1, 6), (0, 7), (1, 7)]
 have hl := (isPerm_facts hp).1
 have hb := perm_b8 hp
 have q1 : (spG shI p p.length).1 = sumPt p := rfl
 have q2 := sumPt_f hp
 have q3 := skewPt_f hp
 obtain ⟨q4, q5, q6⟩ := parts_drop q2.1 q2.2.1 q2.2.2.1 q2.2.2.2
 obtain ⟨q7, q8, q9⟩ := parts_drop q3.1 q3.2.1 q3.2.2.1 q3.2.2.2
 have hbb : ∀ x ∈ p, 0 ≤ x ∧ x ≤ 1048576 := fun x hx => by have := hb x hx; omega
 have qa : List.take ((sumPt p).length - 1) (List.drop 1 (sumPt p)) = List.drop 1 (sumPt p) := by rw [List.take_of_length_le (by simp)]
 have qb : List.take ((skewPt p).length - 1) (List.drop 1 (skewPt p)) = List.drop 1 (skewPt p) := by rw [List.take_of_length_le (by simp)]
 refine dEa (And.intro @q1 (And.intro @qa @qb)) ?_
 all_goals try (refine zlf ?_; repeat' first | exact zso | refine And.intro ?_ ?_ | (refine zim ?_; intro zb hc) | (refine zin ?_; intro zb) | intro j')
 all_goals try refine zbx ?_
 all_goals try (rw [splL, if_pos (by omega)]; rfl)
 all_goals try (rw [splL, if_neg (by omega), if_pos (by omega)]; rfl)
 all_goals try (rw [splL, if_neg (by omega), if_neg (by omega), if_pos (by omega)]; rfl)
 refine v_loopB (fun ms1 S1 => ∃ (j : Nat), S1.e 0 = .p (.sl (.lent m0) (List.map (PV.int .i64) (p))) ∧ PtrL (S1.e 2) S1.h S1.n (.deep false [.v (.sl .own []), .v (.sl .own [])] []) ∧ Dst2 (S1.e 5) S1.h S1.n (List.map (PV.int .i64) ([])) (List.map (elI false) ((cutL p j).2.2)) ∧ OwnL (S1.e 6) S1.h S1.n (PV.int .i64) (((cutL p j).2.1).length) ((cutL p j).2.1) ∧ S1.e 7 = .p (.int .i64 ((cutL p j).1)) ∧ ((cutL p j).1 ≤ p.length) ∧ NId (asR (S1.e 5)) (asR (S1.e 2)) ∧ NId (S1.e 6) (asR (S1.e 2)) ∧ NId (S1.e 6) (asR (S1.e 5)) ∧ ms1 = p.length - (cutL p j).1) ((fun (j : Nat) => p.length - (cutL p j).1) (0)) ?_ ⟨0, dIa trivial ?_⟩
 all_goals try (refine zlf ?_; repeat' first | exact zso | refine And.intro ?_ ?_ | (refine zim ?_; intro zb hc) | (refine zin ?_; intro zb) | intro j')
 all_goals try refine zbx ?_
 rintro ms1 S1 ⟨j, h1_0, o1_2, o1_5, o1_6, h1_7, c1_0, u1_0, u1_1, u1_2, hm1⟩
 obtain ⟨i1_5, ra1_5, rb1_5, rs1_5, h1_5, b1_5, l1_5, w01_5, w11_5, w21_5, w31_5, w41_5, w51_5, w61_5, w71_5, w81_5, w91_5⟩ := o1_5.out
 obtain ⟨i1_2, h1_2, b1_2, l1_2⟩ := o1_2.out
 obtain ⟨i1_6, h1_6, b1_6, l1_6⟩ := o1_6.out
 have k1_0 := (u1_0).out (asR_eq h1_5) (asR_eq h1_2)
 have k1_1 := (u1_1).out h1_6 (asR_eq h1_2)
 have k1_2 := (u1_2).out h1_6 (asR_eq h1_5)
 have ni1_2 := znds (x := i1_2) (n := S1.n)
 have ni1_5 := znds (x := i1_5) (n := S1.n)
 have ni1_6 := znds (x := i1_6) (n := S1.n)
 have di1_2i1_5 := zdne (x := i1_2) (y := i1_5)
 have di1_2i1_6 := zdne (x := i1_2) (y := i1_6)
 have di1_5i1_6 := zdne (x := i1_5) (y := i1_6)
 have fL1 := (And.intro h1_0 (And.intro h1_7 (And.intro h1_2 (And.intro b1_2 (And.intro h1_5 (And.intro b1_5 (And.intro h1_6 (And.intro b1_6 (And.intro w01_5 (And.intro w11_5 (And.intro w21_5 (And.intro w31_5 (And.intro w41_5 (And.intro w51_5 (And.intro w61_5 (And.intro w71_5 (And.intro w81_5 (And.intro w91_5 (And.intro ni1_2 (And.intro ni1_5 (And.intro ni1_6 (And.intro di1_2i1_5 (And.intro di1_2i1_6 di1_5i1_6)))))))))))))))))))))))
 have z1 := cutL_b (p := p) (j := j)
 have z2 : ¬ (cutL p j).1 < p.length → splL p = (patL (cutL p j).2.1, (cutL p j).2.2) := fun h => by
  rw [splL, if_neg (by omega), if_neg (by omega), if_neg (by omega), cutL_fin (j := j) (by omega)]
 refine dEa fL1 ?_
 all_goals try (refine zlf ?_; repeat' first | exact zso | refine And.intro ?_ ?_ | (refine zim ?_; intro zb hc) | (refine zin ?_; intro zb) | intro j')
 all_goals try refine zbx ?_
 ·refine v_loopB (fun ms2 S2 => ∃ (i : Nat), S2.e 0 = .p (.sl (.lent m0) (List.map (PV.int .i64) (p))) ∧ PtrL (S2.e 2) S2.h S2.n (.deep false [.v (.sl .own []), .v (.sl .own [])] []) ∧ Dst2 (S2.e 5) S2.h S2.n (List.map (PV.int .i64) ([])) (List.map (elI false) ((cutL p j).2.2)) ∧ OwnL (S2.e 6) S2.h S2.n (PV.int .i64) (((cutL p j).2.1).length) ((cutL p j).2.1) ∧ S2.e 7 = .p (.int .i64 ((cutL p j).1)) ∧ S2.e 8 = .p (.int .i64 (endK p (cutL p j).1 i)) ∧ S2.e 9 = .p (.int .i64 (i + 1)) ∧ ((cutL p j).1 + 1 ≤ i) ∧ (i ≤ p.length) ∧ ((cutL p j).1 < p.length) ∧ NId (asR (S2.e 5)) (asR (S2.e 2)) ∧ NId (S2.e 6) (asR (S2.e 2)) ∧ NId (S2.e 6) (asR (S2.e 5)) ∧ S1.n ≤ S2.n ∧ ms2 = p.length - i) ((fun (i : Nat) => p.length - i) ((cutL p j).1 + 1)) ?_ ⟨(cutL p j).1 + 1, dIa fL1 ?_⟩
  all_goals try (refine zlf ?_; repeat' first | exact zso | refine And.intro ?_ ?_ | (refine zim ?_; intro zb hc) | (refine zin ?_; intro zb) | intro j')
  all_goals try refine zbx ?_
  rintro ms2 S2 ⟨i, h2_0, o2_2, o2_5, o2_6, h2_7, h2_8, h2_9, c2_0, c2_1, c2_2, u2_0, u2_1, u2_2, u2_3, hm2⟩
  obtain ⟨i2_5, ra2_5, rb2_5, rs2_5, h2_5, b2_5, l2_5, w02_5, w12_5, w22_5, w32_5, w42_5, w52_5, w62_5, w72_5, w82_5, w92_5⟩ := o2_5.out
  obtain ⟨i2_2, h2_2, b2_2, l2_2⟩ := o2_2.out
  obtain ⟨i2_6, h2_6, b2_6, l2_6⟩ := o2_6.out
  have k2_0 := (u2_0).out (asR_eq h2_5) (asR_eq h2_2)
  have k2_1 := (u2_1).out h2_6 (asR_eq h2_2)
  have k2_2 := (u2_2).out h2_6 (asR_eq h2_5)
  have ni2_2 := znds (x := i2_2) (n := S2.n)
  have ni2_5 := znds (x := i2_5) (n := S2.n)
  have ni2_6 := znds (x := i2_6) (n := S2.n)
  have di2_2i2_5 := zdne (x := i2_2) (y := i2_5)
  have di2_2i2_6 := zdne (x := i2_2) (y := i2_6)
  have di2_5i2_6 := zdne (x := i2_5) (y := i2_6)
  have fL2 := (And.intro h2_0 (And.intro h2_7 (And.intro h2_8 (And.intro h2_9 (And.intro h2_2 (And.intro b2_2 (And.intro h2_5 (And.intro b2_5 (And.intro h2_6 (And.intro b2_6 (And.intro w02_5 (And.intro w12_5 (And.intro w22_5 (And.intro w32_5 (And.intro w42_5 (And.intro w52_5 (And.intro w62_5 (And.intro w72_5 (And.intro w82_5 (And.intro w92_5 (And.intro ni2_2 (And.intro ni2_5 (And.intro ni2_6 (And.intro di2_2i2_5 (And.intro di2_2i2_6 di2_5i2_6)))))))))))))))))))))))))
  have z3 := endK_b (p := p) (a := (cutL p j).1) (k := i)
  refine dEa fL2 ?_
  all_goals try (refine zlf ?_; repeat' first | exact zso | refine And.intro ?_ ?_ | (refine zim ?_; intro zb hc) | (refine zin ?_; intro zb) | intro j')
  all_goals try refine zbx ?_
  ·have e2 : endK p (cutL p j).1 (i + 1) = i + 1 := by rw [endK, if_pos ⟨by omega, by omega, by push_cast; exact hc⟩]
   focus
    refine q_lp_n ((fun (i : Nat) => p.length - i) (i+1)) (dC fL2 ?_) ⟨i+1, dC fL2 ?_⟩
    all_goals try (refine zlf ?_; repeat' first | exact zso | refine And.intro ?_ ?_ | (refine zim ?_; intro zb hc) | (refine zin ?_; intro zb) | intro j')
    all_goals try refine zbx ?_
  ·have e2 : endK p (cutL p j).1 (i + 1) = endK p (cutL p j).1 i := by rw [endK, if_neg (fun h => by have := h.2.2; push_cast at this; rw [hc] at this; cases this)]
   focus
    refine q_lp_n ((fun (i : Nat) => p.length - i) (i+1)) (dC fL2 ?_) ⟨i+1, dC fL2 ?_⟩
    all_goals try (refine zlf ?_; repeat' first | exact zso | refine And.intro ?_ ?_ | (refine zim ?_; intro zb hc) | (refine zin ?_; intro zb) | intro j')
    all_goals try refine zbx ?_
  ·have e2 : endK p (cutL p j).1 (i + 1) = endK p (cutL p j).1 i := by rw [endK, if_neg (by omega)]
   focus
    refine q_lp_n ((fun (i : Nat) => p.length - i) (i+1)) (dC fL2 ?_) ⟨i+1, dC fL2 ?_⟩
    all_goals try (refine zlf ?_; repeat' first | exact zso | refine And.intro ?_ ?_ | (refine zim ?_; intro zb hc) | (refine zin ?_; intro zb) | intro j')
    all_goals try refine zbx ?_
  ·obtain rfl : i = p.length := by omega
   have e3 : cutL p (j + 1) = (endK p (cutL p j).1 p.length, (cutL p j).2.1 ++ [p.getD (cutL p j).1 0], (cutL p j).2.2 ++ [patL (segL p (cutL p j).1 (endK p (cutL p j).1 p.length))]) := by rw [cutL, if_pos c2_2]
   have e4 := congrArg Prod.fst e3
   have e5 := congrArg (fun x => x.2.1) e3
   have e6 := congrArg (fun x => x.2.2) e3
   simp only at e4 e5 e6
   focus
    refine q_lp_n ((fun (j : Nat) => p.length - (cutL p j).1) (j+1)) (dC fL2 ?_) ⟨j+1, dC fL2 ?_⟩
    all_goals try (refine zlf ?_; repeat' first | exact zso | refine And.intro ?_ ?_ | (refine zim ?_; intro zb hc) | (refine zin ?_; intro zb) | intro j')
    all_goals try refine zbx ?_
   all_goals (first | (rw [e6]; rfl) | (rw [e5]; done) | (rw [e5]; simp; done) | (rw [e4]; done) | (rw [e4]; omega))
  ·rw [endK_low (by omega)]; omega
 ·rw [z2 (by omega)]
 ·rw [z2 (by omega)]
 ·simp [cutL]
set_option maxHeartbeats 1000000 in
set_option maxHeartbeats 1600000 in
theorem spec_l6Split_c {m0 : Bool} (p : List Int) (hp : isPermB p = true) (h0 : 1 ≤ p.length) : Fun Tryz.prog 79 [(.sl (.lent m0) (List.map (PV.int .i64) (p)))] [(.agg [(.sl (.lent false) (List.map (PV.int .i64) ((splL p).1))), (.sl (.lent false) (List.map (elI false) ((splL p).2)))])] := by
 refine Fun.ofR (sg := sgSt) (rs := [.cell 2 50]) mo Tryz.func79 rfl rfl rfl rfl (by kernel_rfl) (by simp only [go_sem]) rfl ?_
 have cE1 := @spec_SumParts_c; have cE2 := @spec_l6Sum_c; have cE3 := @spec_SkewParts_c; have cE4 := @spec_l5Run_c; have cE5 := @spec_l2Pattern_c; have cD1 := zdh [false, false, false, false, false, false, false, true, true, true, false, true] [(0, 7), (1, 7), (0, 8), (1, 8)]
 have hl := (isPerm_facts hp).1
 have hb := perm_b8 hp
 have q1 : (spG ptI p p.length).1 = sumPt p := sumPt_pt (isPerm_facts hp).2
 have q2 := sumPt_f hp
 have q3 := skewPt_f hp
 have hbb : ∀ x ∈ p, 0 ≤ x ∧ x ≤ 1048576 := fun x hx => by have := hb x hx; omega
 obtain ⟨f1, f2, f3, _⟩ := q2
 obtain ⟨g1, g2, g3, _⟩ := q3
 refine dEa (And.intro @q1 @hp) ?_
 all_goals try (refine zlf ?_; repeat' first | exact zso | refine And.intro ?_ ?_ | (refine zim ?_; intro zb hc) | (refine zin ?_; intro zb) | intro j')
 all_goals try refine zbx ?_
 all_goals try (rw [splL, if_pos (by omega)]; rfl)
 all_goals try (rw [splL, if_neg (by omega), if_pos (by omega)]; rfl)
 all_goals try (rw [splL, if_neg (by omega), if_neg (by omega), if_pos (by omega)]; rfl)
 refine v_loopB (fun ms1 S1 => ∃ (j : Nat), S1.e 0 = .p (.sl (.lent m0) (List.map (PV.int .i64) (p))) ∧ PtrL (S1.e 2) S1.h S1.n (.deep false [.v (.sl .own []), .v (.sl .own [])] []) ∧ Dst2 (S1.e 5) S1.h S1.n (List.map (PV.int .i64) ([])) (List.map (elI false) ((cutL p j).2.2)) ∧ OwnL (S1.e 6) S1.h S1.n (PV.int .i64) (((cutL p j).2.1).length) ((cutL p j).2.1) ∧ S1.e 7 = .p (.int .i64 ((cutL p j).1)) ∧ ((cutL p j).1 ≤ p.length) ∧ NId (asR (S1.e 5)) (asR (S1.e 2)) ∧ NId (S1.e 6) (asR (S1.e 2)) ∧ NId (S1.e 6) (asR (S1.e 5)) ∧ ms1 = p.length - (cutL p j).1) ((fun (j : Nat) => p.length - (cutL p j).1) (0)) ?_ ⟨0, dIa trivial ?_⟩
 all_goals try (refine zlf ?_; repeat' first | exact zso | refine And.intro ?_ ?_ | (refine zim ?_; intro zb hc) | (refine zin ?_; intro zb) | intro j')
 all_goals try refine zbx ?_
 rintro ms1 S1 ⟨j, h1_0, o1_2, o1_5, o1_6, h1_7, c1_0, u1_0, u1_1, u1_2, hm1⟩
 obtain ⟨i1_5, ra1_5, rb1_5, rs1_5, h1_5, b1_5, l1_5, w01_5, w11_5, w21_5, w31_5, w41_5, w51_5, w61_5, w71_5, w81_5, w91_5⟩ := o1_5.out
 obtain ⟨i1_2, h1_2, b1_2, l1_2⟩ := o1_2.out
 obtain ⟨i1_6, h1_6, b1_6, l1_6⟩ := o1_6.out
 have k1_0 := (u1_0).out (asR_eq h1_5) (asR_eq h1_2)
 have k1_1 := (u1_1).out h1_6 (asR_eq h1_2)
 have k1_2 := (u1_2).out h1_6 (asR_eq h1_5)
 have ni1_2 := znds (x := i1_2) (n := S1.n)
 have ni1_5 := znds (x := i1_5) (n := S1.n)
 have ni1_6 := znds (x := i1_6) (n := S1.n)
 have di1_2i1_5 := zdne (x := i1_2) (y := i1_5)
 have di1_2i1_6 := zdne (x := i1_2) (y := i1_6)
 have di1_5i1_6 := zdne (x := i1_5) (y := i1_6)
 have fL1 := (And.intro h1_0 (And.intro h1_7 (And.intro h1_2 (And.intro b1_2 (And.intro h1_5 (And.intro b1_5 (And.intro h1_6 (And.intro b1_6 (And.intro w01_5 (And.intro w11_5 (And.intro w21_5 (And.intro w31_5 (And.intro w41_5 (And.intro w51_5 (And.intro w61_5 (And.intro w71_5 (And.intro w81_5 (And.intro w91_5 (And.intro ni1_2 (And.intro ni1_5 (And.intro ni1_6 (And.intro di1_2i1_5 (And.intro di1_2i1_6 di1_5i1_6)))))))))))))))))))))))
 have z1 := cutL_b (p := p) (j := j)
 have z2 : ¬ (cutL p j).1 < p.length → splL p = (patL (cutL p j).2.1, (cutL p j).2.2) := fun h => by
  rw [splL, if_neg (by omega), if_neg (by omega), if_neg (by omega), cutL_fin (j := j) (by omega)]
 refine dEa fL1 ?_
 all_goals try (refine zlf ?_; repeat' first | exact zso | refine And.intro ?_ ?_ | (refine zim ?_; intro zb hc) | (refine zin ?_; intro zb) | intro j')
 all_goals try refine zbx ?_
 ·refine v_loopB (fun ms2 S2 => ∃ (i : Nat), S2.e 0 = .p (.sl (.lent m0) (List.map (PV.int .i64) (p))) ∧ PtrL (S2.e 2) S2.h S2.n (.deep false [.v (.sl .own []), .v (.sl .own [])] []) ∧ Dst2 (S2.e 5) S2.h S2.n (List.map (PV.int .i64) ([])) (List.map (elI false) ((cutL p j).2.2)) ∧ OwnL (S2.e 6) S2.h S2.n (PV.int .i64) (((cutL p j).2.1).length) ((cutL p j).2.1) ∧ S2.e 7 = .p (.int .i64 ((cutL p j).1)) ∧ S2.e 8 = .p (.int .i64 (i - 1)) ∧ ((cutL p j).1 + 1 ≤ i) ∧ (i ≤ p.length) ∧ ((cutL p j).1 < p.length) ∧ (endK p (cutL p j).1 p.length = endK p (cutL p j).1 i) ∧ NId (asR (S2.e 5)) (asR (S2.e 2)) ∧ NId (S2.e 6) (asR (S2.e 2)) ∧ NId (S2.e 6) (asR (S2.e 5)) ∧ S1.n ≤ S2.n ∧ ms2 = i) ((fun (i : Nat) => i) (p.length)) ?_ ⟨p.length, dIa fL1 ?_⟩
  all_goals try (refine zlf ?_; repeat' first | exact zso | refine And.intro ?_ ?_ | (refine zim ?_; intro zb hc) | (refine zin ?_; intro zb) | intro j')
  all_goals try refine zbx ?_
  rintro ms2 S2 ⟨i, h2_0, o2_2, o2_5, o2_6, h2_7, h2_8, c2_0, c2_1, c2_2, c2_3, u2_0, u2_1, u2_2, u2_3, hm2⟩
  obtain ⟨i2_5, ra2_5, rb2_5, rs2_5, h2_5, b2_5, l2_5, w02_5, w12_5, w22_5, w32_5, w42_5, w52_5, w62_5, w72_5, w82_5, w92_5⟩ := o2_5.out
  obtain ⟨i2_2, h2_2, b2_2, l2_2⟩ := o2_2.out
  obtain ⟨i2_6, h2_6, b2_6, l2_6⟩ := o2_6.out
  have k2_0 := (u2_0).out (asR_eq h2_5) (asR_eq h2_2)
  have k2_1 := (u2_1).out h2_6 (asR_eq h2_2)
  have k2_2 := (u2_2).out h2_6 (asR_eq h2_5)
  have ni2_2 := znds (x := i2_2) (n := S2.n)
  have ni2_5 := znds (x := i2_5) (n := S2.n)
  have ni2_6 := znds (x := i2_6) (n := S2.n)
  have di2_2i2_5 := zdne (x := i2_2) (y := i2_5)
  have di2_2i2_6 := zdne (x := i2_2) (y := i2_6)
  have di2_5i2_6 := zdne (x := i2_5) (y := i2_6)
  have fL2 := (And.intro h2_0 (And.intro h2_7 (And.intro h2_8 (And.intro h2_2 (And.intro b2_2 (And.intro h2_5 (And.intro b2_5 (And.intro h2_6 (And.intro b2_6 (And.intro w02_5 (And.intro w12_5 (And.intro w22_5 (And.intro w32_5 (And.intro w42_5 (And.intro w52_5 (And.intro w62_5 (And.intro w72_5 (And.intro w82_5 (And.intro w92_5 (And.intro ni2_2 (And.intro ni2_5 (And.intro ni2_6 (And.intro di2_2i2_5 (And.intro di2_2i2_6 di2_5i2_6))))))))))))))))))))))))
  have z3 := endK_b (p := p) (a := (cutL p j).1) (k := i)
  refine dEa fL2 ?_
  all_goals try (refine zlf ?_; repeat' first | exact zso | refine And.intro ?_ ?_ | (refine zim ?_; intro zb hc) | (refine zin ?_; intro zb) | intro j')
  all_goals try refine zbx ?_
  ·have e1 : i ≠ (cutL p j).1 + 1 := fun e => by
    have := isInt_one c2_2
    rw [show (((cutL p j).1 + 1 : Nat) : Int) = (i : Int) - 1 + 1 by omega, hc] at this; cases this
   have e2 : endK p (cutL p j).1 i = endK p (cutL p j).1 (i - 1) := by
    obtain ⟨i', rfl⟩ : ∃ i', i = i' + 1 := ⟨i - 1, by omega⟩
    rw [endK, if_neg fun h => ?_]; · rfl
    have := h.2.2
    rw [show ((i' + 1 : Nat) : Int) = ((i' + 1 : Nat) : Int) - 1 + 1 by omega, hc] at this; cases this
   focus
    refine q_lp_n ((fun (i : Nat) => i) (i-1)) (dC fL2 ?_) ⟨i-1, dC fL2 ?_⟩
    all_goals try (refine zlf ?_; repeat' first | exact zso | refine And.intro ?_ ?_ | (refine zim ?_; intro zb hc) | (refine zin ?_; intro zb) | intro j')
    all_goals try refine zbx ?_
  ·have e2 : endK p (cutL p j).1 p.length = i := by
    rw [c2_3]
    by_cases h2 : i = (cutL p j).1 + 1
    ·rw [endK_low (by omega)]; omega
    ·obtain ⟨i', rfl⟩ : ∃ i', i = i' + 1 := ⟨i - 1, by omega⟩
     rw [endK, if_pos ⟨by omega, by omega, by rw [← hc]; congr 1; omega⟩]
   have e3 : cutL p (j + 1) = (i, (cutL p j).2.1 ++ [p.getD (cutL p j).1 0], (cutL p j).2.2 ++ [patL (segL p (cutL p j).1 i)]) := by rw [cutL, if_pos c2_2, e2]
   have e4 := congrArg Prod.fst e3
   have e5 := congrArg (fun x => x.2.1) e3
   have e6 := congrArg (fun x => x.2.2) e3
   simp only at e4 e5 e6
   have e7 : ((i : Int) - 1 + 1).toNat = i := by omega
   focus
    refine q_lp_n ((fun (j : Nat) => p.length - (cutL p j).1) (j+1)) (dC fL2 ?_) ⟨j+1, dC fL2 ?_⟩
    all_goals try (refine zlf ?_; repeat' first | exact zso | refine And.intro ?_ ?_ | (refine zim ?_; intro zb hc) | (refine zin ?_; intro zb) | intro j')
    all_goals try refine zbx ?_
   all_goals (first | (rw [e5]; done) | (rw [e5]; simp only [List.length_append]; done) | (rw [e4]; omega) | (rw [e7, e6]; rfl) | (rw [e5]; simp; done))
  ·have e2 : endK p (cutL p j).1 i = endK p (cutL p j).1 (i - 1) := by
    obtain ⟨i', rfl⟩ : ∃ i', i = i' + 1 := ⟨i - 1, by omega⟩
    rw [endK, if_neg (by omega)]; rfl
   focus
    refine q_lp_n ((fun (i : Nat) => i) (i-1)) (dC fL2 ?_) ⟨i-1, dC fL2 ?_⟩
    all_goals try (refine zlf ?_; repeat' first | exact zso | refine And.intro ?_ ?_ | (refine zim ?_; intro zb hc) | (refine zin ?_; intro zb) | intro j')
    all_goals try refine zbx ?_
 ·rw [z2 (by omega)]
 ·rw [z2 (by omega)]
 ·simp [cutL]
def cntL (P : List Int → Bool) (L : List (List Int)) : Nat := (L.filter P).length
theorem cntL_succ {P : List Int → Bool} {L : List (List Int)} {k : Nat} (h : k < L.length) : cntL P (L.take (k + 1)) = cntL P (L.take k) + if P (L.getD k []) = true then 1 else 0 := by
 rw [cntL, take_getD (d := []) h, List.filter_append, List.length_append, cntL, List.filter_cons]
 split <;> simp
theorem cntL_le {P : List Int → Bool} {L : List (List Int)} {k : Nat} (h : k ≤ L.length) : cntL P (L.take k) ≤ k := by
 have := List.length_filter_le P (L.take k)
 simp at this; unfold cntL; omega
theorem impl_counted_c (n : Nat) (g : FuncId) (caps : List PV) (P : List Int → Bool) (hn : n ≤ 8) (hp : ∀ x ∈ permL n, Fun Tryz.prog g (.sl (.lent false) (List.map (PV.int .i64) x) :: caps.map PV.cell) [.bool (P x)]) : Fun Tryz.prog 48 [(.int .i64 (n)), (.fn g [] caps)] [(.int .i64 ((cntL P (permL n))))] := by
 refine fO sg0 [4] Tryz.func48 ?_
 have cE1 := @impl_perms_c; have cE2 := @impl_perms_f_c
 have b1 := permL_len hn
 have cE1 := @impl_perms_f_c; have cE2 := trivial
 refine dEa trivial ?_
 all_goals try (refine zlf ?_; repeat' first | exact zso | refine And.intro ?_ ?_ | (refine zim ?_; intro zb hc) | (refine zin ?_; intro zb) | intro j')
 all_goals try refine zbx ?_
 refine v_loopB (fun ms1 S1 => ∃ (k : Nat), S1.e 1 = .p (.fn g [] caps) ∧ OwnL (S1.e 9) S1.h S1.n (elI false) ((permL n).length) (permL n) ∧ S1.e 10 = .p (.int .i64 ((permL n).length)) ∧ S1.e 5 = .p (.int .i64 ((cntL P ((permL n).take k)))) ∧ S1.e 11 = .p (.int .i64 (k)) ∧ (k ≤ (permL n).length) ∧ ms1 = (permL n).length - k) ((fun (k : Nat) => (permL n).length - k) (0)) ?_ ⟨0, dC trivial ?_⟩
 all_goals try (refine zlf ?_; repeat' first | exact zso | refine And.intro ?_ ?_ | (refine zim ?_; intro zb hc) | (refine zin ?_; intro zb) | intro j')
 all_goals try refine zbx ?_
 rintro ms1 S1 ⟨k, h1_1, o1_9, h1_10, h1_5, h1_11, c1_0, hm1⟩
 obtain ⟨i1_9, h1_9, b1_9, l1_9⟩ := o1_9.out
 have ni1_9 := znds (x := i1_9) (n := S1.n)
 have fL1 := (And.intro h1_1 (And.intro h1_10 (And.intro h1_5 (And.intro h1_11 (And.intro h1_9 (And.intro b1_9 ni1_9))))))
 have b2 := cntL_le (P := P) c1_0
 have b3 : k < (permL n).length → Fun Tryz.prog g (.sl (.lent false) (List.map (PV.int .i64) ((permL n).getD k [])) :: caps.map PV.cell) [.bool (P ((permL n).getD k []))] := fun h => hp _ (getD_mem h)
 by_cases hk : k < (permL n).length
 ·have cE1 := b3 hk; have cE2 := @impl_perms_c; have cE3 := @impl_perms_f_c
  refine dEa fL1 ?_
  all_goals try (refine zlf ?_; repeat' first | exact zso | refine And.intro ?_ ?_ | (refine zim ?_; intro zb hc) | (refine zin ?_; intro zb) | intro j')
  all_goals try refine zbx ?_
  ·focus
    refine q_lp_n ((fun (k : Nat) => (permL n).length - k) (k+1)) (dC fL1 ?_) ⟨k+1, dC fL1 ?_⟩
    all_goals try (refine zlf ?_; repeat' first | exact zso | refine And.intro ?_ ?_ | (refine zim ?_; intro zb hc) | (refine zin ?_; intro zb) | intro j')
    all_goals try refine zbx ?_
   rw [cntL_succ hk, if_pos hc]; rfl
  ·focus
    refine q_lp_n ((fun (k : Nat) => (permL n).length - k) (k+1)) (dC fL1 ?_) ⟨k+1, dC fL1 ?_⟩
    all_goals try (refine zlf ?_; repeat' first | exact zso | refine And.intro ?_ ?_ | (refine zim ?_; intro zb hc) | (refine zin ?_; intro zb) | intro j')
    all_goals try refine zbx ?_
   rw [cntL_succ hk, if_neg (by rw [hc]; decide)]; rfl
 ·have cE1 := @impl_perms_c; have cE2 := @impl_perms_f_c; have cE3 := trivial
  refine dEa fL1 ?_
  all_goals try (refine zlf ?_; repeat' first | exact zso | refine And.intro ?_ ?_ | (refine zim ?_; intro zb hc) | (refine zin ?_; intro zb) | intro j')
  all_goals try refine zbx ?_
  rw [List.take_of_length_le (by omega)]
def splP (p : List Int) : (List Int × List (List Int)) × Bool := if isPermB p && decide (p.length ≠ 0) then (splL p, true) else (([], []), false)
theorem splP_1 {p : List Int} (h : isPermB p = true) (h0 : p.length ≠ 0) : splP p = (splL p, true) := by simp [splP, h, h0]
theorem splP_0 {p : List Int} (h : isPermB p = false) : splP p = (([], []), false) := by simp [splP, h]
theorem splP_n {p : List Int} (h : p.length = 0) : splP p = (([], []), false) := by simp [splP, h]
theorem spec_SplitPerm_c {m0 : Bool} (p : List Int) (hl : p.length ≤ 1048576) : Fun Tryz.prog 51 [(.sl (.lent m0) (List.map (PV.int .i64) (p)))] [(.agg [(.sl (.lent false) (List.map (PV.int .i64) ((splP p).1.1))), (.sl (.lent false) (List.map (elI false) ((splP p).1.2)))]), (.bool ((splP p).2))] := by
 refine Fun.ofR (sg := sg0) (rs := [.cell 2 50, .tmp 3]) mo Tryz.func51 rfl rfl rfl rfl (by kernel_rfl) (by simp only [go_sem]) rfl ?_
 have cE1 := @spec_IsPerm_c; have cE2 := @spec_l6Split_c
 refine dEa trivial ?_
 all_goals try (refine zlf ?_; repeat' first | exact zso | refine And.intro ?_ ?_ | (refine zim ?_; intro zb hc; repeat (have zc := zb.1; replace zb := zb.2)) | (refine zin ?_; intro zb) | intro j')
 all_goals try refine zbx ?_
 all_goals (first | assumption | (rw [splP_0 hc] <;> rfl) | (rw [splP_n (by omega)] <;> rfl) | (rw [splP_1 (by assumption) (by omega)]))
def infB (p : List Int) : Bool := decide (0 < p.length) && decide (4 ≤ (splL p).1.length)
theorem splP_inf {p : List Int} (h : isPermB p = true) : ((splP p).2 && decide (4 ≤ ((splP p).1.1.length : Int))) = infB p := by
 by_cases h0 : p.length = 0
 ·simp [splP, infB, h0]
 ·rw [splP_1 h h0, infB, decide_eq_true (show 0 < p.length by omega)]
  congr 1; exact decide_eq_decide.2 (by simp only []; omega)
theorem impl_CountInflations_1_c {m0 : Bool} (p : List Int) (hp : isPermB p = true) : Fun Tryz.prog 49 [(.sl (.lent m0) (List.map (PV.int .i64) (p)))] [(.bool (infB p))] := by
 refine fO sg0 [2] Tryz.func49 ?_
 have cE1 := @impl_split_c
 have hl := (isPerm_facts hp).1
 refine dEa trivial ?_
 all_goals try (refine zlf ?_; repeat' first | exact zso | refine And.intro ?_ ?_ | (refine zim ?_; intro zb hc; repeat (have zc := zb.1; replace zb := zb.2)) | (refine zin ?_; intro zb) | intro j')
 all_goals try refine zbx ?_
 all_goals (simp only [infB]; first | rfl | (simp_all <;> omega))
def cntInf (n : Int) : Int := if 0 ≤ n ∧ n ≤ 6 then cntL infB (permL n.toNat) else -1
theorem impl_CountInflations_c (n : Int) : Fun Tryz.prog 23 [(.int .i64 (n))] [(.int .i64 (cntInf n))] := by
 by_cases hn : 0 ≤ n ∧ n ≤ 6
 ·obtain ⟨k, rfl⟩ : ∃ k : Nat, n = k := ⟨n.toNat, by omega⟩
  have c := impl_counted_c k 49 [] infB (by omega) (fun x hx => impl_CountInflations_1_c (m0 := false) x (permL_isPerm (by omega) hx))
  have e : cntInf k = cntL infB (permL k) := by rw [cntInf, if_pos (by omega)]; rfl
  have h1 : (0 : Int) ≤ k := by omega
  have h2 : (k : Int) ≤ 6 := by omega
  rw [e]
  refine fO sg0 [2] Tryz.func23 ?_
  have cE1 := @impl_isSix_c; have cE2 := @impl_counted_c; have cE3 := @impl_CountInflations_1_c
  have cE1 := @c; have cE2 := @impl_isSix_c; have cE3 := @impl_counted_c; have cE4 := @impl_CountInflations_1_c
  refine dEa (And.intro @h1 @h2) ?_
  all_goals try (refine zlf ?_; repeat' first | exact zso | refine And.intro ?_ ?_ | (refine zim ?_; intro zb hc) | (refine zin ?_; intro zb) | intro j')
  all_goals try refine zbx ?_
 ·have e : cntInf n = -1 := by rw [cntInf, if_neg hn]
  rw [e]
  refine fO sg0 [2] Tryz.func23 ?_
  have cE1 := @impl_isSix_c; have cE2 := @impl_counted_c; have cE3 := @impl_CountInflations_1_c
  refine dEa trivial ?_
  all_goals try (refine zlf ?_; repeat' first | exact zso | refine And.intro ?_ ?_ | (refine zim ?_; intro zb hc) | (refine zin ?_; intro zb) | intro j')
  all_goals try refine zbx ?_
theorem permsB_len {n : Int} : (permsB n).length ≤ 8 ^ 8 := by
 unfold permsB; split
 ·exact permL_len (by omega)
 ·simp
theorem spec_CountInflations_c (n : Int) : Fun Tryz.prog 24 [(.int .i64 (n))] [(.int .i64 (cntInf n))] := by
 have b1 := permsB_len (n := n)
 by_cases hn : 0 ≤ n ∧ n ≤ 6
 ·have e : cntInf n = cntL infB (permsB n) := by rw [cntInf, if_pos hn, permsB, if_pos hn]
  have b2 : ∀ p ∈ permsB n, isPermB p = true := fun p hp => by rw [permsB, if_pos hn] at hp; exact permL_isPerm (by omega) hp
  rw [e]
  refine fO sg0 [2] Tryz.func24 ?_
  have cE1 := @spec_l1In_c; have cE2 := @spec_PermsOf_c; have cE3 := @spec_l1Bit_c; have cE4 := @spec_SplitPerm_c
  refine dEa trivial ?_
  all_goals try (refine zlf ?_; repeat' first | exact zso | refine And.intro ?_ ?_ | (refine zim ?_; intro zb hc) | (refine zin ?_; intro zb) | intro j')
  all_goals try refine zbx ?_
  refine v_loopB (fun ms1 S1 => ∃ (k : Nat), OwnL (S1.e 4) S1.h S1.n (elI false) ((permsB n).length) (permsB n) ∧ S1.e 5 = .p (.int .i64 (k)) ∧ S1.e 3 = .p (.int .i64 ((cntL infB ((permsB n).take k)))) ∧ (k ≤ (permsB n).length) ∧ ms1 = (permsB n).length - k) ((fun (k : Nat) => (permsB n).length - k) (0)) ?_ ⟨0, dC trivial ?_⟩
  all_goals try (refine zlf ?_; repeat' first | exact zso | refine And.intro ?_ ?_ | (refine zim ?_; intro zb hc) | (refine zin ?_; intro zb) | intro j')
  all_goals try refine zbx ?_
  rintro ms1 S1 ⟨k, o1_4, h1_5, h1_3, c1_0, hm1⟩
  obtain ⟨i1_4, h1_4, b1_4, l1_4⟩ := o1_4.out
  have ni1_4 := znds (x := i1_4) (n := S1.n)
  have fL1 := (And.intro h1_5 (And.intro h1_3 (And.intro h1_4 (And.intro b1_4 ni1_4))))
  have b3 := cntL_le (P := infB) c1_0
  have b4 : k < (permsB n).length → isPermB ((permsB n).getD k []) = true := fun h => b2 _ (getD_mem h)
  by_cases hk : k < (permsB n).length
  ·have b5 := b4 hk
   have b6 := (isPerm_facts b5).1
   have b7 := splP_inf b5
   have b8 : bitI (infB ((permsB n).getD k [])) ≤ 1 ∧ 0 ≤ bitI (infB ((permsB n).getD k [])) := by unfold bitI; split <;> omega
   cases hs : (splP ((permsB n).getD k [])).2 with
   | true =>
    have b9 : decide (4 ≤ ((splP ((permsB n).getD k [])).1.1.length : Int)) = infB ((permsB n).getD k []) := by rw [← b7, hs, Bool.true_and]
    refine dEa (And.intro fL1 (And.intro @hs @b9)) ?_
    all_goals try (refine zlf ?_; repeat' first | exact zso | refine And.intro ?_ ?_ | (refine zim ?_; intro zb hc) | (refine zin ?_; intro zb) | intro j')
    all_goals try refine zbx ?_
    focus
     refine q_lp_n ((fun (k : Nat) => (permsB n).length - k) (k+1)) (dC fL1 ?_) ⟨k+1, dC fL1 ?_⟩
     all_goals try (refine zlf ?_; repeat' first | exact zso | refine And.intro ?_ ?_ | (refine zim ?_; intro zb hc) | (refine zin ?_; intro zb) | intro j')
     all_goals try refine zbx ?_
    rw [cntL_succ hk]; unfold bitI; split <;> rfl
   | false =>
    have b9 : infB ((permsB n).getD k []) = false := by rw [← b7, hs, Bool.false_and]
    have b10 : bitI false = 0 := rfl
    refine dEa (And.intro fL1 (And.intro @hs @b10)) ?_
    all_goals try (refine zlf ?_; repeat' first | exact zso | refine And.intro ?_ ?_ | (refine zim ?_; intro zb hc) | (refine zin ?_; intro zb) | intro j')
    all_goals try refine zbx ?_
    focus
     refine q_lp_n ((fun (k : Nat) => (permsB n).length - k) (k+1)) (dC fL1 ?_) ⟨k+1, dC fL1 ?_⟩
     all_goals try (refine zlf ?_; repeat' first | exact zso | refine And.intro ?_ ?_ | (refine zim ?_; intro zb hc) | (refine zin ?_; intro zb) | intro j')
     all_goals try refine zbx ?_
    rw [cntL_succ hk, b9]; rfl
  ·refine dEa fL1 ?_
   all_goals try (refine zlf ?_; repeat' first | exact zso | refine And.intro ?_ ?_ | (refine zim ?_; intro zb hc) | (refine zin ?_; intro zb) | intro j')
   all_goals try refine zbx ?_
   rw [List.take_of_length_le (by omega)]
 ·have e : cntInf n = -1 := by rw [cntInf, if_neg hn]
  rw [e]
  refine fO sg0 [2] Tryz.func24 ?_
  have cE1 := @spec_l1In_c; have cE2 := @spec_PermsOf_c; have cE3 := @spec_l1Bit_c; have cE4 := @spec_SplitPerm_c
  refine dEa trivial ?_
  all_goals try (refine zlf ?_; repeat' first | exact zso | refine And.intro ?_ ?_ | (refine zim ?_; intro zb hc) | (refine zin ?_; intro zb) | intro j')
  all_goals try refine zbx ?_
theorem laws_big_c {m0 : Bool} (b : List UInt8) : Fun Tryz.prog 4 [(.sl (.lent m0) (List.map u8P (b)))] [(.bool (decide ((1048576 : Int) < b.length)))] := by
 refine fO sg0 [2] Tryz.func4 ?_
 refine dEa trivial ?_
 all_goals try (refine zlf ?_; repeat' first | exact zso | refine And.intro ?_ ?_ | (refine zim ?_; intro zb hc) | (refine zin ?_; intro zb) | intro j')
 all_goals try refine zbx ?_
theorem laws_sameInts_c {m0 m1 : Bool} (a b : List Int) (ha : a.length ≤ 1099511627776) (hb : b.length ≤ 1099511627776) : Fun Tryz.prog 20 [(.sl (.lent m0) (List.map (PV.int .i64) (a))), (.sl (.lent m1) (List.map (PV.int .i64) (b)))] [(.bool (decide (a = b)))] := by
 refine fO sg0 [4] Tryz.func20 ?_
 refine dE trivial ?_
 all_goals try (refine zlf ?_; repeat' first | exact zso | refine And.intro ?_ ?_ | (refine zim ?_; intro zb hc) | (refine zin ?_; intro zb) | intro j')
 all_goals try refine zbx ?_
 ·rw [decide_eq_false]; intro e; subst e; exact hc rfl
 refine v_loopB (fun ms1 S1 => ∃ (k : Nat), S1.e 0 = .p (.sl (.lent m0) (List.map (PV.int .i64) (a))) ∧ S1.e 1 = .p (.sl (.lent m1) (List.map (PV.int .i64) (b))) ∧ S1.e 5 = .p (.int .i64 (k)) ∧ (k ≤ a.length) ∧ (a.take k = b.take k) ∧ ms1 = a.length - k) ((fun (k : Nat) => a.length - k) (0)) ?_ ⟨0, dIa trivial ?_⟩
 all_goals try (refine zlf ?_; repeat' first | exact zso | refine And.intro ?_ ?_ | (refine zim ?_; intro zb hc) | (refine zin ?_; intro zb) | intro j')
 all_goals try refine zbx ?_
 rintro ms1 S1 ⟨k, h1_0, h1_1, h1_5, c1_0, c1_1, hm1⟩
 have fL1 := (And.intro h1_0 (And.intro h1_1 h1_5))
 refine dEa fL1 ?_
 all_goals try (refine zlf ?_; repeat' first | exact zso | refine And.intro ?_ ?_ | (refine zim ?_; intro zb hc) | (refine zin ?_; intro zb) | intro j')
 all_goals try refine zbx ?_
 ·rw [decide_eq_false]; intro e; subst e; exact hc rfl
 ·focus
   refine q_lp_n ((fun (k : Nat) => a.length - k) (k+1)) (dC fL1 ?_) ⟨k+1, dC fL1 ?_⟩
   all_goals try (refine zlf ?_; repeat' first | exact zso | refine And.intro ?_ ?_ | (refine zim ?_; intro zb hc) | (refine zin ?_; intro zb) | intro j')
   all_goals try refine zbx ?_
  rw [take_succ_iff (by omega) (by omega)]; exact ⟨c1_1, hc⟩
 ·rw [decide_eq_true]
  rw [List.take_of_length_le (by omega), List.take_of_length_le (by omega)] at c1_1; exact c1_1
theorem dsL {a : List (List Int)} : decide (a = a) = true := by simp
theorem dsI {a : List Int} : decide (a = a) = true := by simp
theorem isI {a : Int} : decide (a = a) = true := by simp
theorem bsB {a : Bool} : (a == a) = true := by simp
theorem laws_sameLists_c {e0 m0 e1 m1 : Bool} (a b : List (List Int)) (ha : a.length ≤ 1099511627776) (hb : b.length ≤ 1099511627776) (hla : ∀ l ∈ a, l.length ≤ 1099511627776) (hlb : ∀ l ∈ b, l.length ≤ 1099511627776) : Fun Tryz.prog 14 [(.sl (.lent m0) (List.map (elI e0) (a))), (.sl (.lent m1) (List.map (elI e1) (b)))] [(.bool (decide (a = b)))] := by
 refine fO sg0 [4] Tryz.func14 ?_
 have cE1 := @laws_sameInts_c; have cD1 := zdh [false, false, false, false, false, false, false, false, true, false] []
 refine dE trivial ?_
 all_goals try (refine zlf ?_; repeat' first | exact zso | refine And.intro ?_ ?_ | (refine zim ?_; intro zb hc) | (refine zin ?_; intro zb) | intro j')
 all_goals try refine zbx ?_
 ·rw [decide_eq_false]; intro e; subst e; exact hc rfl
 refine v_loopB (fun ms1 S1 => ∃ (k : Nat), S1.e 0 = .p (.sl (.lent m0) (List.map (elI e0) (a))) ∧ S1.e 1 = .p (.sl (.lent m1) (List.map (elI e1) (b))) ∧ S1.e 5 = .p (.int .i64 (k)) ∧ (k ≤ a.length) ∧ (a.take k = b.take k) ∧ ms1 = a.length - k) ((fun (k : Nat) => a.length - k) (0)) ?_ ⟨0, dI trivial ?_⟩
 all_goals try (refine zlf ?_; repeat' first | exact zso | refine And.intro ?_ ?_ | (refine zim ?_; intro zb hc) | (refine zin ?_; intro zb) | intro j')
 all_goals try refine zbx ?_
 rintro ms1 S1 ⟨k, h1_0, h1_1, h1_5, c1_0, c1_1, hm1⟩
 have fL1 := (And.intro h1_0 (And.intro h1_1 h1_5))
 refine dE fL1 ?_
 all_goals try (refine zlf ?_; repeat' first | exact zso | refine And.intro ?_ ?_ | (refine zim ?_; intro zb hc) | (refine zin ?_; intro zb) | intro j')
 all_goals try refine zbx ?_
 all_goals try have hm := hla (a.getD k []) (getD_mem (by omega))
 all_goals try have hn := hlb (b.getD k []) (getD_mem (by omega))
 all_goals try exact zaut
 ·rw [decide_eq_false]; intro e; subst e; exact hc rfl
 ·focus
   refine q_lp_n ((fun (k : Nat) => a.length - k) (k+1)) (dC fL1 ?_) ⟨k+1, dC fL1 ?_⟩
   all_goals try (refine zlf ?_; repeat' first | exact zso | refine And.intro ?_ ?_ | (refine zim ?_; intro zb hc) | (refine zin ?_; intro zb) | intro j')
   all_goals try refine zbx ?_
  rw [takeL_succ_iff (by omega) (by omega)]; exact ⟨c1_1, hc⟩
 ·rw [decide_eq_true]
  rw [List.take_of_length_le (by omega), List.take_of_length_le (by omega)] at c1_1; exact c1_1
theorem laws_hasList_c {e0 m0 m1 : Bool} (L : List (List Int)) (x : List Int) (hL : L.length ≤ 1099511627776) (hl : ∀ l ∈ L, l.length ≤ 1099511627776) (hx : x.length ≤ 1099511627776) : Fun Tryz.prog 25 [(.sl (.lent m0) (List.map (elI e0) (L))), (.sl (.lent m1) (List.map (PV.int .i64) (x)))] [(.bool (L.contains x))] := by
 refine fO sg0 [4] Tryz.func25 ?_
 have cE1 := @laws_sameInts_c
 refine dEa trivial ?_
 all_goals try (refine zlf ?_; repeat' first | exact zso | refine And.intro ?_ ?_ | (refine zim ?_; intro zb hc) | (refine zin ?_; intro zb) | intro j')
 all_goals try refine zbx ?_
 refine v_loopB (fun ms1 S1 => ∃ (k : Nat), S1.e 0 = .p (.sl (.lent m0) (List.map (elI e0) (L))) ∧ S1.e 1 = .p (.sl (.lent m1) (List.map (PV.int .i64) (x))) ∧ S1.e 5 = .p (.int .i64 (k)) ∧ (k ≤ L.length) ∧ (∀ i, i < k → ¬ L.getD i [] = x) ∧ ms1 = L.length - k) ((fun (k : Nat) => L.length - k) (0)) ?_ ⟨0, dC trivial ?_⟩
 all_goals try (refine zlf ?_; repeat' first | exact zso | refine And.intro ?_ ?_ | (refine zim ?_; intro zb hc) | (refine zin ?_; intro zb) | intro j')
 all_goals try refine zbx ?_
 rintro ms1 S1 ⟨k, h1_0, h1_1, h1_5, c1_0, c1_1, hm1⟩
 have fL1 := (And.intro h1_0 (And.intro h1_1 h1_5))
 ·have b1 : k < L.length → (L.getD k []).length ≤ 1099511627776 := fun h => hl _ (getD_mem h)
  refine dE fL1 ?_
  all_goals try (refine zlf ?_; repeat' first | exact zso | refine And.intro ?_ ?_ | (refine zim ?_; intro zb hc) | (refine zin ?_; intro zb) | intro j')
  all_goals try refine zbx ?_
  all_goals try have b2 := b1 (by omega)
  all_goals try exact zaut
  ·exact (List.contains_iff_mem.2 (by rw [← hc]; exact getD_mem (by omega))).symm
  ·focus
    refine q_lp_n ((fun (k : Nat) => L.length - k) (k+1)) (dC fL1 ?_) ⟨k+1, dC fL1 ?_⟩
    all_goals try (refine zlf ?_; repeat' first | exact zso | refine And.intro ?_ ?_ | (refine zim ?_; intro zb hc) | (refine zin ?_; intro zb) | intro j')
    all_goals try refine zbx ?_
   intro i hi
   by_cases e : i = k
   ·subst e; exact hc
   ·exact c1_1 i (by omega)
  ·symm
   rw [← Bool.not_eq_true, List.contains_iff_mem]
   intro hm
   obtain ⟨i, hi, e⟩ := List.getElem_of_mem hm
   refine c1_1 i (by omega) ?_
   rw [List.getD_eq_getElem?_getD, List.getElem?_eq_getElem hi]; exact e
 all_goals trace_state
theorem chL_0 {d : Nat} {p : List Int} : (chL d p).getD 0 [] = p := by
 cases d with
 | zero => rfl
 | succ d => rw [chL]; split <;> rfl
theorem chL_f : ∀ {d : Nat} {p : List Int}, p.length ≤ d + 2 → isPermB p = true → isSimB p = true →
  0 < (chL d p).length ∧ (chL d p).length ≤ d + 1 ∧ (∀ i, i < (chL d p).length → isPermB ((chL d p).getD i []) = true ∧ isSimB ((chL d p).getD i []) = true) ∧
  (∀ i, i + 1 < (chL d p).length → hpB ((chL d p).getD i []) ((chL d p).getD (i + 1) []) = true) ∧ ((chL d p).getD ((chL d p).length - 1) []).length ≤ 2
 | 0, p, hd, hp, hs => by
  refine ⟨by simp [chL], by simp [chL], fun i hi => ?_, fun i hi => ?_, by simp [chL]; omega⟩
  ·simp only [chL, List.length_singleton] at hi
   obtain rfl : i = 0 := by omega
   exact ⟨hp, hs⟩
  ·simp only [chL, List.length_singleton] at hi; omega
 | d + 1, p, hd, hp, hs => by
  by_cases h2 : 2 < p.length
  ·obtain ⟨_, hq⟩ := nxS_ok hp hs h2
   obtain ⟨q1, q2, q3, q4, q5⟩ := hq _ (nxQ_mem hp hs h2)
   obtain ⟨r1, r2, r3, r4, r5⟩ := chL_f (d := d) (p := nxQ p) (by omega) q1 q2
   have e : chL (d + 1) p = p :: chL d (nxQ p) := by rw [chL, if_pos h2]
   rw [e]
   refine ⟨by simp, by simp; omega, fun i hi => ?_, fun i hi => ?_, ?_⟩
   ·cases i with
    | zero => exact ⟨hp, hs⟩
    | succ i => simp only [List.length_cons] at hi; simpa using r3 i (by omega)
   ·cases i with
    | zero =>
     have : hpB p (nxQ p) = true := by rw [hpB, hp, q1, q5]; rfl
     have e0 := chL_0 (d := d) (p := nxQ p)
     simp only [List.getD_cons_zero, List.getD_cons_succ, e0]; exact this
    | succ i => simp only [List.length_cons] at hi; simpa using r4 i (by omega)
   ·obtain ⟨n, hn⟩ : ∃ n, (chL d (nxQ p)).length = n + 1 := ⟨(chL d (nxQ p)).length - 1, by omega⟩
    rw [hn] at r5
    simp only [List.length_cons, hn]
    simpa using r5
  ·have e : chL (d + 1) p = [p] := by rw [chL, if_neg h2]
   rw [e]
   refine ⟨by simp, by simp, fun i hi => ?_, fun i hi => ?_, by simp; omega⟩
   ·simp only [List.length_singleton] at hi
    obtain rfl : i = 0 := by omega
    exact ⟨hp, hs⟩
   ·simp only [List.length_singleton] at hi; omega
theorem chB_f {p : List Int} : (chB p).length ≤ 9 ∧ (∀ l ∈ chB p, l.length ≤ 8) ∧ (∀ i, i < (chB p).length → isPermB ((chB p).getD i []) = true ∧ isSimB ((chB p).getD i []) = true) ∧
  (∀ i, i + 1 < (chB p).length → hpB ((chB p).getD i []) ((chB p).getD (i + 1) []) = true) ∧ ((isPermB p && isSimB p) = true → 0 < (chB p).length ∧ ((chB p).getD ((chB p).length - 1) []).length ≤ 2) := by
 by_cases h : (isPermB p && isSimB p) = true
 ·have e : chB p = chL p.length p := if_pos h
  rw [e]
  simp only [Bool.and_eq_true] at h
  obtain ⟨h8, _⟩ := isP_8 h.1
  obtain ⟨r1, r2, r3, r4, r5⟩ := chL_f (d := p.length) (p := p) (by omega) h.1 h.2
  refine ⟨by omega, fun l hl => ?_, r3, r4, fun _ => ⟨r1, r5⟩⟩
  obtain ⟨i, hi, rfl⟩ := List.getElem_of_mem hl
  have := (isP_8 (r3 i hi).1).1
  rwa [List.getD_eq_getElem?_getD, List.getElem?_eq_getElem hi] at this
 ·have e : chB p = [] := if_neg h
  rw [e]
  exact ⟨by simp, fun l hl => (by cases hl), fun i hi => absurd hi (by simp), fun i hi => absurd hi (by simp), fun g => absurd g h⟩
theorem sim_row {p : List Int} (hp : isPermB p = true) (hs : isSimB p = true) : (isPermB p && isSimB p) = true := by rw [hp, hs]; rfl
theorem slB_f {p : List Int} : (slB p).length ≤ 8 ∧ ∀ l ∈ slB p, l.length ≤ 8 := by
 unfold slB; split
 ·rename_i hp
  obtain ⟨h8, hq⟩ := isP_8 hp
  refine ⟨Nat.le_trans smpL_len h8, fun l hl => (low_facts hq h8 (List.mem_filter.1 hl).1).1⟩
 ·simp
theorem sim_cnt {n : Int} (h1 : 1 ≤ n) (h6 : n ≤ 6) : ((simsB n).length : Int) = [0, 1, 2, 0, 2, 6, (46 : Int)].getD n.toNat 0 := by
 obtain ⟨N, rfl⟩ := Int.eq_ofNat_of_zero_le (show 0 ≤ n by omega)
 have h := simsB_n N (by omega) (by omega)
 have : ∀ K, K < 7 → (([0, 1, 2, 0, 2, 6, 46].getD K 0 : Nat) : Int) = [0, 1, 2, 0, 2, 6, (46 : Int)].getD K 0 := by decide
 rw [h, Int.toNat_natCast]; exact this N (by omega)
theorem eo_few {n : Int} : (eoL n).length ≤ 8 := by
 unfold eoL; split
 ·rename_i h
  obtain ⟨N, rfl⟩ := Int.eq_ofNat_of_zero_le (show 0 ≤ n by omega)
  have := (eo_perm N (by omega)).2
  rw [eoL, if_pos h] at this
  omega
 ·simp
theorem sim_V {n : Int} (h6 : n ≤ 6) (h0 : -1 ≤ n) : ∃ V : Int, [PV.int .i64 0, .int .i64 1, .int .i64 2, .int .i64 0, .int .i64 2, .int .i64 6, .int .i64 46][n.toNat]? = some (.int .i64 V) ∧ (1 ≤ n → V = ((simsB n).length : Int)) := by
 have h : ∀ K, K < 7 → [PV.int .i64 0, .int .i64 1, .int .i64 2, .int .i64 0, .int .i64 2, .int .i64 6, .int .i64 46][K]? = some (.int .i64 ([0, 1, 2, 0, 2, 6, (46 : Int)].getD K 0)) := fun K hK => by
  match K, hK with
  | 0, _ => rfl
  | 1, _ => rfl
  | 2, _ => rfl
  | 3, _ => rfl
  | 4, _ => rfl
  | 5, _ => rfl
  | 6, _ => rfl
  | k + 7, hk => omega
 exact ⟨_, h n.toNat (by omega), fun h1 => (sim_cnt h1 h6).symm⟩
theorem mod2 {k : Nat} (h : (k : Int).tmod 2 = 0) : k % 2 = 0 := by rw [Int.tmod_eq_emod_of_nonneg (by omega)] at h; omega
theorem mod2' {k : Nat} (h : k % 2 = 0) : (k : Int).tmod 2 = 0 := by rw [Int.tmod_eq_emod_of_nonneg (by omega)]; omega
theorem no_even {n : Nat} {x : Bool} (h : 4 ≤ n → ¬ (n : Int).tmod 2 = 0) : (decide (4 ≤ n) && decide (n % 2 = 0) && x) = false := by
 by_cases h4 : 4 ≤ n
 ·rw [decide_eq_false (fun g => h h4 (mod2' g))]; simp
 ·rw [decide_eq_false h4]; rfl
set_option maxHeartbeats 8000000 in
theorem fs_even (b : List UInt8) (hs : b.length ≤ 1048576) (p e q : List Int) (n m k : Int) (d1 : Fun Tryz.prog 5 [.sl (.lent false) (b.map u8P)] [.sl .own (List.map (PV.int .i64) p)]) (hp : p.length ≤ 1048576) (d2 : Fun Tryz.prog 8 [.sl (.lent false) (b.map u8P)] [.int .i64 n]) (n0 : -1 ≤ n) (n1 : n ≤ 6) (d3 : Fun Tryz.prog 10 [.sl (.lent false) (b.map u8P)] [.sl .own (List.map (PV.int .i64) e)]) (he : isPermB e = true) (d4 : Fun Tryz.prog 11 [.sl (.lent false) (b.map u8P)] [.sl .own (List.map (PV.int .i64) q)]) (hq : q.length ≤ 1048576) (d5 : Fun Tryz.prog 12 [.sl (.lent false) (b.map u8P)] [.int .i64 m]) (m0 : -1 ≤ m) (m1 : m ≤ 9) (d6 : Fun Tryz.prog 13 [.sl (.lent false) (b.map u8P)] [.int .i64 k]) (k0 : -1 ≤ k) (k1 : k ≤ 6) (h4 : 4 ≤ e.length) (h2 : (e.length : Int).tmod 2 = 0) : Fun Tryz.prog 3 [.sl (.lent false) (b.map u8P)] [.bool true] := by
 have e8 := (isP_8 he).1
 obtain ⟨g1, g2, g3, g4, g5⟩ := chB_f (p := p)
 obtain ⟨l1, l2⟩ := slB_f (p := q)
 have s1 := simsB_le (n := n)
 have s2 : ∀ l ∈ simsB n, l.length ≤ 1099511627776 := fun l hl => by have := simsB_row l hl; omega
 have l3 : ∀ l ∈ slB q, l.length ≤ 1099511627776 := fun l hl => by have := l2 l hl; omega
 have g6 : ∀ l ∈ chB p, l.length ≤ 1099511627776 := fun l hl => by have := g2 l hl; omega
 have o1 := eo_few (n := m)
 have o2 := eo_perm e.length (by omega)
 have o3 := sycL_len (p := eoL (e.length : Nat))
 have o4 : ∀ l ∈ sycL (eoL (e.length : Nat)), l.length ≤ 1099511627776 := fun l hl => by have := sycL_lens (by omega) l hl; omega
 have x1 := exc_known he
 obtain ⟨V, v1, v2⟩ := sim_V n1 n0
 obtain ⟨o5, o6⟩ := o2
 have w1 := fun m0 : Bool => impl_SimpleChain_f_c (m0 := m0) p hp
 have w2 := fun m0 : Bool => spec_SimpleChain_f_c (m0 := m0) p hp
 generalize hB : (isPermB p && isSimB p) = B at *
 generalize hC : chB p = C at *
 generalize hX : (sycL (eoL (e.length : Nat))).contains e = X at *
 have x3 : excB e = X := by rw [x1, decide_eq_true h4, decide_eq_true (mod2 h2)]; rfl
 refine fO sg0 [2] Tryz.func3 ?_
 have cE1 := @laws_big_c; have cE2 := @impl_SimplesOf_f_c; have cE3 := @spec_SimplesOf_c; have cE4 := @impl_EvenOdd_c; have cE5 := @spec_EvenOdd_c; have cE6 := @impl_CountInflations_c
 have cE7 := @spec_CountInflations_c; have cE8 := @impl_SimpleChain_f_c; have cE9 := @spec_SimpleChain_f_c; have cE10 := @laws_sameLists_c; have cE11 := @impl_IsExceptional_c; have cE12 := @spec_IsExceptional_c
 have cE13 := @impl_SimpleLowers_f_c; have cE14 := @spec_SimpleLowers_c; have cE15 := @spec_SimpleLowers_n_c; have cE16 := @laws_sameInts_c; have cE17 := @spec_SymmetryClass_c; have cE18 := @laws_hasList_c
 have cE19 := @spec_IsPerm_c; have cE20 := @spec_IsSimple_c; have cE21 := @spec_HasPattern_c; have cD1 := zdh [false, false, false, false, true, false, false, false, false, false, false, false, false, false, false, false, false, false, false, true, false, false, false] []
 have cE1 := @d1; have cE2 := @d2; have cE3 := @d3; have cE4 := @d4; have cE5 := @d5; have cE6 := @d6
 have cE7 := @w1; have cE8 := @w2; have cE9 := @impl_SimplesOf_f_c; have cE10 := @laws_big_c; have cE11 := @spec_SimplesOf_c; have cE12 := @impl_EvenOdd_c
 have cE13 := @spec_EvenOdd_c; have cE14 := @impl_CountInflations_c; have cE15 := @spec_CountInflations_c; have cE16 := @impl_SimpleLowers_f_c; have cE17 := @spec_SimpleLowers_n_c; have cE18 := @impl_SimpleChain_f_c
 have cE19 := @spec_SimpleChain_f_c; have cE20 := @laws_sameLists_c; have cE21 := @impl_IsExceptional_c; have cE22 := @spec_IsExceptional_c; have cE23 := @laws_sameInts_c; have cE24 := @spec_SymmetryClass_c
 have cE25 := @laws_hasList_c; have cE26 := @spec_IsPerm_c; have cE27 := @spec_IsSimple_c; have cE28 := @spec_HasPattern_c
 refine dEa (And.intro @dsL (And.intro @dsI (And.intro @isI (And.intro @bsB (And.intro @he (And.intro @v1 (And.intro @hB (And.intro @hX (And.intro @o5 @x3))))))))) ?_
 all_goals try (refine zlf ?_; repeat' first | exact zso | refine And.intro ?_ ?_ | (refine zim ?_; intro zb hc) | (refine zin ?_; intro zb) | intro j')
 all_goals try refine zbx ?_
 all_goals try (exfalso; omega)
 all_goals
  refine v_loopB (fun ms1 S1 => ∃ (i : Nat), OwnL (S1.e 4) S1.h S1.n (elI false) ((C).length) (C) ∧ S1.e 5 = .p (.bool (B)) ∧ S1.e 15 = .p (.int .i64 (i)) ∧ (i ≤ C.length) ∧ ms1 = C.length - i) ((fun (i : Nat) => C.length - i) (0)) ?_ ⟨0, dC trivial ?_⟩
  all_goals try (refine zlf ?_; repeat' first | exact zso | refine And.intro ?_ ?_ | (refine zim ?_; intro zb hc) | (refine zin ?_; intro zb) | intro j')
  all_goals try refine zbx ?_
  rintro ms1 S1 ⟨i, o1_4, h1_5, h1_15, c1_0, hm1⟩
  obtain ⟨i1_4, h1_4, b1_4, l1_4⟩ := o1_4.out
  have ni1_4 := znds (x := i1_4) (n := S1.n)
  have fL1 := (And.intro h1_5 (And.intro h1_15 (And.intro h1_4 (And.intro b1_4 ni1_4))))
  ·by_cases hi : i < C.length
   ·obtain ⟨z1, z2⟩ := g3 i hi
    have z3 := sim_row z1 z2
    have z5 := (isP_8 z1).1
    by_cases h0 : 0 < i
    ·have z4 := g4 (i - 1) (by omega)
     rw [show i - 1 + 1 = i by omega] at z4
     have z6 := (isP_8 (g3 (i - 1) (by omega)).1).1
     have z7 : ((i : Int) - 1).toNat = i - 1 := by omega
     have cE1 := @laws_big_c; have cE2 := @impl_SimplesOf_f_c; have cE3 := @spec_SimplesOf_c; have cE4 := @impl_EvenOdd_c; have cE5 := @spec_EvenOdd_c; have cE6 := @impl_CountInflations_c
     have cE7 := @spec_CountInflations_c; have cE8 := @impl_SimpleChain_f_c; have cE9 := @spec_SimpleChain_f_c; have cE10 := @laws_sameLists_c; have cE11 := @impl_IsExceptional_c; have cE12 := @spec_IsExceptional_c
     have cE13 := @impl_SimpleLowers_f_c; have cE14 := @spec_SimpleLowers_c; have cE15 := @spec_SimpleLowers_n_c; have cE16 := @laws_sameInts_c; have cE17 := @spec_SymmetryClass_c; have cE18 := @laws_hasList_c
     have cE19 := @spec_IsPerm_c; have cE20 := @spec_IsSimple_c; have cE21 := @spec_HasPattern_c; have cE22 := trivial; have cE23 := trivial; have cE24 := trivial
     have cE25 := trivial; have cE26 := trivial; have cE27 := trivial; have cE28 := trivial
     refine dEa (And.intro fL1 (And.intro @z3 (And.intro @z4 @z7))) ?_
     all_goals try (refine zlf ?_; repeat' first | exact zso | refine And.intro ?_ ?_ | (refine zim ?_; intro zb hc) | (refine zin ?_; intro zb) | intro j')
     all_goals try refine zbx ?_
     focus
      refine q_lp_n ((fun (i : Nat) => C.length - i) (i+1)) (dC fL1 ?_) ⟨i+1, dC fL1 ?_⟩
      all_goals try (refine zlf ?_; repeat' first | exact zso | refine And.intro ?_ ?_ | (refine zim ?_; intro zb hc) | (refine zin ?_; intro zb) | intro j')
      all_goals try refine zbx ?_
     all_goals trace_state
    ·have cE1 := @laws_big_c; have cE2 := @impl_SimplesOf_f_c; have cE3 := @spec_SimplesOf_c; have cE4 := @impl_EvenOdd_c; have cE5 := @spec_EvenOdd_c; have cE6 := @impl_CountInflations_c
     have cE7 := @spec_CountInflations_c; have cE8 := @impl_SimpleChain_f_c; have cE9 := @spec_SimpleChain_f_c; have cE10 := @laws_sameLists_c; have cE11 := @impl_IsExceptional_c; have cE12 := @spec_IsExceptional_c
     have cE13 := @impl_SimpleLowers_f_c; have cE14 := @spec_SimpleLowers_c; have cE15 := @spec_SimpleLowers_n_c; have cE16 := @laws_sameInts_c; have cE17 := @spec_SymmetryClass_c; have cE18 := @laws_hasList_c
     have cE19 := @spec_IsPerm_c; have cE20 := @spec_IsSimple_c; have cE21 := @spec_HasPattern_c; have cE22 := trivial; have cE23 := trivial; have cE24 := trivial
     have cE25 := trivial; have cE26 := trivial; have cE27 := trivial; have cE28 := trivial
     refine dEa (And.intro fL1 @z3) ?_
     all_goals try (refine zlf ?_; repeat' first | exact zso | refine And.intro ?_ ?_ | (refine zim ?_; intro zb hc) | (refine zin ?_; intro zb) | intro j')
     all_goals try refine zbx ?_
     focus
      refine q_lp_n ((fun (i : Nat) => C.length - i) (i+1)) (dC fL1 ?_) ⟨i+1, dC fL1 ?_⟩
      all_goals try (refine zlf ?_; repeat' first | exact zso | refine And.intro ?_ ?_ | (refine zim ?_; intro zb hc) | (refine zin ?_; intro zb) | intro j')
      all_goals try refine zbx ?_
     all_goals trace_state
   ·obtain rfl : i = C.length := by omega
    cases hb : B with
    | true =>
     obtain ⟨y1, y2⟩ := g5 hb
     have y3 : ((C.length : Int) - 1).toNat = C.length - 1 := by omega
     have cE1 := @laws_big_c; have cE2 := @impl_SimplesOf_f_c; have cE3 := @spec_SimplesOf_c; have cE4 := @impl_EvenOdd_c; have cE5 := @spec_EvenOdd_c; have cE6 := @impl_CountInflations_c
     have cE7 := @spec_CountInflations_c; have cE8 := @impl_SimpleChain_f_c; have cE9 := @spec_SimpleChain_f_c; have cE10 := @laws_sameLists_c; have cE11 := @impl_IsExceptional_c; have cE12 := @spec_IsExceptional_c
     have cE13 := @impl_SimpleLowers_f_c; have cE14 := @spec_SimpleLowers_c; have cE15 := @spec_SimpleLowers_n_c; have cE16 := @laws_sameInts_c; have cE17 := @spec_SymmetryClass_c; have cE18 := @laws_hasList_c
     have cE19 := @spec_IsPerm_c; have cE20 := @spec_IsSimple_c; have cE21 := @spec_HasPattern_c; have cE22 := trivial; have cE23 := trivial; have cE24 := trivial
     have cE25 := trivial; have cE26 := trivial; have cE27 := trivial; have cE28 := trivial
     refine dEa (And.intro fL1 (And.intro @hb @y3)) ?_
     all_goals try (refine zlf ?_; repeat' first | exact zso | refine And.intro ?_ ?_ | (refine zim ?_; intro zb hc) | (refine zin ?_; intro zb) | intro j')
     all_goals try refine zbx ?_
     all_goals exact decide_eq_true (by omega)
    | false =>
     have cE1 := @laws_big_c; have cE2 := @impl_SimplesOf_f_c; have cE3 := @spec_SimplesOf_c; have cE4 := @impl_EvenOdd_c; have cE5 := @spec_EvenOdd_c; have cE6 := @impl_CountInflations_c
     have cE7 := @spec_CountInflations_c; have cE8 := @impl_SimpleChain_f_c; have cE9 := @spec_SimpleChain_f_c; have cE10 := @laws_sameLists_c; have cE11 := @impl_IsExceptional_c; have cE12 := @spec_IsExceptional_c
     have cE13 := @impl_SimpleLowers_f_c; have cE14 := @spec_SimpleLowers_c; have cE15 := @spec_SimpleLowers_n_c; have cE16 := @laws_sameInts_c; have cE17 := @spec_SymmetryClass_c; have cE18 := @laws_hasList_c
     have cE19 := @spec_IsPerm_c; have cE20 := @spec_IsSimple_c; have cE21 := @spec_HasPattern_c; have cE22 := trivial; have cE23 := trivial; have cE24 := trivial
     have cE25 := trivial; have cE26 := trivial; have cE27 := trivial; have cE28 := trivial
     refine dEa (And.intro fL1 @hb) ?_
     all_goals try (refine zlf ?_; repeat' first | exact zso | refine And.intro ?_ ?_ | (refine zim ?_; intro zb hc) | (refine zin ?_; intro zb) | intro j')
     all_goals try refine zbx ?_
     all_goals trace_state
 all_goals trace_state
end Go.Gl
