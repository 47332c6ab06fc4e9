/-
 Intervals of permutations: what their functions compute. Conditions: none.
-/
import Derived.Test.YtfjfobbniglaeaaPText
import Derived.Test.YtfjfobbniglaeaaLaw1
set_option linter.unusedSimpArgs false
set_option linter.unusedVariables false
set_option maxRecDepth 20000
set_option linter.unusedSectionVars false
namespace Go.Gl
open Go Go.Proofs
variable [Amb] [NoQ]
def minT (l : List Int) (k : Nat) : Int := (l.take k).foldl min (l.getD 0 0)
def maxT (l : List Int) (k : Nat) : Int := (l.take k).foldl max (l.getD 0 0)
def minL (l : List Int) : Int := minT l l.length
def maxL (l : List Int) : Int := maxT l l.length
theorem minT_succ {l : List Int} {k : Nat} (h : k < l.length) : minT l (k + 1) = min (minT l k) (l.getD k 0) := by
 rw [minT, take_getD (d := 0) h, List.foldl_append]; rfl
theorem maxT_succ {l : List Int} {k : Nat} (h : k < l.length) : maxT l (k + 1) = max (maxT l k) (l.getD k 0) := by
 rw [maxT, take_getD (d := 0) h, List.foldl_append]; rfl
theorem minT_1 {l : List Int} (h : 0 < l.length) : minT l 1 = l.getD 0 0 := by
 rw [minT_succ h, minT, List.take_zero]; simp
theorem maxT_1 {l : List Int} (h : 0 < l.length) : maxT l 1 = l.getD 0 0 := by
 rw [maxT_succ h, maxT, List.take_zero]; simp
theorem minT_b {l : List Int} {a b : Int} (hb : ∀ x ∈ l, a ≤ x ∧ x ≤ b) (h0 : 0 < l.length) : ∀ {k : Nat}, k ≤ l.length → a ≤ minT l k ∧ minT l k ≤ b
 | 0, _ => by rw [minT, List.take_zero]; exact hb _ (getD_mem h0)
 | k + 1, h => by
  have h1 := minT_b hb h0 (k := k) (by omega)
  have h2 := hb _ (getD_mem (d := 0) (show k < l.length by omega))
  rw [minT_succ (by omega)]; omega
theorem maxT_b {l : List Int} {a b : Int} (hb : ∀ x ∈ l, a ≤ x ∧ x ≤ b) (h0 : 0 < l.length) : ∀ {k : Nat}, k ≤ l.length → a ≤ maxT l k ∧ maxT l k ≤ b
 | 0, _ => by rw [maxT, List.take_zero]; exact hb _ (getD_mem h0)
 | k + 1, h => by
  have h1 := maxT_b hb h0 (k := k) (by omega)
  have h2 := hb _ (getD_mem (d := 0) (show k < l.length by omega))
  rw [maxT_succ (by omega)]; omega
def segL (p : List Int) (a b : Nat) : List Int := (p.take b).drop a
theorem segL_len {p : List Int} {a b : Nat} (h : b ≤ p.length) : (segL p a b).length = b - a := by simp [segL]; omega
theorem segL_at {p : List Int} {a b k : Nat} (h : a + k < b) : (segL p a b).getD k 0 = p.getD (a + k) 0 := by
 simp only [segL, List.getD_eq_getElem?_getD, List.getElem?_drop, List.getElem?_take]
 rw [if_pos h]
theorem segL_mem {p : List Int} {a b : Nat} {x : Int} (h : x ∈ segL p a b) : x ∈ p := List.mem_of_mem_take (List.mem_of_mem_drop h)
def isIntB (p : List Int) (a b : Int) : Bool := decide (maxL (segL p a.toNat b.toNat) - minL (segL p a.toNat b.toNat) = b - a - 1)
theorem slices_Min_int_int_c {m0 : Bool} (l : List Int) (h0 : 0 < l.length) (hl : l.length ≤ 1099511627776) : Fun Try.prog 149 [(.sl (.lent m0) (List.map (PV.int .i64) (l)))] [(.int .i64 (minL l))] := by
 refine fO sg0 [2] Try.func149 ?_
 refine dEa trivial ?_
 all_goals try (refine zlf ?_; repeat' first | exact zso | refine And.intro ?_ ?_ | (refine zim ?_; intro zb hc) | (refine zin ?_; intro zb) | intro j')
 all_goals try refine zbx ?_
 refine v_loopB (fun ms1 S1 => ∃ (k : Nat), S1.e 0 = .p (.sl (.lent m0) (List.map (PV.int .i64) (l))) ∧ S1.e 3 = .p (.int .i64 (minT l k)) ∧ S1.e 4 = .p (.int .i64 (k)) ∧ (1 ≤ k) ∧ (k ≤ l.length) ∧ ms1 = l.length - k) ((fun (k : Nat) => l.length - k) (1)) ?_ ⟨1, dIa trivial ?_⟩
 all_goals try (refine zlf ?_; repeat' first | exact zso | refine And.intro ?_ ?_ | (refine zim ?_; intro zb hc) | (refine zin ?_; intro zb) | intro j')
 all_goals try refine zbx ?_
 rintro ms1 S1 ⟨k, h1_0, h1_3, h1_4, c1_0, c1_1, hm1⟩
 have fL1 := (And.intro h1_0 (And.intro h1_3 h1_4))
 refine dEa fL1 ?_
 all_goals try (refine zlf ?_; repeat' first | exact zso | refine And.intro ?_ ?_ | (refine zim ?_; intro zb hc) | (refine zin ?_; intro zb) | intro j')
 all_goals try refine zbx ?_
 ·focus
   refine q_lp_n ((fun (k : Nat) => l.length - k) (k+1)) (dC fL1 ?_) ⟨k+1, dC fL1 ?_⟩
   all_goals try (refine zlf ?_; repeat' first | exact zso | refine And.intro ?_ ?_ | (refine zim ?_; intro zb hc) | (refine zin ?_; intro zb) | intro j')
   all_goals try refine zbx ?_
  rw [minT_succ (by omega)]
 ·rw [minL]; congr 1; omega
 ·rw [minT_1 h0]
theorem slices_Max_int_int_c {m0 : Bool} (l : List Int) (h0 : 0 < l.length) (hl : l.length ≤ 1099511627776) : Fun Try.prog 148 [(.sl (.lent m0) (List.map (PV.int .i64) (l)))] [(.int .i64 (maxL l))] := by
 refine fO sg0 [2] Try.func148 ?_
 refine dEa trivial ?_
 all_goals try (refine zlf ?_; repeat' first | exact zso | refine And.intro ?_ ?_ | (refine zim ?_; intro zb hc) | (refine zin ?_; intro zb) | intro j')
 all_goals try refine zbx ?_
 refine v_loopB (fun ms1 S1 => ∃ (k : Nat), S1.e 0 = .p (.sl (.lent m0) (List.map (PV.int .i64) (l))) ∧ S1.e 3 = .p (.int .i64 (maxT l k)) ∧ S1.e 4 = .p (.int .i64 (k)) ∧ (1 ≤ k) ∧ (k ≤ l.length) ∧ ms1 = l.length - k) ((fun (k : Nat) => l.length - k) (1)) ?_ ⟨1, dIa trivial ?_⟩
 all_goals try (refine zlf ?_; repeat' first | exact zso | refine And.intro ?_ ?_ | (refine zim ?_; intro zb hc) | (refine zin ?_; intro zb) | intro j')
 all_goals try refine zbx ?_
 rintro ms1 S1 ⟨k, h1_0, h1_3, h1_4, c1_0, c1_1, hm1⟩
 have fL1 := (And.intro h1_0 (And.intro h1_3 h1_4))
 refine dEa fL1 ?_
 all_goals try (refine zlf ?_; repeat' first | exact zso | refine And.intro ?_ ?_ | (refine zim ?_; intro zb hc) | (refine zin ?_; intro zb) | intro j')
 all_goals try refine zbx ?_
 ·focus
   refine q_lp_n ((fun (k : Nat) => l.length - k) (k+1)) (dC fL1 ?_) ⟨k+1, dC fL1 ?_⟩
   all_goals try (refine zlf ?_; repeat' first | exact zso | refine And.intro ?_ ?_ | (refine zim ?_; intro zb hc) | (refine zin ?_; intro zb) | intro j')
   all_goals try refine zbx ?_
  rw [maxT_succ (by omega)]
 ·rw [maxL]; congr 1; omega
 ·rw [maxT_1 h0]
theorem impl_isInterval_c {m0 : Bool} (p : List Int) (a b : Int) (h0 : 0 ≤ a) (h1 : a < b) (h2 : b ≤ p.length) (hl : p.length ≤ 8) (hb : ∀ x ∈ p, 0 ≤ x ∧ x ≤ 1048576) : Fun Try.prog 139 [(.sl (.lent m0) (List.map (PV.int .i64) (p))), (.int .i64 (a)), (.int .i64 (b))] [(.bool (isIntB p a b))] := by
 refine fO sg0 [6] Try.func139 ?_
 have cE1 := @slices_Max_int_int_c; have cE2 := @slices_Min_int_int_c
 have e1 : List.drop a.toNat (List.take b.toNat p) = segL p a.toNat b.toNat := rfl
 have e2 : (segL p a.toNat b.toNat).length = b.toNat - a.toNat := segL_len (by omega)
 have b1 := minT_b (fun x hx => hb x (segL_mem (a := a.toNat) (b := b.toNat) hx)) (by omega) (Nat.le_refl _)
 have b2 := maxT_b (fun x hx => hb x (segL_mem (a := a.toNat) (b := b.toNat) hx)) (by omega) (Nat.le_refl _)
 rw [← minL] at b1
 rw [← maxL] at b2
 refine dEa @e1 ?_
 all_goals try (refine zlf ?_; repeat' first | exact zso | refine And.intro ?_ ?_ | (refine zim ?_; intro zb hc) | (refine zin ?_; intro zb) | intro j')
 all_goals try refine zbx ?_
 rw [isIntB, e2]; congr 1; rw [eq_iff_iff]; omega
theorem spec_l1Min_c (a b : Int) : Fun Try.prog 138 [(.int .i64 (a)), (.int .i64 (b))] [(.int .i64 (min a b))] := by
 refine fO sg0 [4] Try.func138 ?_
 refine dE trivial ?_
 all_goals try (refine zlf ?_; repeat' first | exact zso | refine And.intro ?_ ?_ | (refine zim ?_; intro zb hc) | (refine zin ?_; intro zb) | intro j')
 all_goals try refine zbx ?_
 all_goals omega
theorem spec_l5Run_c {m0 : Bool} (p : List Int) (a b : Int) (h0 : 0 ≤ a) (h1 : a ≤ b) (h2 : b < p.length) (hl : p.length ≤ 8) (hb : ∀ x ∈ p, 0 ≤ x ∧ x ≤ 1048576) : Fun Try.prog 122 [(.sl (.lent m0) (List.map (PV.int .i64) (p))), (.int .i64 (a)), (.int .i64 (b))] [(.bool (isIntB p a (b + 1)))] := by
 refine fO sg0 [6] Try.func122 ?_
 have cE1 := @spec_l1Min_c; have cE2 := @spec_l1Max_c
 have e2 : (segL p a.toNat (b + 1).toNat).length = (b + 1).toNat - a.toNat := segL_len (by omega)
 have b1 := minT_b (fun x hx => hb x (segL_mem (a := a.toNat) (b := (b + 1).toNat) hx)) (by omega) (Nat.le_refl _)
 have b2 := maxT_b (fun x hx => hb x (segL_mem (a := a.toNat) (b := (b + 1).toNat) hx)) (by omega) (Nat.le_refl _)
 rw [← minL] at b1
 rw [← maxL] at b2
 refine dEa trivial ?_
 all_goals try (refine zlf ?_; repeat' first | exact zso | refine And.intro ?_ ?_ | (refine zim ?_; intro zb hc) | (refine zin ?_; intro zb) | intro j')
 all_goals try refine zbx ?_
 refine v_loopB (fun ms1 S1 => ∃ (k : Nat), S1.e 0 = .p (.sl (.lent m0) (List.map (PV.int .i64) (p))) ∧ S1.e 1 = .p (.int .i64 (a)) ∧ S1.e 2 = .p (.int .i64 (b)) ∧ S1.e 7 = .p (.int .i64 (minT (segL p a.toNat (b + 1).toNat) k)) ∧ S1.e 8 = .p (.int .i64 (maxT (segL p a.toNat (b + 1).toNat) k)) ∧ S1.e 9 = .p (.int .i64 ((a + k))) ∧ ((k : Int) ≤ b + 1 - a) ∧ ms1 = (b + 1 - a).toNat - k) ((fun (k : Nat) => (b + 1 - a).toNat - k) (0)) ?_ ⟨0, dI trivial ?_⟩
 all_goals try (refine zlf ?_; repeat' first | exact zso | refine And.intro ?_ ?_ | (refine zim ?_; intro zb hc) | (refine zin ?_; intro zb) | intro j')
 all_goals try refine zbx ?_
 rintro ms1 S1 ⟨k, h1_0, h1_1, h1_2, h1_7, h1_8, h1_9, c1_0, hm1⟩
 have fL1 := (And.intro h1_0 (And.intro h1_1 (And.intro h1_2 (And.intro h1_7 (And.intro h1_8 h1_9)))))
 have e3 : a + k < b + 1 → p.getD (a + k).toNat 0 = (segL p a.toNat (b + 1).toNat).getD k 0 := fun h => by
  rw [segL_at (by omega)]; congr 1; omega
 refine dE fL1 ?_
 all_goals try (refine zlf ?_; repeat' first | exact zso | refine And.intro ?_ ?_ | (refine zim ?_; intro zb hc) | (refine zin ?_; intro zb) | intro j')
 all_goals try refine zbx ?_
 all_goals try rw [e3 (by omega)]
 all_goals try exact zaut
 ·focus
   refine q_lp_n ((fun (k : Nat) => (b + 1 - a).toNat - k) (k+1)) (dC fL1 ?_) ⟨k+1, dC fL1 ?_⟩
   all_goals try (refine zlf ?_; repeat' first | exact zso | refine And.intro ?_ ?_ | (refine zim ?_; intro zb hc) | (refine zin ?_; intro zb) | intro j')
   all_goals try refine zbx ?_
  ·rw [minT_succ (by omega)]
  ·rw [maxT_succ (by omega)]
 ·have h4 := minT_b (fun x hx => hb x (segL_mem (a := a.toNat) (b := (b + 1).toNat) hx)) (by omega) (show k ≤ (segL p a.toNat (b + 1).toNat).length by omega)
  have h5 := maxT_b (fun x hx => hb x (segL_mem (a := a.toNat) (b := (b + 1).toNat) hx)) (by omega) (show k ≤ (segL p a.toNat (b + 1).toNat).length by omega)
  rw [n_i64]; omega
 ·have h3 : k = (segL p a.toNat (b + 1).toNat).length := by omega
  rw [isIntB, h3, ← minL, ← maxL]; congr 1; rw [eq_iff_iff]; omega
 ·rw [minT, List.take_zero, segL_at (by omega)]; simp
 ·rw [maxT, List.take_zero, segL_at (by omega)]; simp
/-- Intervals that begin at a place: the first k that are looked at. -/
def ivR (p : List Int) (a k : Nat) : List (List Int) := (List.range k).flatMap fun i : Nat => if (i : Int) + 2 < p.length ∧ isIntB p a (a + 2 + i) = true then [[(a : Int) + 1, a + 2 + i]] else []
def ivA (p : List Int) (a : Nat) : List (List Int) := (List.range a).flatMap fun x => ivR p x (p.length - 1 - x)
def ivsL (p : List Int) : List (List Int) := ivA p p.length
theorem ivR_succ {p : List Int} {a k : Nat} : ivR p a (k + 1) = ivR p a k ++ if (k : Int) + 2 < p.length ∧ isIntB p a (a + 2 + k) = true then [[(a : Int) + 1, a + 2 + k]] else [] := by
 simp [ivR, List.range_succ]
theorem ivA_succ {p : List Int} {a : Nat} : ivA p (a + 1) = ivA p a ++ ivR p a (p.length - 1 - a) := by
 simp [ivA, List.range_succ]
theorem ivR_len {p : List Int} {a : Nat} : ∀ {k : Nat}, (ivR p a k).length ≤ k
 | 0 => by simp [ivR]
 | k + 1 => by
  have := ivR_len (p := p) (a := a) (k := k)
  rw [ivR_succ, List.length_append]; split <;> simp <;> omega
theorem ivA_len {p : List Int} : ∀ {a : Nat}, (ivA p a).length ≤ a * p.length
 | 0 => by simp [ivA]
 | a + 1 => by
  have h1 := ivA_len (p := p) (a := a)
  have h2 := ivR_len (p := p) (a := a) (k := p.length - 1 - a)
  rw [ivA_succ, List.length_append, Nat.succ_mul]; omega
theorem ivA_b {p : List Int} (hl : p.length ≤ 8) {a : Nat} (ha : a ≤ p.length) : (ivA p a).length ≤ 64 :=
 Nat.le_trans ivA_len (Nat.le_trans (Nat.mul_le_mul ha (Nat.le_refl _)) (Nat.mul_le_mul hl hl))
theorem impl_intervals_c {m0 : Bool} (p : List Int) (hl : p.length ≤ 8) (hb : ∀ x ∈ p, 0 ≤ x ∧ x ≤ 1048576) : Fun Try.prog 123 [(.sl (.lent m0) (List.map (PV.int .i64) (p)))] [(.sl .own (List.map (elI false) (ivsL p)))] := by
 refine fO sg0 [2] Try.func123 ?_
 have cE1 := @impl_isInterval_c
 refine dEa trivial ?_
 all_goals try (refine zlf ?_; repeat' first | exact zso | refine And.intro ?_ ?_ | (refine zim ?_; intro zb hc) | (refine zin ?_; intro zb) | intro j')
 all_goals try refine zbx ?_
 refine v_loopB (fun ms1 S1 => ∃ (a : Nat), S1.e 0 = .p (.sl (.lent m0) (List.map (PV.int .i64) (p))) ∧ OwnL (S1.e 3) S1.h S1.n (elI false) ((ivA p a).length) (ivA p a) ∧ S1.e 8 = .p (.int .i64 (p.length)) ∧ S1.e 9 = .p (.int .i64 (a)) ∧ (a ≤ p.length) ∧ ms1 = p.length - a) ((fun (a : Nat) => p.length - a) (0)) ?_ ⟨0, dIa trivial ?_⟩
 all_goals try (refine zlf ?_; repeat' first | exact zso | refine And.intro ?_ ?_ | (refine zim ?_; intro zb hc) | (refine zin ?_; intro zb) | intro j')
 all_goals try refine zbx ?_
 rintro ms1 S1 ⟨a, h1_0, o1_3, h1_8, h1_9, c1_0, hm1⟩
 obtain ⟨i1_3, h1_3, b1_3, l1_3⟩ := o1_3.out
 have ni1_3 := znds (x := i1_3) (n := S1.n)
 have fL1 := (And.intro h1_0 (And.intro h1_8 (And.intro h1_9 (And.intro h1_3 (And.intro b1_3 ni1_3)))))
 have c1 := ivA_b hl c1_0
 refine dEa fL1 ?_
 all_goals try (refine zlf ?_; repeat' first | exact zso | refine And.intro ?_ ?_ | (refine zim ?_; intro zb hc) | (refine zin ?_; intro zb) | intro j')
 all_goals try refine zbx ?_
 ·refine v_loopB (fun ms2 S2 => ∃ (k : Nat), S2.e 0 = .p (.sl (.lent m0) (List.map (PV.int .i64) (p))) ∧ OwnL (S2.e 3) S2.h S2.n (elI false) ((ivA p a ++ ivR p a k).length) (ivA p a ++ ivR p a k) ∧ S2.e 4 = .p (.int .i64 (a)) ∧ S2.e 5 = .p (.int .i64 ((a + 2 + k))) ∧ S2.e 8 = .p (.int .i64 (p.length)) ∧ S2.e 9 = .p (.int .i64 (a)) ∧ (k ≤ p.length - 1 - a) ∧ (a < p.length) ∧ S1.n ≤ S2.n ∧ ms2 = p.length - 1 - a - k) ((fun (k : Nat) => p.length - 1 - a - k) (0)) ?_ ⟨0, dIa fL1 ?_⟩
  all_goals try (refine zlf ?_; repeat' first | exact zso | refine And.intro ?_ ?_ | (refine zim ?_; intro zb hc) | (refine zin ?_; intro zb) | intro j')
  all_goals try refine zbx ?_
  rintro ms2 S2 ⟨k, h2_0, o2_3, h2_4, h2_5, h2_8, h2_9, c2_0, c2_1, u2_0, hm2⟩
  obtain ⟨i2_3, h2_3, b2_3, l2_3⟩ := o2_3.out
  have ni2_3 := znds (x := i2_3) (n := S2.n)
  have fL2 := (And.intro h2_0 (And.intro h2_4 (And.intro h2_5 (And.intro h2_8 (And.intro h2_9 (And.intro h2_3 (And.intro b2_3 ni2_3)))))))
  have c2 := ivR_len (p := p) (a := a) (k := k)
  refine dEa fL2 ?_
  all_goals try (refine zlf ?_; repeat' first | exact zso | refine And.intro ?_ ?_ | (refine zim ?_; intro zb hc) | (refine zin ?_; intro zb) | intro j')
  all_goals try refine zbx ?_
  ·focus
    refine q_lp_n ((fun (k : Nat) => p.length - 1 - a - k) (k+1)) (dC fL2 ?_) ⟨k+1, dC fL2 ?_⟩
    all_goals try (refine zlf ?_; repeat' first | exact zso | refine And.intro ?_ ?_ | (refine zim ?_; intro zb hc) | (refine zin ?_; intro zb) | intro j')
    all_goals try refine zbx ?_
   all_goals (rw [ivR_succ, if_pos ⟨by omega, hc⟩] <;> simp [elI, Nat.add_assoc])
  ·focus
    refine q_lp_n ((fun (k : Nat) => p.length - 1 - a - k) (k+1)) (dC fL2 ?_) ⟨k+1, dC fL2 ?_⟩
    all_goals try (refine zlf ?_; repeat' first | exact zso | refine And.intro ?_ ?_ | (refine zim ?_; intro zb hc) | (refine zin ?_; intro zb) | intro j')
    all_goals try refine zbx ?_
   all_goals (rw [ivR_succ, if_neg (fun h => by rw [h.2] at hc; cases hc), List.append_nil])
  ·focus
    refine q_lp_n ((fun (k : Nat) => p.length - 1 - a - k) (k+1)) (dC fL2 ?_) ⟨k+1, dC fL2 ?_⟩
    all_goals try (refine zlf ?_; repeat' first | exact zso | refine And.intro ?_ ?_ | (refine zim ?_; intro zb hc) | (refine zin ?_; intro zb) | intro j')
    all_goals try refine zbx ?_
   all_goals (rw [ivR_succ, if_neg (fun h => by omega), List.append_nil])
  ·focus
    refine q_lp_n ((fun (a : Nat) => p.length - a) (a+1)) (dC fL2 ?_) ⟨a+1, dC fL2 ?_⟩
    all_goals try (refine zlf ?_; repeat' first | exact zso | refine And.intro ?_ ?_ | (refine zim ?_; intro zb hc) | (refine zin ?_; intro zb) | intro j')
    all_goals try refine zbx ?_
   all_goals (rw [ivA_succ, show k = p.length - 1 - a by omega])
  ·simp [ivR]
  ·simp [ivR]
 ·obtain rfl : a = p.length := by omega
  rfl
theorem spec_IntervalsOf_c {m0 : Bool} (p : List Int) (hp : isPermB p = true) (hl : p.length ≤ 8) (hb : ∀ x ∈ p, 0 ≤ x ∧ x ≤ 1048576) : Fun Try.prog 97 [(.sl (.lent m0) (List.map (PV.int .i64) (p)))] [(.sl .own (List.map (elI false) (ivsL p)))] := by
 refine fO sg0 [2] Try.func97 ?_
 have cE1 := @spec_IsPerm_c; have cE2 := @spec_l5Run_c
 refine dEa trivial ?_
 all_goals try (refine zlf ?_; repeat' first | exact zso | refine And.intro ?_ ?_ | (refine zim ?_; intro zb hc) | (refine zin ?_; intro zb) | intro j')
 all_goals try refine zbx ?_
 refine v_loopB (fun ms1 S1 => ∃ (a : Nat), S1.e 0 = .p (.sl (.lent m0) (List.map (PV.int .i64) (p))) ∧ OwnL (S1.e 3) S1.h S1.n (elI false) ((ivA p a).length) (ivA p a) ∧ S1.e 4 = .p (.int .i64 (a)) ∧ (a ≤ p.length) ∧ ms1 = p.length - a) ((fun (a : Nat) => p.length - a) (0)) ?_ ⟨0, dIa trivial ?_⟩
 all_goals try (refine zlf ?_; repeat' first | exact zso | refine And.intro ?_ ?_ | (refine zim ?_; intro zb hc) | (refine zin ?_; intro zb) | intro j')
 all_goals try refine zbx ?_
 rintro ms1 S1 ⟨a, h1_0, o1_3, h1_4, c1_0, hm1⟩
 obtain ⟨i1_3, h1_3, b1_3, l1_3⟩ := o1_3.out
 have ni1_3 := znds (x := i1_3) (n := S1.n)
 have fL1 := (And.intro h1_0 (And.intro h1_4 (And.intro h1_3 (And.intro b1_3 ni1_3))))
 have c1 := ivA_b hl c1_0
 refine dEa (And.intro fL1 @hp) ?_
 all_goals try (refine zlf ?_; repeat' first | exact zso | refine And.intro ?_ ?_ | (refine zim ?_; intro zb hc) | (refine zin ?_; intro zb) | intro j')
 all_goals try refine zbx ?_
 ·refine v_loopB (fun ms2 S2 => ∃ (k : Nat), S2.e 0 = .p (.sl (.lent m0) (List.map (PV.int .i64) (p))) ∧ OwnL (S2.e 3) S2.h S2.n (elI false) ((ivA p a ++ ivR p a k).length) (ivA p a ++ ivR p a k) ∧ S2.e 4 = .p (.int .i64 (a)) ∧ S2.e 5 = .p (.int .i64 ((a + 1 + k))) ∧ (k ≤ p.length - 1 - a) ∧ (a < p.length) ∧ S1.n ≤ S2.n ∧ ms2 = p.length - 1 - a - k) ((fun (k : Nat) => p.length - 1 - a - k) (0)) ?_ ⟨0, dIa fL1 ?_⟩
  all_goals try (refine zlf ?_; repeat' first | exact zso | refine And.intro ?_ ?_ | (refine zim ?_; intro zb hc) | (refine zin ?_; intro zb) | intro j')
  all_goals try refine zbx ?_
  rintro ms2 S2 ⟨k, h2_0, o2_3, h2_4, h2_5, c2_0, c2_1, u2_0, hm2⟩
  obtain ⟨i2_3, h2_3, b2_3, l2_3⟩ := o2_3.out
  have ni2_3 := znds (x := i2_3) (n := S2.n)
  have fL2 := (And.intro h2_0 (And.intro h2_4 (And.intro h2_5 (And.intro h2_3 (And.intro b2_3 ni2_3)))))
  have c2 := ivR_len (p := p) (a := a) (k := k)
  have e5 : (a : Int) + 1 + k + 1 = a + 2 + k := by omega
  refine dEa (And.intro fL2 @e5) ?_
  all_goals try (refine zlf ?_; repeat' first | exact zso | refine And.intro ?_ ?_ | (refine zim ?_; intro zb hc) | (refine zin ?_; intro zb) | intro j')
  all_goals try refine zbx ?_
  ·focus
    refine q_lp_n ((fun (k : Nat) => p.length - 1 - a - k) (k+1)) (dC fL2 ?_) ⟨k+1, dC fL2 ?_⟩
    all_goals try (refine zlf ?_; repeat' first | exact zso | refine And.intro ?_ ?_ | (refine zim ?_; intro zb hc) | (refine zin ?_; intro zb) | intro j')
    all_goals try refine zbx ?_
   all_goals (rw [ivR_succ, if_pos ⟨by omega, hc⟩] <;> simp [elI, Nat.add_assoc])
  ·focus
    refine q_lp_n ((fun (k : Nat) => p.length - 1 - a - k) (k+1)) (dC fL2 ?_) ⟨k+1, dC fL2 ?_⟩
    all_goals try (refine zlf ?_; repeat' first | exact zso | refine And.intro ?_ ?_ | (refine zim ?_; intro zb hc) | (refine zin ?_; intro zb) | intro j')
    all_goals try refine zbx ?_
   all_goals (rw [ivR_succ, if_neg (fun h => by rw [h.2] at hc; cases hc), List.append_nil])
  ·focus
    refine q_lp_n ((fun (k : Nat) => p.length - 1 - a - k) (k+1)) (dC fL2 ?_) ⟨k+1, dC fL2 ?_⟩
    all_goals try (refine zlf ?_; repeat' first | exact zso | refine And.intro ?_ ?_ | (refine zim ?_; intro zb hc) | (refine zin ?_; intro zb) | intro j')
    all_goals try refine zbx ?_
   all_goals (rw [ivR_succ, if_neg (fun h => by omega), List.append_nil])
  ·focus
    refine q_lp_n ((fun (a : Nat) => p.length - a) (a+1)) (dC fL2 ?_) ⟨a+1, dC fL2 ?_⟩
    all_goals try (refine zlf ?_; repeat' first | exact zso | refine And.intro ?_ ?_ | (refine zim ?_; intro zb hc) | (refine zin ?_; intro zb) | intro j')
    all_goals try refine zbx ?_
   all_goals (rw [ivA_succ, show k = p.length - 1 - a by omega])
  ·simp [ivR]
  ·simp [ivR]
 ·obtain rfl : a = p.length := by omega
  rfl
def isSimB (p : List Int) : Bool := decide (0 < p.length) && decide ((ivsL p).length = 0)
theorem isSim_t {p : List Int} (h : 0 < (p.length : Int)) : decide (((ivsL p).length : Int) = 0) = isSimB p := by
 rw [isSimB, decide_eq_true (by omega : 0 < p.length), Bool.true_and]; congr 1; rw [eq_iff_iff]; omega
theorem isSim_f {p : List Int} (h : (p.length : Int) ≤ 0) : false = isSimB p := by
 rw [isSimB, decide_eq_false (by omega), Bool.false_and]
theorem perm_bd {p : List Int} (h : isPermB p = true) : ∀ x ∈ p, 0 ≤ x ∧ x ≤ 1048576 := fun x hx => by
 simp only [isPermB, Bool.and_eq_true, decide_eq_true_eq] at h
 obtain ⟨i, hi, rfl⟩ := List.getElem_of_mem hx
 have := perm_at h.2 hi
 rw [List.getD_eq_getElem?_getD, List.getElem?_eq_getElem hi] at this
 simp only [Option.getD_some] at this; omega
theorem impl_isSimple_c {m0 : Bool} (p : List Int) (hl : p.length ≤ 8) (hb : ∀ x ∈ p, 0 ≤ x ∧ x ≤ 1048576) : Fun Try.prog 101 [(.sl (.lent m0) (List.map (PV.int .i64) (p)))] [(.bool (isSimB p))] := by
 refine fO sg0 [2] Try.func101 ?_
 have cE1 := @impl_intervals_c
 refine dEa trivial ?_
 all_goals try (refine zlf ?_; repeat' first | exact zso | refine And.intro ?_ ?_ | (refine zim ?_; intro zb hc) | (refine zin ?_; intro zb) | intro j')
 all_goals try refine zbx ?_
 ·exact isSim_t hc
 ·exact isSim_f hc
theorem spec_IsSimple_c {m0 : Bool} (p : List Int) (hl : p.length ≤ 1048576) : Fun Try.prog 51 [(.sl (.lent m0) (List.map (PV.int .i64) (p)))] [(.bool ((isPermB p && isSimB p)))] := by
 by_cases hp : isPermB p = true
 ·have hl8 := (isPerm_facts hp).1
  have hb := perm_bd hp
  have hq := (isPerm_facts hp).2
  refine fO sg0 [2] Try.func51 ?_
  have cE1 := @spec_IsPerm_c; have cE2 := @spec_IntervalsOf_c
  refine dEa (And.intro @hp @Bool.true_and) ?_
  all_goals try (refine zlf ?_; repeat' first | exact zso | refine And.intro ?_ ?_ | (refine zim ?_; intro zb hc) | (refine zin ?_; intro zb) | intro j')
  all_goals try refine zbx ?_
  ·exact isSim_t hc
  ·exact isSim_f hc
 ·rw [Bool.not_eq_true] at hp
  refine fO sg0 [2] Try.func51 ?_
  have cE1 := @spec_IsPerm_c; have cE2 := @spec_IntervalsOf_c
  refine dEa (And.intro @hp @Bool.false_and) ?_
  all_goals try (refine zlf ?_; repeat' first | exact zso | refine And.intro ?_ ?_ | (refine zim ?_; intro zb hc) | (refine zin ?_; intro zb) | intro j')
  all_goals try refine zbx ?_
end Go.Gl
