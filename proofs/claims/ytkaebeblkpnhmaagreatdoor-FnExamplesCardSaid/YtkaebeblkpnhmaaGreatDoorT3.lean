/-
  What the functions compute, and what the law asks of it: texts joined. Conditions: those that each lemma names.
-/
import Derived.Test.YtkaebeblkpnhmaaGreatDoorT2
import Derived.Test.YtkaebeblkpnhmaaGreatDoorT1
import Derived.Test.YtkaebeblkpnhmaaGreatDoorGlC
set_option linter.unusedSimpArgs false
set_option linter.unusedVariables false
set_option maxRecDepth 20000
set_option linter.unusedSectionVars false
namespace Go.Gl
open Go Go.Proofs
variable [Amb]
/-- The parts of a sum, the first k places looked at: the parts, where the next begins, the greatest number. -/
def spG (g : List Int → Nat → List Int) (p : List Int) : Nat → List (List Int) × Nat × Int
 | 0 => ([], 0, 0)
 | k + 1 => if max (spG g p k).2.2 (p.getD k 0) = k + 1 then ((spG g p k).1 ++ [g (segL p (spG g p k).2.1 (k + 1)) (spG g p k).2.1], k + 1, max (spG g p k).2.2 (p.getD k 0))
  else ((spG g p k).1, (spG g p k).2.1, max (spG g p k).2.2 (p.getD k 0))
theorem spG_from {g : List Int → Nat → List Int} {p : List Int} : ∀ {k : Nat}, (spG g p k).2.1 ≤ k ∧ (spG g p k).1.length ≤ k
 | 0 => by simp [spG]
 | k + 1 => by have := spG_from (g := g) (p := p) (k := k); rw [spG]; split <;> simp <;> omega
theorem spG_same {g g' : List Int → Nat → List Int} {p : List Int} : ∀ {k : Nat}, (spG g p k).2 = (spG g' p k).2 ∧ (spG g p k).1.length = (spG g' p k).1.length
 | 0 => ⟨rfl, rfl⟩
 | k + 1 => by
  have := spG_same (g := g) (g' := g') (p := p) (k := k)
  rw [spG, spG, this.1]; split <;> simp [this.2]
def shI (s : List Int) (f : Nat) : List Int := s.map fun x => x + -(f : Int)
def ptI (s : List Int) (_ : Nat) : List Int := patL s
theorem impl_raised_c {m0 : Bool} (l : List Int) (d : Int) (hl : l.length ≤ 1048576) (hb : ∀ x ∈ l, -1000000 ≤ x ∧ x ≤ 1000000) (hd : -1000000 ≤ d ∧ d ≤ 1000000) : Fun Tryz.prog 111 [(.sl (.lent m0) (List.map (PV.int .i64) (l))), (.int .i64 (d))] [(.sl .own (List.map (PV.int .i64) (l.map (fun x => x + d))))] := by
 refine fO sg0 [4] Tryz.func111 ?_
 refine dEa trivial ?_
 all_goals try (refine zlf ?_; repeat' first | exact zso | refine And.intro ?_ ?_ | (refine zim ?_; intro zb hc) | (refine zin ?_; intro zb) | intro j')
 all_goals try refine zbx ?_
 refine v_loopB (fun ms1 S1 => ∃ (k : Nat), S1.e 1 = .p (.int .i64 (d)) ∧ S1.e 9 = .p (.sl (.lent m0) (List.map (PV.int .i64) (l))) ∧ S1.e 10 = .p (.int .i64 (l.length)) ∧ OwnL (S1.e 5) S1.h S1.n (PV.int .i64) (((l.take k).map (fun x => x + d)).length) ((l.take k).map (fun x => x + d)) ∧ S1.e 11 = .p (.int .i64 (k)) ∧ (k ≤ l.length) ∧ ms1 = l.length - k) ((fun (k : Nat) => l.length - k) (0)) ?_ ⟨0, dI trivial ?_⟩
 all_goals try (refine zlf ?_; repeat' first | exact zso | refine And.intro ?_ ?_ | (refine zim ?_; intro zb hc) | (refine zin ?_; intro zb) | intro j')
 all_goals try refine zbx ?_
 rintro ms1 S1 ⟨k, h1_1, h1_9, h1_10, o1_5, h1_11, c1_0, hm1⟩
 obtain ⟨i1_5, h1_5, b1_5, l1_5⟩ := o1_5.out
 have ni1_5 := znds (x := i1_5) (n := S1.n)
 have fL1 := (And.intro h1_1 (And.intro h1_9 (And.intro h1_10 (And.intro h1_11 (And.intro h1_5 (And.intro b1_5 ni1_5))))))
 have b1 : k < l.length → -1000000 ≤ l.getD k 0 ∧ l.getD k 0 ≤ 1000000 := fun h => hb _ (getD_mem h)
 refine dE fL1 ?_
 all_goals try (refine zlf ?_; repeat' first | exact zso | refine And.intro ?_ ?_ | (refine zim ?_; intro zb hc) | (refine zin ?_; intro zb) | intro j')
 all_goals try refine zbx ?_
 all_goals try have b2 := b1 (by omega)
 all_goals try exact zaut
 ·focus
   refine q_lp_n ((fun (k : Nat) => l.length - k) (k+1)) (dC fL1 ?_) ⟨k+1, dC fL1 ?_⟩
   all_goals try (refine zlf ?_; repeat' first | exact zso | refine And.intro ?_ ?_ | (refine zim ?_; intro zb hc) | (refine zin ?_; intro zb) | intro j')
   all_goals try refine zbx ?_
  rw [take_getD (d := 0) (by omega), List.map_append]; rfl
 ·rw [List.take_of_length_le (by omega)]
theorem seg_b {p : List Int} {a b : Nat} (hb : ∀ x ∈ p, 0 ≤ x ∧ x ≤ 8) : ∀ x ∈ segL p a b, -1000000 ≤ x ∧ x ≤ 1000000 := fun x hx => by have := hb x (segL_mem hx); omega
theorem perm_b8 {p : List Int} (h : isPermB p = true) : ∀ x ∈ p, 0 ≤ x ∧ x ≤ 8 := fun x hx => by
 simp only [isPermB, Bool.and_eq_true, decide_eq_true_eq] at h
 have := (permB_iff.1 h.2).1 x hx; omega
theorem spG_b {g : List Int → Nat → List Int} {p : List Int} (hb : ∀ x ∈ p, 0 ≤ x ∧ x ≤ 8) : ∀ {k : Nat}, k ≤ p.length → 0 ≤ (spG g p k).2.2 ∧ (spG g p k).2.2 ≤ 8
 | 0, _ => by simp [spG]
 | k + 1, h => by
  have h1 := spG_b (g := g) hb (k := k) (by omega)
  have h2 := hb _ (getD_mem (d := 0) (show k < p.length by omega))
  rw [spG]; split <;> simp only <;> omega
theorem impl_sumParts_c {m0 : Bool} (p : List Int) (hl : p.length ≤ 8) (hb : ∀ x ∈ p, 0 ≤ x ∧ x ≤ 8) : Fun Tryz.prog 74 [(.sl (.lent m0) (List.map (PV.int .i64) (p)))] [(.sl .own (List.map (elI false) ((spG shI p p.length).1)))] := by
 refine fO sg0 [2] Tryz.func74 ?_
 have cE1 := @impl_raised_c
 refine dEa trivial ?_
 all_goals try (refine zlf ?_; repeat' first | exact zso | refine And.intro ?_ ?_ | (refine zim ?_; intro zb hc) | (refine zin ?_; intro zb) | intro j')
 all_goals try refine zbx ?_
 refine v_loopB (fun ms1 S1 => ∃ (k : Nat), S1.e 9 = .p (.sl (.lent m0) (List.map (PV.int .i64) (p))) ∧ S1.e 10 = .p (.int .i64 (p.length)) ∧ S1.e 0 = .p (.sl (.lent m0) (List.map (PV.int .i64) (p))) ∧ OwnL (S1.e 3) S1.h S1.n (elI false) (((spG shI p k).1).length) ((spG shI p k).1) ∧ S1.e 4 = .p (.int .i64 ((spG shI p k).2.1)) ∧ S1.e 5 = .p (.int .i64 ((spG shI p k).2.2)) ∧ S1.e 11 = .p (.int .i64 (k)) ∧ (k ≤ p.length) ∧ ms1 = p.length - k) ((fun (k : Nat) => p.length - k) (0)) ?_ ⟨0, dC trivial ?_⟩
 all_goals try (refine zlf ?_; repeat' first | exact zso | refine And.intro ?_ ?_ | (refine zim ?_; intro zb hc) | (refine zin ?_; intro zb) | intro j')
 all_goals try refine zbx ?_
 rintro ms1 S1 ⟨k, h1_9, h1_10, h1_0, o1_3, h1_4, h1_5, h1_11, c1_0, hm1⟩
 obtain ⟨i1_3, h1_3, b1_3, l1_3⟩ := o1_3.out
 have ni1_3 := znds (x := i1_3) (n := S1.n)
 have fL1 := (And.intro h1_9 (And.intro h1_10 (And.intro h1_0 (And.intro h1_4 (And.intro h1_5 (And.intro h1_11 (And.intro h1_3 (And.intro b1_3 ni1_3))))))))
 have b1 := spG_from (g := shI) (p := p) (k := k)
 have b2 := spG_b (g := shI) hb c1_0
 have b3 : List.drop (spG shI p k).2.1 (List.take (k + 1) p) = segL p (spG shI p k).2.1 (k + 1) := rfl
 by_cases hk : k < p.length
 ·have b4 := hb _ (getD_mem (d := 0) hk)
  have b5 : (segL p (spG shI p k).2.1 (k + 1)).length = k + 1 - (spG shI p k).2.1 := segL_len (by omega)
  have b6 := seg_b (a := (spG shI p k).2.1) (b := k + 1) hb
  have b7 : ((k : Int) + 1).toNat = k + 1 := by omega
  refine dEa (And.intro fL1 (And.intro @b3 @b7)) ?_
  all_goals try (refine zlf ?_; repeat' first | exact zso | refine And.intro ?_ ?_ | (refine zim ?_; intro zb hc) | (refine zin ?_; intro zb) | intro j')
  all_goals try refine zbx ?_
  ·have x1 : spG shI p (k + 1) = _ := if_pos hc
   focus
    refine q_lp_n ((fun (k : Nat) => p.length - k) (k+1)) (dC fL1 ?_) ⟨k+1, dC fL1 ?_⟩
    all_goals try (refine zlf ?_; repeat' first | exact zso | refine And.intro ?_ ?_ | (refine zim ?_; intro zb hc) | (refine zin ?_; intro zb) | intro j')
    all_goals try refine zbx ?_
   all_goals (rw [x1]; try simp [shI, ptI])
  ·have x1 : spG shI p (k + 1) = _ := if_neg hc
   focus
    refine q_lp_n ((fun (k : Nat) => p.length - k) (k+1)) (dC fL1 ?_) ⟨k+1, dC fL1 ?_⟩
    all_goals try (refine zlf ?_; repeat' first | exact zso | refine And.intro ?_ ?_ | (refine zim ?_; intro zb hc) | (refine zin ?_; intro zb) | intro j')
    all_goals try refine zbx ?_
   all_goals (rw [x1])
 ·refine dEa fL1 ?_
  all_goals try (refine zlf ?_; repeat' first | exact zso | refine And.intro ?_ ?_ | (refine zim ?_; intro zb hc) | (refine zin ?_; intro zb) | intro j')
  all_goals try refine zbx ?_
  obtain rfl : k = p.length := by omega
  rfl
theorem spec_SumParts_c {m0 : Bool} (p : List Int) (hp : isPermB p = true) : Fun Tryz.prog 58 [(.sl (.lent m0) (List.map (PV.int .i64) (p)))] [(.sl .own (List.map (elI false) ((spG ptI p p.length).1)))] := by
 refine fO sg0 [2] Tryz.func58 ?_
 have cE1 := @spec_l1Max_c; have cE2 := @spec_IsPerm_c; have cE3 := @spec_l2Pattern_c
 have hl := (isPerm_facts hp).1
 have hb := perm_b8 hp
 refine dEa @hp ?_
 all_goals try (refine zlf ?_; repeat' first | exact zso | refine And.intro ?_ ?_ | (refine zim ?_; intro zb hc) | (refine zin ?_; intro zb) | intro j')
 all_goals try refine zbx ?_
 refine v_loopB (fun ms1 S1 => ∃ (k : Nat), S1.e 0 = .p (.sl (.lent m0) (List.map (PV.int .i64) (p))) ∧ OwnL (S1.e 3) S1.h S1.n (elI false) (((spG ptI p k).1).length) ((spG ptI p k).1) ∧ S1.e 4 = .p (.int .i64 ((spG ptI p k).2.1)) ∧ S1.e 5 = .p (.int .i64 ((spG ptI p k).2.2)) ∧ S1.e 6 = .p (.int .i64 (k)) ∧ (k ≤ p.length) ∧ ms1 = p.length - k) ((fun (k : Nat) => p.length - k) (0)) ?_ ⟨0, dC trivial ?_⟩
 all_goals try (refine zlf ?_; repeat' first | exact zso | refine And.intro ?_ ?_ | (refine zim ?_; intro zb hc) | (refine zin ?_; intro zb) | intro j')
 all_goals try refine zbx ?_
 rintro ms1 S1 ⟨k, h1_0, o1_3, h1_4, h1_5, h1_6, c1_0, hm1⟩
 obtain ⟨i1_3, h1_3, b1_3, l1_3⟩ := o1_3.out
 have ni1_3 := znds (x := i1_3) (n := S1.n)
 have fL1 := (And.intro h1_0 (And.intro h1_4 (And.intro h1_5 (And.intro h1_6 (And.intro h1_3 (And.intro b1_3 ni1_3))))))
 have b1 := spG_from (g := ptI) (p := p) (k := k)
 have b2 := spG_b (g := ptI) hb c1_0
 have b3 : List.drop (spG ptI p k).2.1 (List.take (k + 1) p) = segL p (spG ptI p k).2.1 (k + 1) := rfl
 by_cases hk : k < p.length
 ·have b4 := hb _ (getD_mem (d := 0) hk)
  have b5 : (segL p (spG ptI p k).2.1 (k + 1)).length = k + 1 - (spG ptI p k).2.1 := segL_len (by omega)
  have b7 : ((k : Int) + 1).toNat = k + 1 := by omega
  refine dEa (And.intro fL1 (And.intro @b3 @b7)) ?_
  all_goals try (refine zlf ?_; repeat' first | exact zso | refine And.intro ?_ ?_ | (refine zim ?_; intro zb hc) | (refine zin ?_; intro zb) | intro j')
  all_goals try refine zbx ?_
  ·have x1 : spG ptI p (k + 1) = _ := if_pos hc
   focus
    refine q_lp_n ((fun (k : Nat) => p.length - k) (k+1)) (dC fL1 ?_) ⟨k+1, dC fL1 ?_⟩
    all_goals try (refine zlf ?_; repeat' first | exact zso | refine And.intro ?_ ?_ | (refine zim ?_; intro zb hc) | (refine zin ?_; intro zb) | intro j')
    all_goals try refine zbx ?_
   all_goals (rw [x1]; try simp [shI, ptI])
  ·have x1 : spG ptI p (k + 1) = _ := if_neg hc
   focus
    refine q_lp_n ((fun (k : Nat) => p.length - k) (k+1)) (dC fL1 ?_) ⟨k+1, dC fL1 ?_⟩
    all_goals try (refine zlf ?_; repeat' first | exact zso | refine And.intro ?_ ?_ | (refine zim ?_; intro zb hc) | (refine zin ?_; intro zb) | intro j')
    all_goals try refine zbx ?_
   all_goals (rw [x1])
 ·refine dEa fL1 ?_
  all_goals try (refine zlf ?_; repeat' first | exact zso | refine And.intro ?_ ?_ | (refine zim ?_; intro zb hc) | (refine zin ?_; intro zb) | intro j')
  all_goals try refine zbx ?_
  obtain rfl : k = p.length := by omega
  rfl
def partN (p : List Int) : Nat := (spG shI p p.length).1.length
theorem partN_pt {p : List Int} : (spG ptI p p.length).1.length = partN p := (spG_same (g := ptI) (g' := shI)).2
def wholeN (L : List (List Int)) (n : Nat) : Int := ((classL L n).filter fun p => decide (partN p = 1)).length
def wholesB (L : List (List Int)) (n : Int) : List Int := if basisB L = true ∧ 0 ≤ n ∧ n ≤ 6 then (List.range (n.toNat + 1)).map (wholeN L) else []
theorem cnt_succ {α : Type} {l : List α} {d : α} {f : α → Bool} {j : Nat} (h : j < l.length) : (((l.take (j + 1)).filter f).length : Int) = ((l.take j).filter f).length + bitI (f (l.getD j d)) := by
 rw [take_getD (d := d) h, List.filter_append, List.length_append, List.filter_cons]
 cases f (l.getD j d) <;> simp [bitI]
theorem cnt_le {α : Type} {l : List α} {f : α → Bool} {j : Nat} : ((l.take j).filter f).length ≤ l.length := Nat.le_trans (List.length_filter_le _ _) (by rw [List.length_take]; omega)
theorem impl_WholeCounts_c {e0 m0 : Bool} (L : List (List Int)) (n : Int) (hL : L.length ≤ 1048576) (hl : ∀ l ∈ L, l.length ≤ 1048576) : Fun Tryz.prog 36 [(.sl (.lent m0) (List.map (elI e0) (L))), (.int .i64 (n))] [(.sl .own (List.map (PV.int .i64) (wholesB L n)))] := by
 by_cases hc0 : basisB L = true ∧ 0 ≤ n ∧ n ≤ 6
 ·have e1 : wholesB L n = (List.range (n.toNat + 1)).map (wholeN L) := if_pos hc0
  obtain ⟨m, hm⟩ : ∃ m : Nat, m = n.toNat + 1 := ⟨_, rfl⟩
  rw [← hm] at e1
  have hb := basis_row hc0.1
  have e3 := hc0.1
  rw [e1]
  refine fO sg0 [4] Tryz.func36 ?_
  have cE1 := @impl_isSix_c; have cE2 := @impl_IsBasis_c; have cE3 := @impl_class_c; have cE4 := @impl_sumParts_c
  refine dEa @e3 ?_
  all_goals try (refine zlf ?_; repeat' first | exact zso | refine And.intro ?_ ?_ | (refine zim ?_; intro zb hc; repeat (have zc := zb.1; replace zb := zb.2)) | (refine zin ?_; intro zb) | intro j')
  all_goals try refine zbx ?_
  refine v_loopB (fun ms1 S1 => ∃ (k : Nat), S1.e 0 = .p (.sl (.lent m0) (List.map (elI e0) (L))) ∧ OwnL (S1.e 5) S1.h S1.n (PV.int .i64) (((List.range k).map (wholeN L)).length) ((List.range k).map (wholeN L)) ∧ S1.e 20 = .p (.int .i64 ((n + 1))) ∧ S1.e 21 = .p (.int .i64 (k)) ∧ ((k : Int) ≤ n + 1) ∧ ms1 = n.toNat + 1 - k) ((fun (k : Nat) => n.toNat + 1 - k) (0)) ?_ ⟨0, dC trivial ?_⟩
  all_goals try (refine zlf ?_; repeat' first | exact zso | refine And.intro ?_ ?_ | (refine zim ?_; intro zb hc; repeat (have zc := zb.1; replace zb := zb.2)) | (refine zin ?_; intro zb) | intro j')
  all_goals try refine zbx ?_
  rintro ms1 S1 ⟨k, h1_0, o1_5, h1_20, h1_21, c1_0, hm1⟩
  obtain ⟨i1_5, h1_5, b1_5, l1_5⟩ := o1_5.out
  have ni1_5 := znds (x := i1_5) (n := S1.n)
  have fL1 := (And.intro h1_0 (And.intro h1_20 (And.intro h1_21 (And.intro h1_5 (And.intro b1_5 ni1_5)))))
  by_cases hk : (k : Int) < n + 1
  ·have b1 := class_len (L := L) (n := k) (by omega)
   refine dEa fL1 ?_
   all_goals try (refine zlf ?_; repeat' first | exact zso | refine And.intro ?_ ?_ | (refine zim ?_; intro zb hc; repeat (have zc := zb.1; replace zb := zb.2)) | (refine zin ?_; intro zb) | intro j')
   all_goals try refine zbx ?_
   ·refine v_loopB (fun ms2 S2 => ∃ (j : Nat), S2.e 0 = .p (.sl (.lent m0) (List.map (elI e0) (L))) ∧ OwnL (S2.e 26) S2.h S2.n (elI false) ((classL L k).length) (classL L k) ∧ S2.e 27 = .p (.int .i64 ((classL L k).length)) ∧ S2.e 28 = .p (.int .i64 (j)) ∧ OwnL (S2.e 5) S2.h S2.n (PV.int .i64) (((List.range k).map (wholeN L)).length) ((List.range k).map (wholeN L)) ∧ S2.e 7 = .p (.int .i64 ((((classL L k).take j).filter (fun p => decide (partN p = 1))).length)) ∧ S2.e 20 = .p (.int .i64 ((n + 1))) ∧ S2.e 21 = .p (.int .i64 (k)) ∧ (j ≤ (classL L k).length) ∧ NId (S2.e 5) (S2.e 26) ∧ S1.n ≤ S2.n ∧ ms2 = (classL L k).length - j) ((fun (j : Nat) => (classL L k).length - j) (0)) ?_ ⟨0, dC fL1 ?_⟩
    all_goals try (refine zlf ?_; repeat' first | exact zso | refine And.intro ?_ ?_ | (refine zim ?_; intro zb hc; repeat (have zc := zb.1; replace zb := zb.2)) | (refine zin ?_; intro zb) | intro j')
    all_goals try refine zbx ?_
    rintro ms2 S2 ⟨j, h2_0, o2_26, h2_27, h2_28, o2_5, h2_7, h2_20, h2_21, c2_0, u2_0, u2_1, hm2⟩
    obtain ⟨i2_26, h2_26, b2_26, l2_26⟩ := o2_26.out
    obtain ⟨i2_5, h2_5, b2_5, l2_5⟩ := o2_5.out
    have k2_0 := (u2_0).out h2_5 h2_26
    have ni2_26 := znds (x := i2_26) (n := S2.n)
    have ni2_5 := znds (x := i2_5) (n := S2.n)
    have di2_26i2_5 := zdne (x := i2_26) (y := i2_5)
    have fL2 := (And.intro h2_0 (And.intro h2_27 (And.intro h2_28 (And.intro h2_7 (And.intro h2_20 (And.intro h2_21 (And.intro h2_26 (And.intro b2_26 (And.intro h2_5 (And.intro b2_5 (And.intro ni2_26 (And.intro ni2_5 di2_26i2_5))))))))))))
    have b2 := cnt_le (l := classL L k) (f := fun p => decide (partN p = 1)) (j := j)
    have b0 : (List.map (wholeN L) (List.range k)).length = k := by simp
    by_cases hj : j < (classL L k).length
    ·have b3 := class_perm (by omega) (getD_mem (d := []) hj)
     have b4 := perm_b8 b3.1
     have b5 := cnt_succ (f := fun p => decide (partN p = 1)) (d := []) hj
     have b6 : (spG shI ((classL L k).getD j []) ((classL L k).getD j []).length).1.length = partN ((classL L k).getD j []) := rfl
     refine dEa (And.intro fL2 @b6) ?_
     all_goals try (refine zlf ?_; repeat' first | exact zso | refine And.intro ?_ ?_ | (refine zim ?_; intro zb hc; repeat (have zc := zb.1; replace zb := zb.2)) | (refine zin ?_; intro zb) | intro j')
     all_goals try refine zbx ?_
     ·focus
       refine q_lp_n ((fun (j : Nat) => (classL L k).length - j) (j+1)) (dC fL2 ?_) ⟨j+1, dC fL2 ?_⟩
       all_goals try (refine zlf ?_; repeat' first | exact zso | refine And.intro ?_ ?_ | (refine zim ?_; intro zb hc; repeat (have zc := zb.1; replace zb := zb.2)) | (refine zin ?_; intro zb) | intro j')
       all_goals try refine zbx ?_
      rw [b5, decide_eq_true (by omega)]; rfl
     ·focus
       refine q_lp_n ((fun (j : Nat) => (classL L k).length - j) (j+1)) (dC fL2 ?_) ⟨j+1, dC fL2 ?_⟩
       all_goals try (refine zlf ?_; repeat' first | exact zso | refine And.intro ?_ ?_ | (refine zim ?_; intro zb hc; repeat (have zc := zb.1; replace zb := zb.2)) | (refine zin ?_; intro zb) | intro j')
       all_goals try refine zbx ?_
      rw [b5, decide_eq_false (by omega)]; simp [bitI]
    ·refine dEa fL2 ?_
     all_goals try (refine zlf ?_; repeat' first | exact zso | refine And.intro ?_ ?_ | (refine zim ?_; intro zb hc; repeat (have zc := zb.1; replace zb := zb.2)) | (refine zin ?_; intro zb) | intro j')
     all_goals try refine zbx ?_
     ·focus
       refine q_lp_n ((fun (k : Nat) => n.toNat + 1 - k) (k+1)) (dC fL2 ?_) ⟨k+1, dC fL2 ?_⟩
       all_goals try (refine zlf ?_; repeat' first | exact zso | refine And.intro ?_ ?_ | (refine zim ?_; intro zb hc; repeat (have zc := zb.1; replace zb := zb.2)) | (refine zin ?_; intro zb) | intro j')
       all_goals try refine zbx ?_
      all_goals (obtain rfl : j = (classL L k).length := by omega)
      all_goals first | (rw [List.range_succ, List.map_append, List.take_length]; rfl) | (simp; done) | (simp; rfl)
  ·skip
   refine dEa fL1 ?_
   all_goals try (refine zlf ?_; repeat' first | exact zso | refine And.intro ?_ ?_ | (refine zim ?_; intro zb hc; repeat (have zc := zb.1; replace zb := zb.2)) | (refine zin ?_; intro zb) | intro j')
   all_goals try refine zbx ?_
   obtain rfl : k = m := by omega
   all_goals (rw [List.take_of_length_le (by simp)])
 ·have e1 : wholesB L n = [] := if_neg hc0
  rw [e1]
  refine fO sg0 [4] Tryz.func36 ?_
  have cE1 := @impl_isSix_c; have cE2 := @impl_IsBasis_c; have cE3 := @impl_class_c; have cE4 := @impl_sumParts_c
  refine dEa trivial ?_
  all_goals try (refine zlf ?_; repeat' first | exact zso | refine And.intro ?_ ?_ | (refine zim ?_; intro zb hc; repeat (have zc := zb.1; replace zb := zb.2)) | (refine zin ?_; intro zb) | intro j')
  all_goals try refine zbx ?_
  exact absurd ⟨by assumption, by assumption⟩ hc0
theorem spec_WholeCounts_c {e0 m0 : Bool} (L : List (List Int)) (n : Int) (hL : L.length ≤ 1048576) (hl : ∀ l ∈ L, l.length ≤ 1048576) : Fun Tryz.prog 26 [(.sl (.lent m0) (List.map (elI e0) (L))), (.int .i64 (n))] [(.sl .own (List.map (PV.int .i64) (wholesB L n)))] := by
 by_cases hc0 : basisB L = true ∧ 0 ≤ n ∧ n ≤ 6
 ·have e1 : wholesB L n = (List.range (n.toNat + 1)).map (wholeN L) := if_pos hc0
  obtain ⟨m, hm⟩ : ∃ m : Nat, m = n.toNat + 1 := ⟨_, rfl⟩
  rw [← hm] at e1
  have hb := basis_row hc0.1
  have e3 := hc0.1
  rw [e1]
  refine fO sg0 [4] Tryz.func26 ?_
  have cE1 := @spec_l1In_c; have cE2 := @spec_l1Bit_c; have cE3 := @spec_IsBasis_c; have cE4 := @spec_ClassOf_c; have cE5 := @spec_SumParts_c
  refine dEa @e3 ?_
  all_goals try (refine zlf ?_; repeat' first | exact zso | refine And.intro ?_ ?_ | (refine zim ?_; intro zb hc; repeat (have zc := zb.1; replace zb := zb.2)) | (refine zin ?_; intro zb) | intro j')
  all_goals try refine zbx ?_
  refine v_loopB (fun ms1 S1 => ∃ (k : Nat), S1.e 0 = .p (.sl (.lent m0) (List.map (elI e0) (L))) ∧ S1.e 1 = .p (.int .i64 (n)) ∧ OwnL (S1.e 5) S1.h S1.n (PV.int .i64) (((List.range k).map (wholeN L)).length) ((List.range k).map (wholeN L)) ∧ S1.e 6 = .p (.int .i64 (k)) ∧ ((k : Int) ≤ n + 1) ∧ ms1 = n.toNat + 1 - k) ((fun (k : Nat) => n.toNat + 1 - k) (0)) ?_ ⟨0, dC trivial ?_⟩
  all_goals try (refine zlf ?_; repeat' first | exact zso | refine And.intro ?_ ?_ | (refine zim ?_; intro zb hc; repeat (have zc := zb.1; replace zb := zb.2)) | (refine zin ?_; intro zb) | intro j')
  all_goals try refine zbx ?_
  rintro ms1 S1 ⟨k, h1_0, h1_1, o1_5, h1_6, c1_0, hm1⟩
  obtain ⟨i1_5, h1_5, b1_5, l1_5⟩ := o1_5.out
  have ni1_5 := znds (x := i1_5) (n := S1.n)
  have fL1 := (And.intro h1_0 (And.intro h1_1 (And.intro h1_6 (And.intro h1_5 (And.intro b1_5 ni1_5)))))
  by_cases hk : (k : Int) < n + 1
  ·have b1 := class_len (L := L) (n := k) (by omega)
   have e2 : classB L k = classL L k := by rw [classB, if_pos ⟨e3, by omega, by omega⟩, Int.toNat_natCast]
   refine dEa (And.intro fL1 @e2) ?_
   all_goals try (refine zlf ?_; repeat' first | exact zso | refine And.intro ?_ ?_ | (refine zim ?_; intro zb hc; repeat (have zc := zb.1; replace zb := zb.2)) | (refine zin ?_; intro zb) | intro j')
   all_goals try refine zbx ?_
   ·refine v_loopB (fun ms2 S2 => ∃ (j : Nat), S2.e 0 = .p (.sl (.lent m0) (List.map (elI e0) (L))) ∧ S2.e 1 = .p (.int .i64 (n)) ∧ OwnL (S2.e 8) S2.h S2.n (elI false) ((classL L k).length) (classL L k) ∧ S2.e 9 = .p (.int .i64 (j)) ∧ OwnL (S2.e 5) S2.h S2.n (PV.int .i64) (((List.range k).map (wholeN L)).length) ((List.range k).map (wholeN L)) ∧ S2.e 7 = .p (.int .i64 ((((classL L k).take j).filter (fun p => decide (partN p = 1))).length)) ∧ S2.e 6 = .p (.int .i64 (k)) ∧ (j ≤ (classL L k).length) ∧ NId (S2.e 5) (S2.e 8) ∧ S1.n ≤ S2.n ∧ ms2 = (classL L k).length - j) ((fun (j : Nat) => (classL L k).length - j) (0)) ?_ ⟨0, dC fL1 ?_⟩
    all_goals try (refine zlf ?_; repeat' first | exact zso | refine And.intro ?_ ?_ | (refine zim ?_; intro zb hc; repeat (have zc := zb.1; replace zb := zb.2)) | (refine zin ?_; intro zb) | intro j')
    all_goals try refine zbx ?_
    rintro ms2 S2 ⟨j, h2_0, h2_1, o2_8, h2_9, o2_5, h2_7, h2_6, c2_0, u2_0, u2_1, hm2⟩
    obtain ⟨i2_8, h2_8, b2_8, l2_8⟩ := o2_8.out
    obtain ⟨i2_5, h2_5, b2_5, l2_5⟩ := o2_5.out
    have k2_0 := (u2_0).out h2_5 h2_8
    have ni2_8 := znds (x := i2_8) (n := S2.n)
    have ni2_5 := znds (x := i2_5) (n := S2.n)
    have di2_8i2_5 := zdne (x := i2_8) (y := i2_5)
    have fL2 := (And.intro h2_0 (And.intro h2_1 (And.intro h2_9 (And.intro h2_7 (And.intro h2_6 (And.intro h2_8 (And.intro b2_8 (And.intro h2_5 (And.intro b2_5 (And.intro ni2_8 (And.intro ni2_5 di2_8i2_5)))))))))))
    have b2 := cnt_le (l := classL L k) (f := fun p => decide (partN p = 1)) (j := j)
    have b0 : (List.map (wholeN L) (List.range k)).length = k := by simp
    by_cases hj : j < (classL L k).length
    ·have b3 := class_perm (by omega) (getD_mem (d := []) hj)
     have b4 := b3.1
     have b5 := cnt_succ (f := fun p => decide (partN p = 1)) (d := []) hj
     have b6 := partN_pt (p := (classL L k).getD j [])
     have b7 := bitI_r (decide (partN ((classL L k).getD j []) = 1))
     have b8 : decide ((partN ((classL L k).getD j []) : Int) = 1) = decide (partN ((classL L k).getD j []) = 1) := by congr 1; rw [eq_iff_iff]; omega
     refine dEa (And.intro fL2 (And.intro @b6 @b8)) ?_
     all_goals try (refine zlf ?_; repeat' first | exact zso | refine And.intro ?_ ?_ | (refine zim ?_; intro zb hc; repeat (have zc := zb.1; replace zb := zb.2)) | (refine zin ?_; intro zb) | intro j')
     all_goals try refine zbx ?_
     ·focus
       refine q_lp_n ((fun (j : Nat) => (classL L k).length - j) (j+1)) (dC fL2 ?_) ⟨j+1, dC fL2 ?_⟩
       all_goals try (refine zlf ?_; repeat' first | exact zso | refine And.intro ?_ ?_ | (refine zim ?_; intro zb hc; repeat (have zc := zb.1; replace zb := zb.2)) | (refine zin ?_; intro zb) | intro j')
       all_goals try refine zbx ?_
    ·refine dEa fL2 ?_
     all_goals try (refine zlf ?_; repeat' first | exact zso | refine And.intro ?_ ?_ | (refine zim ?_; intro zb hc; repeat (have zc := zb.1; replace zb := zb.2)) | (refine zin ?_; intro zb) | intro j')
     all_goals try refine zbx ?_
     ·focus
       refine q_lp_n ((fun (k : Nat) => n.toNat + 1 - k) (k+1)) (dC fL2 ?_) ⟨k+1, dC fL2 ?_⟩
       all_goals try (refine zlf ?_; repeat' first | exact zso | refine And.intro ?_ ?_ | (refine zim ?_; intro zb hc; repeat (have zc := zb.1; replace zb := zb.2)) | (refine zin ?_; intro zb) | intro j')
       all_goals try refine zbx ?_
      all_goals (obtain rfl : j = (classL L k).length := by omega)
      all_goals first | (rw [List.range_succ, List.map_append, List.take_length]; rfl) | (simp; done) | (simp; rfl)
  ·skip
   refine dEa fL1 ?_
   all_goals try (refine zlf ?_; repeat' first | exact zso | refine And.intro ?_ ?_ | (refine zim ?_; intro zb hc; repeat (have zc := zb.1; replace zb := zb.2)) | (refine zin ?_; intro zb) | intro j')
   all_goals try refine zbx ?_
   obtain rfl : k = m := by omega
   all_goals (rw [List.take_of_length_le (by simp)])
 ·have e1 : wholesB L n = [] := if_neg hc0
  rw [e1]
  refine fO sg0 [4] Tryz.func26 ?_
  have cE1 := @spec_l1In_c; have cE2 := @spec_l1Bit_c; have cE3 := @spec_IsBasis_c; have cE4 := @spec_ClassOf_c; have cE5 := @spec_SumParts_c
  refine dEa trivial ?_
  all_goals try (refine zlf ?_; repeat' first | exact zso | refine And.intro ?_ ?_ | (refine zim ?_; intro zb hc; repeat (have zc := zb.1; replace zb := zb.2)) | (refine zin ?_; intro zb) | intro j')
  all_goals try refine zbx ?_
  exact absurd ⟨by assumption, by assumption⟩ hc0
end Go.Gl
set_option linter.unusedSimpArgs false
set_option linter.unusedVariables false
set_option maxRecDepth 20000
set_option linter.unusedSectionVars false
namespace Go.Gl
open Go Go.Proofs
variable [Amb]
theorem spec_SumParts_n_c {m0 : Bool} (p : List Int) (hl : p.length ≤ 1048576) (hn : isPermB p = false) : Fun Tryz.prog 58 [(.sl (.lent m0) (List.map (PV.int .i64) (p)))] [(.sl .own (List.map (elI false) ([])))] := by
 refine fO sg0 [2] Tryz.func58 ?_
 have cE1 := @spec_l1Max_c; have cE2 := @spec_IsPerm_c; have cE3 := @spec_l2Pattern_c
 refine dEa @hn ?_
 all_goals try (refine zlf ?_; repeat' first | exact zso | refine And.intro ?_ ?_ | (refine zim ?_; intro zb hc) | (refine zin ?_; intro zb) | intro j')
 all_goals try refine zbx ?_
def scB (L : List (List Int)) : Bool := basisB L && L.all fun q => !isPermB q || decide (partN q ≤ 1)
theorem spec_IsSumClosed_c {e0 m0 : Bool} (L : List (List Int)) (hL : L.length ≤ 1048576) (hl : ∀ l ∈ L, l.length ≤ 1048576) : Fun Tryz.prog 30 [(.sl (.lent m0) (List.map (elI e0) (L)))] [(.bool (scB L))] := by
 refine fO sg0 [2] Tryz.func30 ?_
 have cE1 := @spec_SumParts_n_c; have cE2 := @spec_SumParts_c; have cE3 := @spec_IsBasis_c
 refine dEa trivial ?_
 all_goals try (refine zlf ?_; repeat' first | exact zso | refine And.intro ?_ ?_ | (refine zim ?_; intro zb hc) | (refine zin ?_; intro zb) | intro j')
 all_goals try refine zbx ?_
 refine v_loopB (fun ms1 S1 => ∃ (k : Nat), S1.e 0 = .p (.sl (.lent m0) (List.map (elI e0) (L))) ∧ S1.e 3 = .p (.int .i64 (k)) ∧ (k ≤ L.length) ∧ (∀ q ∈ L.take k, (!isPermB q || decide (partN q ≤ 1)) = true) ∧ ms1 = L.length - k) ((fun (k : Nat) => L.length - k) (0)) ?_ ⟨0, dC trivial ?_⟩
 all_goals try (refine zlf ?_; repeat' first | exact zso | refine And.intro ?_ ?_ | (refine zim ?_; intro zb hc) | (refine zin ?_; intro zb) | intro j')
 all_goals try refine zbx ?_
 rintro ms1 S1 ⟨k, h1_0, h1_3, c1_0, c1_1, hm1⟩
 have fL1 := (And.intro h1_0 h1_3)
 by_cases hk : k < L.length
 ·have g1 := hl _ (getD_mem (d := []) hk)
  have tk := take_getD (d := []) hk
  have hst : (!isPermB (L.getD k []) || decide (partN (L.getD k []) ≤ 1)) = true → ∀ q ∈ L.take (k + 1), (!isPermB q || decide (partN q ≤ 1)) = true := fun h q hq => by
   rw [tk] at hq
   rcases List.mem_append.1 hq with hq | hq
   ·exact c1_1 q hq
   ·rw [List.mem_singleton] at hq; subst hq; exact h
  by_cases hp : isPermB (L.getD k []) = true
  ·have b6 := partN_pt (p := L.getD k [])
   have cE1 := @spec_SumParts_c; have cE2 := @spec_IsBasis_c; have cE3 := trivial
   refine dEa (And.intro fL1 @b6) ?_
   all_goals try (refine zlf ?_; repeat' first | exact zso | refine And.intro ?_ ?_ | (refine zim ?_; intro zb hc) | (refine zin ?_; intro zb) | intro j')
   all_goals try refine zbx ?_
   ·have : (L.all fun q => !isPermB q || decide (partN q ≤ 1)) = false := List.all_eq_false.2 ⟨_, getD_mem hk, by rw [hp, decide_eq_false (by omega)]; decide⟩
    rw [scB, this, Bool.and_false]
   ·focus
     refine q_lp_n ((fun (k : Nat) => L.length - k) (k+1)) (dC fL1 ?_) ⟨k+1, dC fL1 ?_⟩
     all_goals try (refine zlf ?_; repeat' first | exact zso | refine And.intro ?_ ?_ | (refine zim ?_; intro zb hc) | (refine zin ?_; intro zb) | intro j')
     all_goals try refine zbx ?_
    exact hst (by rw [decide_eq_true (by omega)]; simp)
  ·rw [Bool.not_eq_true] at hp
   have cE1 := @spec_SumParts_n_c; have cE2 := @spec_IsBasis_c; have cE3 := trivial
   refine dEa fL1 ?_
   all_goals try (refine zlf ?_; repeat' first | exact zso | refine And.intro ?_ ?_ | (refine zim ?_; intro zb hc) | (refine zin ?_; intro zb) | intro j')
   all_goals try refine zbx ?_
   ·focus
     refine q_lp_n ((fun (k : Nat) => L.length - k) (k+1)) (dC fL1 ?_) ⟨k+1, dC fL1 ?_⟩
     all_goals try (refine zlf ?_; repeat' first | exact zso | refine And.intro ?_ ?_ | (refine zim ?_; intro zb hc) | (refine zin ?_; intro zb) | intro j')
     all_goals try refine zbx ?_
    exact hst (by rw [hp]; rfl)
 ·have : (L.all fun q => !isPermB q || decide (partN q ≤ 1)) = true := by
   rw [List.take_of_length_le (by omega)] at c1_1
   exact List.all_eq_true.2 c1_1
  have cE1 := @spec_SumParts_n_c; have cE2 := @spec_SumParts_c; have cE3 := @spec_IsBasis_c
  refine dEa fL1 ?_
  all_goals try (refine zlf ?_; repeat' first | exact zso | refine And.intro ?_ ?_ | (refine zim ?_; intro zb hc) | (refine zin ?_; intro zb) | intro j')
  all_goals try refine zbx ?_
  rw [scB, this, Bool.and_true]
end Go.Gl
set_option linter.unusedSimpArgs false
set_option linter.unusedVariables false
set_option maxRecDepth 20000
set_option linter.unusedSectionVars false
namespace Go.Gl
open Go Go.Proofs
variable [Amb]
def srtB (l : List Int) : Bool := (List.range l.length).all fun i => decide (i = 0) || decide (l.getD (i - 1) 0 ≤ l.getD i 0)
theorem srtB_iff {l : List Int} : srtB l = true ↔ ∀ i, i < l.length → 0 < i → l.getD (i - 1) 0 ≤ l.getD i 0 := by
 simp only [srtB, List.all_eq_true, List.mem_range, Bool.or_eq_true, decide_eq_true_eq]
 constructor
 ·intro h i hi h0; rcases h i hi with h | h
  ·omega
  ·exact h
 ·intro h i hi
  by_cases h0 : i = 0
  ·exact .inl h0
  ·exact .inr (h i hi (by omega))
theorem cmp_Less_int_c (x : Int) (y : Int) : Fun Tryz.prog 135 [(.int .i64 (x)), (.int .i64 (y))] [(.bool (decide (x < y)))] := by
 refine fO sg0 [4] Tryz.func135 ?_
 have cE1 := @cmp_isNaN_int_c
 refine dEa trivial ?_
 all_goals try (refine zlf ?_; repeat' first | exact zso | refine And.intro ?_ ?_ | (refine zim ?_; intro zb hc) | (refine zin ?_; intro zb) | intro j')
 all_goals try refine zbx ?_
theorem slices_IsSorted_int_int_c {m0 : Bool} (l : List Int) (hl : l.length ≤ 1048576) : Fun Tryz.prog 115 [(.sl (.lent m0) (List.map (PV.int .i64) (l)))] [(.bool (srtB l))] := by
 refine fO sg0 [2] Tryz.func115 ?_
 have cE1 := @cmp_Less_int_c; have cD1 := zdh [false, false, false, false, false, false, false, false, false, true] []
 refine dEa trivial ?_
 all_goals try (refine zlf ?_; repeat' first | exact zso | refine And.intro ?_ ?_ | (refine zim ?_; intro zb hc) | (refine zin ?_; intro zb) | intro j')
 all_goals try refine zbx ?_
 refine v_loopB (fun ms1 S1 => ∃ (k : Nat), S1.e 0 = .p (.sl (.lent m0) (List.map (PV.int .i64) (l))) ∧ S1.e 3 = .p (.int .i64 (k - 1)) ∧ (k ≤ l.length) ∧ (∀ i, k ≤ i → i < l.length → 0 < i → l.getD (i - 1) 0 ≤ l.getD i 0) ∧ ms1 = k) ((fun (k : Nat) => k) (l.length)) ?_ ⟨l.length, dIa trivial ?_⟩
 all_goals try (refine zlf ?_; repeat' first | exact zso | refine And.intro ?_ ?_ | (refine zim ?_; intro zb hc) | (refine zin ?_; intro zb) | intro j')
 all_goals try refine zbx ?_
 rintro ms1 S1 ⟨k, h1_0, h1_3, c1_0, c1_1, hm1⟩
 have fL1 := (And.intro h1_0 h1_3)
 have e1 : ((k : Int) - 1).toNat = k - 1 := by omega
 have e2 : ((k : Int) - 1 - 1).toNat = k - 1 - 1 := by omega
 refine dEa fL1 ?_
 all_goals try (refine zlf ?_; repeat' first | exact zso | refine And.intro ?_ ?_ | (refine zim ?_; intro zb hc) | (refine zin ?_; intro zb) | intro j')
 all_goals try refine zbx ?_
 ·refine (Bool.eq_false_iff.2 fun h => ?_).symm
  have := srtB_iff.1 h (k - 1) (by omega) (by omega)
  rw [e1, e2] at hc; omega
 ·focus
   refine q_lp_n ((fun (k : Nat) => k) (k-1)) (dC fL1 ?_) ⟨k-1, dC fL1 ?_⟩
   all_goals try (refine zlf ?_; repeat' first | exact zso | refine And.intro ?_ ?_ | (refine zim ?_; intro zb hc) | (refine zin ?_; intro zb) | intro j')
   all_goals try refine zbx ?_
  intro i h1 h2 h3
  by_cases h4 : i = k - 1
  ·subst h4; rw [e1, e2] at hc; exact hc
  ·exact c1_1 i (by omega) h2 h3
 ·refine (srtB_iff.2 fun i h1 h2 => c1_1 i (by omega) h1 h2).symm
end Go.Gl
set_option linter.unusedSimpArgs false
set_option linter.unusedVariables false
set_option maxRecDepth 20000
set_option linter.unusedSectionVars false
namespace Go.Gl
open Go Go.Proofs
variable [Amb]
def idL (n : Nat) : List Int := (List.range n).map fun i : Nat => (i : Int) + 1
theorem idL_succ {n : Nat} : idL (n + 1) = idL n ++ [(n : Int) + 1] := by simp [idL, List.range_succ]
theorem idL_len {n : Nat} : (idL n).length = n := by simp [idL]
theorem impl_identity_c (n : Int) (h0 : 0 ≤ n) (h1 : n ≤ 1099511627776) : Fun Tryz.prog 118 [(.int .i64 (n))] [(.sl .own (List.map (PV.int .i64) (idL n.toNat)))] := by
 refine fO sg0 [2] Tryz.func118 ?_
 refine dE trivial ?_
 all_goals try (refine zlf ?_; repeat' first | exact zso | refine And.intro ?_ ?_ | (refine zim ?_; intro zb hc) | (refine zin ?_; intro zb) | intro j')
 all_goals try refine zbx ?_
 refine v_loopB (fun ms1 S1 => ∃ (k : Nat), S1.e 0 = .p (.int .i64 (n)) ∧ OwnL (S1.e 3) S1.h S1.n (PV.int .i64) ((idL k).length) (idL k) ∧ S1.e 6 = .p (.int .i64 (n)) ∧ S1.e 7 = .p (.int .i64 (k)) ∧ ((k : Int) ≤ n) ∧ ms1 = n.toNat - k) ((fun (k : Nat) => n.toNat - k) (0)) ?_ ⟨0, dI trivial ?_⟩
 all_goals try (refine zlf ?_; repeat' first | exact zso | refine And.intro ?_ ?_ | (refine zim ?_; intro zb hc) | (refine zin ?_; intro zb) | intro j')
 all_goals try refine zbx ?_
 rintro ms1 S1 ⟨k, h1_0, o1_3, h1_6, h1_7, c1_0, hm1⟩
 obtain ⟨i1_3, h1_3, b1_3, l1_3⟩ := o1_3.out
 have ni1_3 := znds (x := i1_3) (n := S1.n)
 have fL1 := (And.intro h1_0 (And.intro h1_6 (And.intro h1_7 (And.intro h1_3 (And.intro b1_3 ni1_3)))))
 refine dE fL1 ?_
 all_goals try (refine zlf ?_; repeat' first | exact zso | refine And.intro ?_ ?_ | (refine zim ?_; intro zb hc) | (refine zin ?_; intro zb) | intro j')
 all_goals try refine zbx ?_
 all_goals have hl := idL_len (n := k)
 all_goals try exact zaut
 ·focus
   refine q_lp_n ((fun (k : Nat) => n.toNat - k) (k+1)) (dC fL1 ?_) ⟨k+1, dC fL1 ?_⟩
   all_goals try (refine zlf ?_; repeat' first | exact zso | refine And.intro ?_ ?_ | (refine zim ?_; intro zb hc) | (refine zin ?_; intro zb) | intro j')
   all_goals try refine zbx ?_
  all_goals simp [idL_succ, idL_len]
 ·rw [show k = n.toNat by omega]
theorem spec_IdentityPerm_c (n : Int) (h0 : 0 ≤ n) (h1 : n ≤ 8) : Fun Tryz.prog 102 [(.int .i64 (n))] [(.sl .own (List.map (PV.int .i64) (idL n.toNat)))] := by
 refine fO sg0 [2] Tryz.func102 ?_
 refine dE trivial ?_
 all_goals try (refine zlf ?_; repeat' first | exact zso | refine And.intro ?_ ?_ | (refine zim ?_; intro zb hc) | (refine zin ?_; intro zb) | intro j')
 all_goals try refine zbx ?_
 refine v_loopB (fun ms1 S1 => ∃ (k : Nat), S1.e 0 = .p (.int .i64 (n)) ∧ OwnL (S1.e 3) S1.h S1.n (PV.int .i64) ((idL k).length) (idL k) ∧ S1.e 4 = .p (.int .i64 ((k+1))) ∧ ((k : Int) ≤ n) ∧ ms1 = n.toNat - k) ((fun (k : Nat) => n.toNat - k) (0)) ?_ ⟨0, dI trivial ?_⟩
 all_goals try (refine zlf ?_; repeat' first | exact zso | refine And.intro ?_ ?_ | (refine zim ?_; intro zb hc) | (refine zin ?_; intro zb) | intro j')
 all_goals try refine zbx ?_
 rintro ms1 S1 ⟨k, h1_0, o1_3, h1_4, c1_0, hm1⟩
 obtain ⟨i1_3, h1_3, b1_3, l1_3⟩ := o1_3.out
 have ni1_3 := znds (x := i1_3) (n := S1.n)
 have fL1 := (And.intro h1_0 (And.intro h1_4 (And.intro h1_3 (And.intro b1_3 ni1_3))))
 refine dE fL1 ?_
 all_goals try (refine zlf ?_; repeat' first | exact zso | refine And.intro ?_ ?_ | (refine zim ?_; intro zb hc) | (refine zin ?_; intro zb) | intro j')
 all_goals try refine zbx ?_
 all_goals have hl := idL_len (n := k)
 all_goals try exact zaut
 ·focus
   refine q_lp_n ((fun (k : Nat) => n.toNat - k) (k+1)) (dC fL1 ?_) ⟨k+1, dC fL1 ?_⟩
   all_goals try (refine zlf ?_; repeat' first | exact zso | refine And.intro ?_ ?_ | (refine zim ?_; intro zb hc) | (refine zin ?_; intro zb) | intro j')
   all_goals try refine zbx ?_
  all_goals simp [idL_succ, idL_len]
 ·rw [show k = n.toNat by omega]
end Go.Gl
set_option linter.unusedSimpArgs false
set_option linter.unusedVariables false
set_option maxRecDepth 20000
set_option linter.unusedSectionVars false
namespace Go.Gl
open Go Go.Proofs
variable [Amb]
/-- The first and last i are turned round. -/
def revK (L : List Int) (i : Nat) : List Int := (List.range L.length).map fun q => if q < i ∨ L.length ≤ q + i then L.getD (L.length - 1 - q) 0 else L.getD q 0
theorem revK_len {L : List Int} {i : Nat} : (revK L i).length = L.length := by simp [revK]
theorem revK_get {L : List Int} {i q : Nat} : (revK L i)[q]? = if q < L.length then some (if q < i ∨ L.length ≤ q + i then L.getD (L.length - 1 - q) 0 else L.getD q 0) else none := by
 unfold revK
 rw [List.getElem?_map]
 by_cases h : q < L.length
 ·rw [if_pos h, List.getElem?_range h]; rfl
 ·rw [if_neg h, List.getElem?_eq_none (by simp; omega)]; rfl
theorem getI_some {L : List Int} {i : Nat} (h : i < L.length) : L[i]? = some (L.getD i 0) := by
 rw [List.getD_eq_getElem?_getD, List.getElem?_eq_getElem h]; rfl
theorem revK_0 {L : List Int} : revK L 0 = L := by
 apply List.ext_getElem?; intro q
 rw [revK_get]
 by_cases h : q < L.length
 ·rw [if_pos h, if_neg (by omega), getI_some h]
 ·rw [if_neg h, List.getElem?_eq_none (by omega)]
theorem revK_end {L : List Int} {i : Nat} (h1 : 2 * i ≤ L.length) (h2 : L.length ≤ 2 * i + 1) : revK L i = L.reverse := by
 apply List.ext_getElem?; intro q
 rw [revK_get]
 by_cases h : q < L.length
 ·rw [if_pos h, List.getElem?_reverse h, getI_some (by omega)]
  by_cases e : q < i ∨ L.length ≤ q + i
  ·rw [if_pos e]
  ·rw [if_neg e, show L.length - 1 - q = q by omega]
 ·rw [if_neg h, List.getElem?_eq_none (by simp; omega)]
theorem revK_lo {L : List Int} {i : Nat} (h : 2 * i + 1 < L.length) : (revK L i).getD i 0 = L.getD i 0 ∧ (revK L i).getD (L.length - 1 - i) 0 = L.getD (L.length - 1 - i) 0 := by
 constructor
 ·rw [List.getD_eq_getElem?_getD, revK_get, if_pos (by omega), if_neg (by omega)]; rfl
 ·rw [List.getD_eq_getElem?_getD, revK_get, if_pos (by omega), if_neg (by omega)]; rfl
theorem revK_step {L : List Int} {i : Nat} (h : 2 * i + 1 < L.length) : ((revK L i).set i (L.getD (L.length - 1 - i) 0)).set (L.length - 1 - i) (L.getD i 0) = revK L (i + 1) := by
 apply List.ext_getElem?; intro q
 rw [List.getElem?_set, List.getElem?_set, List.length_set, revK_len, revK_get, revK_get]
 by_cases e1 : L.length - 1 - i = q
 ·rw [if_pos e1, if_pos (by omega), if_pos (by omega), if_pos (by omega), ← e1, show L.length - 1 - (L.length - 1 - i) = i by omega]
 ·rw [if_neg e1]
  by_cases e2 : i = q
  ·subst e2; rw [if_pos rfl, if_pos (by omega), if_pos (by omega), if_pos (by omega)]
  ·rw [if_neg e2]
   by_cases hq : q < L.length
   ·rw [if_pos hq, if_pos hq]
    by_cases e3 : q < i ∨ L.length ≤ q + i
    ·rw [if_pos e3, if_pos (by omega)]
    ·rw [if_neg e3, if_neg (by omega)]
   ·rw [if_neg hq, if_neg hq]
theorem slices_Reverse_int_int_c (L : List Int) (hL : L.length ≤ 1048576) : CallT Tryz.prog false 136 [.mu false (List.map (PV.int .i64) (L))] [some (List.map (PV.int .i64) (L.reverse))] [] := by
 refine fX sg0 [] Tryz.func136 ?_
 have cD1 := zdh [false, false, false, false, false, false, false, false, false, false, false, false, false, true, false, true] [(2, 13), (3, 13)]
 refine dEa trivial ?_
 all_goals try (refine zlf ?_; repeat' first | exact zso | refine And.intro ?_ ?_ | (refine zim ?_; intro zb hc) | (refine zin ?_; intro zb) | intro j')
 all_goals try refine zbx ?_
 refine v_loopB (fun ms1 S1 => ∃ (i : Nat), S1.e 0 = .ref 0 0 (revK L i).length ∧ S1.h 0 = .live true (List.map (PV.int .i64) (revK L i)) ∧ 0 < S1.n ∧ S1.e 2 = .p (.int .i64 (i)) ∧ S1.e 3 = .p (.int .i64 (((L.length : Int) - 1 - i))) ∧ (2 * i ≤ L.length) ∧ ms1 = L.length - i) ((fun (i : Nat) => L.length - i) (0)) ?_ ⟨0, dC trivial ?_⟩
 all_goals try (refine zlf ?_; repeat' first | exact zso | refine And.intro ?_ ?_ | (refine zim ?_; intro zb hc) | (refine zin ?_; intro zb) | intro j')
 all_goals try refine zbx ?_
 rintro ms1 S1 ⟨i, h1_0, b1_0, l1_0, h1_2, h1_3, c1_0, hm1⟩
 have n0 := znds (x := 0) (n := S1.n)
 have fL1 := (And.intro h1_0 (And.intro b1_0 (And.intro h1_2 (And.intro h1_3 n0))))
 ·have e0 := revK_len (L := L) (i := i)
  by_cases hi : 2 * i + 1 < L.length
  ·have e1 := revK_lo hi
   have e2 := revK_step hi
   have e3 : ((L.length : Int) - 1 - i).toNat = L.length - 1 - i := by omega
   refine dEa (And.intro fL1 (And.intro @e0 (And.intro e1.1 (And.intro e1.2 (And.intro @e2 @e3))))) ?_
   all_goals try (refine zlf ?_; repeat' first | exact zso | refine And.intro ?_ ?_ | (refine zim ?_; intro zb hc) | (refine zin ?_; intro zb) | intro j')
   all_goals try refine zbx ?_
   focus
    refine q_lp_n ((fun (i : Nat) => L.length - i) (i+1)) (dC fL1 ?_) ⟨i+1, dC fL1 ?_⟩
    all_goals try (refine zlf ?_; repeat' first | exact zso | refine And.intro ?_ ?_ | (refine zim ?_; intro zb hc) | (refine zin ?_; intro zb) | intro j')
    all_goals try refine zbx ?_
   all_goals first | omega | (rw [e0, revK_len]; done)
  ·have e2 := revK_end c1_0 (by omega)
   refine dEa (And.intro fL1 (And.intro @e0 @e2)) ?_
   all_goals try (refine zlf ?_; repeat' first | exact zso | refine And.intro ?_ ?_ | (refine zim ?_; intro zb hc) | (refine zin ?_; intro zb) | intro j')
   all_goals try refine zbx ?_
 ·exact revK_len.symm
 ·exact revK_0.symm
def sgRev : FuncId → List Bool := fun f => if f = 136 then [true] else []
theorem sgRev_eq {f : FuncId} : sgRev f = if f = 136 then [true] else [] := _root_.id rfl
theorem way_sgRev : wayE sgRev = false ∧ wayN sgRev = false ∧ wayS sgRev = false ∧ wayZ sgRev = false := ⟨rfl, rfl, rfl, rfl⟩
attribute [go_sem] sgRev_eq way_sgRev
theorem impl_reverse_c {m0 : Bool} (p : List Int) (hl : p.length ≤ 1048576) : Fun Tryz.prog 117 [(.sl (.lent m0) (List.map (PV.int .i64) (p)))] [(.sl .own (List.map (PV.int .i64) (p.reverse)))] := by
 refine fO sgRev [2] Tryz.func117 ?_
 have cE1 := @slices_Clone_c; have cM1 := @slices_Reverse_int_int_c
 have e1 : p.reverse.length = p.length := List.length_reverse
 have e2 : List.take p.length p.reverse = p.reverse := List.take_of_length_le (by omega)
 refine dEa (And.intro @e1 @e2) ?_
 all_goals try (refine zlf ?_; repeat' first | exact zso | refine And.intro ?_ ?_ | (refine zim ?_; intro zb hc) | (refine zin ?_; intro zb) | intro j')
 all_goals try refine zbx ?_
theorem spec_l3Reverse_c {m0 : Bool} (p : List Int) (hl : p.length ≤ 1048576) : Fun Tryz.prog 62 [(.sl (.lent m0) (List.map (PV.int .i64) (p)))] [(.sl .own (List.map (PV.int .i64) (p.reverse)))] := by
 refine fO sg0 [2] Tryz.func62 ?_
 refine dEa trivial ?_
 all_goals try (refine zlf ?_; repeat' first | exact zso | refine And.intro ?_ ?_ | (refine zim ?_; intro zb hc) | (refine zin ?_; intro zb) | intro j')
 all_goals try refine zbx ?_
 refine v_loopB (fun ms1 S1 => ∃ (k : Nat), S1.e 0 = .p (.sl (.lent m0) (List.map (PV.int .i64) (p))) ∧ OwnL (S1.e 3) S1.h S1.n (PV.int .i64) (((p.drop k).reverse).length) ((p.drop k).reverse) ∧ S1.e 4 = .p (.int .i64 (((k : Int) - 1))) ∧ (k ≤ p.length) ∧ ms1 = k) ((fun (k : Nat) => k) (p.length)) ?_ ⟨p.length, dC trivial ?_⟩
 all_goals try (refine zlf ?_; repeat' first | exact zso | refine And.intro ?_ ?_ | (refine zim ?_; intro zb hc) | (refine zin ?_; intro zb) | intro j')
 all_goals try refine zbx ?_
 rintro ms1 S1 ⟨k, h1_0, o1_3, h1_4, c1_0, hm1⟩
 obtain ⟨i1_3, h1_3, b1_3, l1_3⟩ := o1_3.out
 have ni1_3 := znds (x := i1_3) (n := S1.n)
 have fL1 := (And.intro h1_0 (And.intro h1_4 (And.intro h1_3 (And.intro b1_3 ni1_3))))
 ·have e1 : ((k : Int) - 1).toNat = k - 1 := by omega
  have e2 : (p.drop k).reverse.length = p.length - k := by simp
  refine dEa (And.intro fL1 (And.intro @e1 @e2)) ?_
  all_goals try (refine zlf ?_; repeat' first | exact zso | refine And.intro ?_ ?_ | (refine zim ?_; intro zb hc) | (refine zin ?_; intro zb) | intro j')
  all_goals try refine zbx ?_
  ·focus
    refine q_lp_n ((fun (k : Nat) => k) (k-1)) (dC fL1 ?_) ⟨k-1, dC fL1 ?_⟩
    all_goals try (refine zlf ?_; repeat' first | exact zso | refine And.intro ?_ ?_ | (refine zim ?_; intro zb hc) | (refine zin ?_; intro zb) | intro j')
    all_goals try refine zbx ?_
   ·simp; omega
   ·obtain ⟨j, rfl⟩ : ∃ j, k = j + 1 := ⟨k - 1, by omega⟩
    rw [Nat.add_sub_cancel, dropI_at (k := j) (by omega), List.reverse_cons]
  ·obtain rfl : k = 0 := by omega
   rw [List.drop_zero, List.take_of_length_le (by simp)]
 ·simp
 ·rw [List.drop_length]; rfl
end Go.Gl
set_option linter.unusedSimpArgs false
set_option linter.unusedVariables false
set_option maxRecDepth 20000
set_option linter.unusedSectionVars false
namespace Go.Gl
open Go Go.Proofs
variable [Amb]
theorem spec_l2Same_c {m0 m1 : Bool} (a b : List Int) (ha : a.length ≤ 1099511627776) (hb : b.length ≤ 1099511627776) : Fun Tryz.prog 101 [(.sl (.lent m0) (List.map (PV.int .i64) (a))), (.sl (.lent m1) (List.map (PV.int .i64) (b)))] [(.bool (decide (a = b)))] := by
 refine fO sg0 [4] Tryz.func101 ?_
 refine dE trivial ?_
 all_goals try (refine zlf ?_; repeat' first | exact zso | refine And.intro ?_ ?_ | (refine zim ?_; intro zb hc) | (refine zin ?_; intro zb) | intro j')
 all_goals try refine zbx ?_
 ·rw [decide_eq_false]; intro e; subst e; exact hc rfl
 refine v_loopB (fun ms1 S1 => ∃ (k : Nat), S1.e 0 = .p (.sl (.lent m0) (List.map (PV.int .i64) (a))) ∧ S1.e 1 = .p (.sl (.lent m1) (List.map (PV.int .i64) (b))) ∧ S1.e 5 = .p (.int .i64 (k)) ∧ (k ≤ a.length) ∧ (a.take k = b.take k) ∧ ms1 = a.length - k) ((fun (k : Nat) => a.length - k) (0)) ?_ ⟨0, dIa trivial ?_⟩
 all_goals try (refine zlf ?_; repeat' first | exact zso | refine And.intro ?_ ?_ | (refine zim ?_; intro zb hc) | (refine zin ?_; intro zb) | intro j')
 all_goals try refine zbx ?_
 rintro ms1 S1 ⟨k, h1_0, h1_1, h1_5, c1_0, c1_1, hm1⟩
 have fL1 := (And.intro h1_0 (And.intro h1_1 h1_5))
 refine dEa fL1 ?_
 all_goals try (refine zlf ?_; repeat' first | exact zso | refine And.intro ?_ ?_ | (refine zim ?_; intro zb hc) | (refine zin ?_; intro zb) | intro j')
 all_goals try refine zbx ?_
 ·rw [decide_eq_false]; intro e; subst e; exact hc rfl
 ·focus
   refine q_lp_n ((fun (k : Nat) => a.length - k) (k+1)) (dC fL1 ?_) ⟨k+1, dC fL1 ?_⟩
   all_goals try (refine zlf ?_; repeat' first | exact zso | refine And.intro ?_ ?_ | (refine zim ?_; intro zb hc) | (refine zin ?_; intro zb) | intro j')
   all_goals try refine zbx ?_
  rw [take_succ_iff (by omega) (by omega)]; exact ⟨c1_1, hc⟩
 ·rw [decide_eq_true]
  rw [List.take_of_length_le (by omega), List.take_of_length_le (by omega)] at c1_1; exact c1_1
theorem slices_Equal_int_int_c {m0 m1 : Bool} (a b : List Int) (ha : a.length ≤ 1099511627776) (hb : b.length ≤ 1099511627776) : Fun Tryz.prog 116 [(.sl (.lent m0) (List.map (PV.int .i64) (a))), (.sl (.lent m1) (List.map (PV.int .i64) (b)))] [(.bool (decide (a = b)))] := by
 refine fO sg0 [4] Tryz.func116 ?_
 refine dE trivial ?_
 all_goals try (refine zlf ?_; repeat' first | exact zso | refine And.intro ?_ ?_ | (refine zim ?_; intro zb hc) | (refine zin ?_; intro zb) | intro j')
 all_goals try refine zbx ?_
 ·rw [decide_eq_false]; intro e; subst e; exact hc rfl
 refine v_loopB (fun ms1 S1 => ∃ (k : Nat), S1.e 0 = .p (.sl (.lent m0) (List.map (PV.int .i64) (a))) ∧ S1.e 1 = .p (.sl (.lent m1) (List.map (PV.int .i64) (b))) ∧ S1.e 12 = .p (.int .i64 (a.length)) ∧ S1.e 13 = .p (.int .i64 (k)) ∧ (k ≤ a.length) ∧ (a.take k = b.take k) ∧ ms1 = a.length - k) ((fun (k : Nat) => a.length - k) (0)) ?_ ⟨0, dIa trivial ?_⟩
 all_goals try (refine zlf ?_; repeat' first | exact zso | refine And.intro ?_ ?_ | (refine zim ?_; intro zb hc) | (refine zin ?_; intro zb) | intro j')
 all_goals try refine zbx ?_
 rintro ms1 S1 ⟨k, h1_0, h1_1, h1_12, h1_13, c1_0, c1_1, hm1⟩
 have fL1 := (And.intro h1_0 (And.intro h1_1 (And.intro h1_12 h1_13)))
 refine dEa fL1 ?_
 all_goals try (refine zlf ?_; repeat' first | exact zso | refine And.intro ?_ ?_ | (refine zim ?_; intro zb hc) | (refine zin ?_; intro zb) | intro j')
 all_goals try refine zbx ?_
 ·rw [decide_eq_false]; intro e; subst e; exact hc rfl
 ·focus
   refine q_lp_n ((fun (k : Nat) => a.length - k) (k+1)) (dC fL1 ?_) ⟨k+1, dC fL1 ?_⟩
   all_goals try (refine zlf ?_; repeat' first | exact zso | refine And.intro ?_ ?_ | (refine zim ?_; intro zb hc) | (refine zin ?_; intro zb) | intro j')
   all_goals try refine zbx ?_
  rw [take_succ_iff (by omega) (by omega)]; exact ⟨c1_1, hc⟩
 ·rw [decide_eq_true]
  rw [List.take_of_length_le (by omega), List.take_of_length_le (by omega)] at c1_1; exact c1_1
end Go.Gl
set_option linter.unusedSimpArgs false
set_option linter.unusedVariables false
set_option maxRecDepth 20000
set_option linter.unusedSectionVars false
namespace Go.Gl
open Go Go.Proofs
variable [Amb]
theorem basis_perm {L : List (List Int)} (h : basisB L = true) : ∀ q ∈ L, isPermB q = true := fun q hq => by
 obtain ⟨i, hi, rfl⟩ := List.getElem_of_mem hq
 simp only [basisB, Bool.and_eq_true] at h
 have h1 := basK_perm h.2 hi
 rwa [List.getD_eq_getElem?_getD, List.getElem?_eq_getElem hi] at h1
def upB (p : List Int) : Bool := decide (p = idL p.length)
def dnB (p : List Int) : Bool := decide (p.reverse = idL p.length)
theorem idL_at {n i : Nat} (h : i < n) : (idL n).getD i 0 = (i : Int) + 1 := by
 rw [List.getD_eq_getElem?_getD, idL, List.getElem?_map, List.getElem?_range h]; rfl
theorem srt_up {p : List Int} (hp : permB p = true) : srtB p = upB p := by
 obtain ⟨h1, h2⟩ := permB_iff.1 hp
 rw [Bool.eq_iff_iff, srtB_iff, upB, decide_eq_true_iff]
 constructor
 ·intro hs
  have lt : ∀ i, i + 1 < p.length → p.getD i 0 < p.getD (i + 1) 0 := fun i hi => by
   have a := hs (i + 1) hi (by omega)
   rw [Nat.add_sub_cancel] at a
   have b : p.getD i 0 ≠ p.getD (i + 1) 0 := fun e => by have := perm_inj hp (by omega) hi e; omega
   omega
  have lo : ∀ i, i < p.length → (i : Int) + 1 ≤ p.getD i 0 := fun i => by
   induction i with
   | zero => intro hi; have := (h1 _ (getD_mem (d := 0) hi)).1; omega
   | succ i ih => intro hi; have := ih (by omega); have := lt i hi; omega
  have hi : ∀ d i, i + d + 1 = p.length → p.getD i 0 ≤ (i : Int) + 1 := fun d => by
   induction d with
   | zero => intro i h; have := (h1 _ (getD_mem (d := 0) (show i < p.length by omega))).2; omega
   | succ d ih => intro i h; have := ih (i + 1) (by omega); have := lt i (by omega); omega
  refine List.ext_getElem (by rw [idL_len]) fun i a b => ?_
  have x1 := lo i a
  have x2 := hi (p.length - i - 1) i (by omega)
  have x3 := idL_at a
  rw [List.getD_eq_getElem?_getD, List.getElem?_eq_getElem a] at x1 x2
  rw [List.getD_eq_getElem?_getD, List.getElem?_eq_getElem b] at x3
  simp at x1 x2 x3; omega
 ·intro e i h3 h4
  have x1 := idL_at (n := p.length) (i := i - 1) (by omega)
  have x2 := idL_at (n := p.length) (i := i) h3
  rw [← e] at x1 x2; omega
def finB (L : List (List Int)) : Bool := basisB L && L.any upB && L.any dnB
theorem impl_isRising_c {m0 : Bool} (p : List Int) (hp : isPermB p = true) : Fun Tryz.prog 78 [(.sl (.lent m0) (List.map (PV.int .i64) (p)))] [(.bool (upB p))] := by
 refine fO sg0 [2] Tryz.func78 ?_
 have cE1 := @slices_IsSorted_int_int_c
 obtain ⟨h8, hq⟩ : p.length ≤ 8 ∧ permB p = true := by simpa [isPermB] using hp
 refine dEa trivial ?_
 all_goals try (refine zlf ?_; repeat' first | exact zso | refine And.intro ?_ ?_ | (refine zim ?_; intro zb hc) | (refine zin ?_; intro zb) | intro j')
 all_goals try refine zbx ?_
 all_goals exact srt_up hq
theorem dn_dec {p : List Int} : decide (p = (idL p.length).reverse) = dnB p := by
 rw [dnB, decide_eq_decide]
 exact ⟨fun h => by rw [h, List.reverse_reverse, List.length_reverse, idL_len], fun h => by rw [← h, List.reverse_reverse]⟩
theorem impl_isFalling_c {m0 : Bool} (p : List Int) (hp : isPermB p = true) : Fun Tryz.prog 79 [(.sl (.lent m0) (List.map (PV.int .i64) (p)))] [(.bool (dnB p))] := by
 refine fO sg0 [2] Tryz.func79 ?_
 have cE1 := @impl_identity_c; have cE2 := @impl_reverse_c; have cE3 := @slices_Equal_int_int_c
 obtain ⟨h8, hq⟩ : p.length ≤ 8 ∧ permB p = true := by simpa [isPermB] using hp
 have e1 : (idL p.length).length = p.length := idL_len
 have e2 : (idL p.length).reverse.length = p.length := by rw [List.length_reverse, idL_len]
 have e3 : List.take p.length (idL p.length) = idL p.length := List.take_of_length_le (by omega)
 have e4 : List.take p.length (idL p.length).reverse = (idL p.length).reverse := List.take_of_length_le (by omega)
 refine dEa (And.intro @e1 (And.intro @e2 (And.intro @e3 @e4))) ?_
 all_goals try (refine zlf ?_; repeat' first | exact zso | refine And.intro ?_ ?_ | (refine zim ?_; intro zb hc) | (refine zin ?_; intro zb) | intro j')
 all_goals try refine zbx ?_
 all_goals exact dn_dec
theorem impl_IsFinite_c {e0 m0 : Bool} (L : List (List Int)) (hL : L.length ≤ 1048576) (hl : ∀ l ∈ L, l.length ≤ 1048576) : Fun Tryz.prog 39 [(.sl (.lent m0) (List.map (elI e0) (L)))] [(.bool (finB L))] := by
 by_cases hb : basisB L = true
 ·have hp := basis_perm hb
  have c1 := slices_ContainsFunc_LLint_int_c (e0 := e0) (m0 := m0) L 78 [] upB (by omega) (fun q hq => impl_isRising_c (m0 := e0) q (hp q hq))
  have c2 := slices_ContainsFunc_LLint_int_c (e0 := e0) (m0 := m0) L 79 [] dnB (by omega) (fun q hq => impl_isFalling_c (m0 := e0) q (hp q hq))
  have e : finB L = (L.any upB && L.any dnB) := by rw [finB, hb, Bool.true_and]
  rw [e]
  refine fO sg0 [2] Tryz.func39 ?_
  have cE1 := @impl_IsBasis_c; have cE2 := @slices_ContainsFunc_LLint_int_c; have cE3 := @impl_isRising_c; have cE4 := @impl_isFalling_c
  have cE1 := @c1; have cE2 := @c2; have cE3 := @impl_IsBasis_c; have cE4 := @slices_ContainsFunc_LLint_int_c; have cE5 := @impl_isRising_c; have cE6 := @impl_isFalling_c
  refine dEa @hb ?_
  all_goals try (refine zlf ?_; repeat' first | exact zso | refine And.intro ?_ ?_ | (refine zim ?_; intro zb hc) | (refine zin ?_; intro zb) | intro j')
  all_goals try refine zbx ?_
  all_goals simp [hc]
 ·rw [Bool.not_eq_true] at hb
  have e : finB L = false := by rw [finB, hb]; rfl
  rw [e]
  refine fO sg0 [2] Tryz.func39 ?_
  have cE1 := @impl_IsBasis_c; have cE2 := @slices_ContainsFunc_LLint_int_c; have cE3 := @impl_isRising_c; have cE4 := @impl_isFalling_c
  refine dEa @hb ?_
  all_goals try (refine zlf ?_; repeat' first | exact zso | refine And.intro ?_ ?_ | (refine zim ?_; intro zb hc) | (refine zin ?_; intro zb) | intro j')
  all_goals try refine zbx ?_
theorem spec_l13Straight_c {m0 : Bool} (p : List Int) (hp : p.length ≤ 8) : Fun Tryz.prog 61 [(.sl (.lent m0) (List.map (PV.int .i64) (p)))] [(.bool (upB p))] := by
 refine fO sg0 [2] Tryz.func61 ?_
 have cE1 := @spec_IdentityPerm_c; have cE2 := @spec_l2Same_c
 have e1 : (idL p.length).length = p.length := idL_len
 have e3 : List.take p.length (idL p.length) = idL p.length := List.take_of_length_le (by omega)
 refine dEa (And.intro @e1 @e3) ?_
 all_goals try (refine zlf ?_; repeat' first | exact zso | refine And.intro ?_ ?_ | (refine zim ?_; intro zb hc) | (refine zin ?_; intro zb) | intro j')
 all_goals try refine zbx ?_
 all_goals rfl
theorem spec_IsFinite_c {e0 m0 : Bool} (L : List (List Int)) (hL : L.length ≤ 1048576) (hl : ∀ l ∈ L, l.length ≤ 1048576) : Fun Tryz.prog 29 [(.sl (.lent m0) (List.map (elI e0) (L)))] [(.bool (finB L))] := by
 by_cases hb : basisB L = true
 ·have hp := basis_row hb
  have e : finB L = (L.any upB && L.any dnB) := by rw [finB, hb, Bool.true_and]
  have dn : ∀ q : List Int, upB q.reverse = dnB q := fun q => by rw [upB, dnB, List.length_reverse]
  rw [e]
  refine fO sg0 [2] Tryz.func29 ?_
  have cE1 := @spec_IsBasis_c; have cE2 := @spec_l13Straight_c; have cE3 := @spec_l3Reverse_c
  refine dEa @hb ?_
  all_goals try (refine zlf ?_; repeat' first | exact zso | refine And.intro ?_ ?_ | (refine zim ?_; intro zb hc; repeat (have zc := zb.1; replace zb := zb.2)) | (refine zin ?_; intro zb) | intro j')
  all_goals try refine zbx ?_
  refine v_loopB (fun ms1 S1 => ∃ (k : Nat), S1.e 0 = .p (.sl (.lent m0) (List.map (elI e0) (L))) ∧ S1.e 3 = .p (.bool ((L.take k).any upB)) ∧ S1.e 4 = .p (.bool ((L.take k).any dnB)) ∧ S1.e 5 = .p (.int .i64 (k)) ∧ (k ≤ L.length) ∧ ms1 = L.length - k) ((fun (k : Nat) => L.length - k) (0)) ?_ ⟨0, dC trivial ?_⟩
  all_goals try (refine zlf ?_; repeat' first | exact zso | refine And.intro ?_ ?_ | (refine zim ?_; intro zb hc; repeat (have zc := zb.1; replace zb := zb.2)) | (refine zin ?_; intro zb) | intro j')
  all_goals try refine zbx ?_
  rintro ms1 S1 ⟨k, h1_0, h1_3, h1_4, h1_5, c1_0, hm1⟩
  have fL1 := (And.intro h1_0 (And.intro h1_3 (And.intro h1_4 h1_5)))
  by_cases hk : k < L.length
  ·have g1 := hp _ (getD_mem (d := []) hk)
   have g2 : (L.getD k []).reverse.length ≤ 8 := by rw [List.length_reverse]; exact g1
   have t1 : (L.take (k + 1)).any upB = ((L.take k).any upB || upB (L.getD k [])) := by rw [take_getD (d := []) hk, List.any_append]; simp
   have t2 : (L.take (k + 1)).any dnB = ((L.take k).any dnB || dnB (L.getD k [])) := by rw [take_getD (d := []) hk, List.any_append]; simp
   refine dEa (And.intro fL1 (And.intro @hb @dn)) ?_
   all_goals try (refine zlf ?_; repeat' first | exact zso | refine And.intro ?_ ?_ | (refine zim ?_; intro zb hc; repeat (have zc := zb.1; replace zb := zb.2)) | (refine zin ?_; intro zb) | intro j')
   all_goals try refine zbx ?_
   ·focus
     refine q_lp_n ((fun (k : Nat) => L.length - k) (k+1)) (dC fL1 ?_) ⟨k+1, dC fL1 ?_⟩
     all_goals try (refine zlf ?_; repeat' first | exact zso | refine And.intro ?_ ?_ | (refine zim ?_; intro zb hc; repeat (have zc := zb.1; replace zb := zb.2)) | (refine zin ?_; intro zb) | intro j')
     all_goals try refine zbx ?_
    all_goals simp_all
   ·focus
     refine q_lp_n ((fun (k : Nat) => L.length - k) (k+1)) (dC fL1 ?_) ⟨k+1, dC fL1 ?_⟩
     all_goals try (refine zlf ?_; repeat' first | exact zso | refine And.intro ?_ ?_ | (refine zim ?_; intro zb hc; repeat (have zc := zb.1; replace zb := zb.2)) | (refine zin ?_; intro zb) | intro j')
     all_goals try refine zbx ?_
    all_goals simp_all
   ·focus
     refine q_lp_n ((fun (k : Nat) => L.length - k) (k+1)) (dC fL1 ?_) ⟨k+1, dC fL1 ?_⟩
     all_goals try (refine zlf ?_; repeat' first | exact zso | refine And.intro ?_ ?_ | (refine zim ?_; intro zb hc; repeat (have zc := zb.1; replace zb := zb.2)) | (refine zin ?_; intro zb) | intro j')
     all_goals try refine zbx ?_
    all_goals simp_all
   ·focus
     refine q_lp_n ((fun (k : Nat) => L.length - k) (k+1)) (dC fL1 ?_) ⟨k+1, dC fL1 ?_⟩
     all_goals try (refine zlf ?_; repeat' first | exact zso | refine And.intro ?_ ?_ | (refine zim ?_; intro zb hc; repeat (have zc := zb.1; replace zb := zb.2)) | (refine zin ?_; intro zb) | intro j')
     all_goals try refine zbx ?_
    all_goals simp_all
  ·obtain rfl : k = L.length := by omega
   refine dEa fL1 ?_
   all_goals try (refine zlf ?_; repeat' first | exact zso | refine And.intro ?_ ?_ | (refine zim ?_; intro zb hc; repeat (have zc := zb.1; replace zb := zb.2)) | (refine zin ?_; intro zb) | intro j')
   all_goals try refine zbx ?_
 ·rw [Bool.not_eq_true] at hb
  have e : finB L = false := by rw [finB, hb]; rfl
  rw [e]
  refine fO sg0 [2] Tryz.func29 ?_
  have cE1 := @spec_IsBasis_c; have cE2 := @spec_l13Straight_c; have cE3 := @spec_l3Reverse_c
  refine dEa @hb ?_
  all_goals try (refine zlf ?_; repeat' first | exact zso | refine And.intro ?_ ?_ | (refine zim ?_; intro zb hc; repeat (have zc := zb.1; replace zb := zb.2)) | (refine zin ?_; intro zb) | intro j')
  all_goals try refine zbx ?_
  refine v_loopB (fun ms1 S1 => ∃ (k : Nat), S1.e 0 = .p (.sl (.lent m0) (List.map (elI e0) (L))) ∧ S1.e 3 = .p (.bool (false)) ∧ S1.e 4 = .p (.bool (false)) ∧ S1.e 5 = .p (.int .i64 (0)) ∧ (k = 0) ∧ ms1 = 1 - k) ((fun (k : Nat) => 1 - k) (0)) ?_ ⟨0, dIa trivial ?_⟩
  all_goals try (refine zlf ?_; repeat' first | exact zso | refine And.intro ?_ ?_ | (refine zim ?_; intro zb hc; repeat (have zc := zb.1; replace zb := zb.2)) | (refine zin ?_; intro zb) | intro j')
  all_goals try refine zbx ?_
  rintro ms1 S1 ⟨k, h1_0, h1_3, h1_4, h1_5, c1_0, hm1⟩
  have fL1 := (And.intro h1_0 (And.intro h1_3 (And.intro h1_4 h1_5)))
  refine dEa (And.intro fL1 @hb) ?_
  all_goals try (refine zlf ?_; repeat' first | exact zso | refine And.intro ?_ ?_ | (refine zim ?_; intro zb hc; repeat (have zc := zb.1; replace zb := zb.2)) | (refine zin ?_; intro zb) | intro j')
  all_goals try refine zbx ?_
theorem impl_IsSumClosed_1_c {m0 : Bool} (p : List Int) (hp : isPermB p = true) : Fun Tryz.prog 80 [(.sl (.lent m0) (List.map (PV.int .i64) (p)))] [(.bool (decide ((1 : Int) < (partN p : Int))))] := by
 refine fO sg0 [2] Tryz.func80 ?_
 have cE1 := @impl_sumParts_c
 have h8 := (isPerm_facts hp).1
 have h9 := perm_b8 hp
 have b6 : (spG shI p p.length).1.length = partN p := rfl
 refine dEa @b6 ?_
 all_goals try (refine zlf ?_; repeat' first | exact zso | refine And.intro ?_ ?_ | (refine zim ?_; intro zb hc) | (refine zin ?_; intro zb) | intro j')
 all_goals try refine zbx ?_
theorem sc_any {L : List (List Int)} (hb : basisB L = true) : (!L.any fun q => decide ((1 : Int) < (partN q : Int))) = scB L := by
 have hp := basis_perm hb
 rw [scB, hb, Bool.true_and, Bool.eq_iff_iff, Bool.not_eq_true', List.any_eq_false, List.all_eq_true]
 refine forall_congr' fun q => ?_
 constructor
 ·intro h hq; have := h hq; rw [hp q hq]; simp at this ⊢; omega
 ·intro h hq; have := h hq; rw [hp q hq] at this; simp at this ⊢; omega
theorem impl_IsSumClosed_c {e0 m0 : Bool} (L : List (List Int)) (hL : L.length ≤ 1048576) (hl : ∀ l ∈ L, l.length ≤ 1048576) : Fun Tryz.prog 40 [(.sl (.lent m0) (List.map (elI e0) (L)))] [(.bool (scB L))] := by
 by_cases hb : basisB L = true
 ·have hp := basis_perm hb
  have c1 := slices_ContainsFunc_LLint_int_c (e0 := e0) (m0 := m0) L 80 [] (fun q => decide ((1 : Int) < (partN q : Int))) (by omega) (fun q hq => impl_IsSumClosed_1_c (m0 := e0) q (hp q hq))
  rw [← sc_any hb]
  refine fO sg0 [2] Tryz.func40 ?_
  have cE1 := @impl_IsBasis_c; have cE2 := @slices_ContainsFunc_LLint_int_c; have cE3 := @impl_IsSumClosed_1_c
  have cE1 := @c1; have cE2 := @impl_IsBasis_c; have cE3 := @slices_ContainsFunc_LLint_int_c; have cE4 := @impl_IsSumClosed_1_c
  refine dEa @hb ?_
  all_goals try (refine zlf ?_; repeat' first | exact zso | refine And.intro ?_ ?_ | (refine zim ?_; intro zb hc) | (refine zin ?_; intro zb) | intro j')
  all_goals try refine zbx ?_
 ·rw [Bool.not_eq_true] at hb
  have e : scB L = false := by rw [scB, hb]; rfl
  rw [e]
  refine fO sg0 [2] Tryz.func40 ?_
  have cE1 := @impl_IsBasis_c; have cE2 := @slices_ContainsFunc_LLint_int_c; have cE3 := @impl_IsSumClosed_1_c
  refine dEa @hb ?_
  all_goals try (refine zlf ?_; repeat' first | exact zso | refine And.intro ?_ ?_ | (refine zim ?_; intro zb hc) | (refine zin ?_; intro zb) | intro j')
  all_goals try refine zbx ?_
end Go.Gl
set_option linter.unusedSimpArgs false
set_option linter.unusedVariables false
set_option maxRecDepth 20000
set_option linter.unusedSectionVars false
namespace Go.Gl
open Go Go.Proofs
variable [Amb]
variable [TabA]
/-- The starts of open parts among the first places. -/
def slL (l : List Bool) : Nat → Int
 | 0 => 0
 | j + 1 => slL l j + bitI (!l.getD (j + 1) false && l.getD j false)
theorem slL_r (l : List Bool) : ∀ j : Nat, 0 ≤ slL l j ∧ slL l j ≤ j
 | 0 => by simp [slL]
 | j + 1 => by
  have := slL_r l j
  have := bitI_r (!l.getD (j + 1) false && l.getD j false)
  rw [slL]; omega
theorem slL_take {l : List Bool} {m : Nat} : ∀ {j : Nat}, j < m → slL (l.take m) j = slL l j
 | 0, _ => rfl
 | j + 1, h => by
  rw [slL, slL, slL_take (by omega)]
  have e : ∀ i, i < m → (l.take m).getD i false = l.getD i false := fun i hi => by
   simp only [List.getD_eq_getElem?_getD, List.getElem?_take, if_pos hi]
  rw [e _ h, e _ (by omega)]
theorem impl_slots_c {m0 : Bool} (l : List Bool) (hl : l.length ≤ 1048576) : Fun Tryz.prog 134 [(.sl (.lent m0) (List.map PV.bool (l)))] [(.int .i64 (slL l (l.length - 1)))] := by
 refine fO sg0 [2] Tryz.func134 ?_
 refine dE trivial ?_
 all_goals try (refine zlf ?_; repeat' first | exact zso | refine And.intro ?_ ?_ | (refine zim ?_; intro zb hc; repeat (have zc := zb.1; replace zb := zb.2)) | (refine zin ?_; intro zb) | intro j')
 all_goals try refine zbx ?_
 refine v_loopB (fun ms1 S1 => ∃ (j : Nat), S1.e 0 = .p (.sl (.lent m0) (List.map PV.bool (l))) ∧ S1.e 3 = .p (.int .i64 (slL l j)) ∧ S1.e 4 = .p (.int .i64 ((j + 1))) ∧ (j = 0 ∨ j + 1 ≤ l.length) ∧ ms1 = l.length - j) ((fun (j : Nat) => l.length - j) (0)) ?_ ⟨0, dIa trivial ?_⟩
 all_goals try (refine zlf ?_; repeat' first | exact zso | refine And.intro ?_ ?_ | (refine zim ?_; intro zb hc; repeat (have zc := zb.1; replace zb := zb.2)) | (refine zin ?_; intro zb) | intro j')
 all_goals try refine zbx ?_
 rintro ms1 S1 ⟨j, h1_0, h1_3, h1_4, c1_0, hm1⟩
 have fL1 := (And.intro h1_0 (And.intro h1_3 h1_4))
 have b1 := slL_r l j
 refine dEa fL1 ?_
 all_goals try (refine zlf ?_; repeat' first | exact zso | refine And.intro ?_ ?_ | (refine zim ?_; intro zb hc; repeat (have zc := zb.1; replace zb := zb.2)) | (refine zin ?_; intro zb) | intro j')
 all_goals try refine zbx ?_
 all_goals try rw [show ((j : Int) + 1 - 1).toNat = j by omega] at hc
 ·focus
   refine q_lp_n ((fun (j : Nat) => l.length - j) (j+1)) (dC fL1 ?_) ⟨j+1, dC fL1 ?_⟩
   all_goals try (refine zlf ?_; repeat' first | exact zso | refine And.intro ?_ ?_ | (refine zim ?_; intro zb hc; repeat (have zc := zb.1; replace zb := zb.2)) | (refine zin ?_; intro zb) | intro j')
   all_goals try refine zbx ?_
  all_goals first | omega | (rw [slL, ‹l.getD (j + 1) false = false›, hc]; rfl)
 ·focus
   refine q_lp_n ((fun (j : Nat) => l.length - j) (j+1)) (dC fL1 ?_) ⟨j+1, dC fL1 ?_⟩
   all_goals try (refine zlf ?_; repeat' first | exact zso | refine And.intro ?_ ?_ | (refine zim ?_; intro zb hc; repeat (have zc := zb.1; replace zb := zb.2)) | (refine zin ?_; intro zb) | intro j')
   all_goals try refine zbx ?_
  all_goals first | omega | (rw [slL, ‹l.getD (j + 1) false = false›, hc]; simp [bitI]; done)
 ·focus
   refine q_lp_n ((fun (j : Nat) => l.length - j) (j+1)) (dC fL1 ?_) ⟨j+1, dC fL1 ?_⟩
   all_goals try (refine zlf ?_; repeat' first | exact zso | refine And.intro ?_ ?_ | (refine zim ?_; intro zb hc; repeat (have zc := zb.1; replace zb := zb.2)) | (refine zin ?_; intro zb) | intro j')
   all_goals try refine zbx ?_
  all_goals first | omega | (rw [slL, hc]; simp [bitI]; done)
 ·rw [show l.length - 1 = j by omega]
/-! ### the places that are filled -/
/-- The row of places ahead of the number v: filled or open; both ends count as filled. -/
def fL (p : List Int) (v : Int) : List Bool := true :: (p.map (fun x => decide (x < v)) ++ [true])
theorem fL_len {p : List Int} {v : Int} : (fL p v).length = p.length + 2 := by simp [fL]
theorem fL_0 {p : List Int} {v : Int} : (fL p v).getD 0 false = true := rfl
theorem fL_at {p : List Int} {v : Int} {k : Nat} (h : k < p.length) : (fL p v).getD (k + 1) false = decide (p.getD k 0 < v) := by
 simp only [fL, List.getD_eq_getElem?_getD, List.getElem?_cons_succ]
 rw [List.getElem?_append_left (by simpa using h), List.getElem?_map, List.getElem?_eq_getElem h]; rfl
theorem fL_end {p : List Int} {v : Int} : (fL p v).getD (p.length + 1) false = true := by
 simp only [fL, List.getD_eq_getElem?_getD, List.getElem?_cons_succ]
 rw [List.getElem?_append_right (by simp)]; simp
theorem slL_end {p : List Int} {v : Int} : slL (fL p v) (p.length + 1) = slL (fL p v) p.length := by
 rw [slL, fL_end]; simp [bitI]
theorem fL_set {p : List Int} (hp : permB p = true) {v : Nat} {i : Nat} (hi : i < p.length) (e : p.getD i 0 = v) : (fL p v).set (i + 1) true = fL p ((v : Int) + 1) := by
 refine List.ext_getElem? fun j => ?_
 rw [List.getElem?_set]
 by_cases hj : i + 1 = j
 ·subst hj
  rw [if_pos rfl, fL_len, if_pos (by omega)]
  have h1 : (fL p ((v : Int) + 1)).getD (i + 1) false = true := by rw [fL_at hi, e]; exact decide_eq_true (by omega)
  rw [List.getD_eq_getElem?_getD, List.getElem?_eq_getElem (by rw [fL_len]; omega)] at h1
  rw [List.getElem?_eq_getElem (by rw [fL_len]; omega)]
  simpa using h1.symm
 ·rw [if_neg hj]
  cases j with
  | zero => rfl
  | succ k =>
   simp only [fL, List.getElem?_cons_succ]
   by_cases hk : k < p.length
   ·rw [List.getElem?_append_left (by simpa using hk), List.getElem?_append_left (by simpa using hk), List.getElem?_map, List.getElem?_map, List.getElem?_eq_getElem hk]
    simp only [Option.map_some, Option.some.injEq, decide_eq_decide]
    have h2 : p[k] ≠ (v : Int) := fun h3 => hj (by
     rw [perm_inj hp hi hk (by rw [e, ← h3, List.getD_eq_getElem?_getD, List.getElem?_eq_getElem hk]; rfl)])
    omega
   ·rw [List.getElem?_append_right (by simpa using hk), List.getElem?_append_right (by simpa using hk)]; simp
/-! ### each number's place -/
/-- The place of a number, from 0 on. -/
def psI (p : List Int) (v : Nat) : Nat := ((inv p).getD (v - 1) 0 - 1).toNat
theorem psI_eq {p : List Int} (hp : permB p = true) {v : Nat} (h1 : 1 ≤ v) (h2 : v ≤ p.length) : psI p v < p.length ∧ p.getD (psI p v) 0 = v ∧ (inv p).getD (v - 1) 0 = (psI p v : Int) + 1 := by
 obtain ⟨i, hi, e⟩ := perm_spot hp (v := v) (by omega) (by omega)
 have h3 := invL_at hp (Nat.le_refl _) i hi
 rw [e, show ((v : Int) - 1).toNat = v - 1 by omega] at h3
 have h4 : psI p v = i := by unfold psI inv; rw [h3]; omega
 rw [h4]; exact ⟨hi, e, h3⟩
theorem fL_1 {p : List Int} (hp : permB p = true) : ((List.replicate (p.length + 2) false).set 0 true).set (p.length + 1) true = fL p 1 := by
 refine List.ext_getElem? fun j => ?_
 rw [List.getElem?_set, List.getElem?_set]
 cases j with
 | zero => simp [fL]
 | succ k =>
  simp only [fL, List.getElem?_cons_succ]
  by_cases hk : k < p.length
  ·rw [List.getElem?_append_left (by simpa using hk), List.getElem?_map, List.getElem?_eq_getElem hk, if_neg (by omega), if_neg (by omega), List.getElem?_replicate, if_pos (by omega)]
   have := perm_at hp hk
   rw [List.getD_eq_getElem?_getD, List.getElem?_eq_getElem hk] at this
   simp only [Option.getD_some] at this
   simp; omega
  ·rw [List.getElem?_append_right (by simpa using hk)]
   by_cases e : k = p.length
   ·subst e; simp
   ·rw [if_neg (by omega), if_neg (by omega), List.getElem?_replicate, if_neg (by omega)]; simp; omega
def ltL (b a : Bool) : UInt8 := if b && a then 109 else if b then 114 else if a then 108 else 102
/-- The letter and the slot of a number. -/
def ltT (p : List Int) (v : Nat) : List UInt8 := ltL (!(fL p v).getD (psI p v) false) (!(fL p v).getD (psI p v + 2) false) :: fmtI (slL (fL p v) (psI p v + 1))
def txB (p : List Int) : Nat → List UInt8
 | 0 => []
 | v + 1 => txB p v ++ ltT p (v + 1)
def mxB (p : List Int) : Nat → Int
 | 0 => if p.length = 0 then 0 else 1
 | v + 1 => max (mxB p v) (slL (fL p ((v : Int) + 2)) p.length)
theorem mxB_r {p : List Int} : ∀ {v : Nat}, 0 ≤ mxB p v ∧ mxB p v ≤ max 1 p.length
 | 0 => by rw [mxB]; split <;> omega
 | v + 1 => by
  have := mxB_r (p := p) (v := v)
  have := slL_r (fL p ((v : Int) + 2)) p.length
  rw [mxB]; omega
theorem ltT_len {p : List Int} {v : Nat} (hl : psI p v ≤ 8) : (ltT p v).length ≤ 22 := by
 have h1 := slL_r (fL p v) (psI p v + 1)
 have := fmtI_len (n := slL (fL p v) (psI p v + 1)) (by omega) (by omega)
 rw [ltT, List.length_cons]; omega
theorem txB_len {p : List Int} (hp : permB p = true) (h8 : p.length ≤ 8) : ∀ {v : Nat}, v ≤ p.length → (txB p v).length ≤ v * 22
 | 0, _ => by simp [txB]
 | v + 1, h => by
  have h1 := txB_len hp h8 (v := v) (by omega)
  have h2 := ltT_len (p := p) (v := v + 1) (by have := (psI_eq hp (v := v + 1) (by omega) h).1; omega)
  rw [txB, List.length_append]; omega
theorem max1 {p : List Int} (hc : 0 < p.length) : mxB p 0 = 1 := by rw [mxB, if_neg (by omega)]
theorem max0 {p : List Int} (hc : ¬ 0 < p.length) : mxB p 0 = 0 := by rw [mxB, if_pos (by omega)]
set_option maxHeartbeats 1600000 in
theorem impl_building_c {m0 : Bool} (p : List Int) (h8 : p.length ≤ 8) (hp : permB p = true) : Fun Tryz.prog 113 [(.sl (.lent m0) (List.map (PV.int .i64) (p)))] [(.str (txB p p.length)), (.int .i64 (mxB p p.length))] := by
 have b1 : (inv p).length = p.length := inv_len
 by_cases hz : p = []
 ·have hz0 : p.length = 0 := by rw [hz]; rfl
  refine fO sg0 [2, 3] Tryz.func113 ?_
  have cE1 := @impl_inverse_c; have cE2 := @impl_slots_c; have cE3 := @impl_FormatInt_c
  refine dEa trivial ?_
  all_goals try (refine zlf ?_; repeat' first | exact zso | refine And.intro ?_ ?_ | (refine zim ?_; intro zb hc; repeat (have zc := zb.1; replace zb := zb.2)) | (refine zin ?_; intro zb) | intro j')
  all_goals try refine zbx ?_
  refine v_loopB (fun ms1 S1 => ∃ (v : Nat), S1.e 0 = .p (.sl (.lent m0) (List.map (PV.int .i64) (p))) ∧ OwnL (S1.e 4) S1.h S1.n (PV.int .i64) ((inv p).length) (inv p) ∧ S1.e 5 = .p (.str (txB p v)) ∧ S1.e 6 = .p (.int .i64 (mxB p v)) ∧ OwnL (S1.e 7) S1.h S1.n PV.bool ((fL p ((v : Int) + 1)).length) (fL p ((v : Int) + 1)) ∧ S1.e 8 = .p (.int .i64 ((v + 1))) ∧ (v ≤ p.length) ∧ NId (S1.e 7) (S1.e 4) ∧ ms1 = p.length - v) ((fun (v : Nat) => p.length - v) (0)) ?_ ⟨0, dC trivial ?_⟩
  all_goals try (refine zlf ?_; repeat' first | exact zso | refine And.intro ?_ ?_ | (refine zim ?_; intro zb hc; repeat (have zc := zb.1; replace zb := zb.2)) | (refine zin ?_; intro zb) | intro j')
  all_goals try refine zbx ?_
  rintro ms1 S1 ⟨v, h1_0, o1_4, h1_5, h1_6, o1_7, h1_8, c1_0, u1_0, hm1⟩
  obtain ⟨i1_4, h1_4, b1_4, l1_4⟩ := o1_4.out
  obtain ⟨i1_7, h1_7, b1_7, l1_7⟩ := o1_7.out
  have k1_0 := (u1_0).out h1_7 h1_4
  have ni1_4 := znds (x := i1_4) (n := S1.n)
  have ni1_7 := znds (x := i1_7) (n := S1.n)
  have di1_4i1_7 := zdne (x := i1_4) (y := i1_7)
  have fL1 := (And.intro h1_0 (And.intro h1_5 (And.intro h1_6 (And.intro h1_8 (And.intro h1_4 (And.intro b1_4 (And.intro h1_7 (And.intro b1_7 (And.intro ni1_4 (And.intro ni1_7 di1_4i1_7))))))))))
  ·have b2 : (fL p ((v : Int) + 1)).length = p.length + 2 := fL_len
   refine dEa fL1 ?_
   all_goals try (refine zlf ?_; repeat' first | exact zso | refine And.intro ?_ ?_ | (refine zim ?_; intro zb hc; repeat (have zc := zb.1; replace zb := zb.2)) | (refine zin ?_; intro zb) | intro j')
   all_goals try refine zbx ?_
   all_goals ((obtain rfl : v = p.length := (by omega)); rfl)
  ·exact (max0 (by omega)).symm
  ·rw [fL_len]; omega
  ·rw [show ((p.length : Int) + 2).toNat = p.length + 2 by omega]; exact fL_1 hp
 ·have hn : 0 < (p.length : Int) := by cases p with | nil => exact absurd rfl hz | cons => simp
  refine fO sg0 [2, 3] Tryz.func113 ?_
  have cE1 := @impl_inverse_c; have cE2 := @impl_slots_c; have cE3 := @impl_FormatInt_c
  refine dEa trivial ?_
  all_goals try (refine zlf ?_; repeat' first | exact zso | refine And.intro ?_ ?_ | (refine zim ?_; intro zb hc; repeat (have zc := zb.1; replace zb := zb.2)) | (refine zin ?_; intro zb) | intro j')
  all_goals try refine zbx ?_
  refine v_loopB (fun ms1 S1 => ∃ (v : Nat), S1.e 0 = .p (.sl (.lent m0) (List.map (PV.int .i64) (p))) ∧ OwnL (S1.e 4) S1.h S1.n (PV.int .i64) ((inv p).length) (inv p) ∧ S1.e 5 = .p (.str (txB p v)) ∧ S1.e 6 = .p (.int .i64 (mxB p v)) ∧ OwnL (S1.e 7) S1.h S1.n PV.bool ((fL p ((v : Int) + 1)).length) (fL p ((v : Int) + 1)) ∧ S1.e 8 = .p (.int .i64 ((v + 1))) ∧ (v ≤ p.length) ∧ NId (S1.e 7) (S1.e 4) ∧ ms1 = p.length - v) ((fun (v : Nat) => p.length - v) (0)) ?_ ⟨0, dC trivial ?_⟩
  all_goals try (refine zlf ?_; repeat' first | exact zso | refine And.intro ?_ ?_ | (refine zim ?_; intro zb hc; repeat (have zc := zb.1; replace zb := zb.2)) | (refine zin ?_; intro zb) | intro j')
  all_goals try refine zbx ?_
  rintro ms1 S1 ⟨v, h1_0, o1_4, h1_5, h1_6, o1_7, h1_8, c1_0, u1_0, hm1⟩
  obtain ⟨i1_4, h1_4, b1_4, l1_4⟩ := o1_4.out
  obtain ⟨i1_7, h1_7, b1_7, l1_7⟩ := o1_7.out
  have k1_0 := (u1_0).out h1_7 h1_4
  have ni1_4 := znds (x := i1_4) (n := S1.n)
  have ni1_7 := znds (x := i1_7) (n := S1.n)
  have di1_4i1_7 := zdne (x := i1_4) (y := i1_7)
  have fL1 := (And.intro h1_0 (And.intro h1_5 (And.intro h1_6 (And.intro h1_8 (And.intro h1_4 (And.intro b1_4 (And.intro h1_7 (And.intro b1_7 (And.intro ni1_4 (And.intro ni1_7 di1_4i1_7))))))))))
  have b2 : (fL p ((v : Int) + 1)).length = p.length + 2 := fL_len
  have b3 := txB_len hp h8 c1_0
  have b4 := mxB_r (p := p) (v := v)
  by_cases hk : v < p.length
  ·obtain ⟨q1, q2, q3⟩ := psI_eq hp (v := v + 1) (by omega) (by omega)
   have q4 : txB p (v + 1) = txB p v ++ ltT p (v + 1) := rfl
   have q5 : mxB p (v + 1) = max (mxB p v) (slL (fL p ((v : Int) + 2)) p.length) := rfl
   rw [ltT, show ((v + 1 : Nat) : Int) = (v : Int) + 1 by omega] at q4
   obtain ⟨i, hi⟩ : ∃ i, i = psI p (v + 1) := ⟨_, rfl⟩
   rw [← hi] at q1 q2 q3 q4
   have b5 := slL_r (fL p ((v : Int) + 1)) (i + 1)
   have b6 := slL_r (fL p ((v : Int) + 2)) p.length
   have e0 : ((v : Int) + 1 - 1).toNat = v := by omega
   have e1 : (inv p).getD v 0 = (i : Int) + 1 := q3
   have e2 : ((i : Int) + 1 + 1).toNat = i + 2 := by omega
   have e3 : ((i : Int) + 1 - 1).toNat = i := by omega
   have e3b : ((i : Int) + 1).toNat = i + 1 := by omega
   have e4 : slL ((fL p ((v : Int) + 1)).take (i + 2)) (((fL p ((v : Int) + 1)).take (i + 2)).length - 1) = slL (fL p ((v : Int) + 1)) (i + 1) := by
    rw [List.length_take, b2, show min (i + 2) (p.length + 2) - 1 = i + 1 by omega, slL_take (by omega)]
   have e6 : (fL p ((v : Int) + 1)).set (i + 1) true = fL p ((v : Int) + 2) := by
    have := fL_set hp (v := v + 1) q1 q2
    rw [show (((v + 1 : Nat) : Int)) = (v : Int) + 1 by omega, show (v : Int) + 1 + 1 = (v : Int) + 2 by omega] at this
    exact this
   have e7 : (fL p ((v : Int) + 2)).length = p.length + 2 := fL_len
   have e5 : slL (fL p ((v : Int) + 2)) ((fL p ((v : Int) + 2)).length - 1) = slL (fL p ((v : Int) + 2)) p.length := by
    rw [e7, show p.length + 2 - 1 = p.length + 1 by omega, slL_end]
   have b7 := fmtI_len (n := slL (fL p ((v : Int) + 1)) (i + 1)) (by omega) (by omega)
   have b8 : ((i + 2 : Nat) : Int) ≤ (fL p ((v : Int) + 1)).length := by rw [b2]; omega
   refine dEa (And.intro fL1 (And.intro @e0 (And.intro @e1 (And.intro @e2 (And.intro @e3 (And.intro @e3b (And.intro @e4 (And.intro @e6 @e5)))))))) ?_
   all_goals try (refine zlf ?_; repeat' first | exact zso | refine And.intro ?_ ?_ | (refine zim ?_; intro zb hc; repeat (have zc := zb.1; replace zb := zb.2)) | (refine zin ?_; intro zb) | intro j')
   all_goals try refine zbx ?_
   ·rw [‹(fL p ((v : Int) + 1)).getD i false = false›, hc] at q4
    focus
     refine q_lp_n ((fun (v : Nat) => p.length - v) (v+1)) (dC fL1 ?_) ⟨v+1, dC fL1 ?_⟩
     all_goals try (refine zlf ?_; repeat' first | exact zso | refine And.intro ?_ ?_ | (refine zim ?_; intro zb hc; repeat (have zc := zb.1; replace zb := zb.2)) | (refine zin ?_; intro zb) | intro j')
     all_goals try refine zbx ?_
    all_goals first | (rw [q4]; rfl) | (rw [List.take_of_length_le (by rw [b2, e7]; omega), e5, q5]; done) | (rw [fL_len, fL_len]; done) | skip
   ·rw [‹(fL p ((v : Int) + 1)).getD i false = false›, hc] at q4
    focus
     refine q_lp_n ((fun (v : Nat) => p.length - v) (v+1)) (dC fL1 ?_) ⟨v+1, dC fL1 ?_⟩
     all_goals try (refine zlf ?_; repeat' first | exact zso | refine And.intro ?_ ?_ | (refine zim ?_; intro zb hc; repeat (have zc := zb.1; replace zb := zb.2)) | (refine zin ?_; intro zb) | intro j')
     all_goals try refine zbx ?_
    all_goals first | (rw [q4]; rfl) | (rw [List.take_of_length_le (by rw [b2, e7]; omega), e5, q5]; done) | (rw [fL_len, fL_len]; done) | skip
   ·rw [‹(fL p ((v : Int) + 1)).getD i false = true›, hc] at q4
    focus
     refine q_lp_n ((fun (v : Nat) => p.length - v) (v+1)) (dC fL1 ?_) ⟨v+1, dC fL1 ?_⟩
     all_goals try (refine zlf ?_; repeat' first | exact zso | refine And.intro ?_ ?_ | (refine zim ?_; intro zb hc; repeat (have zc := zb.1; replace zb := zb.2)) | (refine zin ?_; intro zb) | intro j')
     all_goals try refine zbx ?_
    all_goals first | (rw [q4]; rfl) | (rw [List.take_of_length_le (by rw [b2, e7]; omega), e5, q5]; done) | (rw [fL_len, fL_len]; done) | skip
   ·rw [‹(fL p ((v : Int) + 1)).getD i false = true›, hc] at q4
    focus
     refine q_lp_n ((fun (v : Nat) => p.length - v) (v+1)) (dC fL1 ?_) ⟨v+1, dC fL1 ?_⟩
     all_goals try (refine zlf ?_; repeat' first | exact zso | refine And.intro ?_ ?_ | (refine zim ?_; intro zb hc; repeat (have zc := zb.1; replace zb := zb.2)) | (refine zin ?_; intro zb) | intro j')
     all_goals try refine zbx ?_
    all_goals first | (rw [q4]; rfl) | (rw [List.take_of_length_le (by rw [b2, e7]; omega), e5, q5]; done) | (rw [fL_len, fL_len]; done) | skip
  ·skip
   refine dEa fL1 ?_
   all_goals try (refine zlf ?_; repeat' first | exact zso | refine And.intro ?_ ?_ | (refine zim ?_; intro zb hc; repeat (have zc := zb.1; replace zb := zb.2)) | (refine zin ?_; intro zb) | intro j')
   all_goals try refine zbx ?_
   all_goals ((obtain rfl : v = p.length := (by omega)); rfl)
  ·exact (max1 (by omega)).symm
  ·rw [fL_len]; omega
  ·rw [show ((p.length : Int) + 2).toNat = p.length + 2 by omega]; exact fL_1 hp
end Go.Gl
set_option linter.unusedSimpArgs false
set_option linter.unusedVariables false
set_option maxRecDepth 20000
set_option linter.unusedSectionVars false
namespace Go.Gl
open Go Go.Proofs
variable [Amb]
variable [TabA]
theorem slL_f {p : List Int} {v : Int} {k : Nat} (hk : k < p.length) (h : p.getD k 0 < v) : slL (fL p v) (k + 1) = slL (fL p v) k := by
 rw [slL, fL_at hk, decide_eq_true h]; simp [bitI]
theorem slL_o {p : List Int} {v : Int} {k : Nat} (hk : k < p.length) (h : ¬ p.getD k 0 < v) : slL (fL p v) (k + 1) = slL (fL p v) k + bitI ((fL p v).getD k false) := by
 rw [slL, fL_at hk, decide_eq_false h]; rfl
def gsI (p : List Int) : Int := if isPermB p = true then mxB p p.length else 0
theorem spec_GreatestSlots_c {m0 : Bool} (p : List Int) (hl : p.length ≤ 1048576) : Fun Tryz.prog 60 [(.sl (.lent m0) (List.map (PV.int .i64) (p)))] [(.int .i64 (gsI p))] := by
 by_cases hp : isPermB p = true
 ·have pf := isPerm_facts hp
  have h8 := pf.1
  rw [gsI, if_pos hp]
  refine fO sg0 [2] Tryz.func60 ?_
  have cE1 := @spec_l1Bit_c; have cE2 := @spec_l1Max_c; have cE3 := @spec_IsPerm_c
  refine dEa @hp ?_
  all_goals try (refine zlf ?_; repeat' first | exact zso | refine And.intro ?_ ?_ | (refine zim ?_; intro zb hc; repeat (have zc := zb.1; replace zb := zb.2)) | (refine zin ?_; intro zb) | intro j')
  all_goals try refine zbx ?_
  ·rw [show p.length = 0 by omega, max0 (by omega)]
  ·have hn : 0 < p.length := by omega
   refine v_loopB (fun ms1 S1 => ∃ (v : Nat), S1.e 0 = .p (.sl (.lent m0) (List.map (PV.int .i64) (p))) ∧ S1.e 3 = .p (.int .i64 (mxB p v)) ∧ S1.e 4 = .p (.int .i64 ((v + 1))) ∧ (v ≤ p.length) ∧ ms1 = p.length - v) ((fun (v : Nat) => p.length - v) (0)) ?_ ⟨0, dC trivial ?_⟩
   all_goals try (refine zlf ?_; repeat' first | exact zso | refine And.intro ?_ ?_ | (refine zim ?_; intro zb hc; repeat (have zc := zb.1; replace zb := zb.2)) | (refine zin ?_; intro zb) | intro j')
   all_goals try refine zbx ?_
   rintro ms1 S1 ⟨v, h1_0, h1_3, h1_4, c1_0, hm1⟩
   have fL1 := (And.intro h1_0 (And.intro h1_3 h1_4))
   ·have b4 := mxB_r (p := p) (v := v)
    by_cases hv : v < p.length
    ·refine dEa fL1 ?_
     all_goals try (refine zlf ?_; repeat' first | exact zso | refine And.intro ?_ ?_ | (refine zim ?_; intro zb hc; repeat (have zc := zb.1; replace zb := zb.2)) | (refine zin ?_; intro zb) | intro j')
     all_goals try refine zbx ?_
     refine v_loopB (fun ms2 S2 => ∃ (k : Nat), S2.e 0 = .p (.sl (.lent m0) (List.map (PV.int .i64) (p))) ∧ S2.e 3 = .p (.int .i64 (mxB p v)) ∧ S2.e 4 = .p (.int .i64 ((v + 1))) ∧ S2.e 5 = .p (.int .i64 (slL (fL p ((v : Int) + 2)) k)) ∧ S2.e 6 = .p (.int .i64 (k)) ∧ (k ≤ p.length) ∧ S1.n ≤ S2.n ∧ ms2 = p.length - k) ((fun (k : Nat) => p.length - k) (0)) ?_ ⟨0, dC fL1 ?_⟩
     all_goals try (refine zlf ?_; repeat' first | exact zso | refine And.intro ?_ ?_ | (refine zim ?_; intro zb hc; repeat (have zc := zb.1; replace zb := zb.2)) | (refine zin ?_; intro zb) | intro j')
     all_goals try refine zbx ?_
     rintro ms2 S2 ⟨k, h2_0, h2_3, h2_4, h2_5, h2_6, c2_0, u2_0, hm2⟩
     have fL2 := (And.intro h2_0 (And.intro h2_3 (And.intro h2_4 (And.intro h2_5 h2_6))))
     have b5 := slL_r (fL p ((v : Int) + 2)) k
     have s1 : k < p.length → ¬ (v : Int) + 1 < p.getD k 0 → slL (fL p ((v : Int) + 2)) (k + 1) = slL (fL p ((v : Int) + 2)) k := fun h h1 => slL_f h (by omega)
     have s2 : k < p.length → (v : Int) + 1 < p.getD k 0 → slL (fL p ((v : Int) + 2)) (k + 1) = slL (fL p ((v : Int) + 2)) k + bitI ((fL p ((v : Int) + 2)).getD k false) := fun h h1 => slL_o h (by omega)
     have q5 : mxB p (v + 1) = max (mxB p v) (slL (fL p ((v : Int) + 2)) p.length) := rfl
     have s3 : k < p.length → ¬ (k : Int) = 0 → (fL p ((v : Int) + 2)).getD k false = decide (p.getD ((k : Int) - 1).toNat 0 ≤ (v : Int) + 1) := fun h h1 => by
      obtain ⟨j, rfl⟩ : ∃ j, k = j + 1 := ⟨k - 1, by omega⟩
      rw [fL_at (by omega), show (((j + 1 : Nat) : Int) - 1).toNat = j by omega]
      congr 1; simp only [eq_iff_iff]; omega
     have s4 : (k : Int) = 0 → (fL p ((v : Int) + 2)).getD k false = true := fun h => by
      obtain rfl : k = 0 := by omega
      exact fL_0
     have c0 := bitI_r false
     have c1 := bitI_r true
     have c2 := bitI_r (decide (p.getD ((k : Int) - 1).toNat 0 ≤ (v : Int) + 1))
     by_cases hk : k < p.length
     ·refine dEa fL2 ?_
      all_goals try (refine zlf ?_; repeat' first | exact zso | refine And.intro ?_ ?_ | (refine zim ?_; intro zb hc; repeat (have zc := zb.1; replace zb := zb.2)) | (refine zin ?_; intro zb) | intro j')
      all_goals try refine zbx ?_
      ·focus
        refine q_lp_n ((fun (k : Nat) => p.length - k) (k+1)) (dC fL2 ?_) ⟨k+1, dC fL2 ?_⟩
        all_goals try (refine zlf ?_; repeat' first | exact zso | refine And.intro ?_ ?_ | (refine zim ?_; intro zb hc; repeat (have zc := zb.1; replace zb := zb.2)) | (refine zin ?_; intro zb) | intro j')
        all_goals try refine zbx ?_
       all_goals (rw [s2 ‹_› ‹_›, s3 ‹_› hc])
      ·focus
        refine q_lp_n ((fun (k : Nat) => p.length - k) (k+1)) (dC fL2 ?_) ⟨k+1, dC fL2 ?_⟩
        all_goals try (refine zlf ?_; repeat' first | exact zso | refine And.intro ?_ ?_ | (refine zim ?_; intro zb hc; repeat (have zc := zb.1; replace zb := zb.2)) | (refine zin ?_; intro zb) | intro j')
        all_goals try refine zbx ?_
       all_goals (rw [s2 ‹_› ‹_›, s4 hc])
      ·focus
        refine q_lp_n ((fun (k : Nat) => p.length - k) (k+1)) (dC fL2 ?_) ⟨k+1, dC fL2 ?_⟩
        all_goals try (refine zlf ?_; repeat' first | exact zso | refine And.intro ?_ ?_ | (refine zim ?_; intro zb hc; repeat (have zc := zb.1; replace zb := zb.2)) | (refine zin ?_; intro zb) | intro j')
        all_goals try refine zbx ?_
       all_goals (rw [s1 ‹_› (by omega)]; simp [bitI])
     ·refine dEa fL2 ?_
      all_goals try (refine zlf ?_; repeat' first | exact zso | refine And.intro ?_ ?_ | (refine zim ?_; intro zb hc; repeat (have zc := zb.1; replace zb := zb.2)) | (refine zin ?_; intro zb) | intro j')
      all_goals try refine zbx ?_
      focus
       refine q_lp_n ((fun (v : Nat) => p.length - v) (v+1)) (dC fL2 ?_) ⟨v+1, dC fL2 ?_⟩
       all_goals try (refine zlf ?_; repeat' first | exact zso | refine And.intro ?_ ?_ | (refine zim ?_; intro zb hc; repeat (have zc := zb.1; replace zb := zb.2)) | (refine zin ?_; intro zb) | intro j')
       all_goals try refine zbx ?_
      all_goals (rw [q5, show k = p.length by omega])
    ·skip
     refine dEa fL1 ?_
     all_goals try (refine zlf ?_; repeat' first | exact zso | refine And.intro ?_ ?_ | (refine zim ?_; intro zb hc; repeat (have zc := zb.1; replace zb := zb.2)) | (refine zin ?_; intro zb) | intro j')
     all_goals try refine zbx ?_
     all_goals ((obtain rfl : v = p.length := (by omega)); rfl)
   all_goals exact (max1 hn).symm
 ·have hp' : isPermB p = false := by simpa using hp
  rw [gsI, if_neg hp]
  refine fO sg0 [2] Tryz.func60 ?_
  have cE1 := @spec_l1Bit_c; have cE2 := @spec_l1Max_c; have cE3 := @spec_IsPerm_c
  refine dEa @hp' ?_
  all_goals try (refine zlf ?_; repeat' first | exact zso | refine And.intro ?_ ?_ | (refine zim ?_; intro zb hc; repeat (have zc := zb.1; replace zb := zb.2)) | (refine zin ?_; intro zb) | intro j')
  all_goals try refine zbx ?_
theorem impl_GreatestSlots_c {m0 : Bool} (p : List Int) (hl : p.length ≤ 1048576) : Fun Tryz.prog 76 [(.sl (.lent m0) (List.map (PV.int .i64) (p)))] [(.int .i64 (gsI p))] := by
 by_cases hp : isPermB p = true
 ·have pf := isPerm_facts hp
  rw [gsI, if_pos hp]
  refine fO sg0 [2] Tryz.func76 ?_
  have cE1 := @impl_IsPerm_c; have cE2 := @impl_building_c
  refine dE @hp ?_
  all_goals try (refine zlf ?_; repeat' first | exact zso | refine And.intro ?_ ?_ | (refine zim ?_; intro zb hc) | (refine zin ?_; intro zb) | intro j')
  all_goals try refine zbx ?_
  all_goals first | exact pf.1 | exact pf.2 | skip
  all_goals try exact zaut
 ·have hp' : isPermB p = false := by simpa using hp
  rw [gsI, if_neg hp]
  refine fO sg0 [2] Tryz.func76 ?_
  have cE1 := @impl_IsPerm_c; have cE2 := @impl_building_c
  refine dEa @hp' ?_
  all_goals try (refine zlf ?_; repeat' first | exact zso | refine And.intro ?_ ?_ | (refine zim ?_; intro zb hc) | (refine zin ?_; intro zb) | intro j')
  all_goals try refine zbx ?_
end Go.Gl
set_option linter.unusedSimpArgs false
set_option linter.unusedVariables false
set_option maxRecDepth 20000
set_option linter.unusedSectionVars false
namespace Go.Gl
open Go Go.Proofs
variable [Amb]
variable [TabA]
theorem gs_r8 {p : List Int} : 0 ≤ gsI p ∧ gsI p ≤ 8 := by
 unfold gsI; split
 ·rename_i h
  have := (isPerm_facts h).1
  have := mxB_r (p := p) (v := p.length); omega
 ·omega
def mxR (b : Int) (R : List (List Int)) : Nat → Int
 | 0 => b
 | j + 1 => max (mxR b R j) (gsI (R.getD j []))
def suN (L : List (List Int)) : Nat → Int
 | 0 => 0
 | m + 1 => mxR (suN L m) (classL L m) (classL L m).length
theorem mxR_r {b : Int} {R : List (List Int)} (h : 0 ≤ b ∧ b ≤ 8) : ∀ {j : Nat}, 0 ≤ mxR b R j ∧ mxR b R j ≤ 8
 | 0 => h
 | j + 1 => by
  have := mxR_r (R := R) h (j := j)
  have := gs_r8 (p := R.getD j [])
  rw [mxR]; omega
theorem suN_r {L : List (List Int)} : ∀ {m : Nat}, 0 ≤ suN L m ∧ suN L m ≤ 8
 | 0 => by simp [suN]
 | m + 1 => mxR_r suN_r
def suB (L : List (List Int)) (n : Int) : Int := if basisB L = true ∧ 0 ≤ n ∧ n ≤ 6 then suN L (n.toNat + 1) else -1
theorem impl_SlotsUpTo_c {e0 m0 : Bool} (L : List (List Int)) (n : Int) (hL : L.length ≤ 1048576) (hl : ∀ l ∈ L, l.length ≤ 1048576) : Fun Tryz.prog 38 [(.sl (.lent m0) (List.map (elI e0) (L))), (.int .i64 (n))] [(.int .i64 (suB L n))] := by
 by_cases hc0 : basisB L = true ∧ 0 ≤ n ∧ n ≤ 6
 ·obtain ⟨k, rfl⟩ : ∃ k : Nat, n = k := ⟨n.toNat, by omega⟩
  have e1 : suB L k = suN L (k + 1) := by rw [suB, if_pos hc0, Int.toNat_natCast]
  have hb := basis_row hc0.1
  have e3 := hc0.1
  rw [e1]
  refine fO sg0 [4] Tryz.func38 ?_
  have cE1 := @impl_isSix_c; have cE2 := @impl_IsBasis_c; have cE3 := @impl_class_c; have cE4 := @impl_GreatestSlots_c
  refine dEa @e3 ?_
  all_goals try (refine zlf ?_; repeat' first | exact zso | refine And.intro ?_ ?_ | (refine zim ?_; intro zb hc; repeat (have zc := zb.1; replace zb := zb.2)) | (refine zin ?_; intro zb) | intro j')
  all_goals try refine zbx ?_
  refine v_loopB (fun ms1 S1 => ∃ (m : Nat), S1.e 0 = .p (.sl (.lent m0) (List.map (elI e0) (L))) ∧ S1.e 1 = .p (.int .i64 ((k : Int))) ∧ S1.e 5 = .p (.int .i64 (suN L m)) ∧ S1.e 18 = .p (.int .i64 (((k : Int) + 1))) ∧ S1.e 19 = .p (.int .i64 (m)) ∧ (m ≤ k + 1) ∧ ms1 = k + 1 - m) ((fun (m : Nat) => k + 1 - m) (0)) ?_ ⟨0, dC trivial ?_⟩
  all_goals try (refine zlf ?_; repeat' first | exact zso | refine And.intro ?_ ?_ | (refine zim ?_; intro zb hc; repeat (have zc := zb.1; replace zb := zb.2)) | (refine zin ?_; intro zb) | intro j')
  all_goals try refine zbx ?_
  rintro ms1 S1 ⟨m, h1_0, h1_1, h1_5, h1_18, h1_19, c1_0, hm1⟩
  have fL1 := (And.intro h1_0 (And.intro h1_1 (And.intro h1_5 (And.intro h1_18 h1_19))))
  have b1 := class_len (L := L) (n := m)
  have b2 := suN_r (L := L) (m := m)
  by_cases hm : m < k + 1
  ·refine dEa fL1 ?_
   all_goals try (refine zlf ?_; repeat' first | exact zso | refine And.intro ?_ ?_ | (refine zim ?_; intro zb hc; repeat (have zc := zb.1; replace zb := zb.2)) | (refine zin ?_; intro zb) | intro j')
   all_goals try refine zbx ?_
   refine v_loopB (fun ms2 S2 => ∃ (j : Nat), S2.e 0 = .p (.sl (.lent m0) (List.map (elI e0) (L))) ∧ S2.e 1 = .p (.int .i64 ((k : Int))) ∧ S2.e 5 = .p (.int .i64 (mxR (suN L m) (classL L m) j)) ∧ S2.e 18 = .p (.int .i64 (((k : Int) + 1))) ∧ S2.e 19 = .p (.int .i64 (m)) ∧ OwnL (S2.e 24) S2.h S2.n (elI false) ((classL L m).length) (classL L m) ∧ S2.e 25 = .p (.int .i64 ((classL L m).length)) ∧ S2.e 26 = .p (.int .i64 (j)) ∧ (j ≤ (classL L m).length) ∧ S1.n ≤ S2.n ∧ ms2 = (classL L m).length - j) ((fun (j : Nat) => (classL L m).length - j) (0)) ?_ ⟨0, dC fL1 ?_⟩
   all_goals try (refine zlf ?_; repeat' first | exact zso | refine And.intro ?_ ?_ | (refine zim ?_; intro zb hc; repeat (have zc := zb.1; replace zb := zb.2)) | (refine zin ?_; intro zb) | intro j')
   all_goals try refine zbx ?_
   rintro ms2 S2 ⟨j, h2_0, h2_1, h2_5, h2_18, h2_19, o2_24, h2_25, h2_26, c2_0, u2_0, hm2⟩
   obtain ⟨i2_24, h2_24, b2_24, l2_24⟩ := o2_24.out
   have ni2_24 := znds (x := i2_24) (n := S2.n)
   have fL2 := (And.intro h2_0 (And.intro h2_1 (And.intro h2_5 (And.intro h2_18 (And.intro h2_19 (And.intro h2_25 (And.intro h2_26 (And.intro h2_24 (And.intro b2_24 ni2_24)))))))))
   have b4 := mxR_r (R := classL L m) b2 (j := j)
   have b5 := gs_r8 (p := (classL L m).getD j [])
   by_cases hj : j < (classL L m).length
   ·have b3 := class_perm (show m ≤ 8 by omega) (getD_mem (d := []) hj)
    refine dEa fL2 ?_
    all_goals try (refine zlf ?_; repeat' first | exact zso | refine And.intro ?_ ?_ | (refine zim ?_; intro zb hc; repeat (have zc := zb.1; replace zb := zb.2)) | (refine zin ?_; intro zb) | intro j')
    all_goals try refine zbx ?_
    focus
     refine q_lp_n ((fun (j : Nat) => (classL L m).length - j) (j+1)) (dC fL2 ?_) ⟨j+1, dC fL2 ?_⟩
     all_goals try (refine zlf ?_; repeat' first | exact zso | refine And.intro ?_ ?_ | (refine zim ?_; intro zb hc; repeat (have zc := zb.1; replace zb := zb.2)) | (refine zin ?_; intro zb) | intro j')
     all_goals try refine zbx ?_
   ·refine dEa fL2 ?_
    all_goals try (refine zlf ?_; repeat' first | exact zso | refine And.intro ?_ ?_ | (refine zim ?_; intro zb hc; repeat (have zc := zb.1; replace zb := zb.2)) | (refine zin ?_; intro zb) | intro j')
    all_goals try refine zbx ?_
    focus
     refine q_lp_n ((fun (m : Nat) => k + 1 - m) (m+1)) (dC fL2 ?_) ⟨m+1, dC fL2 ?_⟩
     all_goals try (refine zlf ?_; repeat' first | exact zso | refine And.intro ?_ ?_ | (refine zim ?_; intro zb hc; repeat (have zc := zb.1; replace zb := zb.2)) | (refine zin ?_; intro zb) | intro j')
     all_goals try refine zbx ?_
    all_goals ((obtain rfl : j = (classL L m).length := (by omega)); rfl)
  ·skip
   refine dEa fL1 ?_
   all_goals try (refine zlf ?_; repeat' first | exact zso | refine And.intro ?_ ?_ | (refine zim ?_; intro zb hc; repeat (have zc := zb.1; replace zb := zb.2)) | (refine zin ?_; intro zb) | intro j')
   all_goals try refine zbx ?_
   all_goals ((obtain rfl : m = k + 1 := (by omega)); rfl)
 ·have e1 : suB L n = -1 := if_neg hc0
  rw [e1]
  refine fO sg0 [4] Tryz.func38 ?_
  have cE1 := @impl_isSix_c; have cE2 := @impl_IsBasis_c; have cE3 := @impl_class_c; have cE4 := @impl_GreatestSlots_c
  refine dEa trivial ?_
  all_goals try (refine zlf ?_; repeat' first | exact zso | refine And.intro ?_ ?_ | (refine zim ?_; intro zb hc; repeat (have zc := zb.1; replace zb := zb.2)) | (refine zin ?_; intro zb) | intro j')
  all_goals try refine zbx ?_
  all_goals exact absurd ⟨by assumption, by assumption⟩ hc0
theorem spec_SlotsUpTo_c {e0 m0 : Bool} (L : List (List Int)) (n : Int) (hL : L.length ≤ 1048576) (hl : ∀ l ∈ L, l.length ≤ 1048576) : Fun Tryz.prog 28 [(.sl (.lent m0) (List.map (elI e0) (L))), (.int .i64 (n))] [(.int .i64 (suB L n))] := by
 by_cases hc0 : basisB L = true ∧ 0 ≤ n ∧ n ≤ 6
 ·obtain ⟨k, rfl⟩ : ∃ k : Nat, n = k := ⟨n.toNat, by omega⟩
  have e1 : suB L k = suN L (k + 1) := by rw [suB, if_pos hc0, Int.toNat_natCast]
  have e3 := hc0.1
  rw [e1]
  refine fO sg0 [4] Tryz.func28 ?_
  have cE1 := @spec_l1In_c; have cE2 := @spec_l1Max_c; have cE3 := @spec_IsBasis_c; have cE4 := @spec_ClassOf_c; have cE5 := @spec_GreatestSlots_c
  refine dEa @e3 ?_
  all_goals try (refine zlf ?_; repeat' first | exact zso | refine And.intro ?_ ?_ | (refine zim ?_; intro zb hc; repeat (have zc := zb.1; replace zb := zb.2)) | (refine zin ?_; intro zb) | intro j')
  all_goals try refine zbx ?_
  refine v_loopB (fun ms1 S1 => ∃ (m : Nat), S1.e 0 = .p (.sl (.lent m0) (List.map (elI e0) (L))) ∧ S1.e 1 = .p (.int .i64 ((k : Int))) ∧ S1.e 5 = .p (.int .i64 (suN L m)) ∧ S1.e 6 = .p (.int .i64 (m)) ∧ (m ≤ k + 1) ∧ ms1 = k + 1 - m) ((fun (m : Nat) => k + 1 - m) (0)) ?_ ⟨0, dC trivial ?_⟩
  all_goals try (refine zlf ?_; repeat' first | exact zso | refine And.intro ?_ ?_ | (refine zim ?_; intro zb hc; repeat (have zc := zb.1; replace zb := zb.2)) | (refine zin ?_; intro zb) | intro j')
  all_goals try refine zbx ?_
  rintro ms1 S1 ⟨m, h1_0, h1_1, h1_5, h1_6, c1_0, hm1⟩
  have fL1 := (And.intro h1_0 (And.intro h1_1 (And.intro h1_5 h1_6)))
  have b1 := class_len (L := L) (n := m)
  have b2 := suN_r (L := L) (m := m)
  by_cases hm : m < k + 1
  ·have e2 : classB L m = classL L m := by rw [classB, if_pos ⟨e3, by omega⟩, Int.toNat_natCast]
   refine dEa (And.intro fL1 @e2) ?_
   all_goals try (refine zlf ?_; repeat' first | exact zso | refine And.intro ?_ ?_ | (refine zim ?_; intro zb hc; repeat (have zc := zb.1; replace zb := zb.2)) | (refine zin ?_; intro zb) | intro j')
   all_goals try refine zbx ?_
   refine v_loopB (fun ms2 S2 => ∃ (j : Nat), S2.e 0 = .p (.sl (.lent m0) (List.map (elI e0) (L))) ∧ S2.e 1 = .p (.int .i64 ((k : Int))) ∧ S2.e 5 = .p (.int .i64 (mxR (suN L m) (classL L m) j)) ∧ S2.e 6 = .p (.int .i64 (m)) ∧ OwnL (S2.e 7) S2.h S2.n (elI false) ((classL L m).length) (classL L m) ∧ S2.e 8 = .p (.int .i64 (j)) ∧ (j ≤ (classL L m).length) ∧ S1.n ≤ S2.n ∧ ms2 = (classL L m).length - j) ((fun (j : Nat) => (classL L m).length - j) (0)) ?_ ⟨0, dC fL1 ?_⟩
   all_goals try (refine zlf ?_; repeat' first | exact zso | refine And.intro ?_ ?_ | (refine zim ?_; intro zb hc; repeat (have zc := zb.1; replace zb := zb.2)) | (refine zin ?_; intro zb) | intro j')
   all_goals try refine zbx ?_
   rintro ms2 S2 ⟨j, h2_0, h2_1, h2_5, h2_6, o2_7, h2_8, c2_0, u2_0, hm2⟩
   obtain ⟨i2_7, h2_7, b2_7, l2_7⟩ := o2_7.out
   have ni2_7 := znds (x := i2_7) (n := S2.n)
   have fL2 := (And.intro h2_0 (And.intro h2_1 (And.intro h2_5 (And.intro h2_6 (And.intro h2_8 (And.intro h2_7 (And.intro b2_7 ni2_7)))))))
   have b4 := mxR_r (R := classL L m) b2 (j := j)
   have b5 := gs_r8 (p := (classL L m).getD j [])
   by_cases hj : j < (classL L m).length
   ·have b3 := class_perm (show m ≤ 8 by omega) (getD_mem (d := []) hj)
    refine dEa fL2 ?_
    all_goals try (refine zlf ?_; repeat' first | exact zso | refine And.intro ?_ ?_ | (refine zim ?_; intro zb hc; repeat (have zc := zb.1; replace zb := zb.2)) | (refine zin ?_; intro zb) | intro j')
    all_goals try refine zbx ?_
    focus
     refine q_lp_n ((fun (j : Nat) => (classL L m).length - j) (j+1)) (dC fL2 ?_) ⟨j+1, dC fL2 ?_⟩
     all_goals try (refine zlf ?_; repeat' first | exact zso | refine And.intro ?_ ?_ | (refine zim ?_; intro zb hc; repeat (have zc := zb.1; replace zb := zb.2)) | (refine zin ?_; intro zb) | intro j')
     all_goals try refine zbx ?_
   ·refine dEa fL2 ?_
    all_goals try (refine zlf ?_; repeat' first | exact zso | refine And.intro ?_ ?_ | (refine zim ?_; intro zb hc; repeat (have zc := zb.1; replace zb := zb.2)) | (refine zin ?_; intro zb) | intro j')
    all_goals try refine zbx ?_
    focus
     refine q_lp_n ((fun (m : Nat) => k + 1 - m) (m+1)) (dC fL2 ?_) ⟨m+1, dC fL2 ?_⟩
     all_goals try (refine zlf ?_; repeat' first | exact zso | refine And.intro ?_ ?_ | (refine zim ?_; intro zb hc; repeat (have zc := zb.1; replace zb := zb.2)) | (refine zin ?_; intro zb) | intro j')
     all_goals try refine zbx ?_
    all_goals ((obtain rfl : j = (classL L m).length := (by omega)); rfl)
  ·skip
   refine dEa fL1 ?_
   all_goals try (refine zlf ?_; repeat' first | exact zso | refine And.intro ?_ ?_ | (refine zim ?_; intro zb hc; repeat (have zc := zb.1; replace zb := zb.2)) | (refine zin ?_; intro zb) | intro j')
   all_goals try refine zbx ?_
   all_goals ((obtain rfl : m = k + 1 := (by omega)); rfl)
 ·have e1 : suB L n = -1 := if_neg hc0
  rw [e1]
  refine fO sg0 [4] Tryz.func28 ?_
  have cE1 := @spec_l1In_c; have cE2 := @spec_l1Max_c; have cE3 := @spec_IsBasis_c; have cE4 := @spec_ClassOf_c; have cE5 := @spec_GreatestSlots_c
  refine dEa trivial ?_
  all_goals try (refine zlf ?_; repeat' first | exact zso | refine And.intro ?_ ?_ | (refine zim ?_; intro zb hc; repeat (have zc := zb.1; replace zb := zb.2)) | (refine zin ?_; intro zb) | intro j')
  all_goals try refine zbx ?_
  all_goals exact absurd ⟨by assumption, by assumption⟩ hc0
end Go.Gl
set_option linter.unusedSimpArgs false
set_option linter.unusedVariables false
set_option maxRecDepth 20000
set_option linter.unusedSectionVars false
namespace Go.Gl
open Go Go.Proofs
variable [Amb]
variable [TabA]
def wFinite : List UInt8 := [102, 105, 110, 105, 116, 101]
def wSums : List UInt8 := [115, 117, 109, 115]
def desW (L : List (List Int)) : List (List UInt8) := [[99, 111, 117, 110, 116, 115], numT (ccR L 5), [107, 110, 111, 119, 110], knownR L 5, [119, 104, 111, 108, 101], numT (wholesB L 5), [115, 108, 111, 116, 115], fmtI (suB L 5)]
def desX (L : List (List Int)) : List (List UInt8) := desW L ++ (if finB L = true then [wFinite] else []) ++ (if scB L = true then [wSums] else [])
def desT (L : List (List Int)) : List UInt8 := if basisB L = true then Lib.join (desX L) [32] else []
theorem ccR_b {L : List (List Int)} {n : Int} : ∀ x ∈ ccR L n, -9223372036854775808 ≤ x ∧ x ≤ 9223372036854775807 := fun x hx => by
 unfold ccR at hx; split at hx
 ·obtain ⟨k, hk, rfl⟩ := List.mem_map.1 hx
  have := cls_b (L := L) (k := k) (by rw [List.mem_range] at hk; omega)
  omega
 ·simp at hx
theorem wh_b {L : List (List Int)} {n : Int} : ∀ x ∈ wholesB L n, -9223372036854775808 ≤ x ∧ x ≤ 9223372036854775807 := fun x hx => by
 unfold wholesB at hx; split at hx
 ·obtain ⟨k, hk, rfl⟩ := List.mem_map.1 hx
  have h1 := class_len (L := L) (n := k) (by rw [List.mem_range] at hk; omega)
  have h2 := List.length_filter_le (fun p => decide (partN p = 1)) (classL L k)
  unfold wholeN; omega
 ·simp at hx
theorem su_b {L : List (List Int)} {n : Int} : -1 ≤ suB L n ∧ suB L n ≤ 8 := by
 unfold suB; split
 ·have := suN_r (L := L) (m := n.toNat + 1); omega
 ·omega
theorem knW_len {k : Nat} : (knW k).length ≤ 9 := by
 unfold knW; split <;> decide
theorem kn_len {L : List (List Int)} {n : Int} : (knownR L n).length ≤ 9 := by
 unfold knownR knN
 repeat' split
 all_goals first | exact knW_len | decide
theorem cc5 {L : List (List Int)} (h : basisB L = true) : (ccR L 5).length = 6 := by rw [ccR, if_pos ⟨h, by omega⟩]; rfl
theorem wh5 {L : List (List Int)} (h : basisB L = true) : (wholesB L 5).length = 6 := by rw [wholesB, if_pos ⟨h, by omega⟩]; rfl
theorem num_ne {l : List Int} (h : l.length = 6) : numT l = Lib.join (fmtL l) [44] := by rw [numT, if_neg (by rintro rfl; simp at h)]
theorem desX_b {L : List (List Int)} (h : basisB L = true) : ∀ x ∈ desX L, x.length ≤ 200 := fun x hx => by
 have h1 := numT_len (ccR_b (L := L) (n := 5))
 have h2 := numT_len (wh_b (L := L) (n := 5))
 have h3 := kn_len (L := L) (n := 5)
 have h4 := fmtI_len (n := suB L 5) (by have := su_b (L := L) (n := 5); omega) (by have := su_b (L := L) (n := 5); omega)
 rw [cc5 h] at h1
 rw [wh5 h] at h2
 simp only [desX, desW, List.mem_append, List.mem_cons, List.not_mem_nil, or_false] at hx
 rcases hx with (hx | hx) | hx
 ·rcases hx with rfl | rfl | rfl | rfl | rfl | rfl | rfl | rfl <;> first | omega | (simp; done)
 ·split at hx <;> simp at hx; subst hx; decide
 ·split at hx <;> simp at hx; subst hx; decide
theorem desX_len {L : List (List Int)} (h : basisB L = true) : (Lib.join (desX L) [32]).length ≤ 4000 := by
 have := join_len_le (sep := [32]) (desX_b h)
 have e : (desX L).length ≤ 10 := by unfold desX desW; (repeat' split) <;> simp
 simp at this
 omega
theorem impl_DescribeClass_c {e0 m0 : Bool} (L : List (List Int)) (hL : L.length ≤ 1048576) (hl : ∀ l ∈ L, l.length ≤ 1048576) : Fun Tryz.prog 9 [(.sl (.lent m0) (List.map (elI e0) (L)))] [(.str (desT L))] := by
 by_cases hb : basisB L = true
 ·have e0 : desT L = Lib.join (desX L) [32] := if_pos hb
  have b0 := desX_len hb
  have b1 := ccR_b (L := L) (n := 5)
  have b2 := wh_b (L := L) (n := 5)
  have b3 := su_b (L := L) (n := 5)
  have b4 := cc5 hb
  have b5 := wh5 hb
  rw [e0]
  obtain ⟨W, hW⟩ : ∃ W, desW L = W := ⟨_, rfl⟩
  have hn : W.length = 8 := by rw [← hW]; rfl
  have hw : [PV.str [99, 111, 117, 110, 116, 115], PV.str (numT (ccR L 5)), PV.str [107, 110, 111, 119, 110], PV.str (knownR L 5), PV.str [119, 104, 111, 108, 101], PV.str (numT (wholesB L 5)), PV.str [115, 108, 111, 116, 115], PV.str (fmtI (suB L 5))] = List.map PV.str W := by rw [← hW]; rfl
  have hf : ([102, 105, 110, 105, 116, 101] : List UInt8) = wFinite := rfl
  have hs : ([115, 117, 109, 115] : List UInt8) = wSums := rfl
  have n1 : ∀ x : List UInt8, (W ++ [x]).length = 9 := fun x => by rw [List.length_append, hn]; rfl
  have n3 : ∀ x y : List UInt8, (W ++ [x] ++ [y]).length = 10 := fun x y => by rw [List.length_append, n1]; rfl
  have k1 : ∀ x : List UInt8, List.take 9 (W ++ [x]) = W ++ [x] := fun x => List.take_of_length_le (by rw [n1]; omega)
  have k8 : List.take 8 W = W := List.take_of_length_le (by omega)
  have n4 : ∀ x y : List UInt8, (W ++ [x, y]).length = 10 := fun x y => by rw [List.length_append, hn]; rfl
  have k4 : ∀ x y : List UInt8, List.take 10 (W ++ [x, y]) = W ++ [x, y] := fun x y => List.take_of_length_le (by rw [n4]; omega)
  have k3 : ∀ x y : List UInt8, List.take 10 (W ++ [x] ++ [y]) = W ++ [x] ++ [y] := fun x y => List.take_of_length_le (by rw [n3]; omega)
  rw [desX, hW] at b0 ⊢
  by_cases h1 : finB L = true
  ·by_cases h2 : scB L = true
   ·rw [if_pos h1, if_pos h2] at b0 ⊢
    simp only [List.append_nil, List.append_assoc, List.cons_append, List.nil_append] at b0 ⊢
    refine fO sg0 [2] Tryz.func9 ?_
    have cE1 := @impl_IsBasis_c; have cE2 := @impl_ClassCounts_c; have cE3 := @impl_NumbersText_c; have cE4 := @impl_KnownCounts_c; have cE5 := @impl_WholeCounts_c; have cE6 := @impl_SlotsUpTo_c
    have cE7 := @impl_FormatInt_c; have cE8 := @impl_IsFinite_c; have cE9 := @impl_IsSumClosed_c; have cE10 := @strings_Join_c
    refine dEa (And.intro @hb (And.intro @h1 (And.intro @h2 (And.intro @hw (And.intro @hn (And.intro @hf (And.intro @hs (And.intro @n1 (And.intro @n3 (And.intro @n4 (And.intro @k1 (And.intro @k3 (And.intro @k4 @k8))))))))))))) ?_
    all_goals try (refine zlf ?_; repeat' first | exact zso | refine And.intro ?_ ?_ | (refine zim ?_; intro zb hc) | (refine zin ?_; intro zb) | intro j')
    all_goals try refine zbx ?_
    all_goals trace_state
   ·rw [Bool.not_eq_true] at h2
    rw [if_pos h1, if_neg (by rw [h2]; decide)] at b0 ⊢
    simp only [List.append_nil, List.append_assoc, List.cons_append, List.nil_append] at b0 ⊢
    refine fO sg0 [2] Tryz.func9 ?_
    have cE1 := @impl_IsBasis_c; have cE2 := @impl_ClassCounts_c; have cE3 := @impl_NumbersText_c; have cE4 := @impl_KnownCounts_c; have cE5 := @impl_WholeCounts_c; have cE6 := @impl_SlotsUpTo_c
    have cE7 := @impl_FormatInt_c; have cE8 := @impl_IsFinite_c; have cE9 := @impl_IsSumClosed_c; have cE10 := @strings_Join_c
    refine dEa (And.intro @hb (And.intro @h1 (And.intro @h2 (And.intro @hw (And.intro @hn (And.intro @hf (And.intro @hs (And.intro @n1 (And.intro @n3 (And.intro @n4 (And.intro @k1 (And.intro @k3 (And.intro @k4 @k8))))))))))))) ?_
    all_goals try (refine zlf ?_; repeat' first | exact zso | refine And.intro ?_ ?_ | (refine zim ?_; intro zb hc) | (refine zin ?_; intro zb) | intro j')
    all_goals try refine zbx ?_
    all_goals trace_state
  ·rw [Bool.not_eq_true] at h1
   by_cases h2 : scB L = true
   ·rw [if_neg (by rw [h1]; decide), if_pos h2] at b0 ⊢
    simp only [List.append_nil, List.append_assoc, List.cons_append, List.nil_append] at b0 ⊢
    refine fO sg0 [2] Tryz.func9 ?_
    have cE1 := @impl_IsBasis_c; have cE2 := @impl_ClassCounts_c; have cE3 := @impl_NumbersText_c; have cE4 := @impl_KnownCounts_c; have cE5 := @impl_WholeCounts_c; have cE6 := @impl_SlotsUpTo_c
    have cE7 := @impl_FormatInt_c; have cE8 := @impl_IsFinite_c; have cE9 := @impl_IsSumClosed_c; have cE10 := @strings_Join_c
    refine dEa (And.intro @hb (And.intro @h1 (And.intro @h2 (And.intro @hw (And.intro @hn (And.intro @hf (And.intro @hs (And.intro @n1 (And.intro @n3 (And.intro @n4 (And.intro @k1 (And.intro @k3 (And.intro @k4 @k8))))))))))))) ?_
    all_goals try (refine zlf ?_; repeat' first | exact zso | refine And.intro ?_ ?_ | (refine zim ?_; intro zb hc) | (refine zin ?_; intro zb) | intro j')
    all_goals try refine zbx ?_
    all_goals trace_state
   ·rw [Bool.not_eq_true] at h2
    rw [if_neg (by rw [h1]; decide), if_neg (by rw [h2]; decide)] at b0 ⊢
    simp only [List.append_nil, List.append_assoc, List.cons_append, List.nil_append] at b0 ⊢
    refine fO sg0 [2] Tryz.func9 ?_
    have cE1 := @impl_IsBasis_c; have cE2 := @impl_ClassCounts_c; have cE3 := @impl_NumbersText_c; have cE4 := @impl_KnownCounts_c; have cE5 := @impl_WholeCounts_c; have cE6 := @impl_SlotsUpTo_c
    have cE7 := @impl_FormatInt_c; have cE8 := @impl_IsFinite_c; have cE9 := @impl_IsSumClosed_c; have cE10 := @strings_Join_c
    refine dEa (And.intro @hb (And.intro @h1 (And.intro @h2 (And.intro @hw (And.intro @hn (And.intro @hf (And.intro @hs (And.intro @n1 (And.intro @n3 (And.intro @n4 (And.intro @k1 (And.intro @k3 (And.intro @k4 @k8))))))))))))) ?_
    all_goals try (refine zlf ?_; repeat' first | exact zso | refine And.intro ?_ ?_ | (refine zim ?_; intro zb hc) | (refine zin ?_; intro zb) | intro j')
    all_goals try refine zbx ?_
    all_goals trace_state
 ·rw [Bool.not_eq_true] at hb
  rw [show desT L = [] from if_neg (by rw [hb]; decide)]
  refine fO sg0 [2] Tryz.func9 ?_
  have cE1 := @impl_IsBasis_c; have cE2 := @impl_ClassCounts_c; have cE3 := @impl_NumbersText_c; have cE4 := @impl_KnownCounts_c; have cE5 := @impl_WholeCounts_c; have cE6 := @impl_SlotsUpTo_c
  have cE7 := @impl_FormatInt_c; have cE8 := @impl_IsFinite_c; have cE9 := @impl_IsSumClosed_c; have cE10 := @strings_Join_c
  refine dEa @hb ?_
  all_goals try (refine zlf ?_; repeat' first | exact zso | refine And.intro ?_ ?_ | (refine zim ?_; intro zb hc) | (refine zin ?_; intro zb) | intro j')
  all_goals try refine zbx ?_
theorem spec_DescribeClass_c {e0 m0 : Bool} (L : List (List Int)) (hL : L.length ≤ 1048576) (hl : ∀ l ∈ L, l.length ≤ 1048576) : Fun Tryz.prog 7 [(.sl (.lent m0) (List.map (elI e0) (L)))] [(.str (desT L))] := by
 by_cases hb : basisB L = true
 ·have e0 : desT L = Lib.join (desX L) [32] := if_pos hb
  have b0 := desX_len hb
  have b1 := ccR_b (L := L) (n := 5)
  have b2 := wh_b (L := L) (n := 5)
  have b3 := su_b (L := L) (n := 5)
  have b4 := cc5 hb
  have b5 := wh5 hb
  have g1 := fmtL_len b1
  have g2 := fmtL_len b2
  have g3 := kn_len (L := L) (n := 5)
  have g4 := fmtI_len (n := suB L 5) (by omega) (by omega)
  rw [e0]
  refine fO sg0 [2] Tryz.func7 ?_
  have cE1 := @spec_IsBasis_c; have cE2 := @spec_ClassCounts_c; have cE3 := @spec_l35Text_c; have cE4 := @spec_KnownCounts_c; have cE5 := @spec_WholeCounts_c; have cE6 := @spec_SlotsUpTo_c
  have cE7 := @spec_FormatInt_c; have cE8 := @spec_IsFinite_c; have cE9 := @spec_IsSumClosed_c
  refine dEa @hb ?_
  all_goals try (refine zlf ?_; repeat' first | exact zso | refine And.intro ?_ ?_ | (refine zim ?_; intro zb hc; repeat (have zc := zb.1; replace zb := zb.2)) | (refine zin ?_; intro zb) | intro j')
  all_goals try refine zbx ?_
  all_goals have zf : finB L = true ∨ finB L = false := by cases finB L <;> simp
  all_goals (rw [desX, desW, num_ne b4, num_ne b5])
  all_goals simp only [*, if_true, if_false, Bool.false_eq_true, List.cons_append, List.nil_append, List.append_nil, Lib.join_cons, Lib.joinTail, List.flatMap_cons, List.flatMap_nil, List.append_assoc, wFinite, wSums]
  all_goals first | rfl | (simp; done) | trace_state
 ·rw [Bool.not_eq_true] at hb
  rw [show desT L = [] from if_neg (by rw [hb]; decide)]
  refine fO sg0 [2] Tryz.func7 ?_
  have cE1 := @spec_IsBasis_c; have cE2 := @spec_ClassCounts_c; have cE3 := @spec_l35Text_c; have cE4 := @spec_KnownCounts_c; have cE5 := @spec_WholeCounts_c; have cE6 := @spec_SlotsUpTo_c
  have cE7 := @spec_FormatInt_c; have cE8 := @spec_IsFinite_c; have cE9 := @spec_IsSumClosed_c
  refine dEa @hb ?_
  all_goals try (refine zlf ?_; repeat' first | exact zso | refine And.intro ?_ ?_ | (refine zim ?_; intro zb hc; repeat (have zc := zb.1; replace zb := zb.2)) | (refine zin ?_; intro zb) | intro j')
  all_goals try refine zbx ?_
end Go.Gl
set_option linter.unusedSimpArgs false
set_option linter.unusedVariables false
set_option maxRecDepth 20000
set_option linter.unusedSectionVars false
namespace Go.Gl
open Go Go.Proofs
variable [Amb]
/-- The basis of a text. -/
def pbOk (s : List UInt8) : Bool := decide (s = []) || ((splitC 32 s).all prsB && basisB ((splitC 32 s).map prsL))
def pbL (s : List UInt8) : List (List Int) := if s = [] then [] else if pbOk s = true then (splitC 32 s).map prsL else []
theorem spB_mem {c : UInt8} : ∀ {s cur : List UInt8}, ∀ x ∈ spB c s cur, x.length ≤ s.length + cur.length
 | [], cur, x, h => by simp [spB] at h; subst h; simp
 | b :: l, cur, x, h => by
  rw [spB] at h
  split at h
  ·rcases List.mem_cons.1 h with rfl | h
   ·simp
   ·have := spB_mem x h; simp at this ⊢; omega
  ·have := spB_mem x h; simp at this ⊢; omega
theorem prsL_len {s : List UInt8} : (prsL s).length ≤ s.length := by
 unfold prsL; split
 ·simp
 ·split
  ·simp [dgL]
  ·simp
theorem all_atB {α : Type} {l : List α} {p : α → Bool} {k : Nat} {d : α} (h : k < l.length) (hf : p (l.getD k d) = false) : l.all p = false := by
 rw [List.all_eq_false]; exact ⟨l.getD k d, getD_mem h, by rw [hf]; decide⟩
theorem pb_no {s : List UInt8} {k : Nat} (hn : ¬ s = []) (hk : k < (splitC 32 s).length) (h : prsB ((splitC 32 s).getD k []) = false) : pbOk s = false := by
 rw [pbOk, decide_eq_false hn, all_atB hk h]; rfl
theorem pb_end {s : List UInt8} (hn : ¬ s = []) (h : (splitC 32 s).all prsB = true) : pbOk s = basisB ((splitC 32 s).map prsL) := by
 rw [pbOk, decide_eq_false hn, h]; simp
theorem pbL_no {s : List UInt8} (h : pbOk s = false) : pbL s = [] := by
 rw [pbL]; split
 ·rfl
 ·rw [if_neg (by rw [h]; decide)]
theorem pbL_yes {s : List UInt8} (hn : ¬ s = []) (h : pbOk s = true) : pbL s = (splitC 32 s).map prsL := by rw [pbL, if_neg hn, if_pos h]
theorem pb_row {s : List UInt8} (b9 : ∀ x ∈ splitC 32 s, x.length ≤ 1000) {k : Nat} : ∀ l ∈ ((splitC 32 s).take k).map prsL, l.length ≤ 1048576 := fun l hl => by
 obtain ⟨x, hx, rfl⟩ := List.mem_map.1 hl
 have := b9 x (List.mem_of_mem_take hx)
 have := prsL_len (s := x); omega
def sgPB : FuncId → List Bool := fun f => if f = 4294967297 then [true, false, false] else []
theorem sgPB_eq {f : FuncId} : sgPB f = if f = 4294967297 then [true, false, false] else [] := _root_.id rfl
theorem way_sgPB : wayE sgPB = false ∧ wayN sgPB = true ∧ wayS sgPB = false ∧ wayZ sgPB = false := ⟨rfl, rfl, rfl, rfl⟩
attribute [go_sem] sgPB_eq way_sgPB
theorem spec_ParseBasis_c (s : List UInt8) (hl : s.length ≤ 1000) : Fun Tryz.prog 47 [(.str (s))] [(.dl (List.map (List.map (PV.int .i64)) (pbL s))), (.bool (pbOk s))] := by
 refine fO sgPB [2, 3] Tryz.func47 ?_
 have cE1 := @spec_SplitByte_c; have cE2 := @spec_ParsePerm_c; have cE3 := @spec_IsBasis_c
 have b0 := spB_len (c := 32) (s := s) (cur := [])
 have b9 : ∀ x ∈ splitC 32 s, x.length ≤ 1000 := fun x hx => by have := spB_mem x hx; simp at this; omega
 have b8 : (splitC 32 s).length ≤ 1001 := by unfold splitC; omega
 have hS := spec_SplitByte_c s 32 (by omega)
 rw [show (((32 : UInt8).toNat : Nat) : Int) = 32 from rfl] at hS
 have cE1 := @hS; have cE2 := @spec_SplitByte_c; have cE3 := @spec_ParsePerm_c; have cE4 := @spec_IsBasis_c
 refine dEa trivial ?_
 all_goals try (refine zlf ?_; repeat' first | exact zso | refine And.intro ?_ ?_ | (refine zim ?_; intro zb hc) | (refine zin ?_; intro zb) | intro j')
 all_goals try refine zbx ?_
 ·subst hc; rfl
 ·subst hc; rfl
 ·have hn := hc
  refine v_loopB (fun ms1 S1 => ∃ (k : Nat), S1.e 0 = .p (.str (s)) ∧ DwnL (S1.e 4) S1.h S1.n (PV.int .i64) ((((splitC 32 s).take k).map prsL).length) (((splitC 32 s).take k).map prsL) ∧ OwnL (S1.e 5) S1.h S1.n PV.str ((splitC 32 s).length) (splitC 32 s) ∧ S1.e 6 = .p (.int .i64 (k)) ∧ (k ≤ (splitC 32 s).length) ∧ (((splitC 32 s).take k).all prsB = true) ∧ NId (S1.e 5) (S1.e 4) ∧ ms1 = (splitC 32 s).length - k) ((fun (k : Nat) => (splitC 32 s).length - k) (0)) ?_ ⟨0, dC trivial ?_⟩
  all_goals try (refine zlf ?_; repeat' first | exact zso | refine And.intro ?_ ?_ | (refine zim ?_; intro zb hc) | (refine zin ?_; intro zb) | intro j')
  all_goals try refine zbx ?_
  rintro ms1 S1 ⟨k, h1_0, o1_4, o1_5, h1_6, c1_0, c1_1, u1_0, hm1⟩
  obtain ⟨i1_4, h1_4, b1_4, l1_4⟩ := o1_4.out
  obtain ⟨i1_5, h1_5, b1_5, l1_5⟩ := o1_5.out
  have k1_0 := (u1_0).out h1_5 h1_4
  have ni1_4 := znds (x := i1_4) (n := S1.n)
  have ni1_5 := znds (x := i1_5) (n := S1.n)
  have di1_4i1_5 := zdne (x := i1_4) (y := i1_5)
  have fL1 := (And.intro h1_0 (And.intro h1_6 (And.intro h1_4 (And.intro b1_4 (And.intro h1_5 (And.intro b1_5 (And.intro ni1_4 (And.intro ni1_5 di1_4i1_5))))))))
  have b7 : k < (splitC 32 s).length → ((splitC 32 s).getD k []).length ≤ 1048576 := fun h => by have := b9 ((splitC 32 s).getD k []) (getD_mem h); omega
  have r1 := pb_row b9 (k := k)
  by_cases hk : k < (splitC 32 s).length
  ·have cE1 := @spec_SplitByte_c; have cE2 := @spec_ParsePerm_c; have cE3 := @spec_IsBasis_c; have cE4 := trivial
   refine dEa fL1 ?_
   all_goals try (refine zlf ?_; repeat' first | exact zso | refine And.intro ?_ ?_ | (refine zim ?_; intro zb hc) | (refine zin ?_; intro zb) | intro j')
   all_goals try refine zbx ?_
   ·rw [pbL_no (pb_no hn hk hc)]; rfl
   ·exact (pb_no hn hk hc).symm
   ·focus
     refine q_lp_n ((fun (k : Nat) => (splitC 32 s).length - k) (k+1)) (dC fL1 ?_) ⟨k+1, dC fL1 ?_⟩
     all_goals try (refine zlf ?_; repeat' first | exact zso | refine And.intro ?_ ?_ | (refine zim ?_; intro zb hc) | (refine zin ?_; intro zb) | intro j')
     all_goals try refine zbx ?_
    all_goals first | (rw [take_getD (d := []) hk]; simp; done) | (rw [take_getD (d := []) hk, List.all_append, c1_1, List.all_cons, hc]; rfl) | skip
  ·rw [List.take_of_length_le (by omega)] at c1_1 r1
   have r2 := pb_end hn c1_1
   have e0 : (splitC 32 s).take k = splitC 32 s := List.take_of_length_le (by omega)
   have cE1 := @spec_SplitByte_c; have cE2 := @spec_ParsePerm_c; have cE3 := @spec_IsBasis_c; have cE4 := trivial
   refine dE (And.intro fL1 @e0) ?_
   all_goals try (refine zlf ?_; repeat' first | exact zso | refine And.intro ?_ ?_ | (refine zim ?_; intro zb hc) | (refine zin ?_; intro zb) | intro j')
   all_goals try refine zbx ?_
   all_goals try exact r1
   all_goals try exact zaut
   ·rw [pbL_no (r2.trans hc)]; rfl
   ·exact (r2.trans hc).symm
   ·rw [pbL_yes hn (r2.trans hc)]
   ·exact (r2.trans hc).symm
end Go.Gl
set_option linter.unusedSimpArgs false
set_option linter.unusedVariables false
set_option maxRecDepth 20000
set_option linter.unusedSectionVars false
namespace Go.Gl
open Go Go.Proofs
variable [Amb]
variable [SplA]
def sgPZ : FuncId → List Bool := fun f => if f = 4294967297 then [true, false, true] else []
theorem sgPZ_eq {f : FuncId} : sgPZ f = if f = 4294967297 then [true, false, true] else [] := _root_.id rfl
theorem way_sgPZ : wayE sgPZ = false ∧ wayN sgPZ = true ∧ wayS sgPZ = false ∧ wayZ sgPZ = true := ⟨rfl, rfl, rfl, rfl⟩
attribute [go_sem] sgPZ_eq way_sgPZ
theorem impl_ParseBasis_c (s : List UInt8) (hl : s.length ≤ 1000) : Fun Tryz.prog 46 [(.str (s))] [(.dl (List.map (List.map (PV.int .i64)) (pbL s))), (.bool (pbOk s))] := by
 refine fO sgPZ [2, 3] Tryz.func46 ?_
 have cE1 := @strings_Split_c; have cE2 := @impl_ParsePerm_c; have cE3 := @impl_IsBasis_c
 have b0 := spB_len (c := 32) (s := s) (cur := [])
 have b9 : ∀ x ∈ splitC 32 s, x.length ≤ 1000 := fun x hx => by have := spB_mem x hx; simp at this; omega
 have b8 : (splitC 32 s).length ≤ 1001 := by unfold splitC; omega
 have hS := strings_Split_c s 32 (by omega)
 have cE1 := @hS; have cE2 := @strings_Split_c; have cE3 := @impl_ParsePerm_c; have cE4 := @impl_IsBasis_c
 refine dEa trivial ?_
 all_goals try (refine zlf ?_; repeat' first | exact zso | refine And.intro ?_ ?_ | (refine zim ?_; intro zb hc) | (refine zin ?_; intro zb) | intro j')
 all_goals try refine zbx ?_
 ·subst hc; rfl
 ·subst hc; rfl
 ·have hn := hc
  refine v_loopB (fun ms1 S1 => ∃ (k : Nat), DwnL (S1.e 4) S1.h S1.n (PV.int .i64) ((((splitC 32 s).take k).map prsL).length) (((splitC 32 s).take k).map prsL) ∧ OwnL (S1.e 14) S1.h S1.n PV.str ((splitC 32 s).length) (splitC 32 s) ∧ S1.e 15 = .p (.int .i64 ((splitC 32 s).length)) ∧ S1.e 16 = .p (.int .i64 (k)) ∧ (k ≤ (splitC 32 s).length) ∧ (((splitC 32 s).take k).all prsB = true) ∧ NId (S1.e 14) (S1.e 4) ∧ ms1 = (splitC 32 s).length - k) ((fun (k : Nat) => (splitC 32 s).length - k) (0)) ?_ ⟨0, dC trivial ?_⟩
  all_goals try (refine zlf ?_; repeat' first | exact zso | refine And.intro ?_ ?_ | (refine zim ?_; intro zb hc) | (refine zin ?_; intro zb) | intro j')
  all_goals try refine zbx ?_
  rintro ms1 S1 ⟨k, o1_4, o1_14, h1_15, h1_16, c1_0, c1_1, u1_0, hm1⟩
  obtain ⟨i1_4, h1_4, b1_4, l1_4⟩ := o1_4.out
  obtain ⟨i1_14, h1_14, b1_14, l1_14⟩ := o1_14.out
  have k1_0 := (u1_0).out h1_14 h1_4
  have ni1_4 := znds (x := i1_4) (n := S1.n)
  have ni1_14 := znds (x := i1_14) (n := S1.n)
  have di1_4i1_14 := zdne (x := i1_4) (y := i1_14)
  have fL1 := (And.intro h1_15 (And.intro h1_16 (And.intro h1_4 (And.intro b1_4 (And.intro h1_14 (And.intro b1_14 (And.intro ni1_4 (And.intro ni1_14 di1_4i1_14))))))))
  have b7 : k < (splitC 32 s).length → ((splitC 32 s).getD k []).length ≤ 1048576 := fun h => by have := b9 ((splitC 32 s).getD k []) (getD_mem h); omega
  have r1 := pb_row b9 (k := k)
  by_cases hk : k < (splitC 32 s).length
  ·have cE1 := @strings_Split_c; have cE2 := @impl_ParsePerm_c; have cE3 := @impl_IsBasis_c; have cE4 := trivial
   refine dEa fL1 ?_
   all_goals try (refine zlf ?_; repeat' first | exact zso | refine And.intro ?_ ?_ | (refine zim ?_; intro zb hc) | (refine zin ?_; intro zb) | intro j')
   all_goals try refine zbx ?_
   ·rw [pbL_no (pb_no hn hk hc)]; rfl
   ·exact (pb_no hn hk hc).symm
   ·focus
     refine q_lp_n ((fun (k : Nat) => (splitC 32 s).length - k) (k+1)) (dC fL1 ?_) ⟨k+1, dC fL1 ?_⟩
     all_goals try (refine zlf ?_; repeat' first | exact zso | refine And.intro ?_ ?_ | (refine zim ?_; intro zb hc) | (refine zin ?_; intro zb) | intro j')
     all_goals try refine zbx ?_
    all_goals first | (rw [take_getD (d := []) hk]; simp; done) | (rw [take_getD (d := []) hk, List.all_append, c1_1, List.all_cons, hc]; rfl) | skip
  ·rw [List.take_of_length_le (by omega)] at c1_1 r1
   have r2 := pb_end hn c1_1
   have e0 : (splitC 32 s).take k = splitC 32 s := List.take_of_length_le (by omega)
   have cE1 := @strings_Split_c; have cE2 := @impl_ParsePerm_c; have cE3 := @impl_IsBasis_c; have cE4 := trivial
   refine dE (And.intro fL1 @e0) ?_
   all_goals try (refine zlf ?_; repeat' first | exact zso | refine And.intro ?_ ?_ | (refine zim ?_; intro zb hc) | (refine zin ?_; intro zb) | intro j')
   all_goals try refine zbx ?_
   all_goals try exact r1
   all_goals try exact zaut
   ·rw [pbL_no (r2.trans hc)]; rfl
   ·exact (r2.trans hc).symm
   ·rw [pbL_yes hn (r2.trans hc)]
   ·exact (r2.trans hc).symm
end Go.Gl
set_option linter.unusedSimpArgs false
set_option linter.unusedVariables false
set_option maxRecDepth 20000
set_option linter.unusedSectionVars false
namespace Go.Gl
open Go Go.Proofs
variable [Amb]
variable [SplA]
/-- The text of an example. -/
def exT (k : Int) : List UInt8 :=
 if k = 1 then [50, 51, 49] else if k = 2 then [51, 50, 49] else if k = 3 then [50, 52, 49, 51, 32, 51, 49, 52, 50] else if k = 4 then [50, 51, 49, 32, 51, 49, 50]
 else if k = 5 then [49, 51, 50, 32, 50, 51, 49] else if k = 6 then [50, 49, 52, 51, 32, 51, 52, 49, 50] else if k = 7 then [49, 50, 51, 32, 49, 51, 50] else if k = 8 then [50, 51, 49, 32, 51, 49, 50, 32, 51, 50, 49] else []
theorem spec_ExampleText_c (k : Int) : Fun Tryz.prog 19 [(.int .i64 (k))] [(.str (exT k))] := by
 refine fO sg0 [2] Tryz.func19 ?_
 refine dEa trivial ?_
 all_goals try (refine zlf ?_; repeat' first | exact zso | refine And.intro ?_ ?_ | (refine zim ?_; intro zb hc; repeat (have zc := zb.1; replace zb := zb.2)) | (refine zin ?_; intro zb) | intro j')
 all_goals try refine zbx ?_
 all_goals (simp_all [exT]; done)
theorem exT_at {k : Int} (h1 : 1 ≤ k) (h2 : k ≤ 8) : ([PV.str [50, 51, 49], PV.str [51, 50, 49], PV.str [50, 52, 49, 51, 32, 51, 49, 52, 50],
    PV.str [50, 51, 49, 32, 51, 49, 50], PV.str [49, 51, 50, 32, 50, 51, 49],
    PV.str [50, 49, 52, 51, 32, 51, 52, 49, 50], PV.str [49, 50, 51, 32, 49, 51, 50],
    PV.str [50, 51, 49, 32, 51, 49, 50, 32, 51, 50, 49]] : List PV)[(k - 1).toNat]? = some (.str (exT k)) := by
 have h : k = 1 ∨ k = 2 ∨ k = 3 ∨ k = 4 ∨ k = 5 ∨ k = 6 ∨ k = 7 ∨ k = 8 := by omega
 rcases h with rfl | rfl | rfl | rfl | rfl | rfl | rfl | rfl <;> rfl
theorem exT_no {k : Int} (h : k < 1 ∨ 8 < k) : exT k = [] := by
 unfold exT
 iterate 8 rw [if_neg (by omega)]
theorem impl_ExampleText_c (k : Int) : Fun Tryz.prog 18 [(.int .i64 (k))] [(.str (exT k))] := by
 refine Fun.of (sg := sg0) (ts := [2]) mo Tryz.func18 rfl rfl rfl rfl (by kernel_rfl) (by simp only [go_sem]) rfl ?_
 have fc : True := trivial
 repeat' first
  | with_reducible first | refine stp ?_ | refine q_blk_o rfl ?_ | (refine hK _ ?_; clear hK) | (refine hA ?_; clear hA hB) | (refine hB ?_; clear hA hB) | exact v_end0 | exact v_end0' | refine v_gb1 ?_ ?_ | refine v_gb0 ?_ ?_ | refine And.intro ?_ ?_
  | (with_reducible refine p_ok ?_; decide)
  | ((first | with_reducible first | refine v_region rfl rfl (fun K hK => ?_) | refine v_draws rfl rfl (fun K hK => ?_) | refine v_if (fun A B hA hB => ?_) | refine v_end rfl ?_ | refine v_fin1 ?_ | refine v_finC1 ?_ | refine v_finR1 ?_ | refine v_finO1 rfl ?_ | refine v_finN1 rfl ?_ ?_ | refine v_apj ?_ (fun j' => ?_) | refine v_stz ?_ ?_ ?_ ?_ ?_ | refine v_stq ?_ | refine v_cv1 ?_ ?_ ?_ | (intro hc; replace fc := And.intro hc fc; try simp only [hcs] at hc)) <;> (try simp (config := { maxSteps := 1000000 }) only [go_sem, ↓reduceIte, reduceCtorEq, Nat.reduceEqDiff, Nat.reduceAdd, Nat.reduceMul, Nat.reduceSub, Nat.reduceLeDiff, Int.reduceLT, Int.reduceLE, Int.reduceEq, Int.reduceSub, Int.reduceAdd, Int.reduceMul, Int.reduceNeg, Int.reduceToNat, fc]) <;> (try with_reducible rfl))
 all_goals try (first | omega | (simp only [n_i64, n_u8]; omega) | (simp only [n_i64, n_u8, lnA]; omega) | (simp only [lnA]; done) | exact List.take_of_length_le (by simp))
 ·exact (exT_no (by omega)).symm
 ·rw [exT_at (by omega) (by omega)]
  simp only [gtO_some, go_sem, ↓reduceIte, reduceCtorEq, Nat.reduceEqDiff, Nat.reduceAdd]
  have fc : True := trivial
  repeat' first
   | with_reducible first | refine stp ?_ | refine q_blk_o rfl ?_ | (refine hK _ ?_; clear hK) | (refine hA ?_; clear hA hB) | (refine hB ?_; clear hA hB) | exact v_end0 | exact v_end0' | refine v_gb1 ?_ ?_ | refine v_gb0 ?_ ?_ | refine And.intro ?_ ?_
   | (with_reducible refine p_ok ?_; decide)
   | ((first | with_reducible first | refine v_region rfl rfl (fun K hK => ?_) | refine v_draws rfl rfl (fun K hK => ?_) | refine v_if (fun A B hA hB => ?_) | refine v_end rfl ?_ | refine v_fin1 ?_ | refine v_finC1 ?_ | refine v_finR1 ?_ | refine v_finO1 rfl ?_ | refine v_finN1 rfl ?_ ?_ | refine v_apj ?_ (fun j' => ?_) | refine v_stz ?_ ?_ ?_ ?_ ?_ | refine v_stq ?_ | refine v_cv1 ?_ ?_ ?_ | (intro hc; replace fc := And.intro hc fc; try simp only [hcs] at hc)) <;> (try simp (config := { maxSteps := 1000000 }) only [go_sem, ↓reduceIte, reduceCtorEq, Nat.reduceEqDiff, Nat.reduceAdd, Nat.reduceMul, Nat.reduceSub, Nat.reduceLeDiff, Int.reduceLT, Int.reduceLE, Int.reduceEq, Int.reduceSub, Int.reduceAdd, Int.reduceMul, Int.reduceNeg, Int.reduceToNat, fc]) <;> (try with_reducible rfl))
 ·exact (exT_no (by omega)).symm
def ebL (k : Int) : List (List Int) := if exT k = [] then [] else pbL (exT k)
def ebOk (k : Int) : Bool := if exT k = [] then false else pbOk (exT k)
theorem exT_len {k : Int} : (exT k).length ≤ 1000 := by
 unfold exT; repeat' split
 all_goals simp
def sgEB : FuncId → List Bool := fun f => if f = 4294967297 then [true, false, true] else []
theorem sgEB_eq {f : FuncId} : sgEB f = if f = 4294967297 then [true, false, true] else [] := _root_.id rfl
theorem way_sgEB : wayE sgEB = false ∧ wayN sgEB = true ∧ wayS sgEB = false ∧ wayZ sgEB = true := ⟨rfl, rfl, rfl, rfl⟩
attribute [go_sem] sgEB_eq way_sgEB
theorem spec_ExampleBasis_c (k : Int) : Fun Tryz.prog 17 [(.int .i64 (k))] [(.dl (List.map (List.map (PV.int .i64)) (ebL k))), (.bool (ebOk k))] := by
 refine fO sgEB [2, 3] Tryz.func17 ?_
 have cE1 := @spec_ExampleText_c; have cE2 := @spec_ParseBasis_c
 have b1 := exT_len (k := k)
 refine dEa trivial ?_
 all_goals try (refine zlf ?_; repeat' first | exact zso | refine And.intro ?_ ?_ | (refine zim ?_; intro zb hc; repeat (have zc := zb.1; replace zb := zb.2)) | (refine zin ?_; intro zb) | intro j')
 all_goals try refine zbx ?_
 all_goals (simp_all [ebL, ebOk]; done)
theorem impl_ExampleBasis_c (k : Int) : Fun Tryz.prog 16 [(.int .i64 (k))] [(.dl (List.map (List.map (PV.int .i64)) (ebL k))), (.bool (ebOk k))] := by
 refine fO sgEB [2, 3] Tryz.func16 ?_
 have cE1 := @impl_ExampleText_c; have cE2 := @impl_ParseBasis_c
 have b1 := exT_len (k := k)
 refine dEa trivial ?_
 all_goals try (refine zlf ?_; repeat' first | exact zso | refine And.intro ?_ ?_ | (refine zim ?_; intro zb hc; repeat (have zc := zb.1; replace zb := zb.2)) | (refine zin ?_; intro zb) | intro j')
 all_goals try refine zbx ?_
 all_goals (simp_all [ebL, ebOk]; done)
end Go.Gl
set_option linter.unusedSimpArgs false
set_option linter.unusedVariables false
set_option maxRecDepth 20000
set_option linter.unusedSectionVars false
namespace Go.Gl
open Go Go.Proofs
variable [Amb]
variable [SplA]
theorem eb_rows {k : Int} : (ebL k).length ≤ 1001 ∧ ∀ l ∈ ebL k, l.length ≤ 1000 := by
 have h1 := exT_len (k := k)
 have h2 := spB_len (c := 32) (s := exT k) (cur := [])
 have h : ebL k = [] ∨ ebL k = (splitC 32 (exT k)).map prsL := by
  unfold ebL pbL
  by_cases e1 : exT k = []
  ·left; rw [if_pos e1]
  ·rw [if_neg e1, if_neg e1]
   by_cases e2 : pbOk (exT k) = true
   ·right; rw [if_pos e2]
   ·left; rw [if_neg e2]
 rcases h with h | h
 ·rw [h]; simp
 ·rw [h]
  refine ⟨by rw [List.length_map, splitC]; omega, fun l hl => ?_⟩
  obtain ⟨x, hx, rfl⟩ := List.mem_map.1 hl
  have h3 := spB_mem x hx
  have h4 := prsL_len (s := x)
  simp at h3; omega
end Go.Gl
set_option linter.unusedSimpArgs false
set_option linter.unusedVariables false
set_option maxRecDepth 20000
set_option linter.unusedSectionVars false
namespace Go.Gl
open Go Go.Proofs
variable [Amb]
variable [TabA] [SplA]
def deT (k : Int) : List UInt8 := if ebOk k = true then desT (ebL k) else []
theorem spec_DescribeExample_c (k : Int) : Fun Tryz.prog 11 [(.int .i64 (k))] [(.str (deT k))] := by
 refine fO sg0 [2] Tryz.func11 ?_
 have cE1 := @spec_ExampleBasis_c; have cE2 := @spec_DescribeClass_c
 have w1 := (eb_rows (k := k)).1
 have w2 : ∀ l ∈ ebL k, l.length ≤ 1048576 := fun l h => by have := (eb_rows (k := k)).2 l h; omega
 refine dEa trivial ?_
 all_goals try (refine zlf ?_; repeat' first | exact zso | refine And.intro ?_ ?_ | (refine zim ?_; intro zb hc) | (refine zin ?_; intro zb) | intro j')
 all_goals try refine zbx ?_
 all_goals (rw [deT, hc]; rfl)
theorem impl_DescribeExample_c (k : Int) : Fun Tryz.prog 12 [(.int .i64 (k))] [(.str (deT k))] := by
 refine fO sg0 [2] Tryz.func12 ?_
 have cE1 := @impl_ExampleBasis_c; have cE2 := @impl_DescribeClass_c
 have w1 := (eb_rows (k := k)).1
 have w2 : ∀ l ∈ ebL k, l.length ≤ 1048576 := fun l h => by have := (eb_rows (k := k)).2 l h; omega
 refine dEa trivial ?_
 all_goals try (refine zlf ?_; repeat' first | exact zso | refine And.intro ?_ ?_ | (refine zim ?_; intro zb hc) | (refine zin ?_; intro zb) | intro j')
 all_goals try refine zbx ?_
 all_goals (rw [deT, hc]; rfl)
end Go.Gl
