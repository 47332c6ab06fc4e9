/-
  Classes, and the parts of sums: what their functions compute. Conditions: none.
-/
import Derived.Test.YtkaebeblkpnhmaaGreatDoorPClass
import Derived.Test.YtkaebeblkpnhmaaGreatDoorIvl
import Derived.Test.YtkaebeblkpnhmaaGreatDoorPat
set_option linter.unusedSimpArgs false
set_option linter.unusedVariables false
set_option maxRecDepth 20000
set_option linter.unusedSectionVars false
namespace Go.Gl
open Go Go.Proofs
variable [Amb]
/-- The parts of a sum, the first k places looked at: the parts, where the next begins, the greatest number. -/
def spG (g : List Int → Nat → List Int) (p : List Int) : Nat → List (List Int) × Nat × Int
  | 0 => ([], 0, 0)
  | k + 1 => if max (spG g p k).2.2 (p.getD k 0) = k + 1 then ((spG g p k).1 ++ [g (segL p (spG g p k).2.1 (k + 1)) (spG g p k).2.1], k + 1, max (spG g p k).2.2 (p.getD k 0))
    else ((spG g p k).1, (spG g p k).2.1, max (spG g p k).2.2 (p.getD k 0))
theorem spG_from {g : List Int → Nat → List Int} {p : List Int} : ∀ {k : Nat}, (spG g p k).2.1 ≤ k ∧ (spG g p k).1.length ≤ k
  | 0 => by simp [spG]
  | k + 1 => by have := spG_from (g := g) (p := p) (k := k); rw [spG]; split <;> simp <;> omega
theorem spG_same {g g' : List Int → Nat → List Int} {p : List Int} : ∀ {k : Nat}, (spG g p k).2 = (spG g' p k).2 ∧ (spG g p k).1.length = (spG g' p k).1.length
  | 0 => ⟨rfl, rfl⟩
  | k + 1 => by
    have := spG_same (g := g) (g' := g') (p := p) (k := k)
    rw [spG, spG, this.1]; split <;> simp [this.2]
def shI (s : List Int) (f : Nat) : List Int := s.map fun x => x + -(f : Int)
def ptI (s : List Int) (_ : Nat) : List Int := patL s
theorem impl_raised_c {m0 : Bool} (l : List Int) (d : Int) (hl : l.length ≤ 1048576) (hb : ∀ x ∈ l, -1000000 ≤ x ∧ x ≤ 1000000) (hd : -1000000 ≤ d ∧ d ≤ 1000000) : Fun Tryz.prog 111 [(.sl (.lent m0) (List.map (PV.int .i64) (l))), (.int .i64 (d))] [(.sl .own (List.map (PV.int .i64) (l.map (fun x => x + d))))] := by
  refine fO sg0 [4] Tryz.func111 ?_
  refine dEa trivial ?_
  all_goals try (refine zlf ?_; repeat' first | exact zso | refine And.intro ?_ ?_ | (refine zim ?_; intro zb hc) | (refine zin ?_; intro zb) | intro j')
  all_goals try refine zbx ?_
  refine v_loopB (fun ms1 S1 => ∃ (k : Nat), S1.e 1 = .p (.int .i64 (d)) ∧ S1.e 9 = .p (.sl (.lent m0) (List.map (PV.int .i64) (l))) ∧ S1.e 10 = .p (.int .i64 (l.length)) ∧ OwnL (S1.e 5) S1.h S1.n (PV.int .i64) (((l.take k).map (fun x => x + d)).length) ((l.take k).map (fun x => x + d)) ∧ S1.e 11 = .p (.int .i64 (k)) ∧ (k ≤ l.length) ∧ ms1 = l.length - k) ((fun (k : Nat) => l.length - k) (0)) ?_ ⟨0, dI trivial ?_⟩
  all_goals try (refine zlf ?_; repeat' first | exact zso | refine And.intro ?_ ?_ | (refine zim ?_; intro zb hc) | (refine zin ?_; intro zb) | intro j')
  all_goals try refine zbx ?_
  rintro ms1 S1 ⟨k, h1_1, h1_9, h1_10, o1_5, h1_11, c1_0, hm1⟩
  obtain ⟨i1_5, h1_5, b1_5, l1_5⟩ := o1_5.out
  have ni1_5 := znds (x := i1_5) (n := S1.n)
  have fL1 := (And.intro h1_1 (And.intro h1_9 (And.intro h1_10 (And.intro h1_11 (And.intro h1_5 (And.intro b1_5 ni1_5))))))
  have b1 : k < l.length → -1000000 ≤ l.getD k 0 ∧ l.getD k 0 ≤ 1000000 := fun h => hb _ (getD_mem h)
  refine dE fL1 ?_
  all_goals try (refine zlf ?_; repeat' first | exact zso | refine And.intro ?_ ?_ | (refine zim ?_; intro zb hc) | (refine zin ?_; intro zb) | intro j')
  all_goals try refine zbx ?_
  all_goals try have b2 := b1 (by omega)
  all_goals try exact zaut
  · focus
      refine q_lp_n ((fun (k : Nat) => l.length - k) (k+1)) (dC fL1 ?_) ⟨k+1, dC fL1 ?_⟩
      all_goals try (refine zlf ?_; repeat' first | exact zso | refine And.intro ?_ ?_ | (refine zim ?_; intro zb hc) | (refine zin ?_; intro zb) | intro j')
      all_goals try refine zbx ?_
    rw [take_getD (d := 0) (by omega), List.map_append]; rfl
  · rw [List.take_of_length_le (by omega)]
theorem seg_b {p : List Int} {a b : Nat} (hb : ∀ x ∈ p, 0 ≤ x ∧ x ≤ 8) : ∀ x ∈ segL p a b, -1000000 ≤ x ∧ x ≤ 1000000 := fun x hx => by have := hb x (segL_mem hx); omega
theorem perm_b8 {p : List Int} (h : isPermB p = true) : ∀ x ∈ p, 0 ≤ x ∧ x ≤ 8 := fun x hx => by
  simp only [isPermB, Bool.and_eq_true, decide_eq_true_eq] at h
  have := (permB_iff.1 h.2).1 x hx; omega
theorem spG_b {g : List Int → Nat → List Int} {p : List Int} (hb : ∀ x ∈ p, 0 ≤ x ∧ x ≤ 8) : ∀ {k : Nat}, k ≤ p.length → 0 ≤ (spG g p k).2.2 ∧ (spG g p k).2.2 ≤ 8
  | 0, _ => by simp [spG]
  | k + 1, h => by
    have h1 := spG_b (g := g) hb (k := k) (by omega)
    have h2 := hb _ (getD_mem (d := 0) (show k < p.length by omega))
    rw [spG]; split <;> simp only <;> omega
theorem impl_sumParts_c {m0 : Bool} (p : List Int) (hl : p.length ≤ 8) (hb : ∀ x ∈ p, 0 ≤ x ∧ x ≤ 8) : Fun Tryz.prog 74 [(.sl (.lent m0) (List.map (PV.int .i64) (p)))] [(.sl .own (List.map (elI false) ((spG shI p p.length).1)))] := by
  refine fO sg0 [2] Tryz.func74 ?_
  have cE1 := @impl_raised_c
  refine dEa trivial ?_
  all_goals try (refine zlf ?_; repeat' first | exact zso | refine And.intro ?_ ?_ | (refine zim ?_; intro zb hc) | (refine zin ?_; intro zb) | intro j')
  all_goals try refine zbx ?_
  refine v_loopB (fun ms1 S1 => ∃ (k : Nat), S1.e 9 = .p (.sl (.lent m0) (List.map (PV.int .i64) (p))) ∧ S1.e 10 = .p (.int .i64 (p.length)) ∧ S1.e 0 = .p (.sl (.lent m0) (List.map (PV.int .i64) (p))) ∧ OwnL (S1.e 3) S1.h S1.n (elI false) (((spG shI p k).1).length) ((spG shI p k).1) ∧ S1.e 4 = .p (.int .i64 ((spG shI p k).2.1)) ∧ S1.e 5 = .p (.int .i64 ((spG shI p k).2.2)) ∧ S1.e 11 = .p (.int .i64 (k)) ∧ (k ≤ p.length) ∧ ms1 = p.length - k) ((fun (k : Nat) => p.length - k) (0)) ?_ ⟨0, dC trivial ?_⟩
  all_goals try (refine zlf ?_; repeat' first | exact zso | refine And.intro ?_ ?_ | (refine zim ?_; intro zb hc) | (refine zin ?_; intro zb) | intro j')
  all_goals try refine zbx ?_
  rintro ms1 S1 ⟨k, h1_9, h1_10, h1_0, o1_3, h1_4, h1_5, h1_11, c1_0, hm1⟩
  obtain ⟨i1_3, h1_3, b1_3, l1_3⟩ := o1_3.out
  have ni1_3 := znds (x := i1_3) (n := S1.n)
  have fL1 := (And.intro h1_9 (And.intro h1_10 (And.intro h1_0 (And.intro h1_4 (And.intro h1_5 (And.intro h1_11 (And.intro h1_3 (And.intro b1_3 ni1_3))))))))
  have b1 := spG_from (g := shI) (p := p) (k := k)
  have b2 := spG_b (g := shI) hb c1_0
  have b3 : List.drop (spG shI p k).2.1 (List.take (k + 1) p) = segL p (spG shI p k).2.1 (k + 1) := rfl
  by_cases hk : k < p.length
  · have b4 := hb _ (getD_mem (d := 0) hk)
    have b5 : (segL p (spG shI p k).2.1 (k + 1)).length = k + 1 - (spG shI p k).2.1 := segL_len (by omega)
    have b6 := seg_b (a := (spG shI p k).2.1) (b := k + 1) hb
    have b7 : ((k : Int) + 1).toNat = k + 1 := by omega
    refine dEa (And.intro fL1 (And.intro @b3 @b7)) ?_
    all_goals try (refine zlf ?_; repeat' first | exact zso | refine And.intro ?_ ?_ | (refine zim ?_; intro zb hc) | (refine zin ?_; intro zb) | intro j')
    all_goals try refine zbx ?_
    · have x1 : spG shI p (k + 1) = _ := if_pos hc
      focus
        refine q_lp_n ((fun (k : Nat) => p.length - k) (k+1)) (dC fL1 ?_) ⟨k+1, dC fL1 ?_⟩
        all_goals try (refine zlf ?_; repeat' first | exact zso | refine And.intro ?_ ?_ | (refine zim ?_; intro zb hc) | (refine zin ?_; intro zb) | intro j')
        all_goals try refine zbx ?_
      all_goals (rw [x1]; try simp [shI, ptI])
    · have x1 : spG shI p (k + 1) = _ := if_neg hc
      focus
        refine q_lp_n ((fun (k : Nat) => p.length - k) (k+1)) (dC fL1 ?_) ⟨k+1, dC fL1 ?_⟩
        all_goals try (refine zlf ?_; repeat' first | exact zso | refine And.intro ?_ ?_ | (refine zim ?_; intro zb hc) | (refine zin ?_; intro zb) | intro j')
        all_goals try refine zbx ?_
      all_goals (rw [x1])
  · refine dEa fL1 ?_
    all_goals try (refine zlf ?_; repeat' first | exact zso | refine And.intro ?_ ?_ | (refine zim ?_; intro zb hc) | (refine zin ?_; intro zb) | intro j')
    all_goals try refine zbx ?_
    obtain rfl : k = p.length := by omega
    rfl
theorem spec_SumParts_c {m0 : Bool} (p : List Int) (hp : isPermB p = true) : Fun Tryz.prog 58 [(.sl (.lent m0) (List.map (PV.int .i64) (p)))] [(.sl .own (List.map (elI false) ((spG ptI p p.length).1)))] := by
  refine fO sg0 [2] Tryz.func58 ?_
  have cE1 := @spec_l1Max_c; have cE2 := @spec_IsPerm_c; have cE3 := @spec_l2Pattern_c
  have hl := (isPerm_facts hp).1
  have hb := perm_b8 hp
  refine dEa @hp ?_
  all_goals try (refine zlf ?_; repeat' first | exact zso | refine And.intro ?_ ?_ | (refine zim ?_; intro zb hc) | (refine zin ?_; intro zb) | intro j')
  all_goals try refine zbx ?_
  refine v_loopB (fun ms1 S1 => ∃ (k : Nat), S1.e 0 = .p (.sl (.lent m0) (List.map (PV.int .i64) (p))) ∧ OwnL (S1.e 3) S1.h S1.n (elI false) (((spG ptI p k).1).length) ((spG ptI p k).1) ∧ S1.e 4 = .p (.int .i64 ((spG ptI p k).2.1)) ∧ S1.e 5 = .p (.int .i64 ((spG ptI p k).2.2)) ∧ S1.e 6 = .p (.int .i64 (k)) ∧ (k ≤ p.length) ∧ ms1 = p.length - k) ((fun (k : Nat) => p.length - k) (0)) ?_ ⟨0, dC trivial ?_⟩
  all_goals try (refine zlf ?_; repeat' first | exact zso | refine And.intro ?_ ?_ | (refine zim ?_; intro zb hc) | (refine zin ?_; intro zb) | intro j')
  all_goals try refine zbx ?_
  rintro ms1 S1 ⟨k, h1_0, o1_3, h1_4, h1_5, h1_6, c1_0, hm1⟩
  obtain ⟨i1_3, h1_3, b1_3, l1_3⟩ := o1_3.out
  have ni1_3 := znds (x := i1_3) (n := S1.n)
  have fL1 := (And.intro h1_0 (And.intro h1_4 (And.intro h1_5 (And.intro h1_6 (And.intro h1_3 (And.intro b1_3 ni1_3))))))
  have b1 := spG_from (g := ptI) (p := p) (k := k)
  have b2 := spG_b (g := ptI) hb c1_0
  have b3 : List.drop (spG ptI p k).2.1 (List.take (k + 1) p) = segL p (spG ptI p k).2.1 (k + 1) := rfl
  by_cases hk : k < p.length
  · have b4 := hb _ (getD_mem (d := 0) hk)
    have b5 : (segL p (spG ptI p k).2.1 (k + 1)).length = k + 1 - (spG ptI p k).2.1 := segL_len (by omega)
    have b7 : ((k : Int) + 1).toNat = k + 1 := by omega
    refine dEa (And.intro fL1 (And.intro @b3 @b7)) ?_
    all_goals try (refine zlf ?_; repeat' first | exact zso | refine And.intro ?_ ?_ | (refine zim ?_; intro zb hc) | (refine zin ?_; intro zb) | intro j')
    all_goals try refine zbx ?_
    · have x1 : spG ptI p (k + 1) = _ := if_pos hc
      focus
        refine q_lp_n ((fun (k : Nat) => p.length - k) (k+1)) (dC fL1 ?_) ⟨k+1, dC fL1 ?_⟩
        all_goals try (refine zlf ?_; repeat' first | exact zso | refine And.intro ?_ ?_ | (refine zim ?_; intro zb hc) | (refine zin ?_; intro zb) | intro j')
        all_goals try refine zbx ?_
      all_goals (rw [x1]; try simp [shI, ptI])
    · have x1 : spG ptI p (k + 1) = _ := if_neg hc
      focus
        refine q_lp_n ((fun (k : Nat) => p.length - k) (k+1)) (dC fL1 ?_) ⟨k+1, dC fL1 ?_⟩
        all_goals try (refine zlf ?_; repeat' first | exact zso | refine And.intro ?_ ?_ | (refine zim ?_; intro zb hc) | (refine zin ?_; intro zb) | intro j')
        all_goals try refine zbx ?_
      all_goals (rw [x1])
  · refine dEa fL1 ?_
    all_goals try (refine zlf ?_; repeat' first | exact zso | refine And.intro ?_ ?_ | (refine zim ?_; intro zb hc) | (refine zin ?_; intro zb) | intro j')
    all_goals try refine zbx ?_
    obtain rfl : k = p.length := by omega
    rfl
def partN (p : List Int) : Nat := (spG shI p p.length).1.length
theorem partN_pt {p : List Int} : (spG ptI p p.length).1.length = partN p := (spG_same (g := ptI) (g' := shI)).2
def wholeN (L : List (List Int)) (n : Nat) : Int := ((classL L n).filter fun p => decide (partN p = 1)).length
def wholesB (L : List (List Int)) (n : Int) : List Int := if basisB L = true ∧ 0 ≤ n ∧ n ≤ 6 then (List.range (n.toNat + 1)).map (wholeN L) else []
theorem cnt_succ {α : Type} {l : List α} {d : α} {f : α → Bool} {j : Nat} (h : j < l.length) : (((l.take (j + 1)).filter f).length : Int) = ((l.take j).filter f).length + bitI (f (l.getD j d)) := by
  rw [take_getD (d := d) h, List.filter_append, List.length_append, List.filter_cons]
  cases f (l.getD j d) <;> simp [bitI]
theorem cnt_le {α : Type} {l : List α} {f : α → Bool} {j : Nat} : ((l.take j).filter f).length ≤ l.length := Nat.le_trans (List.length_filter_le _ _) (by rw [List.length_take]; omega)
theorem impl_WholeCounts_c {e0 m0 : Bool} (L : List (List Int)) (n : Int) (hL : L.length ≤ 1048576) (hl : ∀ l ∈ L, l.length ≤ 1048576) : Fun Tryz.prog 36 [(.sl (.lent m0) (List.map (elI e0) (L))), (.int .i64 (n))] [(.sl .own (List.map (PV.int .i64) (wholesB L n)))] := by
  by_cases hc0 : basisB L = true ∧ 0 ≤ n ∧ n ≤ 6
  · have e1 : wholesB L n = (List.range (n.toNat + 1)).map (wholeN L) := if_pos hc0
    obtain ⟨m, hm⟩ : ∃ m : Nat, m = n.toNat + 1 := ⟨_, rfl⟩
    rw [← hm] at e1
    have hb := basis_row hc0.1
    have e3 := hc0.1
    rw [e1]
    refine fO sg0 [4] Tryz.func36 ?_
    have cE1 := @impl_isSix_c; have cE2 := @impl_IsBasis_c; have cE3 := @impl_class_c; have cE4 := @impl_sumParts_c
    refine dEa @e3 ?_
    all_goals try (refine zlf ?_; repeat' first | exact zso | refine And.intro ?_ ?_ | (refine zim ?_; intro zb hc; repeat (have zc := zb.1; replace zb := zb.2)) | (refine zin ?_; intro zb) | intro j')
    all_goals try refine zbx ?_
    refine v_loopB (fun ms1 S1 => ∃ (k : Nat), S1.e 0 = .p (.sl (.lent m0) (List.map (elI e0) (L))) ∧ OwnL (S1.e 5) S1.h S1.n (PV.int .i64) (((List.range k).map (wholeN L)).length) ((List.range k).map (wholeN L)) ∧ S1.e 20 = .p (.int .i64 ((n + 1))) ∧ S1.e 21 = .p (.int .i64 (k)) ∧ ((k : Int) ≤ n + 1) ∧ ms1 = n.toNat + 1 - k) ((fun (k : Nat) => n.toNat + 1 - k) (0)) ?_ ⟨0, dC trivial ?_⟩
    all_goals try (refine zlf ?_; repeat' first | exact zso | refine And.intro ?_ ?_ | (refine zim ?_; intro zb hc; repeat (have zc := zb.1; replace zb := zb.2)) | (refine zin ?_; intro zb) | intro j')
    all_goals try refine zbx ?_
    rintro ms1 S1 ⟨k, h1_0, o1_5, h1_20, h1_21, c1_0, hm1⟩
    obtain ⟨i1_5, h1_5, b1_5, l1_5⟩ := o1_5.out
    have ni1_5 := znds (x := i1_5) (n := S1.n)
    have fL1 := (And.intro h1_0 (And.intro h1_20 (And.intro h1_21 (And.intro h1_5 (And.intro b1_5 ni1_5)))))
    by_cases hk : (k : Int) < n + 1
    · have b1 := class_len (L := L) (n := k) (by omega)
      refine dEa fL1 ?_
      all_goals try (refine zlf ?_; repeat' first | exact zso | refine And.intro ?_ ?_ | (refine zim ?_; intro zb hc; repeat (have zc := zb.1; replace zb := zb.2)) | (refine zin ?_; intro zb) | intro j')
      all_goals try refine zbx ?_
      · refine v_loopB (fun ms2 S2 => ∃ (j : Nat), S2.e 0 = .p (.sl (.lent m0) (List.map (elI e0) (L))) ∧ OwnL (S2.e 26) S2.h S2.n (elI false) ((classL L k).length) (classL L k) ∧ S2.e 27 = .p (.int .i64 ((classL L k).length)) ∧ S2.e 28 = .p (.int .i64 (j)) ∧ OwnL (S2.e 5) S2.h S2.n (PV.int .i64) (((List.range k).map (wholeN L)).length) ((List.range k).map (wholeN L)) ∧ S2.e 7 = .p (.int .i64 ((((classL L k).take j).filter (fun p => decide (partN p = 1))).length)) ∧ S2.e 20 = .p (.int .i64 ((n + 1))) ∧ S2.e 21 = .p (.int .i64 (k)) ∧ (j ≤ (classL L k).length) ∧ NId (S2.e 5) (S2.e 26) ∧ S1.n ≤ S2.n ∧ ms2 = (classL L k).length - j) ((fun (j : Nat) => (classL L k).length - j) (0)) ?_ ⟨0, dC fL1 ?_⟩
        all_goals try (refine zlf ?_; repeat' first | exact zso | refine And.intro ?_ ?_ | (refine zim ?_; intro zb hc; repeat (have zc := zb.1; replace zb := zb.2)) | (refine zin ?_; intro zb) | intro j')
        all_goals try refine zbx ?_
        rintro ms2 S2 ⟨j, h2_0, o2_26, h2_27, h2_28, o2_5, h2_7, h2_20, h2_21, c2_0, u2_0, u2_1, hm2⟩
        obtain ⟨i2_26, h2_26, b2_26, l2_26⟩ := o2_26.out
        obtain ⟨i2_5, h2_5, b2_5, l2_5⟩ := o2_5.out
        have k2_0 := (u2_0).out h2_5 h2_26
        have ni2_26 := znds (x := i2_26) (n := S2.n)
        have ni2_5 := znds (x := i2_5) (n := S2.n)
        have di2_26i2_5 := zdne (x := i2_26) (y := i2_5)
        have fL2 := (And.intro h2_0 (And.intro h2_27 (And.intro h2_28 (And.intro h2_7 (And.intro h2_20 (And.intro h2_21 (And.intro h2_26 (And.intro b2_26 (And.intro h2_5 (And.intro b2_5 (And.intro ni2_26 (And.intro ni2_5 di2_26i2_5))))))))))))
        have b2 := cnt_le (l := classL L k) (f := fun p => decide (partN p = 1)) (j := j)
        have b0 : (List.map (wholeN L) (List.range k)).length = k := by simp
        by_cases hj : j < (classL L k).length
        · have b3 := class_perm (by omega) (getD_mem (d := []) hj)
          have b4 := perm_b8 b3.1
          have b5 := cnt_succ (f := fun p => decide (partN p = 1)) (d := []) hj
          have b6 : (spG shI ((classL L k).getD j []) ((classL L k).getD j []).length).1.length = partN ((classL L k).getD j []) := rfl
          refine dEa (And.intro fL2 @b6) ?_
          all_goals try (refine zlf ?_; repeat' first | exact zso | refine And.intro ?_ ?_ | (refine zim ?_; intro zb hc; repeat (have zc := zb.1; replace zb := zb.2)) | (refine zin ?_; intro zb) | intro j')
          all_goals try refine zbx ?_
          · focus
              refine q_lp_n ((fun (j : Nat) => (classL L k).length - j) (j+1)) (dC fL2 ?_) ⟨j+1, dC fL2 ?_⟩
              all_goals try (refine zlf ?_; repeat' first | exact zso | refine And.intro ?_ ?_ | (refine zim ?_; intro zb hc; repeat (have zc := zb.1; replace zb := zb.2)) | (refine zin ?_; intro zb) | intro j')
              all_goals try refine zbx ?_
            rw [b5, decide_eq_true (by omega)]; rfl
          · focus
              refine q_lp_n ((fun (j : Nat) => (classL L k).length - j) (j+1)) (dC fL2 ?_) ⟨j+1, dC fL2 ?_⟩
              all_goals try (refine zlf ?_; repeat' first | exact zso | refine And.intro ?_ ?_ | (refine zim ?_; intro zb hc; repeat (have zc := zb.1; replace zb := zb.2)) | (refine zin ?_; intro zb) | intro j')
              all_goals try refine zbx ?_
            rw [b5, decide_eq_false (by omega)]; simp [bitI]
        · refine dEa fL2 ?_
          all_goals try (refine zlf ?_; repeat' first | exact zso | refine And.intro ?_ ?_ | (refine zim ?_; intro zb hc; repeat (have zc := zb.1; replace zb := zb.2)) | (refine zin ?_; intro zb) | intro j')
          all_goals try refine zbx ?_
          · focus
              refine q_lp_n ((fun (k : Nat) => n.toNat + 1 - k) (k+1)) (dC fL2 ?_) ⟨k+1, dC fL2 ?_⟩
              all_goals try (refine zlf ?_; repeat' first | exact zso | refine And.intro ?_ ?_ | (refine zim ?_; intro zb hc; repeat (have zc := zb.1; replace zb := zb.2)) | (refine zin ?_; intro zb) | intro j')
              all_goals try refine zbx ?_
            all_goals (obtain rfl : j = (classL L k).length := by omega)
            all_goals first | (rw [List.range_succ, List.map_append, List.take_length]; rfl) | (simp; done) | (simp; rfl)
    · skip
      refine dEa fL1 ?_
      all_goals try (refine zlf ?_; repeat' first | exact zso | refine And.intro ?_ ?_ | (refine zim ?_; intro zb hc; repeat (have zc := zb.1; replace zb := zb.2)) | (refine zin ?_; intro zb) | intro j')
      all_goals try refine zbx ?_
      obtain rfl : k = m := by omega
      all_goals (rw [List.take_of_length_le (by simp)])
  · have e1 : wholesB L n = [] := if_neg hc0
    rw [e1]
    refine fO sg0 [4] Tryz.func36 ?_
    have cE1 := @impl_isSix_c; have cE2 := @impl_IsBasis_c; have cE3 := @impl_class_c; have cE4 := @impl_sumParts_c
    refine dEa trivial ?_
    all_goals try (refine zlf ?_; repeat' first | exact zso | refine And.intro ?_ ?_ | (refine zim ?_; intro zb hc; repeat (have zc := zb.1; replace zb := zb.2)) | (refine zin ?_; intro zb) | intro j')
    all_goals try refine zbx ?_
    exact absurd ⟨by assumption, by assumption⟩ hc0
theorem spec_WholeCounts_c {e0 m0 : Bool} (L : List (List Int)) (n : Int) (hL : L.length ≤ 1048576) (hl : ∀ l ∈ L, l.length ≤ 1048576) : Fun Tryz.prog 26 [(.sl (.lent m0) (List.map (elI e0) (L))), (.int .i64 (n))] [(.sl .own (List.map (PV.int .i64) (wholesB L n)))] := by
  by_cases hc0 : basisB L = true ∧ 0 ≤ n ∧ n ≤ 6
  · have e1 : wholesB L n = (List.range (n.toNat + 1)).map (wholeN L) := if_pos hc0
    obtain ⟨m, hm⟩ : ∃ m : Nat, m = n.toNat + 1 := ⟨_, rfl⟩
    rw [← hm] at e1
    have hb := basis_row hc0.1
    have e3 := hc0.1
    rw [e1]
    refine fO sg0 [4] Tryz.func26 ?_
    have cE1 := @spec_l1In_c; have cE2 := @spec_l1Bit_c; have cE3 := @spec_IsBasis_c; have cE4 := @spec_ClassOf_c; have cE5 := @spec_SumParts_c
    refine dEa @e3 ?_
    all_goals try (refine zlf ?_; repeat' first | exact zso | refine And.intro ?_ ?_ | (refine zim ?_; intro zb hc; repeat (have zc := zb.1; replace zb := zb.2)) | (refine zin ?_; intro zb) | intro j')
    all_goals try refine zbx ?_
    refine v_loopB (fun ms1 S1 => ∃ (k : Nat), S1.e 0 = .p (.sl (.lent m0) (List.map (elI e0) (L))) ∧ S1.e 1 = .p (.int .i64 (n)) ∧ OwnL (S1.e 5) S1.h S1.n (PV.int .i64) (((List.range k).map (wholeN L)).length) ((List.range k).map (wholeN L)) ∧ S1.e 6 = .p (.int .i64 (k)) ∧ ((k : Int) ≤ n + 1) ∧ ms1 = n.toNat + 1 - k) ((fun (k : Nat) => n.toNat + 1 - k) (0)) ?_ ⟨0, dC trivial ?_⟩
    all_goals try (refine zlf ?_; repeat' first | exact zso | refine And.intro ?_ ?_ | (refine zim ?_; intro zb hc; repeat (have zc := zb.1; replace zb := zb.2)) | (refine zin ?_; intro zb) | intro j')
    all_goals try refine zbx ?_
    rintro ms1 S1 ⟨k, h1_0, h1_1, o1_5, h1_6, c1_0, hm1⟩
    obtain ⟨i1_5, h1_5, b1_5, l1_5⟩ := o1_5.out
    have ni1_5 := znds (x := i1_5) (n := S1.n)
    have fL1 := (And.intro h1_0 (And.intro h1_1 (And.intro h1_6 (And.intro h1_5 (And.intro b1_5 ni1_5)))))
    by_cases hk : (k : Int) < n + 1
    · have b1 := class_len (L := L) (n := k) (by omega)
      have e2 : classB L k = classL L k := by rw [classB, if_pos ⟨e3, by omega, by omega⟩, Int.toNat_natCast]
      refine dEa (And.intro fL1 @e2) ?_
      all_goals try (refine zlf ?_; repeat' first | exact zso | refine And.intro ?_ ?_ | (refine zim ?_; intro zb hc; repeat (have zc := zb.1; replace zb := zb.2)) | (refine zin ?_; intro zb) | intro j')
      all_goals try refine zbx ?_
      · refine v_loopB (fun ms2 S2 => ∃ (j : Nat), S2.e 0 = .p (.sl (.lent m0) (List.map (elI e0) (L))) ∧ S2.e 1 = .p (.int .i64 (n)) ∧ OwnL (S2.e 8) S2.h S2.n (elI false) ((classL L k).length) (classL L k) ∧ S2.e 9 = .p (.int .i64 (j)) ∧ OwnL (S2.e 5) S2.h S2.n (PV.int .i64) (((List.range k).map (wholeN L)).length) ((List.range k).map (wholeN L)) ∧ S2.e 7 = .p (.int .i64 ((((classL L k).take j).filter (fun p => decide (partN p = 1))).length)) ∧ S2.e 6 = .p (.int .i64 (k)) ∧ (j ≤ (classL L k).length) ∧ NId (S2.e 5) (S2.e 8) ∧ S1.n ≤ S2.n ∧ ms2 = (classL L k).length - j) ((fun (j : Nat) => (classL L k).length - j) (0)) ?_ ⟨0, dC fL1 ?_⟩
        all_goals try (refine zlf ?_; repeat' first | exact zso | refine And.intro ?_ ?_ | (refine zim ?_; intro zb hc; repeat (have zc := zb.1; replace zb := zb.2)) | (refine zin ?_; intro zb) | intro j')
        all_goals try refine zbx ?_
        rintro ms2 S2 ⟨j, h2_0, h2_1, o2_8, h2_9, o2_5, h2_7, h2_6, c2_0, u2_0, u2_1, hm2⟩
        obtain ⟨i2_8, h2_8, b2_8, l2_8⟩ := o2_8.out
        obtain ⟨i2_5, h2_5, b2_5, l2_5⟩ := o2_5.out
        have k2_0 := (u2_0).out h2_5 h2_8
        have ni2_8 := znds (x := i2_8) (n := S2.n)
        have ni2_5 := znds (x := i2_5) (n := S2.n)
        have di2_8i2_5 := zdne (x := i2_8) (y := i2_5)
        have fL2 := (And.intro h2_0 (And.intro h2_1 (And.intro h2_9 (And.intro h2_7 (And.intro h2_6 (And.intro h2_8 (And.intro b2_8 (And.intro h2_5 (And.intro b2_5 (And.intro ni2_8 (And.intro ni2_5 di2_8i2_5)))))))))))
        have b2 := cnt_le (l := classL L k) (f := fun p => decide (partN p = 1)) (j := j)
        have b0 : (List.map (wholeN L) (List.range k)).length = k := by simp
        by_cases hj : j < (classL L k).length
        · have b3 := class_perm (by omega) (getD_mem (d := []) hj)
          have b4 := b3.1
          have b5 := cnt_succ (f := fun p => decide (partN p = 1)) (d := []) hj
          have b6 := partN_pt (p := (classL L k).getD j [])
          have b7 := bitI_r (decide (partN ((classL L k).getD j []) = 1))
          have b8 : decide ((partN ((classL L k).getD j []) : Int) = 1) = decide (partN ((classL L k).getD j []) = 1) := by congr 1; rw [eq_iff_iff]; omega
          refine dEa (And.intro fL2 (And.intro @b6 @b8)) ?_
          all_goals try (refine zlf ?_; repeat' first | exact zso | refine And.intro ?_ ?_ | (refine zim ?_; intro zb hc; repeat (have zc := zb.1; replace zb := zb.2)) | (refine zin ?_; intro zb) | intro j')
          all_goals try refine zbx ?_
          · focus
              refine q_lp_n ((fun (j : Nat) => (classL L k).length - j) (j+1)) (dC fL2 ?_) ⟨j+1, dC fL2 ?_⟩
              all_goals try (refine zlf ?_; repeat' first | exact zso | refine And.intro ?_ ?_ | (refine zim ?_; intro zb hc; repeat (have zc := zb.1; replace zb := zb.2)) | (refine zin ?_; intro zb) | intro j')
              all_goals try refine zbx ?_
        · refine dEa fL2 ?_
          all_goals try (refine zlf ?_; repeat' first | exact zso | refine And.intro ?_ ?_ | (refine zim ?_; intro zb hc; repeat (have zc := zb.1; replace zb := zb.2)) | (refine zin ?_; intro zb) | intro j')
          all_goals try refine zbx ?_
          · focus
              refine q_lp_n ((fun (k : Nat) => n.toNat + 1 - k) (k+1)) (dC fL2 ?_) ⟨k+1, dC fL2 ?_⟩
              all_goals try (refine zlf ?_; repeat' first | exact zso | refine And.intro ?_ ?_ | (refine zim ?_; intro zb hc; repeat (have zc := zb.1; replace zb := zb.2)) | (refine zin ?_; intro zb) | intro j')
              all_goals try refine zbx ?_
            all_goals (obtain rfl : j = (classL L k).length := by omega)
            all_goals first | (rw [List.range_succ, List.map_append, List.take_length]; rfl) | (simp; done) | (simp; rfl)
    · skip
      refine dEa fL1 ?_
      all_goals try (refine zlf ?_; repeat' first | exact zso | refine And.intro ?_ ?_ | (refine zim ?_; intro zb hc; repeat (have zc := zb.1; replace zb := zb.2)) | (refine zin ?_; intro zb) | intro j')
      all_goals try refine zbx ?_
      obtain rfl : k = m := by omega
      all_goals (rw [List.take_of_length_le (by simp)])
  · have e1 : wholesB L n = [] := if_neg hc0
    rw [e1]
    refine fO sg0 [4] Tryz.func26 ?_
    have cE1 := @spec_l1In_c; have cE2 := @spec_l1Bit_c; have cE3 := @spec_IsBasis_c; have cE4 := @spec_ClassOf_c; have cE5 := @spec_SumParts_c
    refine dEa trivial ?_
    all_goals try (refine zlf ?_; repeat' first | exact zso | refine And.intro ?_ ?_ | (refine zim ?_; intro zb hc; repeat (have zc := zb.1; replace zb := zb.2)) | (refine zin ?_; intro zb) | intro j')
    all_goals try refine zbx ?_
    exact absurd ⟨by assumption, by assumption⟩ hc0
end Go.Gl
