/-
 Patterns, complements and inverses: what their functions compute. Conditions: none.
-/
import Derived.Test.YtfjfobbniglaeaaPermF
import Derived.Test.YtfjfobbniglaeaaPText
import Derived.Test.YtfjfobbniglaeaaClone
set_option linter.unusedSimpArgs false
set_option linter.unusedVariables false
set_option maxRecDepth 20000
set_option linter.unusedSectionVars false
namespace Go.Gl
open Go Go.Proofs
variable [Amb] [NoQ]
/-- The pattern of a list. -/
def rkI (l : List Int) (x : Int) (k : Nat) : Int := ((l.take k).filter fun y => decide (y < x)).length + 1
def patL (l : List Int) : List Int := l.map fun x => rkI l x l.length
theorem rkI_succ {l : List Int} {x : Int} {k : Nat} (h : k < l.length) : rkI l x (k + 1) = rkI l x k + bitI (decide (l.getD k 0 < x)) := by
 rw [rkI, rkI, take_getD (d := 0) h, List.filter_append, List.length_append, List.filter_cons]
 cases decide (l.getD k 0 < x) <;> simp [bitI] <;> omega
theorem rkI_b {l : List Int} {x : Int} {k : Nat} : 1 ≤ rkI l x k ∧ rkI l x k ≤ l.length + 1 := by
 have := List.length_filter_le (fun y => decide (y < x)) (l.take k)
 rw [List.length_take] at this
 unfold rkI; omega
theorem spec_l2Pattern_c {m0 : Bool} (l : List Int) (hl : l.length ≤ 1048576) : Fun Try.prog 104 [(.sl (.lent m0) (List.map (PV.int .i64) (l)))] [(.sl .own (List.map (PV.int .i64) (patL l)))] := by
 refine fO sg0 [2] Try.func104 ?_
 have cE1 := @spec_l1Bit_c; have cD1 := zdh [false, false, false, false, false, false, false, false, false, false, true, false, false] [(0, 10)]
 refine dEa trivial ?_
 all_goals try (refine zlf ?_; repeat' first | exact zso | refine And.intro ?_ ?_ | (refine zim ?_; intro zb hc) | (refine zin ?_; intro zb) | intro j')
 all_goals try refine zbx ?_
 refine v_loopB (fun ms1 S1 => ∃ (k : Nat), S1.e 0 = .p (.sl (.lent m0) (List.map (PV.int .i64) (l))) ∧ OwnL (S1.e 3) S1.h S1.n (PV.int .i64) (((l.take k).map (fun x => rkI l x l.length)).length) ((l.take k).map (fun x => rkI l x l.length)) ∧ S1.e 4 = .p (.int .i64 (k)) ∧ (k ≤ l.length) ∧ ms1 = l.length - k) ((fun (k : Nat) => l.length - k) (0)) ?_ ⟨0, dIa trivial ?_⟩
 all_goals try (refine zlf ?_; repeat' first | exact zso | refine And.intro ?_ ?_ | (refine zim ?_; intro zb hc) | (refine zin ?_; intro zb) | intro j')
 all_goals try refine zbx ?_
 rintro ms1 S1 ⟨k, h1_0, o1_3, h1_4, c1_0, hm1⟩
 obtain ⟨i1_3, h1_3, b1_3, l1_3⟩ := o1_3.out
 have ni1_3 := znds (x := i1_3) (n := S1.n)
 have fL1 := (And.intro h1_0 (And.intro h1_4 (And.intro h1_3 (And.intro b1_3 ni1_3))))
 refine dEa fL1 ?_
 all_goals try (refine zlf ?_; repeat' first | exact zso | refine And.intro ?_ ?_ | (refine zim ?_; intro zb hc) | (refine zin ?_; intro zb) | intro j')
 all_goals try refine zbx ?_
 ·refine v_loopB (fun ms2 S2 => ∃ (j : Nat), S2.e 0 = .p (.sl (.lent m0) (List.map (PV.int .i64) (l))) ∧ OwnL (S2.e 3) S2.h S2.n (PV.int .i64) (((l.take k).map (fun x => rkI l x l.length)).length) ((l.take k).map (fun x => rkI l x l.length)) ∧ S2.e 4 = .p (.int .i64 (k)) ∧ S2.e 5 = .p (.int .i64 (rkI l (l.getD k 0) j)) ∧ S2.e 6 = .p (.int .i64 (j)) ∧ (j ≤ l.length) ∧ (k < l.length) ∧ S1.n ≤ S2.n ∧ ms2 = l.length - j) ((fun (j : Nat) => l.length - j) (0)) ?_ ⟨0, dIa fL1 ?_⟩
  all_goals try (refine zlf ?_; repeat' first | exact zso | refine And.intro ?_ ?_ | (refine zim ?_; intro zb hc) | (refine zin ?_; intro zb) | intro j')
  all_goals try refine zbx ?_
  rintro ms2 S2 ⟨j, h2_0, o2_3, h2_4, h2_5, h2_6, c2_0, c2_1, u2_0, hm2⟩
  obtain ⟨i2_3, h2_3, b2_3, l2_3⟩ := o2_3.out
  have ni2_3 := znds (x := i2_3) (n := S2.n)
  have fL2 := (And.intro h2_0 (And.intro h2_4 (And.intro h2_5 (And.intro h2_6 (And.intro h2_3 (And.intro b2_3 ni2_3))))))
  have b1 := rkI_b (l := l) (x := l.getD k 0) (k := j)
  have b2 := bitI_r (decide (l.getD j 0 < l.getD k 0))
  refine dEa fL2 ?_
  all_goals try (refine zlf ?_; repeat' first | exact zso | refine And.intro ?_ ?_ | (refine zim ?_; intro zb hc) | (refine zin ?_; intro zb) | intro j')
  all_goals try refine zbx ?_
  ·focus
    refine q_lp_n ((fun (j : Nat) => l.length - j) (j+1)) (dC fL2 ?_) ⟨j+1, dC fL2 ?_⟩
    all_goals try (refine zlf ?_; repeat' first | exact zso | refine And.intro ?_ ?_ | (refine zim ?_; intro zb hc) | (refine zin ?_; intro zb) | intro j')
    all_goals try refine zbx ?_
   rw [rkI_succ (by omega)]
  ·focus
    refine q_lp_n ((fun (k : Nat) => l.length - k) (k+1)) (dC fL2 ?_) ⟨k+1, dC fL2 ?_⟩
    all_goals try (refine zlf ?_; repeat' first | exact zso | refine And.intro ?_ ?_ | (refine zim ?_; intro zb hc) | (refine zin ?_; intro zb) | intro j')
    all_goals try refine zbx ?_
   all_goals (obtain rfl : j = l.length := by omega)
   rw [take_getD (d := 0) (by omega), List.map_append]; rfl
 ·rw [List.take_of_length_le (by omega)]; rfl
theorem impl_pattern_c {m0 : Bool} (l : List Int) (hl : l.length ≤ 1048576) : Fun Try.prog 106 [(.sl (.lent m0) (List.map (PV.int .i64) (l)))] [(.sl .own (List.map (PV.int .i64) (patL l)))] := by
 refine fO sg0 [2] Try.func106 ?_
 refine dEa trivial ?_
 all_goals try (refine zlf ?_; repeat' first | exact zso | refine And.intro ?_ ?_ | (refine zim ?_; intro zb hc) | (refine zin ?_; intro zb) | intro j')
 all_goals try refine zbx ?_
 refine v_loopB (fun ms1 S1 => ∃ (k : Nat), S1.e 0 = .p (.sl (.lent m0) (List.map (PV.int .i64) (l))) ∧ S1.e 10 = .p (.sl (.lent m0) (List.map (PV.int .i64) (l))) ∧ S1.e 11 = .p (.int .i64 (l.length)) ∧ S1.e 12 = .p (.int .i64 (k)) ∧ OwnL (S1.e 3) S1.h S1.n (PV.int .i64) (((l.take k).map (fun x => rkI l x l.length)).length) ((l.take k).map (fun x => rkI l x l.length)) ∧ (k ≤ l.length) ∧ ms1 = l.length - k) ((fun (k : Nat) => l.length - k) (0)) ?_ ⟨0, dIa trivial ?_⟩
 all_goals try (refine zlf ?_; repeat' first | exact zso | refine And.intro ?_ ?_ | (refine zim ?_; intro zb hc) | (refine zin ?_; intro zb) | intro j')
 all_goals try refine zbx ?_
 rintro ms1 S1 ⟨k, h1_0, h1_10, h1_11, h1_12, o1_3, c1_0, hm1⟩
 obtain ⟨i1_3, h1_3, b1_3, l1_3⟩ := o1_3.out
 have ni1_3 := znds (x := i1_3) (n := S1.n)
 have fL1 := (And.intro h1_0 (And.intro h1_10 (And.intro h1_11 (And.intro h1_12 (And.intro h1_3 (And.intro b1_3 ni1_3))))))
 refine dEa fL1 ?_
 all_goals try (refine zlf ?_; repeat' first | exact zso | refine And.intro ?_ ?_ | (refine zim ?_; intro zb hc) | (refine zin ?_; intro zb) | intro j')
 all_goals try refine zbx ?_
 ·refine v_loopB (fun ms2 S2 => ∃ (j : Nat), S2.e 0 = .p (.sl (.lent m0) (List.map (PV.int .i64) (l))) ∧ S2.e 10 = .p (.sl (.lent m0) (List.map (PV.int .i64) (l))) ∧ S2.e 11 = .p (.int .i64 (l.length)) ∧ S2.e 12 = .p (.int .i64 (k)) ∧ OwnL (S2.e 3) S2.h S2.n (PV.int .i64) (((l.take k).map (fun x => rkI l x l.length)).length) ((l.take k).map (fun x => rkI l x l.length)) ∧ S2.e 5 = .p (.int .i64 (l.getD k 0)) ∧ S2.e 16 = .p (.sl (.lent m0) (List.map (PV.int .i64) (l))) ∧ S2.e 17 = .p (.int .i64 (l.length)) ∧ S2.e 18 = .p (.int .i64 (j)) ∧ S2.e 6 = .p (.int .i64 (rkI l (l.getD k 0) j)) ∧ (j ≤ l.length) ∧ (k < l.length) ∧ S1.n ≤ S2.n ∧ ms2 = l.length - j) ((fun (j : Nat) => l.length - j) (0)) ?_ ⟨0, dIa fL1 ?_⟩
  all_goals try (refine zlf ?_; repeat' first | exact zso | refine And.intro ?_ ?_ | (refine zim ?_; intro zb hc) | (refine zin ?_; intro zb) | intro j')
  all_goals try refine zbx ?_
  rintro ms2 S2 ⟨j, h2_0, h2_10, h2_11, h2_12, o2_3, h2_5, h2_16, h2_17, h2_18, h2_6, c2_0, c2_1, u2_0, hm2⟩
  obtain ⟨i2_3, h2_3, b2_3, l2_3⟩ := o2_3.out
  have ni2_3 := znds (x := i2_3) (n := S2.n)
  have fL2 := (And.intro h2_0 (And.intro h2_10 (And.intro h2_11 (And.intro h2_12 (And.intro h2_5 (And.intro h2_16 (And.intro h2_17 (And.intro h2_18 (And.intro h2_6 (And.intro h2_3 (And.intro b2_3 ni2_3)))))))))))
  have b1 := rkI_b (l := l) (x := l.getD k 0) (k := j)
  refine dEa fL2 ?_
  all_goals try (refine zlf ?_; repeat' first | exact zso | refine And.intro ?_ ?_ | (refine zim ?_; intro zb hc) | (refine zin ?_; intro zb) | intro j')
  all_goals try refine zbx ?_
  ·focus
    refine q_lp_n ((fun (j : Nat) => l.length - j) (j+1)) (dC fL2 ?_) ⟨j+1, dC fL2 ?_⟩
    all_goals try (refine zlf ?_; repeat' first | exact zso | refine And.intro ?_ ?_ | (refine zim ?_; intro zb hc) | (refine zin ?_; intro zb) | intro j')
    all_goals try refine zbx ?_
   rw [rkI_succ (by omega), decide_eq_true hc]; rfl
  ·focus
    refine q_lp_n ((fun (j : Nat) => l.length - j) (j+1)) (dC fL2 ?_) ⟨j+1, dC fL2 ?_⟩
    all_goals try (refine zlf ?_; repeat' first | exact zso | refine And.intro ?_ ?_ | (refine zim ?_; intro zb hc) | (refine zin ?_; intro zb) | intro j')
    all_goals try refine zbx ?_
   rw [rkI_succ (by omega), decide_eq_false (by omega)]; simp [bitI]
  ·focus
    refine q_lp_n ((fun (k : Nat) => l.length - k) (k+1)) (dC fL2 ?_) ⟨k+1, dC fL2 ?_⟩
    all_goals try (refine zlf ?_; repeat' first | exact zso | refine And.intro ?_ ?_ | (refine zim ?_; intro zb hc) | (refine zin ?_; intro zb) | intro j')
    all_goals try refine zbx ?_
   all_goals (obtain rfl : j = l.length := by omega)
   rw [take_getD (d := 0) (by omega), List.map_append]; rfl
 ·rw [List.take_of_length_le (by omega)]; rfl
theorem nodup_map {f : Int → Int} {l : List Int} (h : l.Nodup) (hf : ∀ x ∈ l, ∀ y ∈ l, x ≠ y → f x ≠ f y) : (l.map f).Nodup := by
 unfold List.Nodup
 rw [List.pairwise_map]
 exact List.Pairwise.imp_of_mem (fun {a b} ha hb hab => hf a ha b hb hab) h
theorem rkI_lt {l : List Int} {x y : Int} (hx : x ∈ l) (h : x < y) : rkI l x l.length < rkI l y l.length := by
 unfold rkI
 rw [List.take_length]
 have h1 := len_two (fun z => decide (z < x)) (l.filter fun z => decide (z < y))
 have h2 : ((l.filter fun z => decide (z < y)).filter fun z => decide (z < x)) = l.filter fun z => decide (z < x) := by
  rw [List.filter_filter]
  refine List.filter_congr fun z _ => ?_
  by_cases hz : z < x
  ·simp [hz, show z < y by omega]
  ·simp [hz]
 have h3 : x ∈ (l.filter fun z => decide (z < y)).filter fun z => !decide (z < x) := by
  simp only [List.mem_filter, decide_eq_true_eq, Bool.not_eq_true', decide_eq_false_iff_not]
  exact ⟨⟨hx, h⟩, by omega⟩
 have h4 := List.length_pos_of_mem h3
 rw [h2] at h1
 omega
theorem patL_len {l : List Int} : (patL l).length = l.length := by simp [patL]
theorem patL_perm {l : List Int} (hn : l.Nodup) : permB (patL l) = true := by
 rw [permB_iff, patL_len]
 refine ⟨fun x hx => ?_, nodup_map hn fun x hx y hy h => ?_⟩
 ·obtain ⟨y, hy, rfl⟩ := List.mem_map.1 hx
  refine ⟨rkI_b.1, ?_⟩
  have h1 := len_two (fun z => decide (z < y)) l
  have h2 : y ∈ l.filter fun z => !decide (z < y) := by simp [hy]
  have h3 := List.length_pos_of_mem h2
  unfold rkI
  rw [List.take_length]
  omega
 ·rcases Int.lt_or_gt_of_ne h with h | h
  ·have := rkI_lt hx h; omega
  ·have := rkI_lt hy h; omega
end Go.Gl
