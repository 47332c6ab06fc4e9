/-
  What the functions compute, and what the law asks of it: texts joined. Conditions: those that each lemma names.
-/
import Derived.Test.YtfjfobbniglaeaaGreatA0
import Derived.Test.YtfjfobbniglaeaaGreatGlC
import Derived.Shelf.Small.Bits
import Derived.Shelf.Strconv.Itoa0
import Derived.Shelf.Slices.Turned
import Derived.Shelf.Slices.Equal
import Derived.Ground.Names2Prog
import Derived.Shelf.Slices.Clone
import Derived.Shelf.Slices.SearchI
import Derived.Shelf.Slices.Delete
import Derived.Shelf.Slices.Cells
import Derived.Shelf.Slices.Empties
import Derived.Ground.SlgnProg
import Derived.Shelf.SlicesE.Clone
import Derived.Ground.SlsfProg
import Derived.Shelf.SlSortCmp.Insertion
import Derived.Shelf.SlSortCmp.SiftDown1
import Derived.Shelf.SlSortCmp.HeapSort1
import Derived.Shelf.SlSortCmp.Insertion1
import Derived.Shelf.SlSortCmp.Median1
import Derived.Shelf.SlSortCmp.Pivot1
import Derived.Shelf.SlSortCmp.ReverseRange1
import Derived.Shelf.SlSortCmp.PartialInsertion1
import Derived.Shelf.SlSortCmp.PartitionEqual1
import Derived.Shelf.SlSortCmp.Partition1
import Derived.Shelf.SlSortCmp.Pdq1
import Derived.Shelf.SlSortCmp.Whole1
import Derived.Shelf.Spec.SlicesGrow
import Derived.Ground.Names8Prog
import Derived.Test.YtfjfobbniglaeaaGreatProg
import Derived.Lib.Join
set_option linter.unusedSimpArgs false
set_option linter.unusedVariables false
set_option maxRecDepth 20000
set_option linter.unusedSectionVars false
namespace Go.Gl
open Go Go.Proofs
variable [Amb]
theorem spec_l1In_c (a b c : Int) : Fun Tryz.prog 43 [(.int .i64 (a)), (.int .i64 (b)), (.int .i64 (c))] [(.bool ((decide (b ≤ a) && decide (a ≤ c))))] := by
 refine fO sg0 [6] Tryz.func43 ?_
 refine dE trivial ?_
 all_goals try (refine zlf ?_; repeat' first | exact zso | refine And.intro ?_ ?_ | (refine zim ?_; intro zb hc) | (refine zin ?_; intro zb) | intro j')
 all_goals try refine zbx ?_
def bitI (b : Bool) : Int := if b then 1 else 0
theorem bitI_r (b : Bool) : 0 ≤ bitI b ∧ bitI b ≤ 1 := by cases b <;> decide
theorem spec_l1Bit_c (b : Bool) : Fun Tryz.prog 52 [(.bool (b))] [(.int .i64 (bitI b))] := by
 refine fO sg0 [2] Tryz.func52 ?_
 refine dE trivial ?_
 all_goals try (refine zlf ?_; repeat' first | exact zso | refine And.intro ?_ ?_ | (refine zim ?_; intro zb hc) | (refine zin ?_; intro zb) | intro j')
 all_goals try refine zbx ?_
 all_goals simp [bitI, hc]
theorem spec_l1Max_c (a b : Int) : Fun Tryz.prog 107 [(.int .i64 (a)), (.int .i64 (b))] [(.int .i64 (max a b))] := by
 refine fO sg0 [4] Tryz.func107 ?_
 refine dE trivial ?_
 all_goals try (refine zlf ?_; repeat' first | exact zso | refine And.intro ?_ ?_ | (refine zim ?_; intro zb hc) | (refine zin ?_; intro zb) | intro j')
 all_goals try refine zbx ?_
 all_goals omega
theorem dropI_at {s : List Int} {k : Nat} (h : k < s.length) : s.drop k = s.getD k 0 :: s.drop (k + 1) := by
 rw [List.drop_eq_getElem_cons h, List.getD_eq_getElem?_getD, List.getElem?_eq_getElem h]; rfl
end Go.Gl
namespace Go.Gl
open Go Go.Proofs
variable [Amb] [NoQ]
/-- Each of the numbers 1 to the length once, from place k on, those in 'seen' seen. -/
def permGo (n : Int) : List Int → List Int → Bool
 | _, [] => true
 | seen, v :: p => decide (1 ≤ v) && decide (v ≤ n) && !(seen.contains v) && permGo n (seen ++ [v]) p
def permB (p : List Int) : Bool := permGo p.length [] p
def isPermB (p : List Int) : Bool := decide (p.length ≤ 8) && permB p
theorem contains_take {l : List Int} {k : Nat} {x : Int} (h : k < l.length) : (l.take (k + 1)).contains x = ((l.take k).contains x || decide (x = l.getD k 0)) := by
 rw [List.take_add_one, List.getD_eq_getElem?_getD, List.getElem?_eq_getElem h]
 simp only [Option.toList_some, Option.getD_some, List.contains_append]
 congr 1
 simp [List.contains_cons]
theorem contains_at {l : List Int} {k : Nat} (h : k < l.length) : l.contains (l.getD k 0) = true := by
 rw [List.getD_eq_getElem?_getD, List.getElem?_eq_getElem h]; simp
theorem permGo_step {n : Int} {p : List Int} {k : Nat} (h : k < p.length) : permGo n (p.take k) (p.drop k) = (decide (1 ≤ p.getD k 0) && decide (p.getD k 0 ≤ n) && !((p.take k).contains (p.getD k 0)) && permGo n (p.take (k + 1)) (p.drop (k + 1))) := by
 rw [dropI_at h, permGo]
 congr 2
 rw [List.take_add_one, List.getD_eq_getElem?_getD, List.getElem?_eq_getElem h]; rfl
theorem spec_l2Has_c {m0 : Bool} (l : List Int) (x : Int) (hl : l.length ≤ 1099511627776) : Fun Tryz.prog 55 [(.sl (.lent m0) (List.map (PV.int .i64) (l))), (.int .i64 (x))] [(.bool (l.contains x))] := by
 refine fO sg0 [4] Tryz.func55 ?_
 refine dE trivial ?_
 all_goals try (refine zlf ?_; repeat' first | exact zso | refine And.intro ?_ ?_ | (refine zim ?_; intro zb hc) | (refine zin ?_; intro zb) | intro j')
 all_goals try refine zbx ?_
 refine v_loopB (fun ms1 S1 => ∃ (k : Nat), S1.e 0 = .p (.sl (.lent m0) (List.map (PV.int .i64) (l))) ∧ S1.e 1 = .p (.int .i64 (x)) ∧ S1.e 5 = .p (.int .i64 (k)) ∧ (k ≤ l.length) ∧ ((l.take k).contains x = false) ∧ ms1 = l.length - k) ((fun (k : Nat) => l.length - k) (0)) ?_ ⟨0, dIa trivial ?_⟩
 all_goals try (refine zlf ?_; repeat' first | exact zso | refine And.intro ?_ ?_ | (refine zim ?_; intro zb hc) | (refine zin ?_; intro zb) | intro j')
 all_goals try refine zbx ?_
 rintro ms1 S1 ⟨k, h1_0, h1_1, h1_5, c1_0, c1_1, hm1⟩
 have fL1 := (And.intro h1_0 (And.intro h1_1 h1_5))
 refine dEa fL1 ?_
 all_goals try (refine zlf ?_; repeat' first | exact zso | refine And.intro ?_ ?_ | (refine zim ?_; intro zb hc) | (refine zin ?_; intro zb) | intro j')
 all_goals try refine zbx ?_
 ·rw [← hc, contains_at (by omega)]
 ·focus
   refine q_lp_n ((fun (k : Nat) => l.length - k) (k+1)) (dC fL1 ?_) ⟨k+1, dC fL1 ?_⟩
   all_goals try (refine zlf ?_; repeat' first | exact zso | refine And.intro ?_ ?_ | (refine zim ?_; intro zb hc) | (refine zin ?_; intro zb) | intro j')
   all_goals try refine zbx ?_
  rw [contains_take (by omega), c1_1, Bool.false_or]; exact decide_eq_false (fun e => hc e.symm)
 ·rw [← c1_1, List.take_of_length_le (by omega)]
theorem spec_IsPerm_c {m0 : Bool} (p : List Int) (hl : p.length ≤ 1048576) : Fun Tryz.prog 27 [(.sl (.lent m0) (List.map (PV.int .i64) (p)))] [(.bool (isPermB p))] := by
 refine fO sg0 [2] Tryz.func27 ?_
 have cE1 := @spec_l1In_c; have cE2 := @spec_l2Has_c; have cD1 := zdh [false, false, false, false, false, false, true, false, false, false, false, false, false, false, false, false, true, false] []
 refine dE trivial ?_
 all_goals try (refine zlf ?_; repeat' first | exact zso | refine And.intro ?_ ?_ | (refine zim ?_; intro zb hc) | (refine zin ?_; intro zb) | intro j')
 all_goals try refine zbx ?_
 refine v_loopB (fun ms1 S1 => ∃ (k : Nat), S1.e 0 = .p (.sl (.lent m0) (List.map (PV.int .i64) (p))) ∧ S1.e 3 = .p (.int .i64 (k)) ∧ (k ≤ p.length) ∧ (p.length ≤ 8 → permB p = permGo p.length (p.take k) (p.drop k)) ∧ ms1 = p.length - k) ((fun (k : Nat) => p.length - k) (0)) ?_ ⟨0, dIa trivial ?_⟩
 all_goals try (refine zlf ?_; repeat' first | exact zso | refine And.intro ?_ ?_ | (refine zim ?_; intro zb hc) | (refine zin ?_; intro zb) | intro j')
 all_goals try refine zbx ?_
 rintro ms1 S1 ⟨k, h1_0, h1_3, c1_0, c1_1, hm1⟩
 have fL1 := (And.intro h1_0 h1_3)
 refine dEa fL1 ?_
 all_goals try (refine zlf ?_; repeat' first | exact zso | refine And.intro ?_ ?_ | (refine zim ?_; intro zb hc) | (refine zin ?_; intro zb) | intro j')
 all_goals try refine zbx ?_
 all_goals try (have c2 := c1_1 (by omega); rw [permGo_step (by omega)] at c2)
 ·simp only [isPermB, c2, hc]; simp
 ·focus
   refine q_lp_n ((fun (k : Nat) => p.length - k) (k+1)) (dC fL1 ?_) ⟨k+1, dC fL1 ?_⟩
   all_goals try (refine zlf ?_; repeat' first | exact zso | refine And.intro ?_ ?_ | (refine zim ?_; intro zb hc) | (refine zin ?_; intro zb) | intro j')
   all_goals try refine zbx ?_
  intro h; rw [c2, hc, decide_eq_true (by omega), decide_eq_true (by omega)]; rfl
 ·simp only [isPermB, c2]
  rcases hc with hc | hc
  ·rw [decide_eq_false (by omega : ¬ 1 ≤ p.getD k 0)]; simp
  ·rw [decide_eq_false (by omega : ¬ p.getD k 0 ≤ (p.length : Int))]; simp
 ·rw [isPermB, decide_eq_false (by omega)]; rfl
 ·by_cases h8 : p.length ≤ 8
  ·rw [isPermB, c1_1 h8, List.drop_of_length_le (by omega), permGo, Bool.and_true]; congr 1; simp only [eq_iff_iff]; omega
  ·rw [isPermB, decide_eq_false h8, decide_eq_false (by omega)]; rfl
 ·rfl
theorem impl_isPerm_c {m0 : Bool} (p : List Int) (hl : p.length ≤ 1048576) : Fun Tryz.prog 73 [(.sl (.lent m0) (List.map (PV.int .i64) (p)))] [(.bool (permB p))] := by
 refine fO sg0 [2] Tryz.func73 ?_
 refine dEa trivial ?_
 all_goals try (refine zlf ?_; repeat' first | exact zso | refine And.intro ?_ ?_ | (refine zim ?_; intro zb hc) | (refine zin ?_; intro zb) | intro j')
 all_goals try refine zbx ?_
 refine v_loopB (fun ms1 S1 => ∃ (k : Nat) (seen : List Bool), S1.e 0 = .p (.sl (.lent m0) (List.map (PV.int .i64) (p))) ∧ S1.e 10 = .p (.sl (.lent m0) (List.map (PV.int .i64) (p))) ∧ OwnL (S1.e 3) S1.h S1.n PV.bool ((seen).length) (seen) ∧ S1.e 11 = .p (.int .i64 (p.length)) ∧ S1.e 12 = .p (.int .i64 (k)) ∧ (k ≤ p.length) ∧ (seen.length = p.length + 1) ∧ (permB p = permGo p.length (p.take k) (p.drop k)) ∧ (∀ v : Nat, 1 ≤ v → v ≤ p.length → seen.getD v false = (p.take k).contains (v : Int)) ∧ ms1 = p.length - k) ((fun (k : Nat) (seen : List Bool) => p.length - k) (0) (List.replicate (p.length+1) false)) ?_ ⟨0, List.replicate (p.length+1) false, dI trivial ?_⟩
 all_goals try (refine zlf ?_; repeat' first | exact zso | refine And.intro ?_ ?_ | (refine zim ?_; intro zb hc) | (refine zin ?_; intro zb) | intro j')
 all_goals try refine zbx ?_
 rintro ms1 S1 ⟨k, seen, h1_0, h1_10, o1_3, h1_11, h1_12, c1_0, c1_1, c1_2, c1_3, hm1⟩
 obtain ⟨i1_3, h1_3, b1_3, l1_3⟩ := o1_3.out
 have ni1_3 := znds (x := i1_3) (n := S1.n)
 have fL1 := (And.intro h1_0 (And.intro h1_10 (And.intro h1_11 (And.intro h1_12 (And.intro h1_3 (And.intro b1_3 ni1_3))))))
 refine dE fL1 ?_
 all_goals try (refine zlf ?_; repeat' first | exact zso | refine And.intro ?_ ?_ | (refine zim ?_; intro zb hc) | (refine zin ?_; intro zb) | intro j')
 all_goals try refine zbx ?_
 all_goals try rw [permGo_step (by omega)] at c1_2
 all_goals try exact zaut
 ·rw [c1_2, ← show ((p.getD k 0).toNat : Int) = p.getD k 0 by omega, ← c1_3 _ (by omega) (by omega), hc]; simp
 ·focus
   refine q_lp_n ((fun (k : Nat) (seen : List Bool) => p.length - k) (k+1) (seen.set (p.getD k 0).toNat true)) (dC fL1 ?_) ⟨k+1, seen.set (p.getD k 0).toNat true, dC fL1 ?_⟩
   all_goals try (refine zlf ?_; repeat' first | exact zso | refine And.intro ?_ ?_ | (refine zim ?_; intro zb hc) | (refine zin ?_; intro zb) | intro j')
   all_goals try refine zbx ?_
  ·rw [c1_2, decide_eq_true (by omega), decide_eq_true (by omega), ← show ((p.getD k 0).toNat : Int) = p.getD k 0 by omega, ← c1_3 _ (by omega) (by omega), hc]; rfl
  ·intro v h1 h2
   rw [contains_take (by omega), ← c1_3 v h1 h2, List.getD_eq_getElem?_getD, List.getElem?_set]
   by_cases e : (p.getD k 0).toNat = v
   ·rw [if_pos e, if_pos (by omega), decide_eq_true (by omega)]; simp
   ·rw [if_neg e, decide_eq_false (by omega), Bool.or_false, List.getD_eq_getElem?_getD]
 ·rw [c1_2, decide_eq_false (by omega : ¬ p.getD k 0 ≤ (p.length : Int))]; simp
 ·rw [c1_2, decide_eq_false (by omega : ¬ 1 ≤ p.getD k 0)]; simp
 ·rw [c1_2, List.drop_of_length_le (by omega)]; rfl
 ·intro v h1 h2; rw [List.getD_eq_getElem?_getD, List.getElem?_replicate]; split <;> rfl
theorem impl_IsPerm_c {m0 : Bool} (p : List Int) (hl : p.length ≤ 1048576) : Fun Tryz.prog 45 [(.sl (.lent m0) (List.map (PV.int .i64) (p)))] [(.bool (isPermB p))] := by
 refine fO sg0 [2] Tryz.func45 ?_
 have cE1 := @impl_isPerm_c
 refine dEa trivial ?_
 all_goals try (refine zlf ?_; repeat' first | exact zso | refine And.intro ?_ ?_ | (refine zim ?_; intro zb hc) | (refine zin ?_; intro zb) | intro j')
 all_goals try refine zbx ?_
 ·rw [isPermB, decide_eq_true (by omega), Bool.true_and]
 ·rw [isPermB, decide_eq_false (by omega)]; rfl
def idxP (p : Int → Bool) : List Int → Nat → Int
 | [], _ => -1
 | x :: l, i => if p x then i else idxP p l (i + 1)
theorem idxP_any {p : Int → Bool} : ∀ {l : List Int} {i : Nat}, decide (0 ≤ idxP p l i) = l.any p
 | [], _ => rfl
 | x :: l, i => by
  rw [idxP, List.any_cons]
  split
  ·rename_i h; rw [h, Bool.true_or]; exact decide_eq_true (by omega)
  ·rename_i h; rw [idxP_any, Bool.eq_false_iff.2 h, Bool.false_or]
end Go.Gl
namespace Go.Proofs
open Go.Shelf
def Tryz.laysNm215_ren : Go.Shelf.Ren := ⟨fun | 15 => 35 | n => n, fun | 22 => 24 | 3 => 3 | 4 => 4 | n => n, fun | n => n⟩
theorem Tryz.laysNm215 : Go.Proofs.Lays2.n15 Tryz.prog Tryz.laysNm215_ren := {
 mixed := by kernel_rfl
 f15 := Tryz.func35.trans (congrArg some (by kernel_rfl))
 t3 := Tryz.underlying3
 a3 := Tryz.isAgg3
 z3 := Tryz.sizeOf3
 v3 := Tryz.zeroValue3
 t4 := Tryz.underlying4
 a4 := Tryz.isAgg4
 z4 := Tryz.sizeOf4
 v4 := Tryz.zeroValue4
 t22 := Tryz.underlying24
 a22 := Tryz.isAgg24
 z22 := Tryz.sizeOf24
 v22 := Tryz.zeroValue24
 i3 := by kernel_rfl }
open Go.RowKit Go.Lib in
/-- slices.Clone at []int: "Clone returns a copy of the slice. The elements are copied using assignment, so this is a shallow clone. The result may have additional unused capacity. The result preserves the nilness of s.": OF A SLICE THAT IS NOT nil IT RETURNS A SLICE THAT IS NOT nil, OF THE SAME ELEMENTS, IN MEMORY OF THE CALL's OWN: in the how-to's words (6f): 'w'.ownsRow B e 1 v' n cells': v' begins at the head of a row among the blocks from B on (B: the heap's size at the call), not frozen, whose first cells are the elements · 'Below B w w'': below B all is as it was. The capacity is whatever the run-time gives. 'zs': what the cells behind the slice's address hold; 'zs.take n': its elements. (LAID: no walk: one application.) -/
theorem Tryz.slices_Clone_int (b off n c : Nat) (zs : List Int) (w : World) (hz : n ≤ zs.length) (hbig : n * 8 ≤ 140737488355328) (hc : ∀ j, j < zs.length → w.cell? ⟨b, off + j, none⟩ = some (.int .i64 (zs.getD j 0))) :
  Calls Tryz.prog 35 #[.slice (some ⟨b, off, none⟩) n c] w fun e w' => ∃ v', e = .returned v' ∧ w'.ownsRow w.heap.size 3 1 v' n ((zs.take n).map (Value.int .i64)) ∧ v' ≠ .slice none 0 0 ∧ Below w.heap.size w w' := Any.slices_Clone_int Tryz.laysNm215 b off n c zs w hz hbig hc
open Go.RowKit Go.Lib in
/-- The same at nil: nil comes back; the world is as it was. (LAID: no walk: one application.) -/
theorem Tryz.slices_Clone_int_nil (n c : Nat) (w : World) :
  Calls Tryz.prog 35 #[.slice none n c] w fun e w' => e = .returned (.slice none 0 0) ∧ w' = w := Any.slices_Clone_int_nil Tryz.laysNm215 n c w
open Go.RowKit Go.Lib in
/-- The same at a slice of length 0 that is not nil, WHATEVER ITS ADDRESS (no cell is asked for): a slice that is not nil and owns nothing comes back. (LAID: no walk: one application.) -/
theorem Tryz.slices_Clone_int_zero (a : Addr) (c : Nat) (w : World) :
  Calls Tryz.prog 35 #[.slice (some a) 0 c] w fun e w' => ∃ v', e = .returned v' ∧ w'.ownsRow w.heap.size 3 1 v' 0 [] ∧ v' ≠ .slice none 0 0 ∧ Below w.heap.size w w' := Any.slices_Clone_int_zero Tryz.laysNm215 a c w
def Tryz.laysGrow_ren : Go.Shelf.Ren := ⟨fun | 4 => 129 | n => n, fun | 22 => 24 | 25 => 3 | 3 => 3 | 4 => 4 | 9 => 9 | 20 => 20 | 0 => 0 | n => n, fun | n => n⟩
theorem Tryz.laysGrow : Go.Proofs.Lays8.n4 Tryz.prog Tryz.laysGrow_ren := {
 mixed := by kernel_rfl
 f4 := ⟨Tryz.f129.name, by decide, Tryz.func129.trans (congrArg some (by kernel_rfl))⟩
 t0 := Tryz.underlying0
 a0 := Tryz.isAgg0
 z0 := Tryz.sizeOf0
 v0 := Tryz.zeroValue0
 t3 := Tryz.underlying3
 a3 := Tryz.isAgg3
 z3 := Tryz.sizeOf3
 v3 := Tryz.zeroValue3
 t4 := Tryz.underlying4
 a4 := Tryz.isAgg4
 z4 := Tryz.sizeOf4
 v4 := Tryz.zeroValue4
 t9 := Tryz.underlying9
 a9 := Tryz.isAgg9
 z9 := Tryz.sizeOf9
 v9 := Tryz.zeroValue9
 t20 := Tryz.underlying20
 a20 := Tryz.isAgg20
 z20 := Tryz.sizeOf20
 v20 := Tryz.zeroValue20
 t22 := Tryz.underlying24
 a22 := Tryz.isAgg24
 z22 := Tryz.sizeOf24
 v22 := Tryz.zeroValue24 }
open Go.RowKit Go.Lib in
theorem Tryz.slices_Grow_room (base : Option Addr) (l c n : Nat) (w : World) (hlc : l ≤ c) (hc63 : c ≤ 9223372036854775807) (hn63 : n ≤ 9223372036854775807) (hroom : l + n ≤ c) :
  Calls Tryz.prog 129 #[.slice base l c, .int .i64 n] w fun e w' => e = .returned (.slice base l c) ∧ w' = w := Any8.slices_Grow_room Tryz.laysGrow base l c n w hlc hc63 hn63 hroom
end Go.Proofs
namespace Go.Gl
open Go Go.Proofs
variable [Amb] [NoQ]
theorem slices_Clone_c {m0 : Bool} (l : List Int) (hl : l.length ≤ 1099511627776) :
  Fun Tryz.prog 35 [.sl (.lent m0) (List.map (.int .i64) l)] [.sl .own (List.map (.int .i64) l)] := by
 refine Fun.of_row 3 Tryz.func35 rfl rfl nrL_int (by intro x hx; rw [List.mem_map] at hx; obtain ⟨_, _, rfl⟩ := hx; rfl) ?_
 intro w F G vs _ hv
 simp only [RepL] at hv
 obtain ⟨a, vs1, rfl, ha, rfl⟩ := hv
 have e1 : (l.map (PV.int .i64)).map pvV = l.map (Value.int .i64) := by simp [Function.comp_def, pvV, plV]
 simp only [RepP] at ha
 obtain ⟨a, cap, rfl, h1, h2, ho, h3⟩ := ha
 rw [e1, List.length_map] at *
 by_cases hn : a = none
 ·subst hn
  have hl0 : l = [] := by
   rcases h3 with h3 | ⟨B, off, h3, _⟩
   ·simpa using h3
   ·cases h3
  subst hl0
  exact (Tryz.slices_Clone_int_nil _ _ w).mono fun e w' h => ⟨_, h.1, ⟨by simp, .inl ⟨rfl, rfl⟩⟩, h.2 ▸ Go.RowKit.Below.refl _ _⟩
 ·obtain ⟨ad, rfl⟩ : ∃ ad, a = some ad := by cases a with | none => exact absurd rfl hn | some ad => exact ⟨ad, rfl⟩
  by_cases hl0 : l = []
  ·subst hl0
   exact (Tryz.slices_Clone_int_zero ad cap w).mono fun e w' ⟨v, hv, hr, _, hw⟩ => ⟨v, hv, hr, hw⟩
  ·rcases h3 with h3 | ⟨B, off, h3, _, _, hc⟩
   ·simp at h3; exact absurd h3 hl0
   ·cases h3
    rw [RepC_iff] at hc
    have := Tryz.slices_Clone_int B off l.length cap l w (Nat.le_refl _) (by omega) (fun j hj => by
     obtain ⟨u, hu, _, hr⟩ := hc j (.int .i64 (l.getD j 0)) (by rw [List.getElem?_map, List.getD_eq_getElem?_getD, List.getElem?_eq_getElem hj]; rfl)
     rw [repP_i hr] at hu; exact hu)
    rw [List.take_length] at this
    exact this.mono fun e w' ⟨v, hv, hr, _, hw⟩ => ⟨v, hv, hr, hw⟩
--%reg slices.Clone[[]int,int] slices_Clone_c _ ?_
theorem idxP_hit {p : Int → Bool} : ∀ {l : List Int} {k : Nat} {i : Nat}, k < l.length → (∀ j, j < k → p (l.getD j 0) = false) → p (l.getD k 0) = true → idxP p l i = i + k
 | [], k, i, h, _, _ => by simp at h
 | x :: l, 0, i, _, _, h => by simp at h; simp [idxP, h]
 | x :: l, k + 1, i, h, h1, h2 => by
  have h0 := h1 0 (by omega)
  simp only [List.getD_cons_zero] at h0
  rw [idxP, h0]
  simp only [Bool.false_eq_true, if_false]
  rw [idxP_hit (k := k) (by simpa using h) (fun j hj => by simpa using h1 (j + 1) (by omega)) (by simpa using h2)]
  push_cast; omega
theorem idxP_miss {p : Int → Bool} : ∀ {l : List Int} {i : Nat}, (∀ j, j < l.length → p (l.getD j 0) = false) → idxP p l i = -1
 | [], _, _ => rfl
 | x :: l, i, h => by
  have h0 := h 0 (by simp)
  simp only [List.getD_cons_zero] at h0
  rw [idxP, h0]
  simp only [Bool.false_eq_true, if_false]
  exact idxP_miss fun j hj => by simpa using h (j + 1) (by simp; omega)
theorem slices_Index_int_int_c {m0 : Bool} (l : List Int) (x : Int) (hl : l.length ≤ 1099511627776) : Fun Tryz.prog 97 [(.sl (.lent m0) (List.map (PV.int .i64) (l))), (.int .i64 (x))] [(.int .i64 (idxP (fun y => decide (x = y)) l 0))] := by
 refine fO sg0 [4] Tryz.func97 ?_
 refine dE trivial ?_
 all_goals try (refine zlf ?_; repeat' first | exact zso | refine And.intro ?_ ?_ | (refine zim ?_; intro zb hc) | (refine zin ?_; intro zb) | intro j')
 all_goals try refine zbx ?_
 refine v_loopB (fun ms1 S1 => ∃ (k : Nat), S1.e 0 = .p (.sl (.lent m0) (List.map (PV.int .i64) (l))) ∧ S1.e 1 = .p (.int .i64 (x)) ∧ S1.e 7 = .p (.int .i64 (l.length)) ∧ S1.e 8 = .p (.int .i64 (k)) ∧ (k ≤ l.length) ∧ (∀ j, j < k → decide (x = l.getD j 0) = false) ∧ ms1 = l.length - k) ((fun (k : Nat) => l.length - k) (0)) ?_ ⟨0, dIa trivial ?_⟩
 all_goals try (refine zlf ?_; repeat' first | exact zso | refine And.intro ?_ ?_ | (refine zim ?_; intro zb hc) | (refine zin ?_; intro zb) | intro j')
 all_goals try refine zbx ?_
 rintro ms1 S1 ⟨k, h1_0, h1_1, h1_7, h1_8, c1_0, c1_1, hm1⟩
 have fL1 := (And.intro h1_0 (And.intro h1_1 (And.intro h1_7 h1_8)))
 refine dEa fL1 ?_
 all_goals try (refine zlf ?_; repeat' first | exact zso | refine And.intro ?_ ?_ | (refine zim ?_; intro zb hc) | (refine zin ?_; intro zb) | intro j')
 all_goals try refine zbx ?_
 ·rw [idxP_hit (k := k) (by omega) c1_1 (by simpa using hc)]; push_cast; omega
 ·focus
   refine q_lp_n ((fun (k : Nat) => l.length - k) (k+1)) (dC fL1 ?_) ⟨k+1, dC fL1 ?_⟩
   all_goals try (refine zlf ?_; repeat' first | exact zso | refine And.intro ?_ ?_ | (refine zim ?_; intro zb hc) | (refine zin ?_; intro zb) | intro j')
   all_goals try refine zbx ?_
  intro j hj
  by_cases e : j = k
  ·subst e; simpa using hc
  ·exact c1_1 j (by omega)
 ·rw [idxP_miss fun j hj => c1_1 j (by omega)]
theorem slices_Contains_int_int_c {m0 : Bool} (l : List Int) (x : Int) (hl : l.length ≤ 1099511627776) : Fun Tryz.prog 70 [(.sl (.lent m0) (List.map (PV.int .i64) (l))), (.int .i64 (x))] [(.bool (l.contains x))] := by
 refine fO sg0 [4] Tryz.func70 ?_
 have cE1 := @slices_Index_int_int_c
 refine dEa trivial ?_
 all_goals try (refine zlf ?_; repeat' first | exact zso | refine And.intro ?_ ?_ | (refine zim ?_; intro zb hc) | (refine zin ?_; intro zb) | intro j')
 all_goals try refine zbx ?_
 rw [idxP_any, Bool.eq_iff_iff, List.any_eq_true, List.contains_iff_mem]
 constructor
 ·rintro ⟨y, hy, e⟩; rw [decide_eq_true_eq] at e; exact e ▸ hy
 ·intro h; exact ⟨x, h, decide_eq_true rfl⟩
/-- The marks: from k on, n of them. -/
def markL (n : Nat) (k : Int) : List Int := (List.range n).map fun i : Nat => k + (i : Int)
theorem markL_length {n : Nat} {k : Int} : (markL n k).length = n := by simp [markL]
theorem take_succ_iff {a b : List Int} {k : Nat} (ha : k < a.length) (hb : k < b.length) : a.take (k + 1) = b.take (k + 1) ↔ a.take k = b.take k ∧ a.getD k 0 = b.getD k 0 := by
 rw [List.take_add_one, List.take_add_one, List.getD_eq_getElem?_getD, List.getD_eq_getElem?_getD, List.getElem?_eq_getElem ha, List.getElem?_eq_getElem hb]
 simp only [Option.toList_some, Option.getD_some]
 constructor
 ·intro h
  have := List.append_inj h (by simp; omega)
  exact ⟨this.1, by simpa using this.2⟩
 ·rintro ⟨h1, h2⟩; rw [h1, h2]
theorem set_take' {α : Type} {c : List α} {i : Nat} {x : α} (h : i < c.length) : (c.set i x).take (i + 1) = c.take i ++ [x] := by
 rw [List.take_add_one, List.take_set_of_le (Nat.le_refl _), List.getElem?_set_self h]; rfl
theorem take_getD {α : Type} {l : List α} {i : Nat} {d : α} (h : i < l.length) : l.take (i + 1) = l.take i ++ [l.getD i d] := by
 rw [List.take_add_one, List.getD_eq_getElem?_getD, List.getElem?_eq_getElem h]; rfl
theorem mk_take {n : Nat} {k : Int} : List.take n (markL n k) = markL n k := by
 rw [List.take_of_length_le]; simp [markL_length]
attribute [go_sem] mk_take markL_length List.not_mem_nil List.mem_cons or_false
theorem dropL_at {α : Type} {l : List (List α)} {i : Nat} (h : i < l.length) : l.drop i = l.getD i [] :: l.drop (i + 1) := by
 rw [List.drop_eq_getElem_cons h, List.getD_eq_getElem?_getD, List.getElem?_eq_getElem h]; rfl
theorem getD_mem {α : Type} {l : List α} {i : Nat} {d : α} (h : i < l.length) : l.getD i d ∈ l := by
 rw [List.getD_eq_getElem?_getD, List.getElem?_eq_getElem h]; exact List.getElem_mem h
theorem takeL_succ_iff {α : Type} {a b : List (List α)} {k : Nat} (ha : k < a.length) (hb : k < b.length) : a.take (k + 1) = b.take (k + 1) ↔ a.take k = b.take k ∧ a.getD k [] = b.getD k [] := by
 rw [take_getD (d := []) ha, take_getD (d := []) hb]
 constructor
 ·intro h
  have := List.append_inj h (by simp; omega)
  exact ⟨this.1, by simpa using this.2⟩
 ·rintro ⟨h1, h2⟩; rw [h1, h2]
/-- The numbers 1 to j that a list lacks. -/
def lackL (p : List Int) (j : Nat) : List Int := ((List.range j).map fun i : Nat => (i : Int) + 1).filter fun v => !p.contains v
theorem lackL_succ {p : List Int} {j : Nat} : lackL p (j + 1) = lackL p j ++ (if p.contains ((j : Int) + 1) then [] else [(j : Int) + 1]) := by
 simp only [lackL, List.range_succ, List.map_append, List.filter_append, List.map_cons, List.map_nil]
 congr 1
 rw [List.filter_cons]
 cases p.contains ((j : Int) + 1) <;> rfl
theorem lackL_len {p : List Int} {j : Nat} : (lackL p j).length ≤ j := by
 unfold lackL; exact Nat.le_trans (List.length_filter_le _ _) (by simp)
/-- A list with each of the lacking numbers behind it. -/
def extL (p : List Int) (j : Nat) : List (List Int) := (lackL p j).map fun v => p ++ [v]
theorem extL_succ {p : List Int} {j : Nat} : extL p (j + 1) = extL p j ++ (if p.contains ((j : Int) + 1) then [] else [p ++ [(j : Int) + 1]]) := by
 rw [extL, lackL_succ, List.map_append]; congr 1
 cases p.contains ((j : Int) + 1) <;> simp
theorem extL_len {p : List Int} {j : Nat} : (extL p j).length ≤ j := by simpa [extL] using lackL_len
def lvl (n : Nat) : Nat → List (List Int) → List (List Int)
 | 0, L => L
 | k + 1, L => lvl n k (L.flatMap fun p => extL p n)
theorem lvl_app {n : Nat} : ∀ {k : Nat} {A B : List (List Int)}, lvl n k (A ++ B) = lvl n k A ++ lvl n k B
 | 0, _, _ => rfl
 | k + 1, A, B => by simp only [lvl, List.flatMap_append, lvl_app]
theorem lvl_succ {n : Nat} : ∀ {k : Nat} {L : List (List Int)}, lvl n (k + 1) L = (lvl n k L).flatMap fun p => extL p n
 | 0, _ => rfl
 | k + 1, L => by rw [lvl, lvl_succ (k := k), ← lvl]
theorem lvl_nil {n : Nat} : ∀ {k : Nat}, lvl n k [] = []
 | 0 => rfl
 | k + 1 => by rw [lvl]; exact lvl_nil
theorem flat_len {n : Nat} : ∀ {L : List (List Int)}, (L.flatMap fun p => extL p n).length ≤ L.length * n
 | [] => by simp
 | p :: L => by
  have := flat_len (n := n) (L := L)
  have h1 := extL_len (p := p) (j := n)
  simp only [List.flatMap_cons, List.length_append, List.length_cons, Nat.succ_mul]; omega
theorem lvl_len {n : Nat} (hn : n ≤ 8) : ∀ {k : Nat} {L : List (List Int)}, (lvl n k L).length ≤ L.length * 8 ^ k
 | 0, L => by simp [lvl]
 | k + 1, L => by
  rw [lvl, Nat.pow_succ]
  refine Nat.le_trans (lvl_len hn) ?_
  have h1 := flat_len (n := n) (L := L)
  have h2 : L.length * n ≤ L.length * 8 := Nat.mul_le_mul_left _ hn
  calc _ ≤ (L.length * 8) * 8 ^ k := Nat.mul_le_mul_right _ (Nat.le_trans h1 h2)
   _ = _ := by rw [Nat.mul_assoc, Nat.mul_comm 8]
theorem lvl_row {n : Nat} : ∀ {k m : Nat} {L : List (List Int)}, (∀ l ∈ L, l.length = m) → ∀ l ∈ lvl n k L, l.length = m + k
 | 0, m, L, h, l, hl => by simpa [lvl] using h l hl
 | k + 1, m, L, h, l, hl => by
  rw [lvl] at hl
  have := lvl_row (k := k) (m := m + 1) (fun q hq => by
   simp only [List.mem_flatMap, extL, List.mem_map] at hq
   obtain ⟨p, hp, v, _, rfl⟩ := hq
   simp [h p hp]) l hl
  omega
/-- The permutations of a length, in order. -/
def permL (n : Nat) : List (List Int) := lvl n n [[]]
theorem permL_len {n : Nat} (hn : n ≤ 8) : (permL n).length ≤ 8 ^ 8 := by
 have h1 := lvl_len hn (k := n) (L := [[]])
 have h2 : 8 ^ n ≤ 8 ^ 8 := Nat.pow_le_pow_right (by omega) hn
 simp only [permL, List.length_singleton, Nat.one_mul] at h1 ⊢; omega
theorem permL_row {n : Nat} : ∀ l ∈ permL n, l.length = n := fun l hl => by
 have := lvl_row (m := 0) (by simp) l hl
 omega
theorem tk1 {α : Type} {l : List α} {x : α} : List.take (l.length + 1) (l ++ [x]) = l ++ [x] := List.take_of_length_le (by simp)
theorem lvl_b8 {n k : Nat} (hn : n ≤ 8) (hk : k ≤ 8) : (lvl n k [[]]).length ≤ 8 ^ 8 := by
 have h1 := lvl_len hn (k := k) (L := [[]])
 have h2 : 8 ^ k ≤ 8 ^ 8 := Nat.pow_le_pow_right (by omega) hk
 simp only [List.length_singleton, Nat.one_mul] at h1; omega
def sgNP : FuncId → List Bool := fun f => if f = 4294967297 then [true, false, false, false] else []
theorem sgNP_eq {f : FuncId} : sgNP f = if f = 4294967297 then [true, false, false, false] else [] := _root_.id rfl
theorem way_sgNP : wayE sgNP = false ∧ wayN sgNP = true ∧ wayS sgNP = false ∧ wayZ sgNP = false ∧ wayM sgNP = false := ⟨rfl, rfl, rfl, rfl, rfl⟩
attribute [go_sem] sgNP_eq way_sgNP
theorem impl_perms_c (n : Nat) (h1 : n ≤ 8) : Fun Tryz.prog 41 [(.int .i64 (n))] [(.dl (List.map (List.map (PV.int .i64)) (permL n)))] := by
 refine fO sgNP [2] Tryz.func41 ?_
 have cE1 := @slices_Contains_int_int_c; have cE2 := @slices_Clone_c
 refine dE trivial ?_
 all_goals try (refine zlf ?_; repeat' first | exact zso | refine And.intro ?_ ?_ | (refine zim ?_; intro zb hc) | (refine zin ?_; intro zb) | intro j')
 all_goals try refine zbx ?_
 refine v_loopB (fun ms1 S1 => ∃ (i : Nat), S1.e 0 = .p (.int .i64 (n)) ∧ DwnL (S1.e 3) S1.h S1.n (PV.int .i64) ((lvl n i [[]]).length) (lvl n i [[]]) ∧ S1.e 10 = .p (.int .i64 (n)) ∧ S1.e 11 = .p (.int .i64 (i)) ∧ (i ≤ n) ∧ ms1 = n - i) ((fun (i : Nat) => n - i) (0)) ?_ ⟨0, dI trivial ?_⟩
 all_goals try (refine zlf ?_; repeat' first | exact zso | refine And.intro ?_ ?_ | (refine zim ?_; intro zb hc) | (refine zin ?_; intro zb) | intro j')
 all_goals try refine zbx ?_
 rintro ms1 S1 ⟨i, h1_0, o1_3, h1_10, h1_11, c1_0, hm1⟩
 obtain ⟨i1_3, h1_3, b1_3, l1_3⟩ := o1_3.out
 have ni1_3 := znds (x := i1_3) (n := S1.n)
 have fL1 := (And.intro h1_0 (And.intro h1_10 (And.intro h1_11 (And.intro h1_3 (And.intro b1_3 ni1_3)))))
 have b1 : (lvl n i [[]]).length ≤ 8 ^ 8 := lvl_b8 h1 (by omega)
 refine dE fL1 ?_
 all_goals try (refine zlf ?_; repeat' first | exact zso | refine And.intro ?_ ?_ | (refine zim ?_; intro zb hc) | (refine zin ?_; intro zb) | intro j')
 all_goals try refine zbx ?_
 refine v_loopB (fun ms2 S2 => ∃ (j : Nat), S2.e 0 = .p (.int .i64 (n)) ∧ DwnL (S2.e 14) S2.h S2.n (PV.int .i64) ((lvl n i [[]]).length) (lvl n i [[]]) ∧ DwnL (S2.e 4) S2.h S2.n (PV.int .i64) ((((lvl n i [[]]).take j).flatMap (fun p => extL p n)).length) (((lvl n i [[]]).take j).flatMap (fun p => extL p n)) ∧ S2.e 10 = .p (.int .i64 (n)) ∧ S2.e 11 = .p (.int .i64 (i)) ∧ S2.e 15 = .p (.int .i64 ((lvl n i [[]]).length)) ∧ S2.e 16 = .p (.int .i64 (j)) ∧ (j ≤ (lvl n i [[]]).length) ∧ NId (S2.e 4) (S2.e 14) ∧ S1.n ≤ S2.n ∧ ms2 = (lvl n i [[]]).length - j) ((fun (j : Nat) => (lvl n i [[]]).length - j) (0)) ?_ ⟨0, dIa fL1 ?_⟩
 all_goals try (refine zlf ?_; repeat' first | exact zso | refine And.intro ?_ ?_ | (refine zim ?_; intro zb hc) | (refine zin ?_; intro zb) | intro j')
 all_goals try refine zbx ?_
 rintro ms2 S2 ⟨j, h2_0, o2_14, o2_4, h2_10, h2_11, h2_15, h2_16, c2_0, u2_0, u2_1, hm2⟩
 obtain ⟨i2_14, h2_14, b2_14, l2_14⟩ := o2_14.out
 obtain ⟨i2_4, h2_4, b2_4, l2_4⟩ := o2_4.out
 have k2_0 := (u2_0).out h2_4 h2_14
 have ni2_14 := znds (x := i2_14) (n := S2.n)
 have ni2_4 := znds (x := i2_4) (n := S2.n)
 have di2_14i2_4 := zdne (x := i2_14) (y := i2_4)
 have fL2 := (And.intro h2_0 (And.intro h2_10 (And.intro h2_11 (And.intro h2_15 (And.intro h2_16 (And.intro h2_14 (And.intro b2_14 (And.intro h2_4 (And.intro b2_4 (And.intro ni2_14 (And.intro ni2_4 di2_14i2_4)))))))))))
 have b2 : ((lvl n i [[]]).take j).length ≤ 8 ^ 8 := by simp; omega
 have b3 := Nat.le_trans (flat_len (n := n) (L := (lvl n i [[]]).take j)) (Nat.mul_le_mul b2 h1)
 refine dEa fL2 ?_
 all_goals try (refine zlf ?_; repeat' first | exact zso | refine And.intro ?_ ?_ | (refine zim ?_; intro zb hc) | (refine zin ?_; intro zb) | intro j')
 all_goals try refine zbx ?_
 ·refine v_loopB (fun ms4 S4 => ∃ (v : Nat), S4.e 0 = .p (.int .i64 (n)) ∧ DwnL (S4.e 14) S4.h S4.n (PV.int .i64) ((lvl n i [[]]).length) (lvl n i [[]]) ∧ DwnL (S4.e 4) S4.h S4.n (PV.int .i64) ((((lvl n i [[]]).take j).flatMap (fun p => extL p n) ++ extL ((lvl n i [[]]).getD j []) v).length) (((lvl n i [[]]).take j).flatMap (fun p => extL p n) ++ extL ((lvl n i [[]]).getD j []) v) ∧ InnL (S4.e 6) (S4.e 14) (j) (((lvl n i [[]]).getD j []).length) ∧ S4.e 7 = .p (.int .i64 ((v + 1))) ∧ S4.e 10 = .p (.int .i64 (n)) ∧ S4.e 11 = .p (.int .i64 (i)) ∧ S4.e 15 = .p (.int .i64 ((lvl n i [[]]).length)) ∧ S4.e 16 = .p (.int .i64 (j)) ∧ (v ≤ n) ∧ (j < (lvl n i [[]]).length) ∧ NId (S4.e 4) (S4.e 14) ∧ S2.n ≤ S4.n ∧ ms4 = n - v) ((fun (v : Nat) => n - v) (0)) ?_ ⟨0, dIa fL2 ?_⟩
  all_goals try (refine zlf ?_; repeat' first | exact zso | refine And.intro ?_ ?_ | (refine zim ?_; intro zb hc) | (refine zin ?_; intro zb) | intro j')
  all_goals try refine zbx ?_
  rintro ms4 S4 ⟨v, h4_0, o4_14, o4_4, o4_6, h4_7, h4_10, h4_11, h4_15, h4_16, c4_0, c4_1, u4_0, u4_1, hm4⟩
  obtain ⟨i4_14, h4_14, b4_14, l4_14⟩ := o4_14.out
  obtain ⟨i4_4, h4_4, b4_4, l4_4⟩ := o4_4.out
  have h4_6 := (o4_6).out h4_14
  have k4_0 := (u4_0).out h4_4 h4_14
  have ni4_14 := znds (x := i4_14) (n := S4.n)
  have ni4_4 := znds (x := i4_4) (n := S4.n)
  have di4_14i4_4 := zdne (x := i4_14) (y := i4_4)
  have fL4 := (And.intro h4_6 (And.intro h4_0 (And.intro h4_7 (And.intro h4_10 (And.intro h4_11 (And.intro h4_15 (And.intro h4_16 (And.intro h4_14 (And.intro b4_14 (And.intro h4_4 (And.intro b4_4 (And.intro ni4_14 (And.intro ni4_4 di4_14i4_4)))))))))))))
  have b4 := extL_len (p := (lvl n i [[]]).getD j []) (j := v)
  have b5 : ((lvl n i [[]]).getD j []).length = 0 + i := lvl_row (by simp) _ (getD_mem c4_1)
  refine dEa fL4 ?_
  all_goals try (refine zlf ?_; repeat' first | exact zso | refine And.intro ?_ ?_ | (refine zim ?_; intro zb hc) | (refine zin ?_; intro zb) | intro j')
  all_goals try refine zbx ?_
  ·focus
    refine q_lp_n ((fun (v : Nat) => n - v) (v+1)) (dC fL4 ?_) ⟨v+1, dC fL4 ?_⟩
    all_goals try (refine zlf ?_; repeat' first | exact zso | refine And.intro ?_ ?_ | (refine zim ?_; intro zb hc) | (refine zin ?_; intro zb) | intro j')
    all_goals try refine zbx ?_
   all_goals (rw [extL_succ, hc, if_neg (by decide)] <;> simp only [List.append_assoc, List.length_append, List.length_cons, List.length_nil, Nat.add_assoc])
  ·focus
    refine q_lp_n ((fun (v : Nat) => n - v) (v+1)) (dC fL4 ?_) ⟨v+1, dC fL4 ?_⟩
    all_goals try (refine zlf ?_; repeat' first | exact zso | refine And.intro ?_ ?_ | (refine zim ?_; intro zb hc) | (refine zin ?_; intro zb) | intro j')
    all_goals try refine zbx ?_
   all_goals (rw [extL_succ, hc, if_pos rfl, List.append_nil])
  ·focus
    refine q_lp_n ((fun (j : Nat) => (lvl n i [[]]).length - j) (j+1)) (dC fL4 ?_) ⟨j+1, dC fL4 ?_⟩
    all_goals try (refine zlf ?_; repeat' first | exact zso | refine And.intro ?_ ?_ | (refine zim ?_; intro zb hc) | (refine zin ?_; intro zb) | intro j')
    all_goals try refine zbx ?_
   all_goals (obtain rfl : v = n := by omega)
   all_goals (rw [take_getD (d := []) (by omega), List.flatMap_append]; simp)
  ·simp [extL, lackL]
  ·simp [extL, lackL]
 ·focus
   refine q_lp_n ((fun (i : Nat) => n - i) (i+1)) (dC fL2 ?_) ⟨i+1, dC fL2 ?_⟩
   all_goals try (refine zlf ?_; repeat' first | exact zso | refine And.intro ?_ ?_ | (refine zim ?_; intro zb hc) | (refine zin ?_; intro zb) | intro j')
   all_goals try refine zbx ?_
  all_goals (rw [lvl_succ, List.take_of_length_le (by omega)])
 ·obtain rfl : i = n := by omega
  rfl
def sgFl : FuncId → List Bool := fun f => if f = 72 then [false, false, true] else if f = 8589934664 then [false, true] else []
theorem sgFl_eq {f : FuncId} : sgFl f = if f = 72 then [false, false, true] else if f = 8589934664 then [false, true] else [] := _root_.id rfl
theorem way_sgFl : wayE sgFl = false ∧ wayN sgFl = false ∧ wayS sgFl = false ∧ wayZ sgFl = false ∧ wayM sgFl = false := ⟨rfl, rfl, rfl, rfl, rfl⟩
attribute [go_sem] sgFl_eq way_sgFl
theorem spec_l2Fill_c (n : Nat) (h8 : n ≤ 8) : ∀ (d : Nat) (head : List Int) (out : List (List Int)), head.length + d = n → out.length + 8 ^ d ≤ 1099511627776 → CallT Tryz.prog true 72 [.pv (.int .i64 n), .pv (.sl (.lent false) (List.map (PV.int .i64) head)), .mu false (List.map (elI false) out)] [none, none, none] [.sl .own (List.map (elI false) (out ++ lvl n d [head]))] := by
 intro d
 induction d with
 | zero =>
  intro head out hd ho
  refine CallT.of (sg := sgFl) (ts := [6]) mo Tryz.func72 rfl rfl rfl rfl (by kernel_rfl) (by simp only [go_sem]) rfl rfl ?_
  have cE1 := @spec_l2Has_c
  refine dTa trivial ?_
  all_goals try (refine zlf ?_; repeat' first | exact zso | refine And.intro ?_ ?_ | (refine zim ?_; intro zb hc) | (refine zin ?_; intro zb) | intro j')
  all_goals try refine zbx ?_
  all_goals (rw [List.take_of_length_le (by simp)]; rfl)
 | succ d ih =>
  intro head out hd ho
  refine CallT.of (sg := sgFl) (ts := [6]) mo Tryz.func72 rfl rfl rfl rfl (by kernel_rfl) (by simp only [go_sem]) rfl rfl ?_
  have cE1 := @spec_l2Has_c
  refine dTa trivial ?_
  all_goals try (refine zlf ?_; repeat' first | exact zso | refine And.intro ?_ ?_ | (refine zim ?_; intro zb hc) | (refine zin ?_; intro zb) | intro j')
  all_goals try refine zbx ?_
  refine v_loopB (fun ms1 S1 => ∃ (v : Nat), S1.e 0 = .p (.int .i64 (n)) ∧ S1.e 1 = .p (.sl (.lent false) (List.map (PV.int .i64) (head))) ∧ OwnM (S1.e 2) S1.h S1.n (elI false) ((out ++ lvl n d (extL head v)).length) (out ++ lvl n d (extL head v)) ∧ S1.e 7 = .p (.int .i64 ((v + 1))) ∧ (v ≤ n) ∧ ms1 = n - v) ((fun (v : Nat) => n - v) (0)) ?_ ⟨0, dIa trivial ?_⟩
  all_goals try (refine zlf ?_; repeat' first | exact zso | refine And.intro ?_ ?_ | (refine zim ?_; intro zb hc) | (refine zin ?_; intro zb) | intro j')
  all_goals try refine zbx ?_
  rintro ms1 S1 ⟨v, h1_0, h1_1, o1_2, h1_7, c1_0, hm1⟩
  obtain ⟨i1_2, mm1_2, h1_2, b1_2, l1_2⟩ := o1_2.out
  have ni1_2 := znds (x := i1_2) (n := S1.n)
  have fL1 := (And.intro h1_0 (And.intro h1_1 (And.intro h1_7 (And.intro h1_2 (And.intro b1_2 ni1_2)))))
  have b1 := lvl_len h8 (k := d) (L := extL head v)
  have b2 := extL_len (p := head) (j := v)
  have b3 : (extL head v).length * 8 ^ d ≤ v * 8 ^ d := Nat.mul_le_mul_right _ b2
  have cM1 := @ih
  refine dTa fL1 ?_
  all_goals try (refine zlf ?_; repeat' first | exact zso | refine And.intro ?_ ?_ | (refine zim ?_; intro zb hc) | (refine zin ?_; intro zb) | intro j')
  all_goals try refine zbx ?_
  ·have b4 := Nat.mul_le_mul_right (8 ^ d) (show v + 1 ≤ 8 by omega)
   have b5 : 8 ^ (d + 1) = 8 * 8 ^ d := by rw [Nat.pow_succ, Nat.mul_comm]
   rw [Nat.succ_mul] at b4
   rw [List.length_append]; omega
  ·focus
    refine q_lp_n ((fun (v : Nat) => n - v) (v+1)) (dC fL1 ?_) ⟨v+1, dC fL1 ?_⟩
    all_goals try (refine zlf ?_; repeat' first | exact zso | refine And.intro ?_ ?_ | (refine zim ?_; intro zb hc) | (refine zin ?_; intro zb) | intro j')
    all_goals try refine zbx ?_
   all_goals (rw [extL_succ, hc, if_neg (by decide), lvl_app]; try simp only [tk1, List.length_append, List.append_assoc, Nat.add_assoc])
  ·focus
    refine q_lp_n ((fun (v : Nat) => n - v) (v+1)) (dC fL1 ?_) ⟨v+1, dC fL1 ?_⟩
    all_goals try (refine zlf ?_; repeat' first | exact zso | refine And.intro ?_ ?_ | (refine zim ?_; intro zb hc) | (refine zin ?_; intro zb) | intro j')
    all_goals try refine zbx ?_
   all_goals (rw [extL_succ, hc, if_pos rfl, List.append_nil])
  ·obtain rfl : v = n := by omega
   rw [lvl, List.flatMap_cons, List.flatMap_nil, List.append_nil]
  ·rw [show extL head 0 = [] by simp [extL, lackL], lvl_nil, List.append_nil]
  ·rw [show extL head 0 = [] by simp [extL, lackL], lvl_nil, List.append_nil]
def permsB (n : Int) : List (List Int) := if 0 ≤ n ∧ n ≤ 6 then permL n.toNat else []
theorem spec_PermsOf_c (n : Int) : Fun Tryz.prog 44 [(.int .i64 (n))] [(.sl .own (List.map (elI false) (permsB n)))] := by
 have h8 := fun (a : 0 ≤ n) (b : n ≤ 6) => spec_l2Fill_c n.toNat (by omega) n.toNat [] [] (Nat.zero_add _) (by have h2 : 8 ^ n.toNat ≤ 8 ^ 8 := Nat.pow_le_pow_right (by omega) (by omega); simp only [List.length_nil, Nat.zero_add]; omega)
 by_cases hn : 0 ≤ n ∧ n ≤ 6
 ·have h9 := h8 hn.1 hn.2
  rw [show ((n.toNat : Nat) : Int) = n by omega] at h9
  have h10 : permsB n = lvl n.toNat n.toNat [[]] := by rw [permsB, if_pos hn]; rfl
  rw [h10]
  simp only [List.map_nil, List.nil_append] at h9
  refine fO sgFl [2] Tryz.func44 ?_
  have cE1 := @spec_l1In_c
  have cM1 := @h9
  refine dEa trivial ?_
  all_goals try (refine zlf ?_; repeat' first | exact zso | refine And.intro ?_ ?_ | (refine zim ?_; intro zb hc) | (refine zin ?_; intro zb) | intro j')
  all_goals try refine zbx ?_
 ·have h10 : permsB n = [] := by rw [permsB, if_neg hn]
  rw [h10]
  refine fO sgFl [2] Tryz.func44 ?_
  have cE1 := @spec_l1In_c
  refine dE trivial ?_
  all_goals try (refine zlf ?_; repeat' first | exact zso | refine And.intro ?_ ?_ | (refine zim ?_; intro zb hc) | (refine zin ?_; intro zb) | intro j')
  all_goals try refine zbx ?_
  all_goals exact absurd hc hn
def idxG {α : Type} (p : α → Bool) : List α → Nat → Int
 | [], _ => -1
 | x :: l, i => if p x then i else idxG p l (i + 1)
theorem idxG_spec {α : Type} {p : α → Bool} {d : α} : ∀ {l : List α} {i : Nat}, (idxG p l i = -1 ∧ ∀ x ∈ l, p x = false) ∨ ∃ k, k < l.length ∧ idxG p l i = i + k ∧ p (l.getD k d) = true ∧ ∀ j, j < k → p (l.getD j d) = false
 | [], _ => .inl ⟨rfl, fun x hx => by simp at hx⟩
 | x :: l, i => by
  rw [idxG]
  split
  ·rename_i h; exact .inr ⟨0, by simp, by simp, by simpa using h, fun j hj => by omega⟩
  ·rename_i h
   rcases idxG_spec (p := p) (d := d) (l := l) (i := i + 1) with ⟨h1, h2⟩ | ⟨k, h1, h2, h3, h4⟩
   ·exact .inl ⟨h1, fun y hy => by rcases List.mem_cons.1 hy with rfl | hy; exact Bool.eq_false_iff.2 h; exact h2 y hy⟩
   ·refine .inr ⟨k + 1, by simpa using h1, by rw [h2]; push_cast; omega, by simpa using h3, fun j hj => ?_⟩
    cases j with
    | zero => simpa using Bool.eq_false_iff.2 h
    | succ j => simpa using h4 j (by omega)
theorem slices_IndexFunc_LLint_int_c {e0 m0 : Bool} (l : List (List Int)) (g : FuncId) (caps : List PV) (p : List Int → Bool) (hl : l.length ≤ 1099511627776) (hp : ∀ x ∈ l, Fun Tryz.prog g (.sl (.lent e0) (List.map (PV.int .i64) x) :: caps.map PV.cell) [.bool (p x)]) : Fun Tryz.prog 91 [(.sl (.lent m0) (List.map (elI e0) (l))), (.fn g [] caps)] [(.int .i64 (idxG p l 0))] := by
 refine fO sg0 [4] Tryz.func91 ?_
 refine dE trivial ?_
 all_goals try (refine zlf ?_; repeat' first | exact zso | refine And.intro ?_ ?_ | (refine zim ?_; intro zb hc) | (refine zin ?_; intro zb) | intro j')
 all_goals try refine zbx ?_
 refine v_loopB (fun ms1 S1 => ∃ (k : Nat), S1.e 0 = .p (.sl (.lent m0) (List.map (elI e0) (l))) ∧ S1.e 1 = .p (.fn g [] caps) ∧ S1.e 7 = .p (.int .i64 (l.length)) ∧ S1.e 8 = .p (.int .i64 (k)) ∧ (k ≤ l.length) ∧ (idxG p l 0 = idxG p (l.drop k) k) ∧ ms1 = l.length - k) ((fun (k : Nat) => l.length - k) (0)) ?_ ⟨0, dIa trivial ?_⟩
 all_goals try (refine zlf ?_; repeat' first | exact zso | refine And.intro ?_ ?_ | (refine zim ?_; intro zb hc) | (refine zin ?_; intro zb) | intro j')
 all_goals try refine zbx ?_
 rintro ms1 S1 ⟨k, h1_0, h1_1, h1_7, h1_8, c1_0, c1_1, hm1⟩
 have fL1 := (And.intro h1_0 (And.intro h1_1 (And.intro h1_7 h1_8)))
 have cE1 := @hp
 refine dEa fL1 ?_
 all_goals try (refine zlf ?_; repeat' first | exact zso | refine And.intro ?_ ?_ | (refine zim ?_; intro zb hc) | (refine zin ?_; intro zb) | intro j')
 all_goals try refine zbx ?_
 ·exact getD_mem hc
 ·rw [c1_1, dropL_at (by omega), idxG, if_pos hc]
 ·focus
   refine q_lp_n ((fun (k : Nat) => l.length - k) (k+1)) (dC fL1 ?_) ⟨k+1, dC fL1 ?_⟩
   all_goals try (refine zlf ?_; repeat' first | exact zso | refine And.intro ?_ ?_ | (refine zim ?_; intro zb hc) | (refine zin ?_; intro zb) | intro j')
   all_goals try refine zbx ?_
  rw [c1_1, dropL_at (by omega), idxG, if_neg (by rw [hc]; decide)]
 ·rw [c1_1, List.drop_of_length_le (by omega), idxG]
/-- Does a place more agree with a pattern? (Places are counted from b.) -/
def fitK (b : Int) (p q c : List Int) (i : Int) (k : Nat) : Bool := (List.range k).all fun l => decide (q.getD l 0 < q.getD c.length 0) == decide (p.getD (c.getD l 0 - b).toNat 0 < p.getD (i - b).toNat 0)
def fitB (b : Int) (p q c : List Int) (i : Int) : Bool := fitK b p q c i c.length
theorem fitK_succ {b : Int} {p q c : List Int} {i : Int} {k : Nat} : fitK b p q c i (k + 1) = (fitK b p q c i k && (decide (q.getD k 0 < q.getD c.length 0) == decide (p.getD (c.getD k 0 - b).toNat 0 < p.getD (i - b).toNat 0))) := by
 simp [fitK, List.range_succ]
def fromI (b : Int) (c : List Int) : Int := if c.length = 0 then b else c.getD (c.length - 1) 0 + 1
/-- The occurrences that begin so, d places more. -/
def occ (b : Int) (p q : List Int) : Nat → List Int → List (List Int)
 | 0, c => [c]
 | d + 1, c => (List.range ((p.length : Int) + b - fromI b c).toNat).flatMap fun j : Nat => if fitB b p q c (fromI b c + j) = true then occ b p q d (c ++ [fromI b c + j]) else []
/-- .. the first J places looked at. -/
def occJ (b : Int) (p q : List Int) (d : Nat) (c : List Int) (J : Nat) : List (List Int) :=
 (List.range J).flatMap fun j : Nat => if fitB b p q c (fromI b c + j) = true then occ b p q d (c ++ [fromI b c + j]) else []
theorem occ_J {b : Int} {p q : List Int} {d : Nat} {c : List Int} : occ b p q (d + 1) c = occJ b p q d c ((p.length : Int) + b - fromI b c).toNat := rfl
theorem occJ_succ {b : Int} {p q : List Int} {d : Nat} {c : List Int} {J : Nat} : occJ b p q d c (J + 1) = occJ b p q d c J ++ if fitB b p q c (fromI b c + J) = true then occ b p q d (c ++ [fromI b c + J]) else [] := by
 simp [occJ, List.range_succ]
theorem from_snoc {b i : Int} {c : List Int} : fromI b (c ++ [i]) = i + 1 := by
 rw [fromI, if_neg (by simp)]; simp
theorem occ_len {b : Int} {p q : List Int} (hb : 0 ≤ b) : ∀ {d : Nat} {c : List Int}, b ≤ fromI b c → (occ b p q d c).length ≤ p.length ^ d
 | 0, c, _ => by simp [occ]
 | d + 1, c, hc => by
  have key : ∀ J, (occJ b p q d c J).length ≤ J * p.length ^ d := by
   intro J
   induction J with
   | zero => simp [occJ]
   | succ J ih =>
    rw [occJ_succ, List.length_append, Nat.succ_mul]
    split
    ·have := occ_len (q := q) (p := p) hb (d := d) (c := c ++ [fromI b c + J]) (by rw [from_snoc]; omega)
     omega
    ·simp; omega
  rw [occ_J, Nat.pow_succ, Nat.mul_comm]
  exact Nat.le_trans (key _) (Nat.mul_le_mul_right _ (by omega))
def hasB (p q : List Int) : Bool := !(occ 0 p q q.length []).isEmpty
theorem fitB_shift {p q c : List Int} {i : Int} : fitB 1 p q (c.map (· + 1)) (i + 1) = fitB 0 p q c i := by
 simp only [fitB, fitK, List.length_map]
 rw [Bool.eq_iff_iff, List.all_eq_true, List.all_eq_true]
 refine forall_congr' fun l => imp_congr_right fun hl => ?_
 rw [List.mem_range] at hl
 have e1 : (c.map (· + 1)).getD l 0 - 1 = c.getD l 0 - 0 := by
  rw [List.getD_eq_getElem?_getD, List.getElem?_map, List.getD_eq_getElem?_getD, List.getElem?_eq_getElem hl]; simp
 rw [e1, show i + 1 - 1 = i - 0 by omega]
theorem from_shift {c : List Int} : fromI 1 (c.map (· + 1)) = fromI 0 c + 1 := by
 unfold fromI
 rw [List.length_map]
 split
 ·rfl
 ·rename_i h
  rw [List.getD_eq_getElem?_getD, List.getElem?_map, List.getD_eq_getElem?_getD, List.getElem?_eq_getElem (by omega)]; simp
theorem occ_shift {p q : List Int} : ∀ {d : Nat} {c : List Int}, occ 1 p q d (c.map (· + 1)) = (occ 0 p q d c).map (List.map (· + 1))
 | 0, c => rfl
 | d + 1, c => by
  rw [occ, occ, from_shift, List.map_flatMap]
  rw [show ((p.length : Int) + 1 - (fromI 0 c + 1)) = p.length + 0 - fromI 0 c by omega]
  congr 1; funext j
  rw [show fromI 0 c + 1 + (j : Int) = (fromI 0 c + j) + 1 by omega, fitB_shift]
  split
  ·rw [show List.map (· + 1) c ++ [fromI 0 c + (j : Int) + 1] = List.map (· + 1) (c ++ [fromI 0 c + (j : Int)]) by simp, occ_shift]
  ·rfl
theorem fitK_mono {b : Int} {p q c : List Int} {i : Int} {k n : Nat} (hk : k ≤ n) (h : fitK b p q c i k = false) : fitK b p q c i n = false := by
 induction hk with
 | refl => exact h
 | step _ ih => rw [fitK_succ, ih]; rfl
theorem spec_l7Fits_c {m0 m1 m2 : Bool} (p q c : List Int) (i : Int) (hq : q.length ≤ 8) (hp : p.length ≤ 8) (hc0 : c.length < q.length) (hx : ∀ x ∈ c, 1 ≤ x ∧ x ≤ p.length) (hi : 1 ≤ i ∧ i ≤ p.length) : Fun Tryz.prog 117 [(.sl (.lent m0) (List.map (PV.int .i64) (p))), (.sl (.lent m1) (List.map (PV.int .i64) (q))), (.sl (.lent m2) (List.map (PV.int .i64) ((c ++ [i]))))] [(.bool (fitB 1 p q c i))] := by
 refine fO sg0 [6] Tryz.func117 ?_
 have e1 : (c ++ [i]).getD c.length 0 = i := by simp
 refine dEa trivial ?_
 all_goals try (refine zlf ?_; repeat' first | exact zso | refine And.intro ?_ ?_ | (refine zim ?_; intro zb hc) | (refine zin ?_; intro zb) | intro j')
 all_goals try refine zbx ?_
 refine v_loopB (fun ms1 S1 => ∃ (k : Nat), S1.e 0 = .p (.sl (.lent m0) (List.map (PV.int .i64) (p))) ∧ S1.e 1 = .p (.sl (.lent m1) (List.map (PV.int .i64) (q))) ∧ S1.e 2 = .p (.sl (.lent m2) (List.map (PV.int .i64) ((c ++ [i])))) ∧ S1.e 7 = .p (.int .i64 (c.length)) ∧ S1.e 8 = .p (.int .i64 (k)) ∧ (k ≤ c.length) ∧ (fitK 1 p q c i k = true) ∧ ms1 = c.length - k) ((fun (k : Nat) => c.length - k) (0)) ?_ ⟨0, dC trivial ?_⟩
 all_goals try (refine zlf ?_; repeat' first | exact zso | refine And.intro ?_ ?_ | (refine zim ?_; intro zb hc) | (refine zin ?_; intro zb) | intro j')
 all_goals try refine zbx ?_
 rintro ms1 S1 ⟨k, h1_0, h1_1, h1_2, h1_7, h1_8, c1_0, c1_1, hm1⟩
 have fL1 := (And.intro h1_0 (And.intro h1_1 (And.intro h1_2 (And.intro h1_7 h1_8))))
 by_cases hk : k < c.length
 ·have e2 : (c ++ [i]).getD k 0 = c.getD k 0 := by simp [List.getD_eq_getElem?_getD, List.getElem?_append_left hk]
  have e3 := hx _ (getD_mem (d := 0) hk)
  refine dEa (And.intro fL1 (And.intro @e1 @e2)) ?_
  all_goals try (refine zlf ?_; repeat' first | exact zso | refine And.intro ?_ ?_ | (refine zim ?_; intro zb hc) | (refine zin ?_; intro zb) | intro j')
  all_goals try refine zbx ?_
  ·exact (fitK_mono (k := k + 1) (by omega) (by rw [fitK_succ, c1_1, Bool.true_and]; simpa using hc)).symm
  ·focus
    refine q_lp_n ((fun (k : Nat) => c.length - k) (k+1)) (dC fL1 ?_) ⟨k+1, dC fL1 ?_⟩
    all_goals try (refine zlf ?_; repeat' first | exact zso | refine And.intro ?_ ?_ | (refine zim ?_; intro zb hc) | (refine zin ?_; intro zb) | intro j')
    all_goals try refine zbx ?_
   rw [fitK_succ, c1_1, Bool.true_and, beq_iff_eq]; simpa using hc
 ·refine dEa (And.intro fL1 @e1) ?_
  all_goals try (refine zlf ?_; repeat' first | exact zso | refine And.intro ?_ ?_ | (refine zim ?_; intro zb hc) | (refine zin ?_; intro zb) | intro j')
  all_goals try refine zbx ?_
  obtain rfl : k = c.length := by omega
  exact c1_1.symm
def sgFd : FuncId → List Bool := fun f => if f = 108 then [false, false, false, true] else if f = 8589934700 then [false, false, true] else []
theorem sgFd_eq {f : FuncId} : sgFd f = if f = 108 then [false, false, false, true] else if f = 8589934700 then [false, false, true] else [] := _root_.id rfl
theorem way_sgFd : wayE sgFd = false ∧ wayN sgFd = false ∧ wayS sgFd = false ∧ wayZ sgFd = false ∧ wayM sgFd = false := ⟨rfl, rfl, rfl, rfl, rfl⟩
attribute [go_sem] sgFd_eq way_sgFd
theorem spec_l7Find_c {m0 m1 : Bool} (p q : List Int) (hp : p.length ≤ 8) (hq : q.length ≤ 8) : ∀ (d : Nat) (h : List Int) (out : List (List Int)), h.length + d = q.length → (∀ x ∈ h, 1 ≤ x ∧ x ≤ p.length) → out.length + 8 ^ d ≤ 1099511627776 →
  CallT Tryz.prog true 108 [.pv (.sl (.lent m0) (List.map (PV.int .i64) p)), .pv (.sl (.lent m1) (List.map (PV.int .i64) q)), .pv (.sl (.lent false) (List.map (PV.int .i64) h)), .mu false (List.map (elI false) out)] [none, none, none, none] [.sl .own (List.map (elI false) (out ++ occ 1 p q d h))] := by
 intro d
 induction d with
 | zero =>
  intro h out hd hx ho
  refine CallT.of (sg := sgFd) (ts := [8]) mo Tryz.func108 rfl rfl rfl rfl (by kernel_rfl) (by simp only [go_sem]) rfl rfl ?_
  have cE1 := @spec_l7Fits_c
  refine dTa trivial ?_
  all_goals try (refine zlf ?_; repeat' first | exact zso | refine And.intro ?_ ?_ | (refine zim ?_; intro zb hc) | (refine zin ?_; intro zb) | intro j')
  all_goals try refine zbx ?_
  all_goals (rw [tk1]; rfl)
 | succ d ih =>
  intro h out hd hx ho
  have f0 : 1 ≤ fromI 1 h ∧ fromI 1 h ≤ p.length + 1 := by
   unfold fromI
   split
   ·omega
   ·have := hx _ (getD_mem (d := 0) (show h.length - 1 < h.length by omega)); omega
  refine CallT.of (sg := sgFd) (ts := [8]) mo Tryz.func108 rfl rfl rfl rfl (by kernel_rfl) (by simp only [go_sem]) rfl rfl ?_
  have cE1 := @spec_l7Fits_c
  have lenJ : ∀ J : Nat, (J : Int) ≤ p.length + 1 - fromI 1 h → (occJ 1 p q d h J).length ≤ J * 8 ^ d := by
   intro J
   induction J with
   | zero => intro _; simp [occJ]
   | succ J ihJ =>
    intro hJ
    have h1 := ihJ (by omega)
    have h2 : (if fitB 1 p q h (fromI 1 h + J) = true then occ 1 p q d (h ++ [fromI 1 h + J]) else []).length ≤ 8 ^ d := by
     split
     ·exact Nat.le_trans (occ_len (by decide) (by rw [from_snoc]; omega)) (Nat.pow_le_pow_left hp d)
     ·exact Nat.zero_le _
    rw [occJ_succ, List.length_append, Nat.succ_mul]
    exact Nat.add_le_add h1 h2
  by_cases hn : h.length = 0
  ·have f1 : fromI 1 h = 1 := if_pos hn
   refine dTa @hn ?_
   all_goals try (refine zlf ?_; repeat' first | exact zso | refine And.intro ?_ ?_ | (refine zim ?_; intro zb hc) | (refine zin ?_; intro zb) | intro j')
   all_goals try refine zbx ?_
   refine v_loopB (fun ms1 S1 => ∃ (J : Nat), S1.e 0 = .p (.sl (.lent m0) (List.map (PV.int .i64) (p))) ∧ S1.e 1 = .p (.sl (.lent m1) (List.map (PV.int .i64) (q))) ∧ S1.e 2 = .p (.sl (.lent false) (List.map (PV.int .i64) (h))) ∧ OwnM (S1.e 3) S1.h S1.n (elI false) ((out ++ occJ 1 p q d h J).length) (out ++ occJ 1 p q d h J) ∧ S1.e 10 = .p (.int .i64 ((fromI 1 h + J))) ∧ ((J : Int) ≤ p.length + 1 - fromI 1 h) ∧ ms1 = p.length + 1 - J) ((fun (J : Nat) => p.length + 1 - J) (0)) ?_ ⟨0, dC trivial ?_⟩
   all_goals try (refine zlf ?_; repeat' first | exact zso | refine And.intro ?_ ?_ | (refine zim ?_; intro zb hc) | (refine zin ?_; intro zb) | intro j')
   all_goals try refine zbx ?_
   rintro ms1 S1 ⟨J, h1_0, h1_1, h1_2, o1_3, h1_10, c1_0, hm1⟩
   obtain ⟨i1_3, mm1_3, h1_3, b1_3, l1_3⟩ := o1_3.out
   have ni1_3 := znds (x := i1_3) (n := S1.n)
   have fL1 := (And.intro h1_0 (And.intro h1_1 (And.intro h1_2 (And.intro h1_10 (And.intro h1_3 (And.intro b1_3 ni1_3))))))
   have b1 := lenJ J (by omega)
   by_cases hJ : fromI 1 h + J ≤ p.length
   ·have cM1 := @ih
    refine dTa (And.intro fL1 @tk1) ?_
    all_goals try (refine zlf ?_; repeat' first | exact zso | refine And.intro ?_ ?_ | (refine zim ?_; intro zb hc) | (refine zin ?_; intro zb) | intro j')
    all_goals try refine zbx ?_
    ·intro x hx'
     rcases List.mem_append.1 hx' with hx' | hx'
     ·exact hx x hx'
     ·simp at hx'; subst hx'; omega
    ·have h8 : J + 1 ≤ 8 := by omega
     have h9 := Nat.mul_le_mul_right (8 ^ d) h8
     have h10 : 8 ^ (d + 1) = 8 * 8 ^ d := by rw [Nat.pow_succ, Nat.mul_comm]
     rw [Nat.succ_mul] at h9
     rw [List.length_append]; omega
    ·focus
      refine q_lp_n ((fun (J : Nat) => p.length + 1 - J) (J+1)) (dC fL1 ?_) ⟨J+1, dC fL1 ?_⟩
      all_goals try (refine zlf ?_; repeat' first | exact zso | refine And.intro ?_ ?_ | (refine zim ?_; intro zb hc) | (refine zin ?_; intro zb) | intro j')
      all_goals try refine zbx ?_
     all_goals (rw [occJ_succ, if_pos hc]; try simp only [List.length_append, List.append_assoc, Nat.add_assoc])
    ·focus
      refine q_lp_n ((fun (J : Nat) => p.length + 1 - J) (J+1)) (dC fL1 ?_) ⟨J+1, dC fL1 ?_⟩
      all_goals try (refine zlf ?_; repeat' first | exact zso | refine And.intro ?_ ?_ | (refine zim ?_; intro zb hc) | (refine zin ?_; intro zb) | intro j')
      all_goals try refine zbx ?_
     all_goals (rw [occJ_succ, if_neg (by rw [hc]; decide), List.append_nil])
   ·refine dTa fL1 ?_
    all_goals try (refine zlf ?_; repeat' first | exact zso | refine And.intro ?_ ?_ | (refine zim ?_; intro zb hc) | (refine zin ?_; intro zb) | intro j')
    all_goals try refine zbx ?_
    rw [occ_J, show ((p.length : Int) + 1 - fromI 1 h).toNat = J by omega]
   ·simp [occJ]
   ·simp [occJ]
  ·skip
   have f1 : fromI 1 h = h.getD (h.length - 1) 0 + 1 := if_neg hn
   have f2 : ((h.length : Int) - 1).toNat = h.length - 1 := by omega
   have g1 := hx _ (getD_mem (d := 0) (show h.length - 1 < h.length by omega))
   have cM1 := trivial
   refine dTa @f2 ?_
   all_goals try (refine zlf ?_; repeat' first | exact zso | refine And.intro ?_ ?_ | (refine zim ?_; intro zb hc) | (refine zin ?_; intro zb) | intro j')
   all_goals try refine zbx ?_
   refine v_loopB (fun ms2 S2 => ∃ (J : Nat), S2.e 0 = .p (.sl (.lent m0) (List.map (PV.int .i64) (p))) ∧ S2.e 1 = .p (.sl (.lent m1) (List.map (PV.int .i64) (q))) ∧ S2.e 2 = .p (.sl (.lent false) (List.map (PV.int .i64) (h))) ∧ OwnM (S2.e 3) S2.h S2.n (elI false) ((out ++ occJ 1 p q d h J).length) (out ++ occJ 1 p q d h J) ∧ S2.e 10 = .p (.int .i64 ((fromI 1 h + J))) ∧ ((J : Int) ≤ p.length + 1 - fromI 1 h) ∧ ms2 = p.length + 1 - J) ((fun (J : Nat) => p.length + 1 - J) (0)) ?_ ⟨0, dC trivial ?_⟩
   all_goals try (refine zlf ?_; repeat' first | exact zso | refine And.intro ?_ ?_ | (refine zim ?_; intro zb hc) | (refine zin ?_; intro zb) | intro j')
   all_goals try refine zbx ?_
   rintro ms2 S2 ⟨J, h2_0, h2_1, h2_2, o2_3, h2_10, c2_0, hm2⟩
   obtain ⟨i2_3, mm2_3, h2_3, b2_3, l2_3⟩ := o2_3.out
   have ni2_3 := znds (x := i2_3) (n := S2.n)
   have fL2 := (And.intro h2_0 (And.intro h2_1 (And.intro h2_2 (And.intro h2_10 (And.intro h2_3 (And.intro b2_3 ni2_3))))))
   have b1 := lenJ J (by omega)
   by_cases hJ : fromI 1 h + J ≤ p.length
   ·have cM1 := @ih
    refine dTa (And.intro fL2 @tk1) ?_
    all_goals try (refine zlf ?_; repeat' first | exact zso | refine And.intro ?_ ?_ | (refine zim ?_; intro zb hc) | (refine zin ?_; intro zb) | intro j')
    all_goals try refine zbx ?_
    ·intro x hx'
     rcases List.mem_append.1 hx' with hx' | hx'
     ·exact hx x hx'
     ·simp at hx'; subst hx'; omega
    ·have h8 : J + 1 ≤ 8 := by omega
     have h9 := Nat.mul_le_mul_right (8 ^ d) h8
     have h10 : 8 ^ (d + 1) = 8 * 8 ^ d := by rw [Nat.pow_succ, Nat.mul_comm]
     rw [Nat.succ_mul] at h9
     rw [List.length_append]; omega
    ·focus
      refine q_lp_n ((fun (J : Nat) => p.length + 1 - J) (J+1)) (dC fL2 ?_) ⟨J+1, dC fL2 ?_⟩
      all_goals try (refine zlf ?_; repeat' first | exact zso | refine And.intro ?_ ?_ | (refine zim ?_; intro zb hc) | (refine zin ?_; intro zb) | intro j')
      all_goals try refine zbx ?_
     all_goals (rw [occJ_succ, if_pos hc]; try simp only [List.length_append, List.append_assoc, Nat.add_assoc])
    ·focus
      refine q_lp_n ((fun (J : Nat) => p.length + 1 - J) (J+1)) (dC fL2 ?_) ⟨J+1, dC fL2 ?_⟩
      all_goals try (refine zlf ?_; repeat' first | exact zso | refine And.intro ?_ ?_ | (refine zim ?_; intro zb hc) | (refine zin ?_; intro zb) | intro j')
      all_goals try refine zbx ?_
     all_goals (rw [occJ_succ, if_neg (by rw [hc]; decide), List.append_nil])
   ·have cM1 := @ih
    refine dTa fL2 ?_
    all_goals try (refine zlf ?_; repeat' first | exact zso | refine And.intro ?_ ?_ | (refine zim ?_; intro zb hc) | (refine zin ?_; intro zb) | intro j')
    all_goals try refine zbx ?_
    rw [occ_J, show ((p.length : Int) + 1 - fromI 1 h).toNat = J by omega]
   ·simp [occJ]
   ·simp [occJ]
theorem occ_emp {p q : List Int} {d : Nat} {c : List Int} : (occ 1 p q d (c.map (· + 1))).length = (occ 0 p q d c).length := by rw [occ_shift, List.length_map]
theorem has_dec {p q : List Int} : decide (0 < ((occ 1 p q q.length []).length : Int)) = hasB p q := by
 have := occ_emp (p := p) (q := q) (d := q.length) (c := [])
 rw [List.map_nil] at this
 rw [this, hasB]
 cases occ 0 p q q.length [] with
 | nil => rfl
 | cons x l => simp
def mkLL : List Nat → Int → List (List Int)
 | [], _ => []
 | n :: ns, k => markL n k :: mkLL ns (k + n)
theorem mkLL_len : ∀ {ns : List Nat} {k : Int}, (mkLL ns k).length = ns.length
 | [], _ => rfl
 | _ :: ns, _ => by simp only [mkLL, List.length_cons, mkLL_len]
theorem mkLL_take {L : List (List Int)} {k : Int} : List.take L.length (mkLL (L.map List.length) k) = mkLL (L.map List.length) k := by
 rw [List.take_of_length_le]; rw [mkLL_len, List.length_map]; exact Nat.le_refl _
attribute [go_sem] mkLL_take mkLL_len
theorem permGo_iff {n : Int} : ∀ {p seen : List Int}, permGo n seen p = true ↔ (∀ v ∈ p, 1 ≤ v ∧ v ≤ n) ∧ p.Nodup ∧ ∀ v ∈ p, v ∉ seen
 | [], seen => by simp [permGo]
 | v :: p, seen => by
  rw [permGo, Bool.and_eq_true, permGo_iff]
  simp only [Bool.and_eq_true, decide_eq_true_eq, Bool.not_eq_true', List.nodup_cons, List.mem_append, List.mem_singleton]
  constructor
  ·rintro ⟨⟨⟨h1, h2⟩, h3⟩, h4, h5, h6⟩
   have h3' : v ∉ seen := fun h => by rw [← List.contains_iff_mem] at h; rw [h] at h3; cases h3
   refine ⟨fun x hx => ?_, ⟨fun hv => h6 v hv (.inr rfl), h5⟩, fun x hx => ?_⟩
   ·rcases List.mem_cons.1 hx with rfl | hx
    ·exact ⟨h1, h2⟩
    ·exact h4 x hx
   ·rcases List.mem_cons.1 hx with rfl | hx
    ·exact h3'
    ·exact fun hs => h6 x hx (.inl hs)
  ·rintro ⟨h1, ⟨h2, h3⟩, h4⟩
   have h5 := h1 v (by simp)
   refine ⟨⟨⟨h5.1, h5.2⟩, ?_⟩, fun x hx => h1 x (by simp [hx]), h3, fun x hx => ?_⟩
   ·rw [← Bool.not_eq_true, List.contains_iff_mem]; exact h4 v (by simp)
   ·rintro (hs | rfl)
    ·exact h4 x (by simp [hx]) hs
    ·exact h2 hx
theorem permB_iff {p : List Int} : permB p = true ↔ (∀ v ∈ p, 1 ≤ v ∧ v ≤ p.length) ∧ p.Nodup := by
 rw [permB, permGo_iff]; simp
theorem lackL_mem {p : List Int} {n : Nat} {v : Int} (h : v ∈ lackL p n) : 1 ≤ v ∧ v ≤ n ∧ v ∉ p := by
 simp only [lackL, List.mem_filter, List.mem_map, List.mem_range, Bool.not_eq_true'] at h
 obtain ⟨⟨i, hi, rfl⟩, h2⟩ := h
 refine ⟨by omega, by omega, fun hm => ?_⟩
 rw [← List.contains_iff_mem, h2] at hm; cases hm
theorem lvl_ok {n : Nat} : ∀ {k : Nat} {L : List (List Int)}, (∀ l ∈ L, (∀ v ∈ l, 1 ≤ v ∧ v ≤ (n : Int)) ∧ l.Nodup) → ∀ l ∈ lvl n k L, (∀ v ∈ l, 1 ≤ v ∧ v ≤ (n : Int)) ∧ l.Nodup
 | 0, L, h, l, hl => h l hl
 | k + 1, L, h, l, hl => by
  rw [lvl] at hl
  refine lvl_ok (fun q hq => ?_) l hl
  simp only [List.mem_flatMap, extL, List.mem_map] at hq
  obtain ⟨p, hp, v, hv, rfl⟩ := hq
  obtain ⟨h1, h2⟩ := h p hp
  obtain ⟨g1, g2, g3⟩ := lackL_mem hv
  refine ⟨fun x hx => ?_, ?_⟩
  ·rcases List.mem_append.1 hx with hx | hx
   ·exact h1 x hx
   ·simp at hx; subst hx; exact ⟨g1, g2⟩
  ·rw [List.nodup_append]
   refine ⟨h2, by simp, fun a ha b hb e => ?_⟩
   simp at hb; subst hb; subst e; exact g3 ha
theorem permL_perm {n : Nat} {l : List Int} (h : l ∈ permL n) : permB l = true := by
 have h1 := permL_row l h
 have h2 := lvl_ok (n := n) (L := [[]]) (k := n) (by simp) l h
 rw [permB_iff, h1]; exact h2
theorem permL_isPerm {n : Nat} (hn : n ≤ 8) {l : List Int} (h : l ∈ permL n) : isPermB l = true := by
 rw [isPermB, permL_perm h, permL_row l h, decide_eq_true hn]; rfl
/-! ### lists without repetition -/
theorem len_two {α : Type} (p : α → Bool) : ∀ (l : List α), l.length = (l.filter p).length + (l.filter fun x => !p x).length
 | [] => rfl
 | x :: l => by
  have := len_two p l
  rw [List.filter_cons, List.filter_cons]
  cases p x <;> simp <;> omega
theorem nodup_le : ∀ {n : Nat} {l : List Int} {a : Int}, l.Nodup → (∀ x ∈ l, a < x ∧ x ≤ a + n) → l.length ≤ n
 | 0, l, a, _, hb => by
  cases l with
  | nil => simp
  | cons x l => have := hb x (by simp); omega
 | n + 1, l, a, hn, hb => by
  have h1 : (l.filter fun x => decide (x ≠ a + (n + 1 : Nat))).length ≤ n := nodup_le (a := a) (List.Nodup.sublist List.filter_sublist hn) fun x hx => by
   simp only [List.mem_filter, decide_eq_true_eq] at hx
   have := hb x hx.1
   refine ⟨this.1, ?_⟩
   have h2 := hx.2
   push_cast at h2 this ⊢
   omega
  have h2 : l.length ≤ (l.filter fun x => decide (x ≠ a + (n + 1 : Nat))).length + 1 := by
   have h3 := len_two (fun x => decide (x ≠ a + (n + 1 : Nat))) l
   have h4 : (l.filter fun x => !decide (x ≠ a + (n + 1 : Nat))).length ≤ 1 := by
    have h5 : (l.filter fun x => !decide (x ≠ a + (n + 1 : Nat))).Nodup := List.Nodup.sublist List.filter_sublist hn
    have h6 : ∀ x ∈ l.filter (fun x => !decide (x ≠ a + (n + 1 : Nat))), x = a + (n + 1 : Nat) := fun x hx => by
     simp only [List.mem_filter] at hx; simpa using hx.2
    revert h5 h6
    generalize l.filter (fun x => !decide (x ≠ a + (n + 1 : Nat))) = q
    intro h5 h6
    match q, h5, h6 with
    | [], _, _ => simp
    | [x], _, _ => simp
    | x :: y :: r, h5, h6 =>
     have e1 := h6 x (by simp)
     have e2 := h6 y (by simp)
     simp only [List.nodup_cons, List.mem_cons, not_or] at h5
     exact absurd (e1.trans e2.symm) h5.1.1
   omega
  omega
theorem permGo_mem {n : Int} : ∀ {p seen : List Int}, permGo n seen p = true → ∀ v ∈ p, 1 ≤ v ∧ v ≤ n
 | [], _, _, v, h => by simp at h
 | w :: p, seen, h, v, hv => by
  simp only [permGo, Bool.and_eq_true, decide_eq_true_eq] at h
  rcases List.mem_cons.1 hv with rfl | hv
  ·exact ⟨h.1.1.1, h.1.1.2⟩
  ·exact permGo_mem h.2 v hv
theorem perm_at {p : List Int} (h : permB p = true) {i : Nat} (hi : i < p.length) : 1 ≤ p.getD i 0 ∧ p.getD i 0 ≤ p.length := by
 have := permGo_mem h (p.getD i 0) (by rw [List.getD_eq_getElem?_getD, List.getElem?_eq_getElem hi]; simp)
 exact this
theorem isPerm_facts {p : List Int} (h : isPermB p = true) : p.length ≤ 8 ∧ permB p = true := by
 simp only [isPermB, Bool.and_eq_true, decide_eq_true_eq] at h; exact h
theorem w_conv2 {P : Program} {sg : FuncId → List Bool} {h : Nat → Blk} {k : Nat} {ρ : Operand → AV} {C : R → Prop} {t t' : TypeId} {x : Operand} : opB P sg ρ h k (.convert t t' x) C = convW P t t' k h (ρ x) C := _root_.id rfl
attribute [local go_sem ↓] w_conv2
theorem u8s_fold {s : List UInt8} : List.map (fun b : UInt8 => PV.int .u8 (b.toNat : Int)) s = List.map u8P s := _root_.id rfl
attribute [local go_sem] u8s_fold
end Go.Gl
namespace Go.Gl
open Go Go.Proofs
variable [Amb]
def cmpI (a b : Int) : Int := if a < b then -1 else if b < a then 1 else 0
def cmpL : List Int → List Int → Int
 | [], [] => 0
 | [], _ :: _ => -1
 | _ :: _, [] => 1
 | a :: x, b :: y => if cmpI a b ≠ 0 then cmpI a b else cmpL x y
def cmpP (p q : List Int) : Int := if cmpI p.length q.length ≠ 0 then cmpI p.length q.length else cmpL p q
theorem cmpI_0 {a b : Int} : cmpI a b = 0 ↔ a = b := by
 unfold cmpI; split
 ·omega
 ·split <;> omega
def orL : List Int → Int
 | [] => 0
 | x :: l => if x ≠ 0 then x else orL l
theorem cmpI_lt {a b : Int} (h : a < b) : -1 = cmpI a b := by rw [cmpI, if_pos h]
theorem cmpI_gt {a b : Int} (h : b < a) : 1 = cmpI a b := by rw [cmpI, if_neg (by omega), if_pos h]
theorem cmp_isNaN_int_c (x : Int) : Fun Tryz.prog 128 [(.int .i64 (x))] [(.bool (false))] := by
 refine fO sg0 [2] Tryz.func128 ?_
 refine dEa trivial ?_
 all_goals try (refine zlf ?_; repeat' first | exact zso | refine And.intro ?_ ?_ | (refine zim ?_; intro zb hc) | (refine zin ?_; intro zb) | intro j')
 all_goals try refine zbx ?_
theorem cmp_Compare_int_c (a b : Int) : Fun Tryz.prog 113 [(.int .i64 (a)), (.int .i64 (b))] [(.int .i64 (cmpI a b))] := by
 refine fO sg0 [4] Tryz.func113 ?_
 have cE1 := @cmp_isNaN_int_c
 refine dEa trivial ?_
 all_goals try (refine zlf ?_; repeat' first | exact zso | refine And.intro ?_ ?_ | (refine zim ?_; intro zb hc) | (refine zin ?_; intro zb) | intro j')
 all_goals try refine zbx ?_
 ·exact cmpI_lt hc
 ·exact cmpI_gt hc
 ·rw [cmpI, if_neg (by omega), if_neg (by omega)]
theorem slices_Compare_int_int_c {m0 m1 : Bool} (a b : List Int) (ha : a.length ≤ 1099511627776) (hb : b.length ≤ 1099511627776) : Fun Tryz.prog 114 [(.sl (.lent m0) (List.map (PV.int .i64) (a))), (.sl (.lent m1) (List.map (PV.int .i64) (b)))] [(.int .i64 (cmpL a b))] := by
 refine fO sg0 [4] Tryz.func114 ?_
 have cE1 := @cmp_Compare_int_c
 refine dEa trivial ?_
 all_goals try (refine zlf ?_; repeat' first | exact zso | refine And.intro ?_ ?_ | (refine zim ?_; intro zb hc) | (refine zin ?_; intro zb) | intro j')
 all_goals try refine zbx ?_
 refine v_loopB (fun ms1 S1 => ∃ (k : Nat), S1.e 1 = .p (.sl (.lent m1) (List.map (PV.int .i64) (b))) ∧ S1.e 0 = .p (.sl (.lent m0) (List.map (PV.int .i64) (a))) ∧ S1.e 9 = .p (.sl (.lent m0) (List.map (PV.int .i64) (a))) ∧ S1.e 10 = .p (.int .i64 (a.length)) ∧ S1.e 11 = .p (.int .i64 (k)) ∧ (k ≤ a.length) ∧ (k ≤ b.length) ∧ (cmpL a b = cmpL (a.drop k) (b.drop k)) ∧ ms1 = a.length - k) ((fun (k : Nat) => a.length - k) (0)) ?_ ⟨0, dIa trivial ?_⟩
 all_goals try (refine zlf ?_; repeat' first | exact zso | refine And.intro ?_ ?_ | (refine zim ?_; intro zb hc) | (refine zin ?_; intro zb) | intro j')
 all_goals try refine zbx ?_
 rintro ms1 S1 ⟨k, h1_1, h1_0, h1_9, h1_10, h1_11, c1_0, c1_1, c1_2, hm1⟩
 have fL1 := (And.intro h1_1 (And.intro h1_0 (And.intro h1_9 (And.intro h1_10 h1_11))))
 refine dEa fL1 ?_
 all_goals try (refine zlf ?_; repeat' first | exact zso | refine And.intro ?_ ?_ | (refine zim ?_; intro zb hc) | (refine zin ?_; intro zb) | intro j')
 all_goals try refine zbx ?_
 ·rw [c1_2, dropI_at (by omega), List.drop_of_length_le (l := b) (by omega), cmpL]
 ·rw [c1_2, dropI_at (by omega), dropI_at (s := b) (by omega), cmpL, if_pos hc]
 ·focus
   refine q_lp_n ((fun (k : Nat) => a.length - k) (k+1)) (dC fL1 ?_) ⟨k+1, dC fL1 ?_⟩
   all_goals try (refine zlf ?_; repeat' first | exact zso | refine And.intro ?_ ?_ | (refine zim ?_; intro zb hc) | (refine zin ?_; intro zb) | intro j')
   all_goals try refine zbx ?_
  rw [c1_2, dropI_at (by omega), dropI_at (s := b) (by omega), cmpL, if_neg (fun h => h hc)]
 ·rw [c1_2, List.drop_of_length_le (l := a) (by omega), dropI_at (s := b) (by omega), cmpL]
 ·rw [c1_2, List.drop_of_length_le (l := a) (by omega), List.drop_of_length_le (l := b) (by omega), cmpL]
theorem cmp_Or_int_c {m0 : Bool} (l : List Int) (hl : l.length ≤ 1099511627776) : Fun Tryz.prog 112 [(.sl (.lent m0) (List.map (PV.int .i64) (l)))] [(.int .i64 (orL l))] := by
 refine fO sg0 [2] Tryz.func112 ?_
 refine dEa trivial ?_
 all_goals try (refine zlf ?_; repeat' first | exact zso | refine And.intro ?_ ?_ | (refine zim ?_; intro zb hc) | (refine zin ?_; intro zb) | intro j')
 all_goals try refine zbx ?_
 refine v_loopB (fun ms1 S1 => ∃ (k : Nat), S1.e 3 = .p (.int .i64 (0)) ∧ S1.e 6 = .p (.sl (.lent m0) (List.map (PV.int .i64) (l))) ∧ S1.e 7 = .p (.int .i64 (l.length)) ∧ S1.e 8 = .p (.int .i64 (k)) ∧ (k ≤ l.length) ∧ (orL l = orL (l.drop k)) ∧ ms1 = l.length - k) ((fun (k : Nat) => l.length - k) (0)) ?_ ⟨0, dIa trivial ?_⟩
 all_goals try (refine zlf ?_; repeat' first | exact zso | refine And.intro ?_ ?_ | (refine zim ?_; intro zb hc) | (refine zin ?_; intro zb) | intro j')
 all_goals try refine zbx ?_
 rintro ms1 S1 ⟨k, h1_3, h1_6, h1_7, h1_8, c1_0, c1_1, hm1⟩
 have fL1 := (And.intro h1_3 (And.intro h1_6 (And.intro h1_7 h1_8)))
 refine dEa fL1 ?_
 all_goals try (refine zlf ?_; repeat' first | exact zso | refine And.intro ?_ ?_ | (refine zim ?_; intro zb hc) | (refine zin ?_; intro zb) | intro j')
 all_goals try refine zbx ?_
 ·rw [c1_1, dropI_at (by omega), orL, if_pos hc]
 ·focus
   refine q_lp_n ((fun (k : Nat) => l.length - k) (k+1)) (dC fL1 ?_) ⟨k+1, dC fL1 ?_⟩
   all_goals try (refine zlf ?_; repeat' first | exact zso | refine And.intro ?_ ?_ | (refine zim ?_; intro zb hc) | (refine zin ?_; intro zb) | intro j')
   all_goals try refine zbx ?_
  rw [c1_1, dropI_at (by omega), orL, if_neg (fun h => h hc)]
 ·rw [c1_1, List.drop_of_length_le (by omega), orL]
theorem cmp_Or_2 {m0 : Bool} (a b : Int) : Fun Tryz.prog 112 [.sl (.lent m0) [.int .i64 a, .int .i64 b]] [.int .i64 (if a ≠ 0 then a else b)] := by
 have h := cmp_Or_int_c (m0 := m0) [a, b] (by simp)
 have e : orL [a, b] = if a ≠ 0 then a else b := by
  simp only [orL]; split
  ·rfl
  ·split
   ·rfl
   ·omega
 rw [e] at h
 exact h
theorem impl_comparePerms_c {m0 m1 : Bool} (p q : List Int) (hp : p.length ≤ 1048576) (hq : q.length ≤ 1048576) : Fun Tryz.prog 94 [(.sl (.lent m0) (List.map (PV.int .i64) (p))), (.sl (.lent m1) (List.map (PV.int .i64) (q)))] [(.int .i64 (cmpP p q))] := by
 refine fO sg0 [4] Tryz.func94 ?_
 have cE1 := @cmp_Compare_int_c; have cE2 := @slices_Compare_int_int_c; have cE3 := @cmp_Or_int_c
 have cE1 := @cmp_Or_2; have cE2 := @cmp_Compare_int_c; have cE3 := @slices_Compare_int_int_c
 refine dEa trivial ?_
 all_goals try (refine zlf ?_; repeat' first | exact zso | refine And.intro ?_ ?_ | (refine zim ?_; intro zb hc) | (refine zin ?_; intro zb) | intro j')
 all_goals try refine zbx ?_
 rfl
end Go.Gl
namespace Go.Gl
open Go Go.Proofs
variable [Amb] [NoQ]
def befB (p q : List Int) : Bool := decide (cmpP p q < 0)
theorem bef_ne {a b : List Int} (h : a.length ≠ b.length) : decide (a.length < b.length) = befB a b := by
 rw [befB, cmpP, if_pos (fun e => by rw [cmpI_0] at e; omega)]
 unfold cmpI
 by_cases h1 : a.length < b.length
 ·rw [if_pos (by omega)]; simp [h1]
 ·rw [if_neg (by omega), if_pos (by omega)]; simp [h1]
theorem bef_eq {a b : List Int} (h : a.length = b.length) : befB a b = decide (cmpL a b < 0) := by
 rw [befB, cmpP, if_neg (fun e => e (cmpI_0.2 (by omega)))]
theorem cmpI_neg {a b : Int} : decide (cmpI a b < 0) = decide (a < b) := by
 unfold cmpI; split
 ·rename_i h; simp [h]
 ·split <;> simp <;> omega
theorem spec_l2Before_c {m0 m1 : Bool} (a b : List Int) (ha : a.length ≤ 1048576) (hb : b.length ≤ 1048576) : Fun Tryz.prog 80 [(.sl (.lent m0) (List.map (PV.int .i64) (a))), (.sl (.lent m1) (List.map (PV.int .i64) (b)))] [(.bool (befB a b))] := by
 refine fO sg0 [4] Tryz.func80 ?_
 refine dEa trivial ?_
 all_goals try (refine zlf ?_; repeat' first | exact zso | refine And.intro ?_ ?_ | (refine zim ?_; intro zb hc) | (refine zin ?_; intro zb) | intro j')
 all_goals try refine zbx ?_
 ·exact bef_ne (by omega)
 have hl : a.length = b.length := by omega
 rw [bef_eq hl]
 refine v_loopB (fun ms1 S1 => ∃ (k : Nat), S1.e 0 = .p (.sl (.lent m0) (List.map (PV.int .i64) (a))) ∧ S1.e 1 = .p (.sl (.lent m1) (List.map (PV.int .i64) (b))) ∧ S1.e 5 = .p (.int .i64 (k)) ∧ (k ≤ a.length) ∧ (cmpL a b = cmpL (a.drop k) (b.drop k)) ∧ ms1 = a.length - k) ((fun (k : Nat) => a.length - k) (0)) ?_ ⟨0, dIa trivial ?_⟩
 all_goals try (refine zlf ?_; repeat' first | exact zso | refine And.intro ?_ ?_ | (refine zim ?_; intro zb hc) | (refine zin ?_; intro zb) | intro j')
 all_goals try refine zbx ?_
 rintro ms1 S1 ⟨k, h1_0, h1_1, h1_5, c1_0, c1_1, hm1⟩
 have fL1 := (And.intro h1_0 (And.intro h1_1 h1_5))
 refine dEa fL1 ?_
 all_goals try (refine zlf ?_; repeat' first | exact zso | refine And.intro ?_ ?_ | (refine zim ?_; intro zb hc) | (refine zin ?_; intro zb) | intro j')
 all_goals try refine zbx ?_
 ·rw [c1_1, dropI_at (by omega), dropI_at (s := b) (by omega), cmpL, if_pos (fun e => hc (cmpI_0.1 e)), cmpI_neg]
 ·focus
   refine q_lp_n ((fun (k : Nat) => a.length - k) (k+1)) (dC fL1 ?_) ⟨k+1, dC fL1 ?_⟩
   all_goals try (refine zlf ?_; repeat' first | exact zso | refine And.intro ?_ ?_ | (refine zim ?_; intro zb hc) | (refine zin ?_; intro zb) | intro j')
   all_goals try refine zbx ?_
  rw [c1_1, dropI_at (by omega), dropI_at (s := b) (by omega), cmpL, if_neg (fun h => h (cmpI_0.2 hc))]
 ·rw [c1_1, List.drop_of_length_le (l := a) (by omega), List.drop_of_length_le (l := b) (by omega), cmpL]; rfl
theorem impl_perms_f_c (n : Nat) (h1 : n ≤ 8) : Fun Tryz.prog 41 [(.int .i64 (n))] [(.sl .own (List.map (elI false) (permL n)))] := by
 refine fO sg0 [2] Tryz.func41 ?_
 have cE1 := @slices_Contains_int_int_c; have cE2 := @slices_Clone_c
 refine dE trivial ?_
 all_goals try (refine zlf ?_; repeat' first | exact zso | refine And.intro ?_ ?_ | (refine zim ?_; intro zb hc) | (refine zin ?_; intro zb) | intro j')
 all_goals try refine zbx ?_
 refine v_loopB (fun ms1 S1 => ∃ (i : Nat), S1.e 0 = .p (.int .i64 (n)) ∧ OwnL (S1.e 3) S1.h S1.n (elI false) ((lvl n i [[]]).length) (lvl n i [[]]) ∧ S1.e 10 = .p (.int .i64 (n)) ∧ S1.e 11 = .p (.int .i64 (i)) ∧ (i ≤ n) ∧ ms1 = n - i) ((fun (i : Nat) => n - i) (0)) ?_ ⟨0, dI trivial ?_⟩
 all_goals try (refine zlf ?_; repeat' first | exact zso | refine And.intro ?_ ?_ | (refine zim ?_; intro zb hc) | (refine zin ?_; intro zb) | intro j')
 all_goals try refine zbx ?_
 rintro ms1 S1 ⟨i, h1_0, o1_3, h1_10, h1_11, c1_0, hm1⟩
 obtain ⟨i1_3, h1_3, b1_3, l1_3⟩ := o1_3.out
 have ni1_3 := znds (x := i1_3) (n := S1.n)
 have fL1 := (And.intro h1_0 (And.intro h1_10 (And.intro h1_11 (And.intro h1_3 (And.intro b1_3 ni1_3)))))
 have b1 : (lvl n i [[]]).length ≤ 8 ^ 8 := lvl_b8 h1 (by omega)
 refine dE fL1 ?_
 all_goals try (refine zlf ?_; repeat' first | exact zso | refine And.intro ?_ ?_ | (refine zim ?_; intro zb hc) | (refine zin ?_; intro zb) | intro j')
 all_goals try refine zbx ?_
 refine v_loopB (fun ms2 S2 => ∃ (j : Nat), S2.e 0 = .p (.int .i64 (n)) ∧ OwnL (S2.e 14) S2.h S2.n (elI false) ((lvl n i [[]]).length) (lvl n i [[]]) ∧ OwnL (S2.e 4) S2.h S2.n (elI false) ((((lvl n i [[]]).take j).flatMap (fun p => extL p n)).length) (((lvl n i [[]]).take j).flatMap (fun p => extL p n)) ∧ S2.e 10 = .p (.int .i64 (n)) ∧ S2.e 11 = .p (.int .i64 (i)) ∧ S2.e 15 = .p (.int .i64 ((lvl n i [[]]).length)) ∧ S2.e 16 = .p (.int .i64 (j)) ∧ (j ≤ (lvl n i [[]]).length) ∧ NId (S2.e 4) (S2.e 14) ∧ S1.n ≤ S2.n ∧ ms2 = (lvl n i [[]]).length - j) ((fun (j : Nat) => (lvl n i [[]]).length - j) (0)) ?_ ⟨0, dIa fL1 ?_⟩
 all_goals try (refine zlf ?_; repeat' first | exact zso | refine And.intro ?_ ?_ | (refine zim ?_; intro zb hc) | (refine zin ?_; intro zb) | intro j')
 all_goals try refine zbx ?_
 rintro ms2 S2 ⟨j, h2_0, o2_14, o2_4, h2_10, h2_11, h2_15, h2_16, c2_0, u2_0, u2_1, hm2⟩
 obtain ⟨i2_14, h2_14, b2_14, l2_14⟩ := o2_14.out
 obtain ⟨i2_4, h2_4, b2_4, l2_4⟩ := o2_4.out
 have k2_0 := (u2_0).out h2_4 h2_14
 have ni2_14 := znds (x := i2_14) (n := S2.n)
 have ni2_4 := znds (x := i2_4) (n := S2.n)
 have di2_14i2_4 := zdne (x := i2_14) (y := i2_4)
 have fL2 := (And.intro h2_0 (And.intro h2_10 (And.intro h2_11 (And.intro h2_15 (And.intro h2_16 (And.intro h2_14 (And.intro b2_14 (And.intro h2_4 (And.intro b2_4 (And.intro ni2_14 (And.intro ni2_4 di2_14i2_4)))))))))))
 have b2 : ((lvl n i [[]]).take j).length ≤ 8 ^ 8 := by simp; omega
 have b3 := Nat.le_trans (flat_len (n := n) (L := (lvl n i [[]]).take j)) (Nat.mul_le_mul b2 h1)
 refine dEa fL2 ?_
 all_goals try (refine zlf ?_; repeat' first | exact zso | refine And.intro ?_ ?_ | (refine zim ?_; intro zb hc) | (refine zin ?_; intro zb) | intro j')
 all_goals try refine zbx ?_
 ·refine v_loopB (fun ms4 S4 => ∃ (v : Nat), S4.e 0 = .p (.int .i64 (n)) ∧ OwnL (S4.e 14) S4.h S4.n (elI false) ((lvl n i [[]]).length) (lvl n i [[]]) ∧ OwnL (S4.e 4) S4.h S4.n (elI false) ((((lvl n i [[]]).take j).flatMap (fun p => extL p n) ++ extL ((lvl n i [[]]).getD j []) v).length) (((lvl n i [[]]).take j).flatMap (fun p => extL p n) ++ extL ((lvl n i [[]]).getD j []) v) ∧ S4.e 6 = .p (.sl (.lent false) (List.map (PV.int .i64) ((lvl n i [[]]).getD j []))) ∧ S4.e 7 = .p (.int .i64 ((v + 1))) ∧ S4.e 10 = .p (.int .i64 (n)) ∧ S4.e 11 = .p (.int .i64 (i)) ∧ S4.e 15 = .p (.int .i64 ((lvl n i [[]]).length)) ∧ S4.e 16 = .p (.int .i64 (j)) ∧ (v ≤ n) ∧ (j < (lvl n i [[]]).length) ∧ NId (S4.e 4) (S4.e 14) ∧ S2.n ≤ S4.n ∧ ms4 = n - v) ((fun (v : Nat) => n - v) (0)) ?_ ⟨0, dIa fL2 ?_⟩
  all_goals try (refine zlf ?_; repeat' first | exact zso | refine And.intro ?_ ?_ | (refine zim ?_; intro zb hc) | (refine zin ?_; intro zb) | intro j')
  all_goals try refine zbx ?_
  rintro ms4 S4 ⟨v, h4_0, o4_14, o4_4, h4_6, h4_7, h4_10, h4_11, h4_15, h4_16, c4_0, c4_1, u4_0, u4_1, hm4⟩
  obtain ⟨i4_14, h4_14, b4_14, l4_14⟩ := o4_14.out
  obtain ⟨i4_4, h4_4, b4_4, l4_4⟩ := o4_4.out
  have k4_0 := (u4_0).out h4_4 h4_14
  have ni4_14 := znds (x := i4_14) (n := S4.n)
  have ni4_4 := znds (x := i4_4) (n := S4.n)
  have di4_14i4_4 := zdne (x := i4_14) (y := i4_4)
  have fL4 := (And.intro h4_0 (And.intro h4_6 (And.intro h4_7 (And.intro h4_10 (And.intro h4_11 (And.intro h4_15 (And.intro h4_16 (And.intro h4_14 (And.intro b4_14 (And.intro h4_4 (And.intro b4_4 (And.intro ni4_14 (And.intro ni4_4 di4_14i4_4)))))))))))))
  have b4 := extL_len (p := (lvl n i [[]]).getD j []) (j := v)
  have b5 : ((lvl n i [[]]).getD j []).length = 0 + i := lvl_row (by simp) _ (getD_mem c4_1)
  refine dEa (And.intro fL4 @tk1) ?_
  all_goals try (refine zlf ?_; repeat' first | exact zso | refine And.intro ?_ ?_ | (refine zim ?_; intro zb hc) | (refine zin ?_; intro zb) | intro j')
  all_goals try refine zbx ?_
  ·focus
    refine q_lp_n ((fun (v : Nat) => n - v) (v+1)) (dC fL4 ?_) ⟨v+1, dC fL4 ?_⟩
    all_goals try (refine zlf ?_; repeat' first | exact zso | refine And.intro ?_ ?_ | (refine zim ?_; intro zb hc) | (refine zin ?_; intro zb) | intro j')
    all_goals try refine zbx ?_
   all_goals (rw [extL_succ, hc, if_neg (by decide)] <;> simp only [List.append_assoc, List.length_append, List.length_cons, List.length_nil, Nat.add_assoc])
  ·focus
    refine q_lp_n ((fun (v : Nat) => n - v) (v+1)) (dC fL4 ?_) ⟨v+1, dC fL4 ?_⟩
    all_goals try (refine zlf ?_; repeat' first | exact zso | refine And.intro ?_ ?_ | (refine zim ?_; intro zb hc) | (refine zin ?_; intro zb) | intro j')
    all_goals try refine zbx ?_
   all_goals (rw [extL_succ, hc, if_pos rfl, List.append_nil])
  ·focus
    refine q_lp_n ((fun (j : Nat) => (lvl n i [[]]).length - j) (j+1)) (dC fL4 ?_) ⟨j+1, dC fL4 ?_⟩
    all_goals try (refine zlf ?_; repeat' first | exact zso | refine And.intro ?_ ?_ | (refine zim ?_; intro zb hc) | (refine zin ?_; intro zb) | intro j')
    all_goals try refine zbx ?_
   all_goals (obtain rfl : v = n := by omega)
   all_goals (rw [take_getD (d := []) (by omega), List.flatMap_append]; simp)
  ·simp [extL, lackL]
  ·simp [extL, lackL]
 ·focus
   refine q_lp_n ((fun (i : Nat) => n - i) (i+1)) (dC fL2 ?_) ⟨i+1, dC fL2 ?_⟩
   all_goals try (refine zlf ?_; repeat' first | exact zso | refine And.intro ?_ ?_ | (refine zim ?_; intro zb hc) | (refine zin ?_; intro zb) | intro j')
   all_goals try refine zbx ?_
  all_goals (rw [lvl_succ, List.take_of_length_le (by omega)])
 ·obtain rfl : i = n := by omega
  rfl
theorem impl_isSix_c (n : Int) : Fun Tryz.prog 47 [(.int .i64 (n))] [(.bool ((decide (0 ≤ n) && decide (n ≤ 6))))] := by
 refine fO sg0 [2] Tryz.func47 ?_
 refine dEa trivial ?_
 all_goals try (refine zlf ?_; repeat' first | exact zso | refine And.intro ?_ ?_ | (refine zim ?_; intro zb hc) | (refine zin ?_; intro zb) | intro j')
 all_goals try refine zbx ?_
def minT (l : List Int) (k : Nat) : Int := (l.take k).foldl min (l.getD 0 0)
def maxT (l : List Int) (k : Nat) : Int := (l.take k).foldl max (l.getD 0 0)
def minL (l : List Int) : Int := minT l l.length
def maxL (l : List Int) : Int := maxT l l.length
theorem minT_succ {l : List Int} {k : Nat} (h : k < l.length) : minT l (k + 1) = min (minT l k) (l.getD k 0) := by
 rw [minT, take_getD (d := 0) h, List.foldl_append]; rfl
theorem maxT_succ {l : List Int} {k : Nat} (h : k < l.length) : maxT l (k + 1) = max (maxT l k) (l.getD k 0) := by
 rw [maxT, take_getD (d := 0) h, List.foldl_append]; rfl
theorem minT_1 {l : List Int} (h : 0 < l.length) : minT l 1 = l.getD 0 0 := by
 rw [minT_succ h, minT, List.take_zero]; simp
theorem maxT_1 {l : List Int} (h : 0 < l.length) : maxT l 1 = l.getD 0 0 := by
 rw [maxT_succ h, maxT, List.take_zero]; simp
theorem minT_b {l : List Int} {a b : Int} (hb : ∀ x ∈ l, a ≤ x ∧ x ≤ b) (h0 : 0 < l.length) : ∀ {k : Nat}, k ≤ l.length → a ≤ minT l k ∧ minT l k ≤ b
 | 0, _ => by rw [minT, List.take_zero]; exact hb _ (getD_mem h0)
 | k + 1, h => by
  have h1 := minT_b hb h0 (k := k) (by omega)
  have h2 := hb _ (getD_mem (d := 0) (show k < l.length by omega))
  rw [minT_succ (by omega)]; omega
theorem maxT_b {l : List Int} {a b : Int} (hb : ∀ x ∈ l, a ≤ x ∧ x ≤ b) (h0 : 0 < l.length) : ∀ {k : Nat}, k ≤ l.length → a ≤ maxT l k ∧ maxT l k ≤ b
 | 0, _ => by rw [maxT, List.take_zero]; exact hb _ (getD_mem h0)
 | k + 1, h => by
  have h1 := maxT_b hb h0 (k := k) (by omega)
  have h2 := hb _ (getD_mem (d := 0) (show k < l.length by omega))
  rw [maxT_succ (by omega)]; omega
def segL (p : List Int) (a b : Nat) : List Int := (p.take b).drop a
theorem segL_len {p : List Int} {a b : Nat} (h : b ≤ p.length) : (segL p a b).length = b - a := by simp [segL]; omega
theorem segL_at {p : List Int} {a b k : Nat} (h : a + k < b) : (segL p a b).getD k 0 = p.getD (a + k) 0 := by
 simp only [segL, List.getD_eq_getElem?_getD, List.getElem?_drop, List.getElem?_take]
 rw [if_pos h]
theorem segL_mem {p : List Int} {a b : Nat} {x : Int} (h : x ∈ segL p a b) : x ∈ p := List.mem_of_mem_take (List.mem_of_mem_drop h)
def isIntB (p : List Int) (a b : Int) : Bool := decide (maxL (segL p a.toNat b.toNat) - minL (segL p a.toNat b.toNat) = b - a - 1)
theorem slices_Min_int_int_c {m0 : Bool} (l : List Int) (h0 : 0 < l.length) (hl : l.length ≤ 1099511627776) : Fun Tryz.prog 102 [(.sl (.lent m0) (List.map (PV.int .i64) (l)))] [(.int .i64 (minL l))] := by
 refine fO sg0 [2] Tryz.func102 ?_
 refine dEa trivial ?_
 all_goals try (refine zlf ?_; repeat' first | exact zso | refine And.intro ?_ ?_ | (refine zim ?_; intro zb hc) | (refine zin ?_; intro zb) | intro j')
 all_goals try refine zbx ?_
 refine v_loopB (fun ms1 S1 => ∃ (k : Nat), S1.e 0 = .p (.sl (.lent m0) (List.map (PV.int .i64) (l))) ∧ S1.e 3 = .p (.int .i64 (minT l k)) ∧ S1.e 4 = .p (.int .i64 (k)) ∧ (1 ≤ k) ∧ (k ≤ l.length) ∧ ms1 = l.length - k) ((fun (k : Nat) => l.length - k) (1)) ?_ ⟨1, dIa trivial ?_⟩
 all_goals try (refine zlf ?_; repeat' first | exact zso | refine And.intro ?_ ?_ | (refine zim ?_; intro zb hc) | (refine zin ?_; intro zb) | intro j')
 all_goals try refine zbx ?_
 rintro ms1 S1 ⟨k, h1_0, h1_3, h1_4, c1_0, c1_1, hm1⟩
 have fL1 := (And.intro h1_0 (And.intro h1_3 h1_4))
 refine dEa fL1 ?_
 all_goals try (refine zlf ?_; repeat' first | exact zso | refine And.intro ?_ ?_ | (refine zim ?_; intro zb hc) | (refine zin ?_; intro zb) | intro j')
 all_goals try refine zbx ?_
 ·focus
   refine q_lp_n ((fun (k : Nat) => l.length - k) (k+1)) (dC fL1 ?_) ⟨k+1, dC fL1 ?_⟩
   all_goals try (refine zlf ?_; repeat' first | exact zso | refine And.intro ?_ ?_ | (refine zim ?_; intro zb hc) | (refine zin ?_; intro zb) | intro j')
   all_goals try refine zbx ?_
  rw [minT_succ (by omega)]
 ·rw [minL]; congr 1; omega
 ·rw [minT_1 h0]
theorem slices_Max_int_int_c {m0 : Bool} (l : List Int) (h0 : 0 < l.length) (hl : l.length ≤ 1099511627776) : Fun Tryz.prog 101 [(.sl (.lent m0) (List.map (PV.int .i64) (l)))] [(.int .i64 (maxL l))] := by
 refine fO sg0 [2] Tryz.func101 ?_
 refine dEa trivial ?_
 all_goals try (refine zlf ?_; repeat' first | exact zso | refine And.intro ?_ ?_ | (refine zim ?_; intro zb hc) | (refine zin ?_; intro zb) | intro j')
 all_goals try refine zbx ?_
 refine v_loopB (fun ms1 S1 => ∃ (k : Nat), S1.e 0 = .p (.sl (.lent m0) (List.map (PV.int .i64) (l))) ∧ S1.e 3 = .p (.int .i64 (maxT l k)) ∧ S1.e 4 = .p (.int .i64 (k)) ∧ (1 ≤ k) ∧ (k ≤ l.length) ∧ ms1 = l.length - k) ((fun (k : Nat) => l.length - k) (1)) ?_ ⟨1, dIa trivial ?_⟩
 all_goals try (refine zlf ?_; repeat' first | exact zso | refine And.intro ?_ ?_ | (refine zim ?_; intro zb hc) | (refine zin ?_; intro zb) | intro j')
 all_goals try refine zbx ?_
 rintro ms1 S1 ⟨k, h1_0, h1_3, h1_4, c1_0, c1_1, hm1⟩
 have fL1 := (And.intro h1_0 (And.intro h1_3 h1_4))
 refine dEa fL1 ?_
 all_goals try (refine zlf ?_; repeat' first | exact zso | refine And.intro ?_ ?_ | (refine zim ?_; intro zb hc) | (refine zin ?_; intro zb) | intro j')
 all_goals try refine zbx ?_
 ·focus
   refine q_lp_n ((fun (k : Nat) => l.length - k) (k+1)) (dC fL1 ?_) ⟨k+1, dC fL1 ?_⟩
   all_goals try (refine zlf ?_; repeat' first | exact zso | refine And.intro ?_ ?_ | (refine zim ?_; intro zb hc) | (refine zin ?_; intro zb) | intro j')
   all_goals try refine zbx ?_
  rw [maxT_succ (by omega)]
 ·rw [maxL]; congr 1; omega
 ·rw [maxT_1 h0]
theorem impl_isInterval_c {m0 : Bool} (p : List Int) (a b : Int) (h0 : 0 ≤ a) (h1 : a < b) (h2 : b ≤ p.length) (hl : p.length ≤ 8) (hb : ∀ x ∈ p, 0 ≤ x ∧ x ≤ 1048576) : Fun Tryz.prog 78 [(.sl (.lent m0) (List.map (PV.int .i64) (p))), (.int .i64 (a)), (.int .i64 (b))] [(.bool (isIntB p a b))] := by
 refine fO sg0 [6] Tryz.func78 ?_
 have cE1 := @slices_Max_int_int_c; have cE2 := @slices_Min_int_int_c
 have e1 : List.drop a.toNat (List.take b.toNat p) = segL p a.toNat b.toNat := rfl
 have e2 : (segL p a.toNat b.toNat).length = b.toNat - a.toNat := segL_len (by omega)
 have b1 := minT_b (fun x hx => hb x (segL_mem (a := a.toNat) (b := b.toNat) hx)) (by omega) (Nat.le_refl _)
 have b2 := maxT_b (fun x hx => hb x (segL_mem (a := a.toNat) (b := b.toNat) hx)) (by omega) (Nat.le_refl _)
 rw [← minL] at b1
 rw [← maxL] at b2
 refine dEa @e1 ?_
 all_goals try (refine zlf ?_; repeat' first | exact zso | refine And.intro ?_ ?_ | (refine zim ?_; intro zb hc) | (refine zin ?_; intro zb) | intro j')
 all_goals try refine zbx ?_
 rw [isIntB, e2]; congr 1; rw [eq_iff_iff]; omega
theorem spec_l1Min_c (a b : Int) : Fun Tryz.prog 106 [(.int .i64 (a)), (.int .i64 (b))] [(.int .i64 (min a b))] := by
 refine fO sg0 [4] Tryz.func106 ?_
 refine dE trivial ?_
 all_goals try (refine zlf ?_; repeat' first | exact zso | refine And.intro ?_ ?_ | (refine zim ?_; intro zb hc) | (refine zin ?_; intro zb) | intro j')
 all_goals try refine zbx ?_
 all_goals omega
theorem spec_l5Run_c {m0 : Bool} (p : List Int) (a b : Int) (h0 : 0 ≤ a) (h1 : a ≤ b) (h2 : b < p.length) (hl : p.length ≤ 8) (hb : ∀ x ∈ p, 0 ≤ x ∧ x ≤ 1048576) : Fun Tryz.prog 85 [(.sl (.lent m0) (List.map (PV.int .i64) (p))), (.int .i64 (a)), (.int .i64 (b))] [(.bool (isIntB p a (b + 1)))] := by
 refine fO sg0 [6] Tryz.func85 ?_
 have cE1 := @spec_l1Min_c; have cE2 := @spec_l1Max_c
 have e2 : (segL p a.toNat (b + 1).toNat).length = (b + 1).toNat - a.toNat := segL_len (by omega)
 have b1 := minT_b (fun x hx => hb x (segL_mem (a := a.toNat) (b := (b + 1).toNat) hx)) (by omega) (Nat.le_refl _)
 have b2 := maxT_b (fun x hx => hb x (segL_mem (a := a.toNat) (b := (b + 1).toNat) hx)) (by omega) (Nat.le_refl _)
 rw [← minL] at b1
 rw [← maxL] at b2
 refine dEa trivial ?_
 all_goals try (refine zlf ?_; repeat' first | exact zso | refine And.intro ?_ ?_ | (refine zim ?_; intro zb hc) | (refine zin ?_; intro zb) | intro j')
 all_goals try refine zbx ?_
 refine v_loopB (fun ms1 S1 => ∃ (k : Nat), S1.e 0 = .p (.sl (.lent m0) (List.map (PV.int .i64) (p))) ∧ S1.e 1 = .p (.int .i64 (a)) ∧ S1.e 2 = .p (.int .i64 (b)) ∧ S1.e 7 = .p (.int .i64 (minT (segL p a.toNat (b + 1).toNat) k)) ∧ S1.e 8 = .p (.int .i64 (maxT (segL p a.toNat (b + 1).toNat) k)) ∧ S1.e 9 = .p (.int .i64 ((a + k))) ∧ ((k : Int) ≤ b + 1 - a) ∧ ms1 = (b + 1 - a).toNat - k) ((fun (k : Nat) => (b + 1 - a).toNat - k) (0)) ?_ ⟨0, dI trivial ?_⟩
 all_goals try (refine zlf ?_; repeat' first | exact zso | refine And.intro ?_ ?_ | (refine zim ?_; intro zb hc) | (refine zin ?_; intro zb) | intro j')
 all_goals try refine zbx ?_
 rintro ms1 S1 ⟨k, h1_0, h1_1, h1_2, h1_7, h1_8, h1_9, c1_0, hm1⟩
 have fL1 := (And.intro h1_0 (And.intro h1_1 (And.intro h1_2 (And.intro h1_7 (And.intro h1_8 h1_9)))))
 have e3 : a + k < b + 1 → p.getD (a + k).toNat 0 = (segL p a.toNat (b + 1).toNat).getD k 0 := fun h => by
  rw [segL_at (by omega)]; congr 1; omega
 refine dE fL1 ?_
 all_goals try (refine zlf ?_; repeat' first | exact zso | refine And.intro ?_ ?_ | (refine zim ?_; intro zb hc) | (refine zin ?_; intro zb) | intro j')
 all_goals try refine zbx ?_
 all_goals try rw [e3 (by omega)]
 all_goals try exact zaut
 ·focus
   refine q_lp_n ((fun (k : Nat) => (b + 1 - a).toNat - k) (k+1)) (dC fL1 ?_) ⟨k+1, dC fL1 ?_⟩
   all_goals try (refine zlf ?_; repeat' first | exact zso | refine And.intro ?_ ?_ | (refine zim ?_; intro zb hc) | (refine zin ?_; intro zb) | intro j')
   all_goals try refine zbx ?_
  ·rw [minT_succ (by omega)]
  ·rw [maxT_succ (by omega)]
 ·have h4 := minT_b (fun x hx => hb x (segL_mem (a := a.toNat) (b := (b + 1).toNat) hx)) (by omega) (show k ≤ (segL p a.toNat (b + 1).toNat).length by omega)
  have h5 := maxT_b (fun x hx => hb x (segL_mem (a := a.toNat) (b := (b + 1).toNat) hx)) (by omega) (show k ≤ (segL p a.toNat (b + 1).toNat).length by omega)
  rw [n_i64]; omega
 ·have h3 : k = (segL p a.toNat (b + 1).toNat).length := by omega
  rw [isIntB, h3, ← minL, ← maxL]; congr 1; rw [eq_iff_iff]; omega
 ·rw [minT, List.take_zero, segL_at (by omega)]; simp
 ·rw [maxT, List.take_zero, segL_at (by omega)]; simp
/-- Intervals that begin at a place: the first k that are looked at. -/
def ivR (p : List Int) (a k : Nat) : List (List Int) := (List.range k).flatMap fun i : Nat => if (i : Int) + 2 < p.length ∧ isIntB p a (a + 2 + i) = true then [[(a : Int) + 1, a + 2 + i]] else []
def ivA (p : List Int) (a : Nat) : List (List Int) := (List.range a).flatMap fun x => ivR p x (p.length - 1 - x)
def ivsL (p : List Int) : List (List Int) := ivA p p.length
theorem ivR_succ {p : List Int} {a k : Nat} : ivR p a (k + 1) = ivR p a k ++ if (k : Int) + 2 < p.length ∧ isIntB p a (a + 2 + k) = true then [[(a : Int) + 1, a + 2 + k]] else [] := by
 simp [ivR, List.range_succ]
theorem ivA_succ {p : List Int} {a : Nat} : ivA p (a + 1) = ivA p a ++ ivR p a (p.length - 1 - a) := by
 simp [ivA, List.range_succ]
theorem ivR_len {p : List Int} {a : Nat} : ∀ {k : Nat}, (ivR p a k).length ≤ k
 | 0 => by simp [ivR]
 | k + 1 => by
  have := ivR_len (p := p) (a := a) (k := k)
  rw [ivR_succ, List.length_append]; split <;> simp <;> omega
theorem ivA_len {p : List Int} : ∀ {a : Nat}, (ivA p a).length ≤ a * p.length
 | 0 => by simp [ivA]
 | a + 1 => by
  have h1 := ivA_len (p := p) (a := a)
  have h2 := ivR_len (p := p) (a := a) (k := p.length - 1 - a)
  rw [ivA_succ, List.length_append, Nat.succ_mul]; omega
theorem ivA_b {p : List Int} (hl : p.length ≤ 8) {a : Nat} (ha : a ≤ p.length) : (ivA p a).length ≤ 64 :=
 Nat.le_trans ivA_len (Nat.le_trans (Nat.mul_le_mul ha (Nat.le_refl _)) (Nat.mul_le_mul hl hl))
theorem impl_intervals_c {m0 : Bool} (p : List Int) (hl : p.length ≤ 8) (hb : ∀ x ∈ p, 0 ≤ x ∧ x ≤ 1048576) : Fun Tryz.prog 90 [(.sl (.lent m0) (List.map (PV.int .i64) (p)))] [(.sl .own (List.map (elI false) (ivsL p)))] := by
 refine fO sg0 [2] Tryz.func90 ?_
 have cE1 := @impl_isInterval_c
 refine dEa trivial ?_
 all_goals try (refine zlf ?_; repeat' first | exact zso | refine And.intro ?_ ?_ | (refine zim ?_; intro zb hc) | (refine zin ?_; intro zb) | intro j')
 all_goals try refine zbx ?_
 refine v_loopB (fun ms1 S1 => ∃ (a : Nat), S1.e 0 = .p (.sl (.lent m0) (List.map (PV.int .i64) (p))) ∧ OwnL (S1.e 3) S1.h S1.n (elI false) ((ivA p a).length) (ivA p a) ∧ S1.e 8 = .p (.int .i64 (p.length)) ∧ S1.e 9 = .p (.int .i64 (a)) ∧ (a ≤ p.length) ∧ ms1 = p.length - a) ((fun (a : Nat) => p.length - a) (0)) ?_ ⟨0, dIa trivial ?_⟩
 all_goals try (refine zlf ?_; repeat' first | exact zso | refine And.intro ?_ ?_ | (refine zim ?_; intro zb hc) | (refine zin ?_; intro zb) | intro j')
 all_goals try refine zbx ?_
 rintro ms1 S1 ⟨a, h1_0, o1_3, h1_8, h1_9, c1_0, hm1⟩
 obtain ⟨i1_3, h1_3, b1_3, l1_3⟩ := o1_3.out
 have ni1_3 := znds (x := i1_3) (n := S1.n)
 have fL1 := (And.intro h1_0 (And.intro h1_8 (And.intro h1_9 (And.intro h1_3 (And.intro b1_3 ni1_3)))))
 have c1 := ivA_b hl c1_0
 refine dEa fL1 ?_
 all_goals try (refine zlf ?_; repeat' first | exact zso | refine And.intro ?_ ?_ | (refine zim ?_; intro zb hc) | (refine zin ?_; intro zb) | intro j')
 all_goals try refine zbx ?_
 ·refine v_loopB (fun ms2 S2 => ∃ (k : Nat), S2.e 0 = .p (.sl (.lent m0) (List.map (PV.int .i64) (p))) ∧ OwnL (S2.e 3) S2.h S2.n (elI false) ((ivA p a ++ ivR p a k).length) (ivA p a ++ ivR p a k) ∧ S2.e 4 = .p (.int .i64 (a)) ∧ S2.e 5 = .p (.int .i64 ((a + 2 + k))) ∧ S2.e 8 = .p (.int .i64 (p.length)) ∧ S2.e 9 = .p (.int .i64 (a)) ∧ (k ≤ p.length - 1 - a) ∧ (a < p.length) ∧ S1.n ≤ S2.n ∧ ms2 = p.length - 1 - a - k) ((fun (k : Nat) => p.length - 1 - a - k) (0)) ?_ ⟨0, dIa fL1 ?_⟩
  all_goals try (refine zlf ?_; repeat' first | exact zso | refine And.intro ?_ ?_ | (refine zim ?_; intro zb hc) | (refine zin ?_; intro zb) | intro j')
  all_goals try refine zbx ?_
  rintro ms2 S2 ⟨k, h2_0, o2_3, h2_4, h2_5, h2_8, h2_9, c2_0, c2_1, u2_0, hm2⟩
  obtain ⟨i2_3, h2_3, b2_3, l2_3⟩ := o2_3.out
  have ni2_3 := znds (x := i2_3) (n := S2.n)
  have fL2 := (And.intro h2_0 (And.intro h2_4 (And.intro h2_5 (And.intro h2_8 (And.intro h2_9 (And.intro h2_3 (And.intro b2_3 ni2_3)))))))
  have c2 := ivR_len (p := p) (a := a) (k := k)
  refine dEa fL2 ?_
  all_goals try (refine zlf ?_; repeat' first | exact zso | refine And.intro ?_ ?_ | (refine zim ?_; intro zb hc) | (refine zin ?_; intro zb) | intro j')
  all_goals try refine zbx ?_
  ·focus
    refine q_lp_n ((fun (k : Nat) => p.length - 1 - a - k) (k+1)) (dC fL2 ?_) ⟨k+1, dC fL2 ?_⟩
    all_goals try (refine zlf ?_; repeat' first | exact zso | refine And.intro ?_ ?_ | (refine zim ?_; intro zb hc) | (refine zin ?_; intro zb) | intro j')
    all_goals try refine zbx ?_
   all_goals (rw [ivR_succ, if_pos ⟨by omega, hc⟩] <;> simp [elI, Nat.add_assoc])
  ·focus
    refine q_lp_n ((fun (k : Nat) => p.length - 1 - a - k) (k+1)) (dC fL2 ?_) ⟨k+1, dC fL2 ?_⟩
    all_goals try (refine zlf ?_; repeat' first | exact zso | refine And.intro ?_ ?_ | (refine zim ?_; intro zb hc) | (refine zin ?_; intro zb) | intro j')
    all_goals try refine zbx ?_
   all_goals (rw [ivR_succ, if_neg (fun h => by rw [h.2] at hc; cases hc), List.append_nil])
  ·focus
    refine q_lp_n ((fun (k : Nat) => p.length - 1 - a - k) (k+1)) (dC fL2 ?_) ⟨k+1, dC fL2 ?_⟩
    all_goals try (refine zlf ?_; repeat' first | exact zso | refine And.intro ?_ ?_ | (refine zim ?_; intro zb hc) | (refine zin ?_; intro zb) | intro j')
    all_goals try refine zbx ?_
   all_goals (rw [ivR_succ, if_neg (fun h => by omega), List.append_nil])
  ·focus
    refine q_lp_n ((fun (a : Nat) => p.length - a) (a+1)) (dC fL2 ?_) ⟨a+1, dC fL2 ?_⟩
    all_goals try (refine zlf ?_; repeat' first | exact zso | refine And.intro ?_ ?_ | (refine zim ?_; intro zb hc) | (refine zin ?_; intro zb) | intro j')
    all_goals try refine zbx ?_
   all_goals (rw [ivA_succ, show k = p.length - 1 - a by omega])
  ·simp [ivR]
  ·simp [ivR]
 ·obtain rfl : a = p.length := by omega
  rfl
theorem spec_IntervalsOf_c {m0 : Bool} (p : List Int) (hp : isPermB p = true) (hl : p.length ≤ 8) (hb : ∀ x ∈ p, 0 ≤ x ∧ x ≤ 1048576) : Fun Tryz.prog 56 [(.sl (.lent m0) (List.map (PV.int .i64) (p)))] [(.sl .own (List.map (elI false) (ivsL p)))] := by
 refine fO sg0 [2] Tryz.func56 ?_
 have cE1 := @spec_IsPerm_c; have cE2 := @spec_l5Run_c
 refine dEa trivial ?_
 all_goals try (refine zlf ?_; repeat' first | exact zso | refine And.intro ?_ ?_ | (refine zim ?_; intro zb hc) | (refine zin ?_; intro zb) | intro j')
 all_goals try refine zbx ?_
 refine v_loopB (fun ms1 S1 => ∃ (a : Nat), S1.e 0 = .p (.sl (.lent m0) (List.map (PV.int .i64) (p))) ∧ OwnL (S1.e 3) S1.h S1.n (elI false) ((ivA p a).length) (ivA p a) ∧ S1.e 4 = .p (.int .i64 (a)) ∧ (a ≤ p.length) ∧ ms1 = p.length - a) ((fun (a : Nat) => p.length - a) (0)) ?_ ⟨0, dIa trivial ?_⟩
 all_goals try (refine zlf ?_; repeat' first | exact zso | refine And.intro ?_ ?_ | (refine zim ?_; intro zb hc) | (refine zin ?_; intro zb) | intro j')
 all_goals try refine zbx ?_
 rintro ms1 S1 ⟨a, h1_0, o1_3, h1_4, c1_0, hm1⟩
 obtain ⟨i1_3, h1_3, b1_3, l1_3⟩ := o1_3.out
 have ni1_3 := znds (x := i1_3) (n := S1.n)
 have fL1 := (And.intro h1_0 (And.intro h1_4 (And.intro h1_3 (And.intro b1_3 ni1_3))))
 have c1 := ivA_b hl c1_0
 refine dEa (And.intro fL1 @hp) ?_
 all_goals try (refine zlf ?_; repeat' first | exact zso | refine And.intro ?_ ?_ | (refine zim ?_; intro zb hc) | (refine zin ?_; intro zb) | intro j')
 all_goals try refine zbx ?_
 ·refine v_loopB (fun ms2 S2 => ∃ (k : Nat), S2.e 0 = .p (.sl (.lent m0) (List.map (PV.int .i64) (p))) ∧ OwnL (S2.e 3) S2.h S2.n (elI false) ((ivA p a ++ ivR p a k).length) (ivA p a ++ ivR p a k) ∧ S2.e 4 = .p (.int .i64 (a)) ∧ S2.e 5 = .p (.int .i64 ((a + 1 + k))) ∧ (k ≤ p.length - 1 - a) ∧ (a < p.length) ∧ S1.n ≤ S2.n ∧ ms2 = p.length - 1 - a - k) ((fun (k : Nat) => p.length - 1 - a - k) (0)) ?_ ⟨0, dIa fL1 ?_⟩
  all_goals try (refine zlf ?_; repeat' first | exact zso | refine And.intro ?_ ?_ | (refine zim ?_; intro zb hc) | (refine zin ?_; intro zb) | intro j')
  all_goals try refine zbx ?_
  rintro ms2 S2 ⟨k, h2_0, o2_3, h2_4, h2_5, c2_0, c2_1, u2_0, hm2⟩
  obtain ⟨i2_3, h2_3, b2_3, l2_3⟩ := o2_3.out
  have ni2_3 := znds (x := i2_3) (n := S2.n)
  have fL2 := (And.intro h2_0 (And.intro h2_4 (And.intro h2_5 (And.intro h2_3 (And.intro b2_3 ni2_3)))))
  have c2 := ivR_len (p := p) (a := a) (k := k)
  have e5 : (a : Int) + 1 + k + 1 = a + 2 + k := by omega
  refine dEa (And.intro fL2 @e5) ?_
  all_goals try (refine zlf ?_; repeat' first | exact zso | refine And.intro ?_ ?_ | (refine zim ?_; intro zb hc) | (refine zin ?_; intro zb) | intro j')
  all_goals try refine zbx ?_
  ·focus
    refine q_lp_n ((fun (k : Nat) => p.length - 1 - a - k) (k+1)) (dC fL2 ?_) ⟨k+1, dC fL2 ?_⟩
    all_goals try (refine zlf ?_; repeat' first | exact zso | refine And.intro ?_ ?_ | (refine zim ?_; intro zb hc) | (refine zin ?_; intro zb) | intro j')
    all_goals try refine zbx ?_
   all_goals (rw [ivR_succ, if_pos ⟨by omega, hc⟩] <;> simp [elI, Nat.add_assoc])
  ·focus
    refine q_lp_n ((fun (k : Nat) => p.length - 1 - a - k) (k+1)) (dC fL2 ?_) ⟨k+1, dC fL2 ?_⟩
    all_goals try (refine zlf ?_; repeat' first | exact zso | refine And.intro ?_ ?_ | (refine zim ?_; intro zb hc) | (refine zin ?_; intro zb) | intro j')
    all_goals try refine zbx ?_
   all_goals (rw [ivR_succ, if_neg (fun h => by rw [h.2] at hc; cases hc), List.append_nil])
  ·focus
    refine q_lp_n ((fun (k : Nat) => p.length - 1 - a - k) (k+1)) (dC fL2 ?_) ⟨k+1, dC fL2 ?_⟩
    all_goals try (refine zlf ?_; repeat' first | exact zso | refine And.intro ?_ ?_ | (refine zim ?_; intro zb hc) | (refine zin ?_; intro zb) | intro j')
    all_goals try refine zbx ?_
   all_goals (rw [ivR_succ, if_neg (fun h => by omega), List.append_nil])
  ·focus
    refine q_lp_n ((fun (a : Nat) => p.length - a) (a+1)) (dC fL2 ?_) ⟨a+1, dC fL2 ?_⟩
    all_goals try (refine zlf ?_; repeat' first | exact zso | refine And.intro ?_ ?_ | (refine zim ?_; intro zb hc) | (refine zin ?_; intro zb) | intro j')
    all_goals try refine zbx ?_
   all_goals (rw [ivA_succ, show k = p.length - 1 - a by omega])
  ·simp [ivR]
  ·simp [ivR]
 ·obtain rfl : a = p.length := by omega
  rfl
def isSimB (p : List Int) : Bool := decide (0 < p.length) && decide ((ivsL p).length = 0)
theorem isSim_t {p : List Int} (h : 0 < (p.length : Int)) : decide (((ivsL p).length : Int) = 0) = isSimB p := by
 rw [isSimB, decide_eq_true (by omega : 0 < p.length), Bool.true_and]; congr 1; rw [eq_iff_iff]; omega
theorem isSim_f {p : List Int} (h : (p.length : Int) ≤ 0) : false = isSimB p := by
 rw [isSimB, decide_eq_false (by omega), Bool.false_and]
theorem perm_bd {p : List Int} (h : isPermB p = true) : ∀ x ∈ p, 0 ≤ x ∧ x ≤ 1048576 := fun x hx => by
 simp only [isPermB, Bool.and_eq_true, decide_eq_true_eq] at h
 obtain ⟨i, hi, rfl⟩ := List.getElem_of_mem hx
 have := perm_at h.2 hi
 rw [List.getD_eq_getElem?_getD, List.getElem?_eq_getElem hi] at this
 simp only [Option.getD_some] at this; omega
theorem impl_isSimple_c {m0 : Bool} (p : List Int) (hl : p.length ≤ 8) (hb : ∀ x ∈ p, 0 ≤ x ∧ x ≤ 1048576) : Fun Tryz.prog 61 [(.sl (.lent m0) (List.map (PV.int .i64) (p)))] [(.bool (isSimB p))] := by
 refine fO sg0 [2] Tryz.func61 ?_
 have cE1 := @impl_intervals_c
 refine dEa trivial ?_
 all_goals try (refine zlf ?_; repeat' first | exact zso | refine And.intro ?_ ?_ | (refine zim ?_; intro zb hc) | (refine zin ?_; intro zb) | intro j')
 all_goals try refine zbx ?_
 ·exact isSim_t hc
 ·exact isSim_f hc
theorem spec_IsSimple_c {m0 : Bool} (p : List Int) (hl : p.length ≤ 1048576) : Fun Tryz.prog 28 [(.sl (.lent m0) (List.map (PV.int .i64) (p)))] [(.bool ((isPermB p && isSimB p)))] := by
 by_cases hp : isPermB p = true
 ·have hl8 := (isPerm_facts hp).1
  have hb := perm_bd hp
  have hq := (isPerm_facts hp).2
  refine fO sg0 [2] Tryz.func28 ?_
  have cE1 := @spec_IsPerm_c; have cE2 := @spec_IntervalsOf_c
  refine dEa (And.intro @hp @Bool.true_and) ?_
  all_goals try (refine zlf ?_; repeat' first | exact zso | refine And.intro ?_ ?_ | (refine zim ?_; intro zb hc) | (refine zin ?_; intro zb) | intro j')
  all_goals try refine zbx ?_
  ·exact isSim_t hc
  ·exact isSim_f hc
 ·rw [Bool.not_eq_true] at hp
  refine fO sg0 [2] Tryz.func28 ?_
  have cE1 := @spec_IsPerm_c; have cE2 := @spec_IntervalsOf_c
  refine dEa (And.intro @hp @Bool.false_and) ?_
  all_goals try (refine zlf ?_; repeat' first | exact zso | refine And.intro ?_ ?_ | (refine zim ?_; intro zb hc) | (refine zin ?_; intro zb) | intro j')
  all_goals try refine zbx ?_
/-- The pattern of a list. -/
def rkI (l : List Int) (x : Int) (k : Nat) : Int := ((l.take k).filter fun y => decide (y < x)).length + 1
def patL (l : List Int) : List Int := l.map fun x => rkI l x l.length
theorem rkI_succ {l : List Int} {x : Int} {k : Nat} (h : k < l.length) : rkI l x (k + 1) = rkI l x k + bitI (decide (l.getD k 0 < x)) := by
 rw [rkI, rkI, take_getD (d := 0) h, List.filter_append, List.length_append, List.filter_cons]
 cases decide (l.getD k 0 < x) <;> simp [bitI] <;> omega
theorem rkI_b {l : List Int} {x : Int} {k : Nat} : 1 ≤ rkI l x k ∧ rkI l x k ≤ l.length + 1 := by
 have := List.length_filter_le (fun y => decide (y < x)) (l.take k)
 rw [List.length_take] at this
 unfold rkI; omega
theorem spec_l2Pattern_c {m0 : Bool} (l : List Int) (hl : l.length ≤ 1048576) : Fun Tryz.prog 68 [(.sl (.lent m0) (List.map (PV.int .i64) (l)))] [(.sl .own (List.map (PV.int .i64) (patL l)))] := by
 refine fO sg0 [2] Tryz.func68 ?_
 have cE1 := @spec_l1Bit_c; have cD1 := zdh [false, false, false, false, false, false, false, false, false, false, true, false, false] [(0, 10)]
 refine dEa trivial ?_
 all_goals try (refine zlf ?_; repeat' first | exact zso | refine And.intro ?_ ?_ | (refine zim ?_; intro zb hc) | (refine zin ?_; intro zb) | intro j')
 all_goals try refine zbx ?_
 refine v_loopB (fun ms1 S1 => ∃ (k : Nat), S1.e 0 = .p (.sl (.lent m0) (List.map (PV.int .i64) (l))) ∧ OwnL (S1.e 3) S1.h S1.n (PV.int .i64) (((l.take k).map (fun x => rkI l x l.length)).length) ((l.take k).map (fun x => rkI l x l.length)) ∧ S1.e 4 = .p (.int .i64 (k)) ∧ (k ≤ l.length) ∧ ms1 = l.length - k) ((fun (k : Nat) => l.length - k) (0)) ?_ ⟨0, dIa trivial ?_⟩
 all_goals try (refine zlf ?_; repeat' first | exact zso | refine And.intro ?_ ?_ | (refine zim ?_; intro zb hc) | (refine zin ?_; intro zb) | intro j')
 all_goals try refine zbx ?_
 rintro ms1 S1 ⟨k, h1_0, o1_3, h1_4, c1_0, hm1⟩
 obtain ⟨i1_3, h1_3, b1_3, l1_3⟩ := o1_3.out
 have ni1_3 := znds (x := i1_3) (n := S1.n)
 have fL1 := (And.intro h1_0 (And.intro h1_4 (And.intro h1_3 (And.intro b1_3 ni1_3))))
 refine dEa fL1 ?_
 all_goals try (refine zlf ?_; repeat' first | exact zso | refine And.intro ?_ ?_ | (refine zim ?_; intro zb hc) | (refine zin ?_; intro zb) | intro j')
 all_goals try refine zbx ?_
 ·refine v_loopB (fun ms2 S2 => ∃ (j : Nat), S2.e 0 = .p (.sl (.lent m0) (List.map (PV.int .i64) (l))) ∧ OwnL (S2.e 3) S2.h S2.n (PV.int .i64) (((l.take k).map (fun x => rkI l x l.length)).length) ((l.take k).map (fun x => rkI l x l.length)) ∧ S2.e 4 = .p (.int .i64 (k)) ∧ S2.e 5 = .p (.int .i64 (rkI l (l.getD k 0) j)) ∧ S2.e 6 = .p (.int .i64 (j)) ∧ (j ≤ l.length) ∧ (k < l.length) ∧ S1.n ≤ S2.n ∧ ms2 = l.length - j) ((fun (j : Nat) => l.length - j) (0)) ?_ ⟨0, dIa fL1 ?_⟩
  all_goals try (refine zlf ?_; repeat' first | exact zso | refine And.intro ?_ ?_ | (refine zim ?_; intro zb hc) | (refine zin ?_; intro zb) | intro j')
  all_goals try refine zbx ?_
  rintro ms2 S2 ⟨j, h2_0, o2_3, h2_4, h2_5, h2_6, c2_0, c2_1, u2_0, hm2⟩
  obtain ⟨i2_3, h2_3, b2_3, l2_3⟩ := o2_3.out
  have ni2_3 := znds (x := i2_3) (n := S2.n)
  have fL2 := (And.intro h2_0 (And.intro h2_4 (And.intro h2_5 (And.intro h2_6 (And.intro h2_3 (And.intro b2_3 ni2_3))))))
  have b1 := rkI_b (l := l) (x := l.getD k 0) (k := j)
  have b2 := bitI_r (decide (l.getD j 0 < l.getD k 0))
  refine dEa fL2 ?_
  all_goals try (refine zlf ?_; repeat' first | exact zso | refine And.intro ?_ ?_ | (refine zim ?_; intro zb hc) | (refine zin ?_; intro zb) | intro j')
  all_goals try refine zbx ?_
  ·focus
    refine q_lp_n ((fun (j : Nat) => l.length - j) (j+1)) (dC fL2 ?_) ⟨j+1, dC fL2 ?_⟩
    all_goals try (refine zlf ?_; repeat' first | exact zso | refine And.intro ?_ ?_ | (refine zim ?_; intro zb hc) | (refine zin ?_; intro zb) | intro j')
    all_goals try refine zbx ?_
   rw [rkI_succ (by omega)]
  ·focus
    refine q_lp_n ((fun (k : Nat) => l.length - k) (k+1)) (dC fL2 ?_) ⟨k+1, dC fL2 ?_⟩
    all_goals try (refine zlf ?_; repeat' first | exact zso | refine And.intro ?_ ?_ | (refine zim ?_; intro zb hc) | (refine zin ?_; intro zb) | intro j')
    all_goals try refine zbx ?_
   all_goals (obtain rfl : j = l.length := by omega)
   rw [take_getD (d := 0) (by omega), List.map_append]; rfl
 ·rw [List.take_of_length_le (by omega)]; rfl
theorem impl_pattern_c {m0 : Bool} (l : List Int) (hl : l.length ≤ 1048576) : Fun Tryz.prog 67 [(.sl (.lent m0) (List.map (PV.int .i64) (l)))] [(.sl .own (List.map (PV.int .i64) (patL l)))] := by
 refine fO sg0 [2] Tryz.func67 ?_
 refine dEa trivial ?_
 all_goals try (refine zlf ?_; repeat' first | exact zso | refine And.intro ?_ ?_ | (refine zim ?_; intro zb hc) | (refine zin ?_; intro zb) | intro j')
 all_goals try refine zbx ?_
 refine v_loopB (fun ms1 S1 => ∃ (k : Nat), S1.e 0 = .p (.sl (.lent m0) (List.map (PV.int .i64) (l))) ∧ S1.e 10 = .p (.sl (.lent m0) (List.map (PV.int .i64) (l))) ∧ S1.e 11 = .p (.int .i64 (l.length)) ∧ S1.e 12 = .p (.int .i64 (k)) ∧ OwnL (S1.e 3) S1.h S1.n (PV.int .i64) (((l.take k).map (fun x => rkI l x l.length)).length) ((l.take k).map (fun x => rkI l x l.length)) ∧ (k ≤ l.length) ∧ ms1 = l.length - k) ((fun (k : Nat) => l.length - k) (0)) ?_ ⟨0, dIa trivial ?_⟩
 all_goals try (refine zlf ?_; repeat' first | exact zso | refine And.intro ?_ ?_ | (refine zim ?_; intro zb hc) | (refine zin ?_; intro zb) | intro j')
 all_goals try refine zbx ?_
 rintro ms1 S1 ⟨k, h1_0, h1_10, h1_11, h1_12, o1_3, c1_0, hm1⟩
 obtain ⟨i1_3, h1_3, b1_3, l1_3⟩ := o1_3.out
 have ni1_3 := znds (x := i1_3) (n := S1.n)
 have fL1 := (And.intro h1_0 (And.intro h1_10 (And.intro h1_11 (And.intro h1_12 (And.intro h1_3 (And.intro b1_3 ni1_3))))))
 refine dEa fL1 ?_
 all_goals try (refine zlf ?_; repeat' first | exact zso | refine And.intro ?_ ?_ | (refine zim ?_; intro zb hc) | (refine zin ?_; intro zb) | intro j')
 all_goals try refine zbx ?_
 ·refine v_loopB (fun ms2 S2 => ∃ (j : Nat), S2.e 0 = .p (.sl (.lent m0) (List.map (PV.int .i64) (l))) ∧ S2.e 10 = .p (.sl (.lent m0) (List.map (PV.int .i64) (l))) ∧ S2.e 11 = .p (.int .i64 (l.length)) ∧ S2.e 12 = .p (.int .i64 (k)) ∧ OwnL (S2.e 3) S2.h S2.n (PV.int .i64) (((l.take k).map (fun x => rkI l x l.length)).length) ((l.take k).map (fun x => rkI l x l.length)) ∧ S2.e 5 = .p (.int .i64 (l.getD k 0)) ∧ S2.e 16 = .p (.sl (.lent m0) (List.map (PV.int .i64) (l))) ∧ S2.e 17 = .p (.int .i64 (l.length)) ∧ S2.e 18 = .p (.int .i64 (j)) ∧ S2.e 6 = .p (.int .i64 (rkI l (l.getD k 0) j)) ∧ (j ≤ l.length) ∧ (k < l.length) ∧ S1.n ≤ S2.n ∧ ms2 = l.length - j) ((fun (j : Nat) => l.length - j) (0)) ?_ ⟨0, dIa fL1 ?_⟩
  all_goals try (refine zlf ?_; repeat' first | exact zso | refine And.intro ?_ ?_ | (refine zim ?_; intro zb hc) | (refine zin ?_; intro zb) | intro j')
  all_goals try refine zbx ?_
  rintro ms2 S2 ⟨j, h2_0, h2_10, h2_11, h2_12, o2_3, h2_5, h2_16, h2_17, h2_18, h2_6, c2_0, c2_1, u2_0, hm2⟩
  obtain ⟨i2_3, h2_3, b2_3, l2_3⟩ := o2_3.out
  have ni2_3 := znds (x := i2_3) (n := S2.n)
  have fL2 := (And.intro h2_0 (And.intro h2_10 (And.intro h2_11 (And.intro h2_12 (And.intro h2_5 (And.intro h2_16 (And.intro h2_17 (And.intro h2_18 (And.intro h2_6 (And.intro h2_3 (And.intro b2_3 ni2_3)))))))))))
  have b1 := rkI_b (l := l) (x := l.getD k 0) (k := j)
  refine dEa fL2 ?_
  all_goals try (refine zlf ?_; repeat' first | exact zso | refine And.intro ?_ ?_ | (refine zim ?_; intro zb hc) | (refine zin ?_; intro zb) | intro j')
  all_goals try refine zbx ?_
  ·focus
    refine q_lp_n ((fun (j : Nat) => l.length - j) (j+1)) (dC fL2 ?_) ⟨j+1, dC fL2 ?_⟩
    all_goals try (refine zlf ?_; repeat' first | exact zso | refine And.intro ?_ ?_ | (refine zim ?_; intro zb hc) | (refine zin ?_; intro zb) | intro j')
    all_goals try refine zbx ?_
   rw [rkI_succ (by omega), decide_eq_true hc]; rfl
  ·focus
    refine q_lp_n ((fun (j : Nat) => l.length - j) (j+1)) (dC fL2 ?_) ⟨j+1, dC fL2 ?_⟩
    all_goals try (refine zlf ?_; repeat' first | exact zso | refine And.intro ?_ ?_ | (refine zim ?_; intro zb hc) | (refine zin ?_; intro zb) | intro j')
    all_goals try refine zbx ?_
   rw [rkI_succ (by omega), decide_eq_false (by omega)]; simp [bitI]
  ·focus
    refine q_lp_n ((fun (k : Nat) => l.length - k) (k+1)) (dC fL2 ?_) ⟨k+1, dC fL2 ?_⟩
    all_goals try (refine zlf ?_; repeat' first | exact zso | refine And.intro ?_ ?_ | (refine zim ?_; intro zb hc) | (refine zin ?_; intro zb) | intro j')
    all_goals try refine zbx ?_
   all_goals (obtain rfl : j = l.length := by omega)
   rw [take_getD (d := 0) (by omega), List.map_append]; rfl
 ·rw [List.take_of_length_le (by omega)]; rfl
def cplL (p : List Int) : List Int := p.map fun v => (p.length : Int) + 1 - v
theorem impl_complement_c {m0 : Bool} (p : List Int) (hl : p.length ≤ 1048576) (hb : ∀ x ∈ p, 0 ≤ x ∧ x ≤ 1048576) : Fun Tryz.prog 100 [(.sl (.lent m0) (List.map (PV.int .i64) (p)))] [(.sl .own (List.map (PV.int .i64) (cplL p)))] := by
 refine fO sg0 [2] Tryz.func100 ?_
 refine dEa trivial ?_
 all_goals try (refine zlf ?_; repeat' first | exact zso | refine And.intro ?_ ?_ | (refine zim ?_; intro zb hc) | (refine zin ?_; intro zb) | intro j')
 all_goals try refine zbx ?_
 refine v_loopB (fun ms1 S1 => ∃ (k : Nat), S1.e 0 = .p (.sl (.lent m0) (List.map (PV.int .i64) (p))) ∧ S1.e 7 = .p (.sl (.lent m0) (List.map (PV.int .i64) (p))) ∧ S1.e 8 = .p (.int .i64 (p.length)) ∧ S1.e 9 = .p (.int .i64 (k)) ∧ OwnL (S1.e 3) S1.h S1.n (PV.int .i64) (((p.take k).map (fun v => (p.length : Int) + 1 - v)).length) ((p.take k).map (fun v => (p.length : Int) + 1 - v)) ∧ (k ≤ p.length) ∧ ms1 = p.length - k) ((fun (k : Nat) => p.length - k) (0)) ?_ ⟨0, dI trivial ?_⟩
 all_goals try (refine zlf ?_; repeat' first | exact zso | refine And.intro ?_ ?_ | (refine zim ?_; intro zb hc) | (refine zin ?_; intro zb) | intro j')
 all_goals try refine zbx ?_
 rintro ms1 S1 ⟨k, h1_0, h1_7, h1_8, h1_9, o1_3, c1_0, hm1⟩
 obtain ⟨i1_3, h1_3, b1_3, l1_3⟩ := o1_3.out
 have ni1_3 := znds (x := i1_3) (n := S1.n)
 have fL1 := (And.intro h1_0 (And.intro h1_7 (And.intro h1_8 (And.intro h1_9 (And.intro h1_3 (And.intro b1_3 ni1_3))))))
 have b1 : k < p.length → 0 ≤ p.getD k 0 ∧ p.getD k 0 ≤ 1048576 := fun h => hb _ (getD_mem h)
 refine dE fL1 ?_
 all_goals try (refine zlf ?_; repeat' first | exact zso | refine And.intro ?_ ?_ | (refine zim ?_; intro zb hc) | (refine zin ?_; intro zb) | intro j')
 all_goals try refine zbx ?_
 all_goals try have b2 := b1 (by omega)
 all_goals try exact zaut
 ·focus
   refine q_lp_n ((fun (k : Nat) => p.length - k) (k+1)) (dC fL1 ?_) ⟨k+1, dC fL1 ?_⟩
   all_goals try (refine zlf ?_; repeat' first | exact zso | refine And.intro ?_ ?_ | (refine zim ?_; intro zb hc) | (refine zin ?_; intro zb) | intro j')
   all_goals try refine zbx ?_
  rw [take_getD (d := 0) (by omega), List.map_append]; rfl
 ·rw [List.take_of_length_le (by omega)]; rfl
theorem spec_l3Complement_c {m0 : Bool} (p : List Int) (hl : p.length ≤ 1048576) (hb : ∀ x ∈ p, 0 ≤ x ∧ x ≤ 1048576) : Fun Tryz.prog 84 [(.sl (.lent m0) (List.map (PV.int .i64) (p)))] [(.sl .own (List.map (PV.int .i64) (cplL p)))] := by
 refine fO sg0 [2] Tryz.func84 ?_
 refine dEa trivial ?_
 all_goals try (refine zlf ?_; repeat' first | exact zso | refine And.intro ?_ ?_ | (refine zim ?_; intro zb hc) | (refine zin ?_; intro zb) | intro j')
 all_goals try refine zbx ?_
 refine v_loopB (fun ms1 S1 => ∃ (k : Nat), S1.e 0 = .p (.sl (.lent m0) (List.map (PV.int .i64) (p))) ∧ S1.e 4 = .p (.int .i64 (k)) ∧ OwnL (S1.e 3) S1.h S1.n (PV.int .i64) (((p.take k).map (fun v => (p.length : Int) + 1 - v)).length) ((p.take k).map (fun v => (p.length : Int) + 1 - v)) ∧ (k ≤ p.length) ∧ ms1 = p.length - k) ((fun (k : Nat) => p.length - k) (0)) ?_ ⟨0, dI trivial ?_⟩
 all_goals try (refine zlf ?_; repeat' first | exact zso | refine And.intro ?_ ?_ | (refine zim ?_; intro zb hc) | (refine zin ?_; intro zb) | intro j')
 all_goals try refine zbx ?_
 rintro ms1 S1 ⟨k, h1_0, h1_4, o1_3, c1_0, hm1⟩
 obtain ⟨i1_3, h1_3, b1_3, l1_3⟩ := o1_3.out
 have ni1_3 := znds (x := i1_3) (n := S1.n)
 have fL1 := (And.intro h1_0 (And.intro h1_4 (And.intro h1_3 (And.intro b1_3 ni1_3))))
 have b1 : k < p.length → 0 ≤ p.getD k 0 ∧ p.getD k 0 ≤ 1048576 := fun h => hb _ (getD_mem h)
 refine dE fL1 ?_
 all_goals try (refine zlf ?_; repeat' first | exact zso | refine And.intro ?_ ?_ | (refine zim ?_; intro zb hc) | (refine zin ?_; intro zb) | intro j')
 all_goals try refine zbx ?_
 all_goals try have b2 := b1 (by omega)
 all_goals try exact zaut
 ·focus
   refine q_lp_n ((fun (k : Nat) => p.length - k) (k+1)) (dC fL1 ?_) ⟨k+1, dC fL1 ?_⟩
   all_goals try (refine zlf ?_; repeat' first | exact zso | refine And.intro ?_ ?_ | (refine zim ?_; intro zb hc) | (refine zin ?_; intro zb) | intro j')
   all_goals try refine zbx ?_
  rw [take_getD (d := 0) (by omega), List.map_append]; rfl
 ·rw [List.take_of_length_le (by omega)]; rfl
def invL (p : List Int) : Nat → List Int
 | 0 => List.replicate p.length 0
 | k + 1 => (invL p k).set (p.getD k 0 - 1).toNat ((k : Int) + 1)
theorem invL_len {p : List Int} : ∀ {k : Nat}, (invL p k).length = p.length
 | 0 => by simp [invL]
 | k + 1 => by rw [invL, List.length_set, invL_len]
def inv (p : List Int) : List Int := invL p p.length
theorem inv_len {p : List Int} : (inv p).length = p.length := invL_len
theorem nodup_map {f : Int → Int} {l : List Int} (h : l.Nodup) (hf : ∀ x ∈ l, ∀ y ∈ l, x ≠ y → f x ≠ f y) : (l.map f).Nodup := by
 unfold List.Nodup
 rw [List.pairwise_map]
 exact List.Pairwise.imp_of_mem (fun {a b} ha hb hab => hf a ha b hb hab) h
theorem rkI_lt {l : List Int} {x y : Int} (hx : x ∈ l) (h : x < y) : rkI l x l.length < rkI l y l.length := by
 unfold rkI
 rw [List.take_length]
 have h1 := len_two (fun z => decide (z < x)) (l.filter fun z => decide (z < y))
 have h2 : ((l.filter fun z => decide (z < y)).filter fun z => decide (z < x)) = l.filter fun z => decide (z < x) := by
  rw [List.filter_filter]
  refine List.filter_congr fun z _ => ?_
  by_cases hz : z < x
  ·simp [hz, show z < y by omega]
  ·simp [hz]
 have h3 : x ∈ (l.filter fun z => decide (z < y)).filter fun z => !decide (z < x) := by
  simp only [List.mem_filter, decide_eq_true_eq, Bool.not_eq_true', decide_eq_false_iff_not]
  exact ⟨⟨hx, h⟩, by omega⟩
 have h4 := List.length_pos_of_mem h3
 rw [h2] at h1
 omega
theorem patL_len {l : List Int} : (patL l).length = l.length := by simp [patL]
theorem patL_perm {l : List Int} (hn : l.Nodup) : permB (patL l) = true := by
 rw [permB_iff, patL_len]
 refine ⟨fun x hx => ?_, nodup_map hn fun x hx y hy h => ?_⟩
 ·obtain ⟨y, hy, rfl⟩ := List.mem_map.1 hx
  refine ⟨rkI_b.1, ?_⟩
  have h1 := len_two (fun z => decide (z < y)) l
  have h2 : y ∈ l.filter fun z => !decide (z < y) := by simp [hy]
  have h3 := List.length_pos_of_mem h2
  unfold rkI
  rw [List.take_length]
  omega
 ·rcases Int.lt_or_gt_of_ne h with h | h
  ·have := rkI_lt hx h; omega
  ·have := rkI_lt hy h; omega
theorem cplL_len {p : List Int} : (cplL p).length = p.length := by simp [cplL]
theorem cplL_perm {p : List Int} (h : permB p = true) : permB (cplL p) = true := by
 rw [permB_iff, cplL_len]
 obtain ⟨a1, a2⟩ := permB_iff.1 h
 refine ⟨fun x hx => ?_, nodup_map a2 fun x _ y _ h => by omega⟩
 obtain ⟨y, hy, rfl⟩ := List.mem_map.1 hx
 have := a1 y hy
 omega
/-- The parts of a sum, the first k places looked at: the parts, where the next begins, the greatest number. -/
def spG (g : List Int → Nat → List Int) (p : List Int) : Nat → List (List Int) × Nat × Int
 | 0 => ([], 0, 0)
 | k + 1 => if max (spG g p k).2.2 (p.getD k 0) = k + 1 then ((spG g p k).1 ++ [g (segL p (spG g p k).2.1 (k + 1)) (spG g p k).2.1], k + 1, max (spG g p k).2.2 (p.getD k 0))
  else ((spG g p k).1, (spG g p k).2.1, max (spG g p k).2.2 (p.getD k 0))
theorem spG_from {g : List Int → Nat → List Int} {p : List Int} : ∀ {k : Nat}, (spG g p k).2.1 ≤ k ∧ (spG g p k).1.length ≤ k
 | 0 => by simp [spG]
 | k + 1 => by have := spG_from (g := g) (p := p) (k := k); rw [spG]; split <;> simp <;> omega
def shI (s : List Int) (f : Nat) : List Int := s.map fun x => x + -(f : Int)
def ptI (s : List Int) (_ : Nat) : List Int := patL s
theorem impl_raised_c {m0 : Bool} (l : List Int) (d : Int) (hl : l.length ≤ 1048576) (hb : ∀ x ∈ l, -1000000 ≤ x ∧ x ≤ 1000000) (hd : -1000000 ≤ d ∧ d ≤ 1000000) : Fun Tryz.prog 98 [(.sl (.lent m0) (List.map (PV.int .i64) (l))), (.int .i64 (d))] [(.sl .own (List.map (PV.int .i64) (l.map (fun x => x + d))))] := by
 refine fO sg0 [4] Tryz.func98 ?_
 refine dEa trivial ?_
 all_goals try (refine zlf ?_; repeat' first | exact zso | refine And.intro ?_ ?_ | (refine zim ?_; intro zb hc) | (refine zin ?_; intro zb) | intro j')
 all_goals try refine zbx ?_
 refine v_loopB (fun ms1 S1 => ∃ (k : Nat), S1.e 1 = .p (.int .i64 (d)) ∧ S1.e 9 = .p (.sl (.lent m0) (List.map (PV.int .i64) (l))) ∧ S1.e 10 = .p (.int .i64 (l.length)) ∧ OwnL (S1.e 5) S1.h S1.n (PV.int .i64) (((l.take k).map (fun x => x + d)).length) ((l.take k).map (fun x => x + d)) ∧ S1.e 11 = .p (.int .i64 (k)) ∧ (k ≤ l.length) ∧ ms1 = l.length - k) ((fun (k : Nat) => l.length - k) (0)) ?_ ⟨0, dI trivial ?_⟩
 all_goals try (refine zlf ?_; repeat' first | exact zso | refine And.intro ?_ ?_ | (refine zim ?_; intro zb hc) | (refine zin ?_; intro zb) | intro j')
 all_goals try refine zbx ?_
 rintro ms1 S1 ⟨k, h1_1, h1_9, h1_10, o1_5, h1_11, c1_0, hm1⟩
 obtain ⟨i1_5, h1_5, b1_5, l1_5⟩ := o1_5.out
 have ni1_5 := znds (x := i1_5) (n := S1.n)
 have fL1 := (And.intro h1_1 (And.intro h1_9 (And.intro h1_10 (And.intro h1_11 (And.intro h1_5 (And.intro b1_5 ni1_5))))))
 have b1 : k < l.length → -1000000 ≤ l.getD k 0 ∧ l.getD k 0 ≤ 1000000 := fun h => hb _ (getD_mem h)
 refine dE fL1 ?_
 all_goals try (refine zlf ?_; repeat' first | exact zso | refine And.intro ?_ ?_ | (refine zim ?_; intro zb hc) | (refine zin ?_; intro zb) | intro j')
 all_goals try refine zbx ?_
 all_goals try have b2 := b1 (by omega)
 all_goals try exact zaut
 ·focus
   refine q_lp_n ((fun (k : Nat) => l.length - k) (k+1)) (dC fL1 ?_) ⟨k+1, dC fL1 ?_⟩
   all_goals try (refine zlf ?_; repeat' first | exact zso | refine And.intro ?_ ?_ | (refine zim ?_; intro zb hc) | (refine zin ?_; intro zb) | intro j')
   all_goals try refine zbx ?_
  rw [take_getD (d := 0) (by omega), List.map_append]; rfl
 ·rw [List.take_of_length_le (by omega)]
theorem seg_b {p : List Int} {a b : Nat} (hb : ∀ x ∈ p, 0 ≤ x ∧ x ≤ 8) : ∀ x ∈ segL p a b, -1000000 ≤ x ∧ x ≤ 1000000 := fun x hx => by have := hb x (segL_mem hx); omega
theorem perm_b8 {p : List Int} (h : isPermB p = true) : ∀ x ∈ p, 0 ≤ x ∧ x ≤ 8 := fun x hx => by
 simp only [isPermB, Bool.and_eq_true, decide_eq_true_eq] at h
 have := (permB_iff.1 h.2).1 x hx; omega
theorem spG_b {g : List Int → Nat → List Int} {p : List Int} (hb : ∀ x ∈ p, 0 ≤ x ∧ x ≤ 8) : ∀ {k : Nat}, k ≤ p.length → 0 ≤ (spG g p k).2.2 ∧ (spG g p k).2.2 ≤ 8
 | 0, _ => by simp [spG]
 | k + 1, h => by
  have h1 := spG_b (g := g) hb (k := k) (by omega)
  have h2 := hb _ (getD_mem (d := 0) (show k < p.length by omega))
  rw [spG]; split <;> simp only <;> omega
theorem impl_sumParts_c {m0 : Bool} (p : List Int) (hl : p.length ≤ 8) (hb : ∀ x ∈ p, 0 ≤ x ∧ x ≤ 8) : Fun Tryz.prog 75 [(.sl (.lent m0) (List.map (PV.int .i64) (p)))] [(.sl .own (List.map (elI false) ((spG shI p p.length).1)))] := by
 refine fO sg0 [2] Tryz.func75 ?_
 have cE1 := @impl_raised_c
 refine dEa trivial ?_
 all_goals try (refine zlf ?_; repeat' first | exact zso | refine And.intro ?_ ?_ | (refine zim ?_; intro zb hc) | (refine zin ?_; intro zb) | intro j')
 all_goals try refine zbx ?_
 refine v_loopB (fun ms1 S1 => ∃ (k : Nat), S1.e 9 = .p (.sl (.lent m0) (List.map (PV.int .i64) (p))) ∧ S1.e 10 = .p (.int .i64 (p.length)) ∧ S1.e 0 = .p (.sl (.lent m0) (List.map (PV.int .i64) (p))) ∧ OwnL (S1.e 3) S1.h S1.n (elI false) (((spG shI p k).1).length) ((spG shI p k).1) ∧ S1.e 4 = .p (.int .i64 ((spG shI p k).2.1)) ∧ S1.e 5 = .p (.int .i64 ((spG shI p k).2.2)) ∧ S1.e 11 = .p (.int .i64 (k)) ∧ (k ≤ p.length) ∧ ms1 = p.length - k) ((fun (k : Nat) => p.length - k) (0)) ?_ ⟨0, dC trivial ?_⟩
 all_goals try (refine zlf ?_; repeat' first | exact zso | refine And.intro ?_ ?_ | (refine zim ?_; intro zb hc) | (refine zin ?_; intro zb) | intro j')
 all_goals try refine zbx ?_
 rintro ms1 S1 ⟨k, h1_9, h1_10, h1_0, o1_3, h1_4, h1_5, h1_11, c1_0, hm1⟩
 obtain ⟨i1_3, h1_3, b1_3, l1_3⟩ := o1_3.out
 have ni1_3 := znds (x := i1_3) (n := S1.n)
 have fL1 := (And.intro h1_9 (And.intro h1_10 (And.intro h1_0 (And.intro h1_4 (And.intro h1_5 (And.intro h1_11 (And.intro h1_3 (And.intro b1_3 ni1_3))))))))
 have b1 := spG_from (g := shI) (p := p) (k := k)
 have b2 := spG_b (g := shI) hb c1_0
 have b3 : List.drop (spG shI p k).2.1 (List.take (k + 1) p) = segL p (spG shI p k).2.1 (k + 1) := rfl
 by_cases hk : k < p.length
 ·have b4 := hb _ (getD_mem (d := 0) hk)
  have b5 : (segL p (spG shI p k).2.1 (k + 1)).length = k + 1 - (spG shI p k).2.1 := segL_len (by omega)
  have b6 := seg_b (a := (spG shI p k).2.1) (b := k + 1) hb
  have b7 : ((k : Int) + 1).toNat = k + 1 := by omega
  refine dEa (And.intro fL1 (And.intro @b3 @b7)) ?_
  all_goals try (refine zlf ?_; repeat' first | exact zso | refine And.intro ?_ ?_ | (refine zim ?_; intro zb hc) | (refine zin ?_; intro zb) | intro j')
  all_goals try refine zbx ?_
  ·have x1 : spG shI p (k + 1) = _ := if_pos hc
   focus
    refine q_lp_n ((fun (k : Nat) => p.length - k) (k+1)) (dC fL1 ?_) ⟨k+1, dC fL1 ?_⟩
    all_goals try (refine zlf ?_; repeat' first | exact zso | refine And.intro ?_ ?_ | (refine zim ?_; intro zb hc) | (refine zin ?_; intro zb) | intro j')
    all_goals try refine zbx ?_
   all_goals (rw [x1]; try simp [shI, ptI])
  ·have x1 : spG shI p (k + 1) = _ := if_neg hc
   focus
    refine q_lp_n ((fun (k : Nat) => p.length - k) (k+1)) (dC fL1 ?_) ⟨k+1, dC fL1 ?_⟩
    all_goals try (refine zlf ?_; repeat' first | exact zso | refine And.intro ?_ ?_ | (refine zim ?_; intro zb hc) | (refine zin ?_; intro zb) | intro j')
    all_goals try refine zbx ?_
   all_goals (rw [x1])
 ·refine dEa fL1 ?_
  all_goals try (refine zlf ?_; repeat' first | exact zso | refine And.intro ?_ ?_ | (refine zim ?_; intro zb hc) | (refine zin ?_; intro zb) | intro j')
  all_goals try refine zbx ?_
  obtain rfl : k = p.length := by omega
  rfl
theorem spec_SumParts_c {m0 : Bool} (p : List Int) (hp : isPermB p = true) : Fun Tryz.prog 103 [(.sl (.lent m0) (List.map (PV.int .i64) (p)))] [(.sl .own (List.map (elI false) ((spG ptI p p.length).1)))] := by
 refine fO sg0 [2] Tryz.func103 ?_
 have cE1 := @spec_l1Max_c; have cE2 := @spec_IsPerm_c; have cE3 := @spec_l2Pattern_c
 have hl := (isPerm_facts hp).1
 have hb := perm_b8 hp
 refine dEa @hp ?_
 all_goals try (refine zlf ?_; repeat' first | exact zso | refine And.intro ?_ ?_ | (refine zim ?_; intro zb hc) | (refine zin ?_; intro zb) | intro j')
 all_goals try refine zbx ?_
 refine v_loopB (fun ms1 S1 => ∃ (k : Nat), S1.e 0 = .p (.sl (.lent m0) (List.map (PV.int .i64) (p))) ∧ OwnL (S1.e 3) S1.h S1.n (elI false) (((spG ptI p k).1).length) ((spG ptI p k).1) ∧ S1.e 4 = .p (.int .i64 ((spG ptI p k).2.1)) ∧ S1.e 5 = .p (.int .i64 ((spG ptI p k).2.2)) ∧ S1.e 6 = .p (.int .i64 (k)) ∧ (k ≤ p.length) ∧ ms1 = p.length - k) ((fun (k : Nat) => p.length - k) (0)) ?_ ⟨0, dC trivial ?_⟩
 all_goals try (refine zlf ?_; repeat' first | exact zso | refine And.intro ?_ ?_ | (refine zim ?_; intro zb hc) | (refine zin ?_; intro zb) | intro j')
 all_goals try refine zbx ?_
 rintro ms1 S1 ⟨k, h1_0, o1_3, h1_4, h1_5, h1_6, c1_0, hm1⟩
 obtain ⟨i1_3, h1_3, b1_3, l1_3⟩ := o1_3.out
 have ni1_3 := znds (x := i1_3) (n := S1.n)
 have fL1 := (And.intro h1_0 (And.intro h1_4 (And.intro h1_5 (And.intro h1_6 (And.intro h1_3 (And.intro b1_3 ni1_3))))))
 have b1 := spG_from (g := ptI) (p := p) (k := k)
 have b2 := spG_b (g := ptI) hb c1_0
 have b3 : List.drop (spG ptI p k).2.1 (List.take (k + 1) p) = segL p (spG ptI p k).2.1 (k + 1) := rfl
 by_cases hk : k < p.length
 ·have b4 := hb _ (getD_mem (d := 0) hk)
  have b5 : (segL p (spG ptI p k).2.1 (k + 1)).length = k + 1 - (spG ptI p k).2.1 := segL_len (by omega)
  have b7 : ((k : Int) + 1).toNat = k + 1 := by omega
  refine dEa (And.intro fL1 (And.intro @b3 @b7)) ?_
  all_goals try (refine zlf ?_; repeat' first | exact zso | refine And.intro ?_ ?_ | (refine zim ?_; intro zb hc) | (refine zin ?_; intro zb) | intro j')
  all_goals try refine zbx ?_
  ·have x1 : spG ptI p (k + 1) = _ := if_pos hc
   focus
    refine q_lp_n ((fun (k : Nat) => p.length - k) (k+1)) (dC fL1 ?_) ⟨k+1, dC fL1 ?_⟩
    all_goals try (refine zlf ?_; repeat' first | exact zso | refine And.intro ?_ ?_ | (refine zim ?_; intro zb hc) | (refine zin ?_; intro zb) | intro j')
    all_goals try refine zbx ?_
   all_goals (rw [x1]; try simp [shI, ptI])
  ·have x1 : spG ptI p (k + 1) = _ := if_neg hc
   focus
    refine q_lp_n ((fun (k : Nat) => p.length - k) (k+1)) (dC fL1 ?_) ⟨k+1, dC fL1 ?_⟩
    all_goals try (refine zlf ?_; repeat' first | exact zso | refine And.intro ?_ ?_ | (refine zim ?_; intro zb hc) | (refine zin ?_; intro zb) | intro j')
    all_goals try refine zbx ?_
   all_goals (rw [x1])
 ·refine dEa fL1 ?_
  all_goals try (refine zlf ?_; repeat' first | exact zso | refine And.intro ?_ ?_ | (refine zim ?_; intro zb hc) | (refine zin ?_; intro zb) | intro j')
  all_goals try refine zbx ?_
  obtain rfl : k = p.length := by omega
  rfl
theorem slices_Grow_c (n : Nat) (h1 : n ≤ 1000000) :
  Fun Tryz.prog 129 [.sl .own [], .int .i64 n] [.sl .own []] := by
 refine Fun.of_row 3 Tryz.func129 rfl rfl rfl (fun x hx => by cases hx) ?_
 intro w F G vs _ hv
 simp only [RepL] at hv
 obtain ⟨a, vs1, rfl, ha, b, vs2, rfl, hb, rfl⟩ := hv
 simp only [RepP] at ha hb
 subst hb
 obtain ⟨ad, cap, rfl, _, _, hown, _⟩ := ha
 obtain ⟨_, rfl, rfl⟩ := hown trivial
 by_cases h0 : n = 0
 ·subst h0
  refine (Tryz.slices_Grow_room none 0 0 0 w (Nat.le_refl _) (by omega) (by omega) (Nat.le_refl _)).mono ?_
  rintro e w' ⟨rfl, rfl⟩
  exact ⟨_, rfl, ⟨rfl, .inl ⟨rfl, rfl⟩⟩, Go.RowKit.Below.refl _ _⟩
 ·obtain ⟨i0, hi, hz0, hz1, hz2⟩ := info_parts (P := Tryz.prog) (e := 3) (show (Tryz.prog.info? 3).map (fun i => (i.zero, i.size, i.bytes)) = some (some (.int .i64 0), 1, 8) by kernel_rfl)
  have key := Any8.slices_Grow_grow Tryz.laysGrow i0 (.int .i64 0) hi hz0 (by rw [hz1]; decide) none 0 0 n [] w (Nat.le_refl _) (by omega) (by rw [hz2]; omega) (by omega) (by simp) (fun _ => rfl) (fun a h => by cases h)
  refine Calls.mono key ?_
  rintro e w' ⟨rfl, rfl⟩
  have g1 := grownCap_ge w (0 + n) 0 (Tryz.laysGrow_ren.t 25)
  have g2 := grownCap_le_maxLen w (0 + n) 0 (Tryz.laysGrow_ren.t 25) (by unfold maxLen; omega)
  refine ⟨_, rfl, ⟨rfl, .inr ⟨w.heap.size, grownCap w (0 + n) 0 (Tryz.laysGrow_ren.t 25), #[] ++ Builtin.zeroCells (Value.int IntKind.i64 0).cells (0 + n - 0) ++ Builtin.zeroCells (Value.int IntKind.i64 0).cells (grownCap w (0 + n) 0 (Tryz.laysGrow_ren.t 25) - (0 + n)), rfl, Nat.le_refl _, (MapKept.heap_alloc w.drew _).1, Nat.zero_le _, g2, ?_, rfl⟩⟩, ?_⟩
  ·simp only [Nat.zero_add] at g1 g2 ⊢
   simp [Builtin.zeroCells, Value.cells]
   omega
  ·exact ((Go.RowKit.Below.refl w.heap.size w).drew).alloc (Nat.le_refl _) _
theorem slices_Grow_d (n : Nat) (h1 : n ≤ 1000000) : Fun Tryz.prog 129 [.sl .own [], .int .i64 n] [.sl .own (List.map (PV.int .i64) [])] := slices_Grow_c n h1
mutual
/-- Less is known of the memory of slices. -/
def wk : PV → PV
 | .sl .fr xs => .sl .ro (wkL xs)
 | .sl .ro xs => .sl .ro (wkL xs)
 | .agg xs => .agg (wkL xs)
 | .sl .own xs => .sl .own xs
 | .int k n => .int k n
 | .bool b => .bool b
 | .str s => .str s
 | .fn f a b => .fn f a b
 | .nilf => .nilf
 | .pc xs => .pc xs
 | .any => .any
 | .dl rows => .dl rows
 | .bx xs => .bx xs
 | .nl => .nl
def wkL : List PV → List PV
 | [] => []
 | x :: xs => wk x :: wkL xs
end
theorem wkL_len : ∀ {xs : List PV}, (wkL xs).length = xs.length
 | [] => rfl
 | x :: xs => by simp only [wkL, List.length_cons, wkL_len (xs := xs)]
theorem wkL_map {α : Type} {f g : α → PV} (h : ∀ a, wk (f a) = g a) : ∀ {l : List α}, wkL (l.map f) = l.map g
 | [] => rfl
 | x :: l => by simp only [List.map_cons, wkL, h, wkL_map h (l := l)]
mutual
theorem RepP.wk {w : World} {F G : Nat → Prop} : ∀ (x : PV) (v : Value), RepP w F G x v → RepP w F G (Gl.wk x) v
 | .int _ _, _, h => h
 | .bool _, _, h => h
 | .str _, _, h => h
 | .nilf, _, h => h
 | .any, _, _ => trivial
 | .dl _, _, h => by simp only [RepP] at h
 | .nl, _, h => h
 | .bx _, _, h => h
 | .fn _ _ _, _, h => h
 | .pc _, _, h => h
 | .sl o xs, v, h => by
  cases o with
  | own => exact h
  | ro =>
   simp only [Gl.wk, RepP] at h ⊢
   obtain ⟨a, cap, hv, hl, hm, ho, hx⟩ := h
   refine ⟨a, cap, by rw [wkL_len]; exact hv, by rw [wkL_len]; exact hl, hm, fun q => (by cases q), ?_⟩
   rcases hx with hx | ⟨B, off, ha, hF, hG, hc⟩
   ·subst hx; exact .inl (by simp only [wkL])
   ·exact .inr ⟨B, off, ha, hF, fun q => (by cases q), RepC.wk xs B off hc⟩
  | fr =>
   simp only [Gl.wk, RepP] at h ⊢
   obtain ⟨a, cap, hv, hl, hm, ho, hx⟩ := h
   refine ⟨a, cap, by rw [wkL_len]; exact hv, by rw [wkL_len]; exact hl, hm, fun q => (by cases q), ?_⟩
   rcases hx with hx | ⟨B, off, ha, hF, hG, hc⟩
   ·subst hx; exact .inl (by simp only [wkL])
   ·exact .inr ⟨B, off, ha, hF, fun q => (by cases q), RepC.wk xs B off hc⟩
 | .agg xs, v, h => by
  simp only [Gl.wk, RepP] at h ⊢
  obtain ⟨cs, hv, hx⟩ := h
  exact ⟨cs, hv, RepL.wk xs cs hx⟩
theorem RepC.wk {w : World} {F G : Nat → Prop} : ∀ (xs : List PV) (B o : Nat), RepC w F G B o xs → RepC w F G B o (wkL xs)
 | [], _, _, _ => by simp only [wkL, RepC]
 | x :: xs, B, o, h => by
  simp only [wkL, RepC] at h ⊢
  obtain ⟨⟨v, hv, h1, hx⟩, hr⟩ := h
  exact ⟨⟨v, hv, h1, RepP.wk x v hx⟩, RepC.wk xs B (o + 1) hr⟩
theorem RepL.wk {w : World} {F G : Nat → Prop} : ∀ (xs : List PV) (vs : List Value), RepL w F G xs vs → RepL w F G (wkL xs) vs
 | [], vs, h => h
 | x :: xs, vs, h => by
  simp only [wkL, RepL] at h ⊢
  obtain ⟨v, vs', rfl, h1, h2⟩ := h
  exact ⟨v, vs', rfl, RepP.wk x v h1, RepL.wk xs vs' h2⟩
end
/-- A contract does for arguments of which more is known. -/
theorem Fun.wk {P : Program} {f : FuncId} {args args' res : List PV} (e : wkL args = args') (h : Fun P f args' res) : Fun P f args res := by
 subst e
 obtain ⟨h1, h2, h3, h4, h5⟩ := h
 refine ⟨h1, h2, h3, h4, fun w G ι vs amb hG ok hrp => ?_⟩
 have hlen : (List.map Arg.pv (wkL args)).length = (args.map Arg.pv).length := by simp only [List.length_map, wkL_len]
 have hH : argH ((wkL args).map .pv) = argH (args.map .pv) := by
  funext j
  unfold argH
  rw [List.getElem?_map, List.getElem?_map]
  cases (wkL args)[j]? <;> cases args[j]? <;> rfl
 have hM : argM ((wkL args).map .pv) ι = argM (args.map .pv) ι := by funext B; unfold argM; rw [hH]
 have hP : postH false ((wkL args).map .pv) [] res = postH false (args.map .pv) [] res := by
  unfold postH
  have : outH ((wkL args).map .pv) [] = outH (args.map .pv) [] := by
   funext j
   unfold outH
   rw [List.getElem?_map, List.getElem?_map]
   cases (wkL args)[j]? <;> cases args[j]? <;> rfl
  rw [this, hlen]
 have hrep : ∀ (l : List PV) (vs : List Value) (k : Nat), RepAL w (Held (argH (args.map .pv)) ι) G ι (argAVs k (l.map .pv)) vs → RepAL w (Held (argH (args.map .pv)) ι) G ι (argAVs k ((wkL l).map .pv)) vs := by
  intro l
  induction l with
  | nil => intro vs k h; exact h
  | cons x l ih =>
   intro vs k h
   simp only [wkL, List.map_cons, argAVs, Arg.av, RepAL, RepA] at h ⊢
   obtain ⟨v, vs', rfl, h1, h2⟩ := h
   exact ⟨v, vs', rfl, RepP.wk x v h1, ih _ _ h2⟩
 have key := h5 w G ι vs (by rw [hM]; exact amb) hG (by rw [hM, hH]; exact ok) (by rw [hH]; exact hrep args vs 0 hrp)
 rw [hM, hP, hlen] at key
 exact key
end Go.Gl
