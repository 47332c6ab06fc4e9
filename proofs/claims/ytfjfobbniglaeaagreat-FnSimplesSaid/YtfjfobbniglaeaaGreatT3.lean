/-
  What the functions compute, and what the law asks of it: texts joined. Conditions: those that each lemma names.
-/
import Derived.Test.YtfjfobbniglaeaaGreatT2
import Derived.Test.YtfjfobbniglaeaaGreatT1
import Derived.Test.YtfjfobbniglaeaaGreatGlC
import Derived.Shelf.SlSortCmp.Whole1
import Derived.Shelf.Small.Bits
import Derived.Shelf.Strconv.Itoa0
import Derived.Shelf.Slices.Turned
import Derived.Shelf.Slices.Equal
import Derived.Ground.Names2Prog
import Derived.Shelf.Slices.Clone
import Derived.Shelf.Slices.SearchI
import Derived.Shelf.Slices.Delete
import Derived.Shelf.Slices.Cells
import Derived.Shelf.Slices.Empties
import Derived.Ground.SlgnProg
import Derived.Shelf.SlicesE.Clone
import Derived.Ground.SlsfProg
import Derived.Shelf.SlSortCmp.Insertion
import Derived.Shelf.SlSortCmp.SiftDown1
import Derived.Shelf.SlSortCmp.HeapSort1
import Derived.Shelf.SlSortCmp.Insertion1
import Derived.Shelf.SlSortCmp.Median1
import Derived.Shelf.SlSortCmp.Pivot1
import Derived.Shelf.SlSortCmp.ReverseRange1
import Derived.Shelf.SlSortCmp.PartialInsertion1
import Derived.Shelf.SlSortCmp.PartitionEqual1
import Derived.Shelf.SlSortCmp.Partition1
import Derived.Shelf.SlSortCmp.Pdq1
import Derived.Test.YtfjfobbniglaeaaGreatProg
set_option linter.unusedSimpArgs false
set_option linter.unusedVariables false
set_option maxRecDepth 20000
set_option linter.unusedSectionVars false
namespace Go.Gl
open Go Go.Proofs
variable [Amb] [NoQ]
theorem spec_l2Inverse_c {m0 : Bool} (p : List Int) (h8 : p.length ≤ 8) (hp : permB p = true) : Fun Tryz.prog 82 [(.sl (.lent m0) (List.map (PV.int .i64) (p)))] [(.sl .own (List.map (PV.int .i64) (inv p)))] := by
 refine fO sg0 [2] Tryz.func82 ?_
 refine dEa trivial ?_
 all_goals try (refine zlf ?_; repeat' first | exact zso | refine And.intro ?_ ?_ | (refine zim ?_; intro zb hc) | (refine zin ?_; intro zb) | intro j')
 all_goals try refine zbx ?_
 refine v_loopB (fun ms1 S1 => ∃ (k : Nat), S1.e 0 = .p (.sl (.lent m0) (List.map (PV.int .i64) (p))) ∧ OwnL (S1.e 3) S1.h S1.n (PV.int .i64) ((invL p k).length) (invL p k) ∧ S1.e 4 = .p (.int .i64 (k)) ∧ (k ≤ p.length) ∧ ms1 = p.length - k) ((fun (k : Nat) => p.length - k) (0)) ?_ ⟨0, dIa trivial ?_⟩
 all_goals try (refine zlf ?_; repeat' first | exact zso | refine And.intro ?_ ?_ | (refine zim ?_; intro zb hc) | (refine zin ?_; intro zb) | intro j')
 all_goals try refine zbx ?_
 rintro ms1 S1 ⟨k, h1_0, o1_3, h1_4, c1_0, hm1⟩
 obtain ⟨i1_3, h1_3, b1_3, l1_3⟩ := o1_3.out
 have ni1_3 := znds (x := i1_3) (n := S1.n)
 have fL1 := (And.intro h1_0 (And.intro h1_4 (And.intro h1_3 (And.intro b1_3 ni1_3))))
 have b1 : (invL p k).length = p.length := invL_len
 have b2 := fun h => perm_at hp (i := k) h
 refine dEa fL1 ?_
 all_goals try (refine zlf ?_; repeat' first | exact zso | refine And.intro ?_ ?_ | (refine zim ?_; intro zb hc) | (refine zin ?_; intro zb) | intro j')
 all_goals try refine zbx ?_
 ·focus
   refine q_lp_n ((fun (k : Nat) => p.length - k) (k+1)) (dC fL1 ?_) ⟨k+1, dC fL1 ?_⟩
   all_goals try (refine zlf ?_; repeat' first | exact zso | refine And.intro ?_ ?_ | (refine zim ?_; intro zb hc) | (refine zin ?_; intro zb) | intro j')
   all_goals try refine zbx ?_
  all_goals first | (rw [invL_len, invL_len]; done) | skip
 ·obtain rfl : k = p.length := by omega
  rfl
 ·exact invL_len.symm
/-- The k-th symmetry. -/
def s1L (p : List Int) (k : Nat) : List Int := if k % 2 = 1 then inv p else p
def s2L (p : List Int) (k : Nat) : List Int := if k / 2 % 2 = 1 then (s1L p k).reverse else s1L p k
def symL (p : List Int) (k : Nat) : List Int := if 4 ≤ k then cplL (s2L p k) else s2L p k
theorem inv_b {p : List Int} : ∀ {k : Nat}, k ≤ p.length → ∀ x ∈ invL p k, 0 ≤ x ∧ x ≤ p.length
 | 0, _, x, h => by have := List.eq_of_mem_replicate h; subst this; omega
 | k + 1, hk, x, h => by
  rw [invL] at h
  rcases List.mem_or_eq_of_mem_set h with h | rfl
  ·exact inv_b (by omega) x h
  ·omega
theorem s2L_b {p : List Int} {k : Nat} (h8 : p.length ≤ 8) (hp : permB p = true) : ∀ x ∈ s2L p k, 0 ≤ x ∧ x ≤ 1048576 := by
 have h1 : ∀ x ∈ s1L p k, 0 ≤ x ∧ x ≤ 1048576 := fun x hx => by
  unfold s1L at hx
  split at hx
  ·have := inv_b (Nat.le_refl _) x hx; omega
  ·have := (permB_iff.1 hp).1 x hx; omega
 intro x hx
 unfold s2L at hx
 split at hx
 ·exact h1 x (List.mem_reverse.1 hx)
 ·exact h1 x hx
theorem s1L_len {p : List Int} {k : Nat} : (s1L p k).length = p.length := by unfold s1L; split; exact inv_len; rfl
theorem s2L_len {p : List Int} {k : Nat} : (s2L p k).length = p.length := by unfold s2L; split; rw [List.length_reverse, s1L_len]; exact s1L_len
theorem symL_len {p : List Int} {k : Nat} : (symL p k).length = p.length := by unfold symL; split; rw [cplL_len, s2L_len]; exact s2L_len
theorem s2L_b' {p : List Int} {k : Nat} (h8 : p.length ≤ 8) (hp : permB p = true) {q : List Int} (h : q = s2L p k) : ∀ x ∈ q, 0 ≤ x ∧ x ≤ 1048576 := by subst h; exact s2L_b h8 hp
theorem inR_td {k : Nat} (h : k < 8) : inR .i64 ((k : Int).tdiv 2) := by
 show (-9223372036854775808 : Int) ≤ _ ∧ _ ≤ (9223372036854775807 : Int)
 rw [Int.tdiv_eq_ediv_of_nonneg (by omega)]; omega
theorem spec_l3Symmetry_c {m0 : Bool} (p : List Int) (k : Nat) (hk : k < 8) (h8 : p.length ≤ 8) (hp : permB p = true) : Fun Tryz.prog 54 [(.sl (.lent m0) (List.map (PV.int .i64) (p))), (.int .i64 (k))] [(.sl .own (List.map (PV.int .i64) (symL p k)))] := by
 refine fO sg0 [4] Tryz.func54 ?_
 have cE1 := @spec_l2Inverse_c; have cE2 := @spec_l3Reverse_c; have cE3 := @spec_l3Complement_c
 have i1 : (inv p).length = p.length := inv_len
 have i2 : List.take p.length (inv p) = inv p := List.take_of_length_le (by omega)
 by_cases a1 : k % 2 = 1
 ·have f1 : ((k : Int).tmod 2 = 1) = True := eq_true (by rw [Int.tmod_eq_emod_of_nonneg (by omega)]; omega)
  by_cases a2 : k / 2 % 2 = 1
  ·have f2 : (((k : Int).tdiv 2).tmod 2 = 1) = True := eq_true (by rw [Int.tdiv_eq_ediv_of_nonneg (by omega), Int.tmod_eq_emod_of_nonneg (by omega)]; omega)
   by_cases a3 : 4 ≤ k
   ·have f3 : (4 ≤ (k : Int)) = True := eq_true (by omega)
    have q2 : s2L p k = s2L p k := rfl
    conv at q2 => lhs; simp only [s2L, s1L, a1, a2, if_true, if_false]
    refine dEa (And.intro @f1 (And.intro @f2 (And.intro @f3 (And.intro @i1 @i2)))) ?_
    all_goals try (refine zlf ?_; repeat' first | exact zso | refine And.intro ?_ ?_ | (refine zim ?_; intro zb hc) | (refine zin ?_; intro zb) | intro j')
    all_goals try refine zbx ?_
    all_goals first | exact s2L_b' h8 hp q2 | (simp only [List.length_reverse, i1]; omega) | (simp only [symL, s2L, s1L, a1, a2, a3, if_true, if_false]; done) | exact hp | exact inR_td hk | skip
   ·have f3 : (4 ≤ (k : Int)) = False := eq_false (by omega)
    have q2 : s2L p k = s2L p k := rfl
    conv at q2 => lhs; simp only [s2L, s1L, a1, a2, if_true, if_false]
    refine dEa (And.intro @f1 (And.intro @f2 (And.intro @f3 (And.intro @i1 @i2)))) ?_
    all_goals try (refine zlf ?_; repeat' first | exact zso | refine And.intro ?_ ?_ | (refine zim ?_; intro zb hc) | (refine zin ?_; intro zb) | intro j')
    all_goals try refine zbx ?_
    all_goals first | exact s2L_b' h8 hp q2 | (simp only [List.length_reverse, i1]; omega) | (simp only [symL, s2L, s1L, a1, a2, a3, if_true, if_false]; done) | exact hp | exact inR_td hk | skip
  ·have f2 : (((k : Int).tdiv 2).tmod 2 = 1) = False := eq_false (by rw [Int.tdiv_eq_ediv_of_nonneg (by omega), Int.tmod_eq_emod_of_nonneg (by omega)]; omega)
   by_cases a3 : 4 ≤ k
   ·have f3 : (4 ≤ (k : Int)) = True := eq_true (by omega)
    have q2 : s2L p k = s2L p k := rfl
    conv at q2 => lhs; simp only [s2L, s1L, a1, a2, if_true, if_false]
    refine dEa (And.intro @f1 (And.intro @f2 (And.intro @f3 (And.intro @i1 @i2)))) ?_
    all_goals try (refine zlf ?_; repeat' first | exact zso | refine And.intro ?_ ?_ | (refine zim ?_; intro zb hc) | (refine zin ?_; intro zb) | intro j')
    all_goals try refine zbx ?_
    all_goals first | exact s2L_b' h8 hp q2 | (simp only [List.length_reverse, i1]; omega) | (simp only [symL, s2L, s1L, a1, a2, a3, if_true, if_false]; done) | exact hp | exact inR_td hk | skip
   ·have f3 : (4 ≤ (k : Int)) = False := eq_false (by omega)
    have q2 : s2L p k = s2L p k := rfl
    conv at q2 => lhs; simp only [s2L, s1L, a1, a2, if_true, if_false]
    refine dEa (And.intro @f1 (And.intro @f2 (And.intro @f3 (And.intro @i1 @i2)))) ?_
    all_goals try (refine zlf ?_; repeat' first | exact zso | refine And.intro ?_ ?_ | (refine zim ?_; intro zb hc) | (refine zin ?_; intro zb) | intro j')
    all_goals try refine zbx ?_
    all_goals first | exact s2L_b' h8 hp q2 | (simp only [List.length_reverse, i1]; omega) | (simp only [symL, s2L, s1L, a1, a2, a3, if_true, if_false]; done) | exact hp | exact inR_td hk | skip
 ·have f1 : ((k : Int).tmod 2 = 1) = False := eq_false (by rw [Int.tmod_eq_emod_of_nonneg (by omega)]; omega)
  by_cases a2 : k / 2 % 2 = 1
  ·have f2 : (((k : Int).tdiv 2).tmod 2 = 1) = True := eq_true (by rw [Int.tdiv_eq_ediv_of_nonneg (by omega), Int.tmod_eq_emod_of_nonneg (by omega)]; omega)
   by_cases a3 : 4 ≤ k
   ·have f3 : (4 ≤ (k : Int)) = True := eq_true (by omega)
    have q2 : s2L p k = s2L p k := rfl
    conv at q2 => lhs; simp only [s2L, s1L, a1, a2, if_true, if_false]
    refine dEa (And.intro @f1 (And.intro @f2 (And.intro @f3 (And.intro @i1 @i2)))) ?_
    all_goals try (refine zlf ?_; repeat' first | exact zso | refine And.intro ?_ ?_ | (refine zim ?_; intro zb hc) | (refine zin ?_; intro zb) | intro j')
    all_goals try refine zbx ?_
    all_goals first | exact s2L_b' h8 hp q2 | (simp only [List.length_reverse, i1]; omega) | (simp only [symL, s2L, s1L, a1, a2, a3, if_true, if_false]; done) | exact hp | exact inR_td hk | skip
   ·have f3 : (4 ≤ (k : Int)) = False := eq_false (by omega)
    have q2 : s2L p k = s2L p k := rfl
    conv at q2 => lhs; simp only [s2L, s1L, a1, a2, if_true, if_false]
    refine dEa (And.intro @f1 (And.intro @f2 (And.intro @f3 (And.intro @i1 @i2)))) ?_
    all_goals try (refine zlf ?_; repeat' first | exact zso | refine And.intro ?_ ?_ | (refine zim ?_; intro zb hc) | (refine zin ?_; intro zb) | intro j')
    all_goals try refine zbx ?_
    all_goals first | exact s2L_b' h8 hp q2 | (simp only [List.length_reverse, i1]; omega) | (simp only [symL, s2L, s1L, a1, a2, a3, if_true, if_false]; done) | exact hp | exact inR_td hk | skip
  ·have f2 : (((k : Int).tdiv 2).tmod 2 = 1) = False := eq_false (by rw [Int.tdiv_eq_ediv_of_nonneg (by omega), Int.tmod_eq_emod_of_nonneg (by omega)]; omega)
   by_cases a3 : 4 ≤ k
   ·have f3 : (4 ≤ (k : Int)) = True := eq_true (by omega)
    have q2 : s2L p k = s2L p k := rfl
    conv at q2 => lhs; simp only [s2L, s1L, a1, a2, if_true, if_false]
    refine dEa (And.intro @f1 (And.intro @f2 (And.intro @f3 (And.intro @i1 @i2)))) ?_
    all_goals try (refine zlf ?_; repeat' first | exact zso | refine And.intro ?_ ?_ | (refine zim ?_; intro zb hc) | (refine zin ?_; intro zb) | intro j')
    all_goals try refine zbx ?_
    all_goals first | exact s2L_b' h8 hp q2 | (simp only [List.length_reverse, i1]; omega) | (simp only [symL, s2L, s1L, a1, a2, a3, if_true, if_false]; done) | exact hp | exact inR_td hk | skip
   ·have f3 : (4 ≤ (k : Int)) = False := eq_false (by omega)
    have q2 : s2L p k = s2L p k := rfl
    conv at q2 => lhs; simp only [s2L, s1L, a1, a2, if_true, if_false]
    refine dEa (And.intro @f1 (And.intro @f2 (And.intro @f3 (And.intro @i1 @i2)))) ?_
    all_goals try (refine zlf ?_; repeat' first | exact zso | refine And.intro ?_ ?_ | (refine zim ?_; intro zb hc) | (refine zin ?_; intro zb) | intro j')
    all_goals try refine zbx ?_
    all_goals first | exact s2L_b' h8 hp q2 | (simp only [List.length_reverse, i1]; omega) | (simp only [symL, s2L, s1L, a1, a2, a3, if_true, if_false]; done) | exact hp | exact inR_td hk | skip
def sycL (p : List Int) : List (List Int) := if isPermB p then putL ((List.range 8).map (symL p)) else []
theorem sycL_len {p : List Int} : (sycL p).length ≤ 8 := by
 unfold sycL; split
 ·have := putL_len (L := (List.range 8).map (symL p)); rw [List.length_map, List.length_range] at this; exact this
 ·simp
theorem sycL_lens {p : List Int} (hp : p.length ≤ 1048576) : ∀ l ∈ sycL p, l.length ≤ 1048576 := by
 unfold sycL; split
 ·refine put_lens fun l hl => ?_
  obtain ⟨k, _, rfl⟩ := List.mem_map.1 hl
  rw [symL_len]; exact hp
 ·intro l hl; cases hl
def sgSyC : FuncId → List Bool := fun f => if f = 53 then [true] else []
theorem sgSyC_eq {f : FuncId} : sgSyC f = if f = 53 then [true] else [] := _root_.id rfl
theorem way_sgSyC : wayE sgSyC = false ∧ wayN sgSyC = false ∧ wayS sgSyC = false ∧ wayZ sgSyC = false ∧ wayM sgSyC = false := ⟨rfl, rfl, rfl, rfl, rfl⟩
attribute [go_sem] sgSyC_eq way_sgSyC
theorem spec_SymmetryClass_c {m0 : Bool} (p : List Int) (hl : p.length ≤ 1048576) (hp : isPermB p = true) : Fun Tryz.prog 26 [(.sl (.lent m0) (List.map (PV.int .i64) (p)))] [(.sl .own (List.map (elI false) (sycL p)))] := by
 refine fO sgSyC [2] Tryz.func26 ?_
 have cE1 := @spec_IsPerm_c; have cE2 := @spec_l3Symmetry_c; have cM1 := @spec_l3Put_c
 obtain ⟨h8, hq⟩ := isP_8 hp
 refine dEa @hp ?_
 all_goals try (refine zlf ?_; repeat' first | exact zso | refine And.intro ?_ ?_ | (refine zim ?_; intro zb hc) | (refine zin ?_; intro zb) | intro j')
 all_goals try refine zbx ?_
 refine v_loopB (fun ms1 S1 => ∃ (k : Nat), S1.e 0 = .p (.sl (.lent m0) (List.map (PV.int .i64) (p))) ∧ OwnL (S1.e 3) S1.h S1.n (elI false) ((putL ((List.range k).map (symL p))).length) (putL ((List.range k).map (symL p))) ∧ S1.e 4 = .p (.int .i64 (k)) ∧ (k ≤ 8) ∧ ms1 = 8 - k) ((fun (k : Nat) => 8 - k) (0)) ?_ ⟨0, dC trivial ?_⟩
 all_goals try (refine zlf ?_; repeat' first | exact zso | refine And.intro ?_ ?_ | (refine zim ?_; intro zb hc) | (refine zin ?_; intro zb) | intro j')
 all_goals try refine zbx ?_
 rintro ms1 S1 ⟨k, h1_0, o1_3, h1_4, c1_0, hm1⟩
 obtain ⟨i1_3, h1_3, b1_3, l1_3⟩ := o1_3.out
 have ni1_3 := znds (x := i1_3) (n := S1.n)
 have fL1 := (And.intro h1_0 (And.intro h1_4 (And.intro h1_3 (And.intro b1_3 ni1_3))))
 ·have b1 := putL_len (L := (List.range k).map (symL p))
  rw [List.length_map, List.length_range] at b1
  refine dEa (And.intro fL1 @hp) ?_
  all_goals try (refine zlf ?_; repeat' first | exact zso | refine And.intro ?_ ?_ | (refine zim ?_; intro zb hc) | (refine zin ?_; intro zb) | intro j')
  all_goals try refine zbx ?_
  ·refine put_lens fun l h => ?_
   obtain ⟨k, _, rfl⟩ := List.mem_map.1 h
   rw [symL_len]; exact hl
  ·rw [symL_len]; exact hl
  ·focus
    refine q_lp_n ((fun (k : Nat) => 8 - k) (k+1)) (dC fL1 ?_) ⟨k+1, dC fL1 ?_⟩
    all_goals try (refine zlf ?_; repeat' first | exact zso | refine And.intro ?_ ?_ | (refine zim ?_; intro zb hc) | (refine zin ?_; intro zb) | intro j')
    all_goals try refine zbx ?_
   all_goals rw [← List.range_succ, putL_snoc]
  ·obtain rfl : k = 8 := by omega
   rw [sycL, if_pos hp]
def sgX : FuncId → List Bool := fun f => if f = 4294967296 then [true] else []
theorem wayE_sgX : wayE sgX = true := _root_.id rfl
theorem wayN_sgX : wayN sgX = false := _root_.id rfl
theorem wayS_sgX : wayS sgX = false := _root_.id rfl
theorem wayZ_sgX : wayZ sgX = false := _root_.id rfl
theorem wayM_sgX : wayM sgX = false := _root_.id rfl
attribute [local go_sem] wayN_sgX wayS_sgX wayZ_sgX wayM_sgX
attribute [local go_sem] wayE_sgX
theorem slices_Delete_c (l : List Int) (i j : Int) (h0 : 0 ≤ i) (h1 : i ≤ j) (h2 : j ≤ l.length) (hl : l.length ≤ 1099511627776) :
  CallT Tryz.prog true 92 [.mu false (List.map (PV.int .i64) l), .pv (.int .i64 i), .pv (.int .i64 j)] [none, none, none] [.sl .own (List.map (PV.int .i64) (l.take i.toNat ++ l.drop j.toNat))] := by
 have e1 : List.take (l.length - j.toNat) (List.drop j.toNat l) = List.drop j.toNat l := List.take_of_length_le (by simp)
 have e2 : List.take l.length l = l := List.take_length
 by_cases hij : i = j
 ·subst hij
  refine CallT.of (sg := sgX) (ts := [6]) mo Tryz.func92 rfl rfl rfl rfl (by kernel_rfl) (by simp only [noRoL, noRo, Bool.and_true]; exact nrL_int) rfl rfl ?_
  have cD1 := zdh [false, false, false, false, false, false, true, false] []
  refine dTa (And.intro @e1 @e2) ?_
  all_goals try (refine zlf ?_; repeat' first | exact zso | refine And.intro ?_ ?_ | (refine zim ?_; intro zb hc) | (refine zin ?_; intro zb) | intro j')
  all_goals try refine zbx ?_
  rw [List.take_append_drop]
 ·have f0 : (i = j) = False := eq_false hij
  have f1 : (i.toNat = l.length) = False := eq_false (by omega)
  have f2 : (i.toNat + (List.drop j.toNat l).length ≤ l.length) = True := eq_true (by simp; omega)
  refine CallT.of (sg := sgX) (ts := [6]) mo Tryz.func92 rfl rfl rfl rfl (by kernel_rfl) (by simp only [noRoL, noRo, Bool.and_true]; exact nrL_int) rfl rfl ?_
  have cD1 := zdh [false, false, false, false, false, false, true, false] []
  refine dTa (And.intro @e1 (And.intro @e2 (And.intro @f0 (And.intro @f1 @f2)))) ?_
  all_goals try (refine zlf ?_; repeat' first | exact zso | refine And.intro ?_ ?_ | (refine zim ?_; intro zb hc) | (refine zin ?_; intro zb) | intro j')
  all_goals try refine zbx ?_
  try refine mp_eq ?_
  have hA : (List.take i.toNat l ++ List.drop j.toNat l).length = i.toNat + (List.drop j.toNat l).length := by simp; omega
  rw [List.take_append_of_le_length (by simp; omega), List.take_take, Nat.min_self, ← List.append_assoc, List.take_append_of_le_length (by omega), List.take_of_length_le (by omega)]
end Go.Gl
namespace Go.Gl
open Go Go.Proofs
variable [Amb] [NoQ]
theorem fil_snoc {p : List Int → Bool} {L : List (List Int)} {j : Nat} (h : j < L.length) : (L.take (j + 1)).filter p = (L.take j).filter p ++ if p (L.getD j []) = true then [L.getD j []] else [] := by
 rw [take_getD (d := []) h, List.filter_append, List.filter_cons]
 cases p (L.getD j []) <;> rfl
theorem fil_len {p : List Int → Bool} {L : List (List Int)} {j : Nat} (h : j ≤ L.length) : ((L.take j).filter p).length ≤ j := by
 have := List.length_filter_le p (L.take j)
 rw [List.length_take] at this; omega
def kpL (p : List Int → Bool) (L : List (List Int)) : List (List Int) := L.filter fun x => !p x
def sgD0x : FuncId → List Bool := fun f => []
theorem sgD0x_eq {f : FuncId} : sgD0x f = [] := _root_.id rfl
theorem way_sgD0x : wayE sgD0x = false ∧ wayN sgD0x = false ∧ wayS sgD0x = false ∧ wayZ sgD0x = false ∧ wayM sgD0x = false := ⟨rfl, rfl, rfl, rfl, rfl⟩
attribute [go_sem] sgD0x_eq way_sgD0x
theorem slices_DeleteFunc_LLint_int_fr_c (L : List (List Int)) (g : FuncId) (caps : List PV) (p : List Int → Bool) (hl : L.length ≤ 1099511627776) (hp : ∀ x ∈ L, Fun Tryz.prog g (.sl (.lent false) (List.map (PV.int .i64) x) :: caps.map PV.cell) [.bool (p x)]) : CallT Tryz.prog true 62 [.mu false (List.map (elI false) (L)), .pv (.fn g [] caps)] [none, none] [(.sl .own (List.map (elI false) (kpL p L)))] := by
 refine fX sgD0x [4] Tryz.func62 ?_
 have cE1 := @slices_IndexFunc_LLint_int_c
 rcases idxG_spec (p := p) (d := []) (l := L) (i := 0) with ⟨h1, h2⟩ | ⟨k0, h1, h2, h3, h4⟩
 ·have e1 : kpL p L = L := List.filter_eq_self.2 fun x hx => by rw [h2 x hx]; rfl
  have cE1 := (fun m0 => slices_IndexFunc_LLint_int_c (m0 := m0) L g caps p hl hp); have cE2 := @slices_IndexFunc_LLint_int_c
  refine dTa @h1 ?_
  all_goals try (refine zlf ?_; repeat' first | exact zso | refine And.intro ?_ ?_ | (refine zim ?_; intro zb hc) | (refine zin ?_; intro zb) | intro j')
  all_goals try refine zbx ?_
  exact e1.symm
 ·have cE1 := (fun m0 => slices_IndexFunc_LLint_int_c (m0 := m0) L g caps p hl hp)
  refine dTa @h2 ?_
  all_goals try (refine zlf ?_; repeat' first | exact zso | refine And.intro ?_ ?_ | (refine zim ?_; intro zb hc) | (refine zin ?_; intro zb) | intro j')
  all_goals try refine zbx ?_
  have e0 : kpL p (L.take (k0 + 1)) = L.take k0 := by
   rw [kpL, fil_snoc (by omega), h3]
   simp only [Bool.not_true, Bool.false_eq_true, if_false, List.append_nil]
   exact List.filter_eq_self.2 fun x hx => by
    obtain ⟨i, hi, _, rfl⟩ := take_mem hx
    rw [h4 i hi]; rfl
  have e9 : (L.take k0).length = k0 := by simp; omega
  refine v_loopB (fun ms1 S1 => ∃ (j : Nat) (Y : List (List Int)), S1.e 0 = .ref 0 0 (Y).length ∧ S1.h 0 = .live true (List.map (elI false) (Y)) ∧ 0 < S1.n ∧ S1.e 1 = .p (.fn g [] caps) ∧ S1.e 5 = .p (.int .i64 ((kpL p (L.take j)).length)) ∧ S1.e 6 = .p (.int .i64 (j)) ∧ (Y.length = L.length) ∧ (j ≤ L.length) ∧ (k0 < j) ∧ (Y.take (kpL p (L.take j)).length = kpL p (L.take j)) ∧ ((kpL p (L.take j)).length < j) ∧ (∀ q, j ≤ q → q < L.length → Y.getD q [] = L.getD q []) ∧ ms1 = L.length - j) ((fun (j : Nat) (Y : List (List Int)) => L.length - j) (k0 + 1) (L)) ?_ ⟨k0 + 1, L, dC trivial ?_⟩
  all_goals try (refine zlf ?_; repeat' first | exact zso | refine And.intro ?_ ?_ | (refine zim ?_; intro zb hc) | (refine zin ?_; intro zb) | intro j')
  all_goals try refine zbx ?_
  rintro ms1 S1 ⟨j, Y, h1_0, b1_0, l1_0, h1_1, h1_5, h1_6, c1_0, c1_1, c1_2, c1_3, c1_4, c1_5, hm1⟩
  have n0 := znds (x := 0) (n := S1.n)
  have fL1 := (And.intro h1_0 (And.intro b1_0 (And.intro h1_1 (And.intro h1_5 (And.intro h1_6 n0)))))
  by_cases hj : j < L.length
  ·have f1 := c1_5 j (Nat.le_refl _) hj
   have cE1 := @hp
   refine dTa (And.intro fL1 (And.intro @f1 @c1_0)) ?_
   all_goals try (refine zlf ?_; repeat' first | exact zso | refine And.intro ?_ ?_ | (refine zim ?_; intro zb hc) | (refine zin ?_; intro zb) | intro j')
   all_goals try refine zbx ?_
   ·exact getD_mem hj
   ·have s1 : kpL p (L.take (j + 1)) = kpL p (L.take j) ++ [L.getD j []] := by rw [kpL, fil_snoc hj, hc]; rfl
    have s2 : (kpL p (L.take (j + 1))).length = (kpL p (L.take j)).length + 1 := by rw [s1, List.length_append]; rfl
    focus
     refine q_lp_n ((fun (j : Nat) (Y : List (List Int)) => L.length - j) (j+1) (Y.set (kpL p (L.take j)).length (L.getD j []))) (dC fL1 ?_) ⟨j+1, Y.set (kpL p (L.take j)).length (L.getD j []), dC fL1 ?_⟩
     all_goals try (refine zlf ?_; repeat' first | exact zso | refine And.intro ?_ ?_ | (refine zim ?_; intro zb hc) | (refine zin ?_; intro zb) | intro j')
     all_goals try refine zbx ?_
    all_goals first | (rw [s2, set_take' (by omega), c1_3, s1]; done) | (rw [s2]; done) | (rw [s2]; simp; done) | omega | (intro q h5 h6; rw [List.getD_eq_getElem?_getD, List.getElem?_set_ne (by omega), ← List.getD_eq_getElem?_getD]; exact c1_5 q (by omega) h6) | skip
   ·have s1 : kpL p (L.take (j + 1)) = kpL p (L.take j) := by rw [kpL, fil_snoc hj, hc]; simp [kpL]
    focus
     refine q_lp_n ((fun (j : Nat) (Y : List (List Int)) => L.length - j) (j+1) (Y)) (dC fL1 ?_) ⟨j+1, Y, dC fL1 ?_⟩
     all_goals try (refine zlf ?_; repeat' first | exact zso | refine And.intro ?_ ?_ | (refine zim ?_; intro zb hc) | (refine zin ?_; intro zb) | intro j')
     all_goals try refine zbx ?_
    all_goals first | (rw [s1]; done) | (rw [s1]; exact c1_3) | (rw [s1]; omega) | (intro q h5 h6; exact c1_5 q (by omega) h6) | skip
  ·have cE1 := @hp
   refine dTa (And.intro fL1 @c1_0) ?_
   all_goals try (refine zlf ?_; repeat' first | exact zso | refine And.intro ?_ ?_ | (refine zim ?_; intro zb hc) | (refine zin ?_; intro zb) | intro j')
   all_goals try refine zbx ?_
   have g2 : (kpL p (L.take j)).length ≤ (List.take (kpL p (L.take j)).length Y).length := by rw [List.length_take]; omega
   rw [List.take_append_of_le_length g2, List.take_take, Nat.min_self, c1_3, List.take_of_length_le (by omega)]
  ·rw [e0, e9]; omega
  ·rw [e0, e9]
  ·rw [e0, e9]; omega
/-- What is below. -/
def woL (p : List Int) (k : Nat) : List Int := patL (p.take k ++ p.drop (k + 1))
def lowL (p : List Int) : List (List Int) := putL ((List.range p.length).map (woL p))
theorem woL_len {p : List Int} {k : Nat} (h : k < p.length) : (woL p k).length = p.length - 1 := by
 rw [woL, patL_len]; simp; omega
theorem woL_perm {p : List Int} (hp : permB p = true) {k : Nat} : permB (woL p k) = true := by
 refine patL_perm ?_
 have h := (permB_iff.1 hp).2
 refine List.Nodup.sublist ?_ h
 calc List.Sublist (p.take k ++ p.drop (k + 1)) (p.take k ++ p.drop k) := List.Sublist.append (List.Sublist.refl _) (by rw [← List.drop_drop]; exact List.drop_sublist _ _)
  _ = p := List.take_append_drop k p
theorem low_mem {p : List Int} {l : List Int} (h : l ∈ lowL p) : ∃ k, k < p.length ∧ l = woL p k := by
 rw [lowL, putL, put_mem] at h
 rcases h with h | h
 ·obtain ⟨k, hk, rfl⟩ := List.mem_map.1 h
  exact ⟨k, by simpa using hk, rfl⟩
 ·cases h
theorem lowL_len {p : List Int} : (lowL p).length ≤ p.length := by
 have := put_len ((List.range p.length).map (woL p)) (A := [])
 rw [List.length_nil, Nat.add_zero, List.length_map, List.length_range] at this; exact this
def sgWo : FuncId → List Bool := fun f => if f = 92 then [true] else []
theorem sgWo_eq {f : FuncId} : sgWo f = if f = 92 then [true] else [] := _root_.id rfl
theorem way_sgWo : wayE sgWo = false ∧ wayN sgWo = false ∧ wayS sgWo = false ∧ wayZ sgWo = false ∧ wayM sgWo = false := ⟨rfl, rfl, rfl, rfl, rfl⟩
attribute [go_sem] sgWo_eq way_sgWo
theorem impl_without_c {m0 : Bool} (p : List Int) (k : Nat) (hk : k < p.length) (h8 : p.length ≤ 8) : Fun Tryz.prog 64 [(.sl (.lent m0) (List.map (PV.int .i64) (p))), (.int .i64 (k))] [(.sl .own (List.map (PV.int .i64) (woL p k)))] := by
 refine fO sgWo [4] Tryz.func64 ?_
 have cE1 := @slices_Clone_c; have cE2 := @impl_pattern_c
 have e1 : ((k : Int) + 1).toNat = k + 1 := by omega
 have cM1 := @slices_Delete_c
 refine dEa @e1 ?_
 all_goals try (refine zlf ?_; repeat' first | exact zso | refine And.intro ?_ ?_ | (refine zim ?_; intro zb hc) | (refine zin ?_; intro zb) | intro j')
 all_goals try refine zbx ?_
 all_goals first | rfl | (simp; omega) | skip
theorem spec_l7Without_c {m0 : Bool} (p : List Int) (k : Nat) (hk : k < p.length) (h8 : p.length ≤ 8) : Fun Tryz.prog 74 [(.sl (.lent m0) (List.map (PV.int .i64) (p))), (.int .i64 (k))] [(.sl .own (List.map (PV.int .i64) (woL p k)))] := by
 refine fO sg0 [4] Tryz.func74 ?_
 have cE1 := @spec_l2Pattern_c; have cD1 := zdh [true, false, false, false, true, false, false, false, false, true, true, false] [(0, 1), (0, 2), (0, 3), (0, 5), (4, 5), (0, 6), (4, 6), (0, 7), (4, 7), (0, 8), (4, 8)]
 have e1 : ((k : Int) + 1).toNat = k + 1 := by omega
 have e2 : (p.take k).length + (p.drop (k + 1)).length = (p.take k ++ p.drop (k + 1)).length := by simp
 have e3 : (p.take k ++ p.drop (k + 1)).length ≤ 8 := by simp; omega
 have e4 : List.take ((p.take k).length + (p.drop (k + 1)).length) (p.take k ++ p.drop (k + 1)) = p.take k ++ p.drop (k + 1) := List.take_of_length_le (by omega)
 have e5 : (p.take k).length ≤ 8 := by simp; omega
 refine dEa (And.intro @e1 @e4) ?_
 all_goals try (refine zlf ?_; repeat' first | exact zso | refine And.intro ?_ ?_ | (refine zim ?_; intro zb hc) | (refine zin ?_; intro zb) | intro j')
 all_goals try refine zbx ?_
 rfl
theorem woL_b {p : List Int} (hp : permB p = true) (h8 : p.length ≤ 8) {k : Nat} : ∀ x ∈ woL p k, 0 ≤ x ∧ x ≤ 1048576 := fun x hx => by
 have h1 := (permB_iff.1 (woL_perm hp (k := k))).1 x hx
 have h2 : (woL p k).length ≤ p.length + p.length := by rw [woL, patL_len]; simp; omega
 omega
theorem low_facts {p : List Int} (hp : permB p = true) (h8 : p.length ≤ 8) {l : List Int} (h : l ∈ lowL p) : l.length ≤ 8 ∧ isPermB l = true ∧ ∀ x ∈ l, 0 ≤ x ∧ x ≤ 1048576 := by
 obtain ⟨k, hk, rfl⟩ := low_mem h
 have h1 := woL_len hk
 refine ⟨by omega, ?_, woL_b hp h8⟩
 simp only [isPermB, woL_perm hp, Bool.and_true, decide_eq_true_eq]; omega
theorem impl_lowers_c {m0 : Bool} (p : List Int) (h8 : p.length ≤ 8) : Fun Tryz.prog 37 [(.sl (.lent m0) (List.map (PV.int .i64) (p)))] [(.sl .own (List.map (elI false) (lowL p)))] := by
 refine fO sg0 [2] Tryz.func37 ?_
 have cE1 := @impl_without_c; have cE2 := @impl_ordered_c
 have q1 : ∀ {k : Nat}, ∀ l ∈ (List.range k).map (woL p), l.length ≤ 1048576 := fun {k} l h => by
  obtain ⟨j, _, rfl⟩ := List.mem_map.1 h
  rw [woL, patL_len]; simp; omega
 refine dEa trivial ?_
 all_goals try (refine zlf ?_; repeat' first | exact zso | refine And.intro ?_ ?_ | (refine zim ?_; intro zb hc) | (refine zin ?_; intro zb) | intro j')
 all_goals try refine zbx ?_
 refine v_loopB (fun ms1 S1 => ∃ (k : Nat), S1.e 0 = .p (.sl (.lent m0) (List.map (PV.int .i64) (p))) ∧ OwnL (S1.e 3) S1.h S1.n (elI false) (((List.range k).map (woL p)).length) ((List.range k).map (woL p)) ∧ S1.e 7 = .p (.int .i64 (p.length)) ∧ S1.e 8 = .p (.int .i64 (k)) ∧ (k ≤ p.length) ∧ ms1 = p.length - k) ((fun (k : Nat) => p.length - k) (0)) ?_ ⟨0, dC trivial ?_⟩
 all_goals try (refine zlf ?_; repeat' first | exact zso | refine And.intro ?_ ?_ | (refine zim ?_; intro zb hc) | (refine zin ?_; intro zb) | intro j')
 all_goals try refine zbx ?_
 rintro ms1 S1 ⟨k, h1_0, o1_3, h1_7, h1_8, c1_0, hm1⟩
 obtain ⟨i1_3, h1_3, b1_3, l1_3⟩ := o1_3.out
 have ni1_3 := znds (x := i1_3) (n := S1.n)
 have fL1 := (And.intro h1_0 (And.intro h1_7 (And.intro h1_8 (And.intro h1_3 (And.intro b1_3 ni1_3)))))
 ·have b1 : ((List.range k).map (woL p)).length = k := by simp
  have b2 : (List.range k).take k = List.range k := List.take_of_length_le (by simp)
  refine dEa fL1 ?_
  all_goals try (refine zlf ?_; repeat' first | exact zso | refine And.intro ?_ ?_ | (refine zim ?_; intro zb hc) | (refine zin ?_; intro zb) | intro j')
  all_goals try refine zbx ?_
  ·focus
    refine q_lp_n ((fun (k : Nat) => p.length - k) (k+1)) (dC fL1 ?_) ⟨k+1, dC fL1 ?_⟩
    all_goals try (refine zlf ?_; repeat' first | exact zso | refine And.intro ?_ ?_ | (refine zim ?_; intro zb hc) | (refine zin ?_; intro zb) | intro j')
    all_goals try refine zbx ?_
   ·simp
   ·rw [List.map_append]; rfl
  ·rw [b2]; exact q1
  ·obtain rfl : k = p.length := by omega
   rw [b2, lowL]
def sgLow : FuncId → List Bool := fun f => if f = 53 then [true] else []
theorem sgLow_eq {f : FuncId} : sgLow f = if f = 53 then [true] else [] := _root_.id rfl
theorem way_sgLow : wayE sgLow = false ∧ wayN sgLow = false ∧ wayS sgLow = false ∧ wayZ sgLow = false ∧ wayM sgLow = false := ⟨rfl, rfl, rfl, rfl, rfl⟩
attribute [go_sem] sgLow_eq way_sgLow
theorem spec_LowersOf_c {m0 : Bool} (p : List Int) (hl : p.length ≤ 1048576) (hp : isPermB p = true) : Fun Tryz.prog 46 [(.sl (.lent m0) (List.map (PV.int .i64) (p)))] [(.sl .own (List.map (elI false) (lowL p)))] := by
 refine fO sgLow [2] Tryz.func46 ?_
 have cE1 := @spec_IsPerm_c; have cE2 := @spec_l7Without_c; have cM1 := @spec_l3Put_c
 obtain ⟨h8, hq⟩ := isP_8 hp
 have q1 : ∀ {k : Nat}, ∀ l ∈ putL ((List.range k).map (woL p)), l.length ≤ 1048576 := fun {k} => put_lens fun l h => by
  obtain ⟨j, _, rfl⟩ := List.mem_map.1 h
  rw [woL, patL_len]; simp; omega
 have q2 : ∀ {k : Nat}, (woL p k).length ≤ 1048576 := fun {k} => by rw [woL, patL_len]; simp; omega
 refine dEa @hp ?_
 all_goals try (refine zlf ?_; repeat' first | exact zso | refine And.intro ?_ ?_ | (refine zim ?_; intro zb hc) | (refine zin ?_; intro zb) | intro j')
 all_goals try refine zbx ?_
 refine v_loopB (fun ms1 S1 => ∃ (k : Nat), S1.e 0 = .p (.sl (.lent m0) (List.map (PV.int .i64) (p))) ∧ OwnL (S1.e 3) S1.h S1.n (elI false) ((putL ((List.range k).map (woL p))).length) (putL ((List.range k).map (woL p))) ∧ S1.e 4 = .p (.int .i64 (k)) ∧ (k ≤ p.length) ∧ ms1 = p.length - k) ((fun (k : Nat) => p.length - k) (0)) ?_ ⟨0, dC trivial ?_⟩
 all_goals try (refine zlf ?_; repeat' first | exact zso | refine And.intro ?_ ?_ | (refine zim ?_; intro zb hc) | (refine zin ?_; intro zb) | intro j')
 all_goals try refine zbx ?_
 rintro ms1 S1 ⟨k, h1_0, o1_3, h1_4, c1_0, hm1⟩
 obtain ⟨i1_3, h1_3, b1_3, l1_3⟩ := o1_3.out
 have ni1_3 := znds (x := i1_3) (n := S1.n)
 have fL1 := (And.intro h1_0 (And.intro h1_4 (And.intro h1_3 (And.intro b1_3 ni1_3))))
 ·have b1 := putL_len (L := (List.range k).map (woL p))
  rw [List.length_map, List.length_range] at b1
  refine dEa (And.intro fL1 @hp) ?_
  all_goals try (refine zlf ?_; repeat' first | exact zso | refine And.intro ?_ ?_ | (refine zim ?_; intro zb hc) | (refine zin ?_; intro zb) | intro j')
  all_goals try refine zbx ?_
  ·exact q1
  ·exact q2
  ·focus
    refine q_lp_n ((fun (k : Nat) => p.length - k) (k+1)) (dC fL1 ?_) ⟨k+1, dC fL1 ?_⟩
    all_goals try (refine zlf ?_; repeat' first | exact zso | refine And.intro ?_ ?_ | (refine zim ?_; intro zb hc) | (refine zin ?_; intro zb) | intro j')
    all_goals try refine zbx ?_
   all_goals rw [← List.range_succ, putL_snoc]
  ·obtain rfl : k = p.length := by omega
   rw [lowL]
theorem impl_IsSimple_c {m0 : Bool} (p : List Int) (hl : p.length ≤ 1048576) : Fun Tryz.prog 34 [(.sl (.lent m0) (List.map (PV.int .i64) (p)))] [(.bool ((isPermB p && isSimB p)))] := by
 refine fO sg0 [2] Tryz.func34 ?_
 have cE1 := @impl_IsPerm_c; have cE2 := @impl_isSimple_c
 by_cases hp : isPermB p = true
 ·have h8 := (isP_8 hp).1
  have hb := perm_bd hp
  refine dEa (And.intro @hp @Bool.true_and) ?_
  all_goals try (refine zlf ?_; repeat' first | exact zso | refine And.intro ?_ ?_ | (refine zim ?_; intro zb hc) | (refine zin ?_; intro zb) | intro j')
  all_goals try refine zbx ?_
  all_goals trace_state
 ·rw [Bool.not_eq_true] at hp
  refine dEa (And.intro @hp @Bool.false_and) ?_
  all_goals try (refine zlf ?_; repeat' first | exact zso | refine And.intro ?_ ?_ | (refine zim ?_; intro zb hc) | (refine zin ?_; intro zb) | intro j')
  all_goals try refine zbx ?_
  all_goals trace_state
theorem impl_simples_1_c {m0 : Bool} (p : List Int) (h8 : p.length ≤ 8) (hb : ∀ x ∈ p, 0 ≤ x ∧ x ≤ 1048576) : Fun Tryz.prog 63 [(.sl (.lent m0) (List.map (PV.int .i64) (p)))] [(.bool ((!(isSimB p))))] := by
 refine fO sg0 [2] Tryz.func63 ?_
 have cE1 := @impl_isSimple_c
 refine dEa trivial ?_
 all_goals try (refine zlf ?_; repeat' first | exact zso | refine And.intro ?_ ?_ | (refine zim ?_; intro zb hc) | (refine zin ?_; intro zb) | intro j')
 all_goals try refine zbx ?_
 all_goals trace_state
def sgSim : FuncId → List Bool := fun f => if f = 62 then [true] else []
theorem sgSim_eq {f : FuncId} : sgSim f = if f = 62 then [true] else [] := _root_.id rfl
theorem way_sgSim : wayE sgSim = false ∧ wayN sgSim = false ∧ wayS sgSim = false ∧ wayZ sgSim = false ∧ wayM sgSim = false := ⟨rfl, rfl, rfl, rfl, rfl⟩
attribute [go_sem] sgSim_eq way_sgSim
theorem impl_simples_c (L : List (List Int)) (hL : L.length ≤ 1099511627776) (hl : ∀ l ∈ L, l.length ≤ 8 ∧ ∀ x ∈ l, 0 ≤ x ∧ x ≤ 1048576) : CallT Tryz.prog true 36 [.mu false (List.map (elI false) (L))] [none] [(.sl .own (List.map (elI false) (L.filter isSimB)))] := by
 refine fX sgSim [2] Tryz.func36 ?_
 have cE1 := @impl_simples_1_c; have cM1 := @slices_DeleteFunc_LLint_int_fr_c
 have e1 : kpL (fun p => !isSimB p) L = L.filter isSimB := by rw [kpL]; congr 1; funext x; rw [Bool.not_not]
 have c1 := slices_DeleteFunc_LLint_int_fr_c L 63 [] (fun p => !isSimB p) hL (fun x hx => impl_simples_1_c (m0 := false) x (hl x hx).1 (hl x hx).2)
 rw [e1] at c1
 have cM2 := @c1
 refine dTa trivial ?_
 all_goals try (refine zlf ?_; repeat' first | exact zso | refine And.intro ?_ ?_ | (refine zim ?_; intro zb hc) | (refine zin ?_; intro zb) | intro j')
 all_goals try refine zbx ?_
 all_goals trace_state
def smpL (p : List Int) : List (List Int) := (lowL p).filter isSimB
def excB (p : List Int) : Bool := isPermB p && isSimB p && decide (4 ≤ p.length) && decide ((smpL p).length = 0)
def sgExc : FuncId → List Bool := fun f => if f = 36 then [true] else []
theorem sgExc_eq {f : FuncId} : sgExc f = if f = 36 then [true] else [] := _root_.id rfl
theorem way_sgExc : wayE sgExc = false ∧ wayN sgExc = false ∧ wayS sgExc = false ∧ wayZ sgExc = false ∧ wayM sgExc = false := ⟨rfl, rfl, rfl, rfl, rfl⟩
attribute [go_sem] sgExc_eq way_sgExc
theorem impl_IsExceptional_c {m0 : Bool} (p : List Int) (hl : p.length ≤ 1048576) : Fun Tryz.prog 16 [(.sl (.lent m0) (List.map (PV.int .i64) (p)))] [(.bool (excB p))] := by
 refine fO sgExc [2] Tryz.func16 ?_
 have cE1 := @impl_IsSimple_c; have cE2 := @impl_lowers_c; have cM1 := @impl_simples_c
 by_cases hp : isPermB p = true
 ·obtain ⟨h8, hq⟩ := isP_8 hp
  have b1 := lowL_len (p := p)
  have b2 : ∀ l ∈ lowL p, l.length ≤ 8 ∧ ∀ x ∈ l, 0 ≤ x ∧ x ≤ 1048576 := fun l h => ⟨(low_facts hq h8 h).1, (low_facts hq h8 h).2.2⟩
  refine dEa (And.intro @hp @Bool.true_and) ?_
  all_goals try (refine zlf ?_; repeat' first | exact zso | refine And.intro ?_ ?_ | (refine zim ?_; intro zb hc; repeat (have zc := zb.1; replace zb := zb.2)) | (refine zin ?_; intro zb) | intro j')
  all_goals try refine zbx ?_
  ·have h1 : isSimB p = true := by assumption
   rw [excB, hp, h1, decide_eq_true (by omega : 4 ≤ p.length), smpL]; simp
  ·rw [excB, decide_eq_false (by omega : ¬ 4 ≤ p.length)]; simp
  ·rw [excB, hc]; simp
 ·rw [Bool.not_eq_true] at hp
  refine dEa (And.intro @hp @Bool.false_and) ?_
  all_goals try (refine zlf ?_; repeat' first | exact zso | refine And.intro ?_ ?_ | (refine zim ?_; intro zb hc; repeat (have zc := zb.1; replace zb := zb.2)) | (refine zin ?_; intro zb) | intro j')
  all_goals try refine zbx ?_
  rw [excB, hp]; rfl
theorem spec_SimpleLowers_c {m0 : Bool} (p : List Int) (hl : p.length ≤ 1048576) (hp : isPermB p = true) : Fun Tryz.prog 19 [(.sl (.lent m0) (List.map (PV.int .i64) (p)))] [(.sl .own (List.map (elI false) (smpL p)))] := by
 refine fO sg0 [2] Tryz.func19 ?_
 have cE1 := @spec_LowersOf_c; have cE2 := @spec_IsSimple_c
 obtain ⟨h8, hq⟩ := isP_8 hp
 have b1 := lowL_len (p := p)
 refine dEa trivial ?_
 all_goals try (refine zlf ?_; repeat' first | exact zso | refine And.intro ?_ ?_ | (refine zim ?_; intro zb hc) | (refine zin ?_; intro zb) | intro j')
 all_goals try refine zbx ?_
 refine v_loopB (fun ms1 S1 => ∃ (k : Nat), S1.e 0 = .p (.sl (.lent m0) (List.map (PV.int .i64) (p))) ∧ OwnL (S1.e 3) S1.h S1.n (elI false) ((((lowL p).take k).filter isSimB).length) (((lowL p).take k).filter isSimB) ∧ OwnL (S1.e 4) S1.h S1.n (elI false) ((lowL p).length) (lowL p) ∧ S1.e 5 = .p (.int .i64 (k)) ∧ (k ≤ (lowL p).length) ∧ NId (S1.e 4) (S1.e 3) ∧ ms1 = (lowL p).length - k) ((fun (k : Nat) => (lowL p).length - k) (0)) ?_ ⟨0, dC trivial ?_⟩
 all_goals try (refine zlf ?_; repeat' first | exact zso | refine And.intro ?_ ?_ | (refine zim ?_; intro zb hc) | (refine zin ?_; intro zb) | intro j')
 all_goals try refine zbx ?_
 rintro ms1 S1 ⟨k, h1_0, o1_3, o1_4, h1_5, c1_0, u1_0, hm1⟩
 obtain ⟨i1_3, h1_3, b1_3, l1_3⟩ := o1_3.out
 obtain ⟨i1_4, h1_4, b1_4, l1_4⟩ := o1_4.out
 have k1_0 := (u1_0).out h1_4 h1_3
 have ni1_3 := znds (x := i1_3) (n := S1.n)
 have ni1_4 := znds (x := i1_4) (n := S1.n)
 have di1_3i1_4 := zdne (x := i1_3) (y := i1_4)
 have fL1 := (And.intro h1_0 (And.intro h1_5 (And.intro h1_3 (And.intro b1_3 (And.intro h1_4 (And.intro b1_4 (And.intro ni1_3 (And.intro ni1_4 di1_3i1_4))))))))
 ·have b2 := fil_len (p := isSimB) (L := lowL p) (j := k) (by omega)
  have b3 : k < (lowL p).length → _ := fun h => low_facts hq h8 (getD_mem (d := []) h)
  refine dEa fL1 ?_
  all_goals try (refine zlf ?_; repeat' first | exact zso | refine And.intro ?_ ?_ | (refine zim ?_; intro zb hc) | (refine zin ?_; intro zb) | intro j')
  all_goals try refine zbx ?_
  ·have d2 := (b3 (by omega)).2.1
   focus
    refine q_lp_n ((fun (k : Nat) => (lowL p).length - k) (k+1)) (dC fL1 ?_) ⟨k+1, dC fL1 ?_⟩
    all_goals try (refine zlf ?_; repeat' first | exact zso | refine And.intro ?_ ?_ | (refine zim ?_; intro zb hc) | (refine zin ?_; intro zb) | intro j')
    all_goals try refine zbx ?_
   all_goals rw [fil_snoc (by omega), hc.2]
   ·simp
   ·simp
  ·have d2 := (b3 (by omega)).2.1
   have d3 : isSimB ((lowL p).getD k []) = false := by rw [d2] at hc; simpa using hc
   focus
    refine q_lp_n ((fun (k : Nat) => (lowL p).length - k) (k+1)) (dC fL1 ?_) ⟨k+1, dC fL1 ?_⟩
    all_goals try (refine zlf ?_; repeat' first | exact zso | refine And.intro ?_ ?_ | (refine zim ?_; intro zb hc) | (refine zin ?_; intro zb) | intro j')
    all_goals try refine zbx ?_
   all_goals rw [fil_snoc (by omega), d3]
   all_goals simp
  ·rw [List.take_of_length_le (by omega), smpL]
theorem spec_IsExceptional_c {m0 : Bool} (p : List Int) (hl : p.length ≤ 1048576) : Fun Tryz.prog 17 [(.sl (.lent m0) (List.map (PV.int .i64) (p)))] [(.bool (excB p))] := by
 refine fO sg0 [2] Tryz.func17 ?_
 have cE1 := @spec_IsSimple_c; have cE2 := @spec_SimpleLowers_c
 by_cases hp : isPermB p = true
 ·refine dEa (And.intro @hp @Bool.true_and) ?_
  all_goals try (refine zlf ?_; repeat' first | exact zso | refine And.intro ?_ ?_ | (refine zim ?_; intro zb hc; repeat (have zc := zb.1; replace zb := zb.2)) | (refine zin ?_; intro zb) | intro j')
  all_goals try refine zbx ?_
  ·have h1 : isSimB p = true := by assumption
   rw [excB, hp, h1, decide_eq_true (by omega : 4 ≤ p.length)]; simp
  ·rw [excB, decide_eq_false (by omega : ¬ 4 ≤ p.length)]; simp
  ·rw [excB, hc]; simp
 ·rw [Bool.not_eq_true] at hp
  refine dEa (And.intro @hp @Bool.false_and) ?_
  all_goals try (refine zlf ?_; repeat' first | exact zso | refine And.intro ?_ ?_ | (refine zim ?_; intro zb hc; repeat (have zc := zb.1; replace zb := zb.2)) | (refine zin ?_; intro zb) | intro j')
  all_goals try refine zbx ?_
  rw [excB, hp]; rfl
def mxN (a b : Nat) : Nat := bif Nat.ble a b then b else a
def mnN (a b : Nat) : Nat := bif Nat.ble a b then a else b
def bdH (n lo hi c : Nat) : List Nat → Bool
 | [] => false
 | x :: l => (Nat.beq (mxN hi x) (mnN lo x + c) && Nat.ble (c + 2) n) || bdH n (mnN lo x) (mxN hi x) (c + 1) l
def smN (n : Nat) : List Nat → Bool
 | [] => true
 | v :: l => !(bdH n v v 1 l) && smN n l
def elN (x : Nat) : List Nat → Bool
 | [] => false
 | y :: l => Nat.beq x y || elN x l
def cntN (x : Nat) : List Nat → Nat
 | [] => 1
 | y :: l => bif Nat.ble x y then cntN x l else cntN x l + 1
def ptN (l : List Nat) : List Nat := l.map fun x => cntN x l
def alN : Nat → (Nat → Bool) → Bool
 | 0, _ => true
 | k + 1, f => f (k + 1) && alN k f
def dlN (m : Nat) : List Nat → List Nat → Bool
 | _, [] => false
 | u, v :: l => smN m (ptN (u ++ l)) || dlN m (u ++ [v]) l
def eqN : List Nat → List Nat → Bool
 | [], [] => true
 | x :: a, y :: b => Nat.beq x y && eqN a b
 | _, _ => false
def exN : Nat → List (List Nat)
 | 4 => [[2,4,1,3],[3,1,4,2]]
 | 6 => [[2,4,6,1,3,5],[5,3,1,6,4,2],[4,1,5,2,6,3],[3,6,2,5,1,4]]
 | 8 => [[2,4,6,8,1,3,5,7],[7,5,3,1,8,6,4,2],[5,1,6,2,7,3,8,4],[4,8,3,7,2,6,1,5]]
 | _ => []
def lfN (n : Nat) (l : List Nat) : Bool := (exN n).any (eqN l) || dlN (n - 1) [] l
def srN (n : Nat) : Nat → List Nat → Bool
 | 0, l => lfN n l
 | d + 1, l => alN n fun v => elN v l || bdH n v v 1 l || srN n d (v :: l)
theorem sr_4 : srN 4 4 [] = true := by decide +kernel
theorem sr_5 : srN 5 5 [] = true := by decide +kernel
theorem sr_6 : srN 6 6 [] = true := by decide +kernel
theorem sr_7 : srN 7 7 [] = true := by decide +kernel
theorem sr_8 : srN 8 8 [] = true := by decide +kernel
theorem mx_eq {a b : Nat} : mxN a b = max a b := by
 unfold mxN
 cases h : Nat.ble a b with
 | true => have := Nat.le_of_ble_eq_true h; simp only [cond_true]; omega
 | false =>
  have : ¬ a ≤ b := fun g => by rw [Nat.ble_eq_true_of_le g] at h; cases h
  simp only [cond_false]; omega
theorem mn_eq {a b : Nat} : mnN a b = min a b := by
 unfold mnN
 cases h : Nat.ble a b with
 | true => have := Nat.le_of_ble_eq_true h; simp only [cond_true]; omega
 | false =>
  have : ¬ a ≤ b := fun g => by rw [Nat.ble_eq_true_of_le g] at h; cases h
  simp only [cond_false]; omega
theorem beq_iff {a b : Nat} : Nat.beq a b = true ↔ a = b := ⟨Nat.eq_of_beq_eq_true, fun h => by subst h; exact Nat.beq_refl a⟩
theorem ble_iff {a b : Nat} : Nat.ble a b = true ↔ a ≤ b := ⟨Nat.le_of_ble_eq_true, Nat.ble_eq_true_of_le⟩
theorem el_iff {x : Nat} : ∀ {l : List Nat}, elN x l = true ↔ x ∈ l
 | [] => by simp [elN]
 | y :: l => by rw [elN, Bool.or_eq_true, beq_iff, el_iff, List.mem_cons]
theorem al_spec {f : Nat → Bool} : ∀ {k : Nat}, alN k f = true → ∀ v, 1 ≤ v → v ≤ k → f v = true
 | 0, _, v, h1, h2 => by omega
 | k + 1, h, v, h1, h2 => by
  rw [alN, Bool.and_eq_true] at h
  by_cases e : v = k + 1
  ·subst e; exact h.1
  ·exact al_spec h.2 v h1 (by omega)
theorem sm_tail {n : Nat} {l : List Nat} : ∀ {t : List Nat}, smN n (t ++ l) = true → smN n l = true
 | [], h => h
 | v :: t, h => by
  rw [List.cons_append, smN, Bool.and_eq_true] at h
  exact sm_tail h.2
theorem sr_spec {n : Nat} : ∀ {d : Nat} {l : List Nat}, srN n d l = true → ∀ t : List Nat, t.length = d → (∀ x ∈ t, 1 ≤ x ∧ x ≤ n) → (t ++ l).Nodup → smN n (t ++ l) = true → lfN n (t ++ l) = true
 | 0, l, h, t, ht, _, _, _ => by
  rw [List.length_eq_zero_iff] at ht; subst ht; exact h
 | d + 1, l, h, t, ht, hb, hn, hs => by
  obtain ⟨u, v, rfl⟩ : ∃ u v, t = u ++ [v] := ⟨t.dropLast, t.getLast (by intro e; subst e; cases ht), (List.dropLast_concat_getLast _).symm⟩
  have e : u ++ [v] ++ l = u ++ (v :: l) := by simp
  rw [e] at hn hs ⊢
  have hv := hb v (by simp)
  have h1 := al_spec h v hv.1 hv.2
  have h2 : elN v l = false := by
   rw [← Bool.not_eq_true, el_iff]
   have := (List.nodup_append.1 hn).2.1
   exact (List.nodup_cons.1 this).1
  have h3 : bdH n v v 1 l = false := by
   have := sm_tail hs
   rw [smN, Bool.and_eq_true, Bool.not_eq_true'] at this
   exact this.1
  rw [h2, h3, Bool.false_or, Bool.false_or] at h1
  exact sr_spec h1 u (by simpa using ht) (fun x hx => hb x (by simp [hx])) hn hs
theorem sr_n {n : Nat} (h4 : 4 ≤ n) (h8 : n ≤ 8) : srN n n [] = true := by
 obtain rfl | rfl | rfl | rfl | rfl : n = 4 ∨ n = 5 ∨ n = 6 ∨ n = 7 ∨ n = 8 := by omega
 ·exact sr_4
 ·exact sr_5
 ·exact sr_6
 ·exact sr_7
 ·exact sr_8
/-! ### numbers told as naturals -/
def upL (q : List Nat) : List Int := q.map fun x : Nat => (x : Int)
theorem up_len {q : List Nat} : (upL q).length = q.length := List.length_map ..
theorem up_back {p : List Int} (h : ∀ x ∈ p, 0 ≤ x) : upL (p.map Int.toNat) = p := by
 rw [upL, List.map_map]
 exact (List.map_congr_left fun x hx => by show ((x.toNat : Nat) : Int) = x; exact Int.toNat_of_nonneg (h x hx)).trans (List.map_id _)
theorem foldmax {a : Nat} : ∀ {l : List Nat}, (upL l).foldl max (a : Int) = ((l.foldl mxN a : Nat) : Int)
 | [] => rfl
 | x :: l => by
  show (upL l).foldl max (max (a : Int) (x : Int)) = _
  rw [show max (a : Int) (x : Int) = ((mxN a x : Nat) : Int) by rw [mx_eq]; omega, foldmax]; rfl
theorem foldmin {a : Nat} : ∀ {l : List Nat}, (upL l).foldl min (a : Int) = ((l.foldl mnN a : Nat) : Int)
 | [] => rfl
 | x :: l => by
  show (upL l).foldl min (min (a : Int) (x : Int)) = _
  rw [show min (a : Int) (x : Int) = ((mnN a x : Nat) : Int) by rw [mn_eq]; omega, foldmin]; rfl
theorem bdH_iff {n : Nat} : ∀ {l : List Nat} {lo hi c : Nat}, bdH n lo hi c l = true ↔ ∃ j, j < l.length ∧ (l.take (j + 1)).foldl mxN hi = (l.take (j + 1)).foldl mnN lo + (c + j) ∧ c + j + 2 ≤ n
 | [], lo, hi, c => by simp [bdH]
 | x :: l, lo, hi, c => by
  rw [bdH, Bool.or_eq_true, Bool.and_eq_true, beq_iff, ble_iff, bdH_iff]
  constructor
  ·rintro (⟨h1, h2⟩ | ⟨j, h1, h2, h3⟩)
   ·exact ⟨0, by simp, by simpa using h1, by omega⟩
   ·refine ⟨j + 1, by simpa using h1, ?_, by omega⟩
    rw [List.take_succ_cons, List.foldl_cons, List.foldl_cons, h2]; omega
  ·rintro ⟨j, h1, h2, h3⟩
   cases j with
   | zero => exact .inl ⟨by simpa using h2, by omega⟩
   | succ j =>
    refine .inr ⟨j, by simpa using h1, ?_, by omega⟩
    rw [List.take_succ_cons, List.foldl_cons, List.foldl_cons] at h2
    rw [h2]; omega
theorem smN_iff {n : Nat} : ∀ {l : List Nat}, smN n l = true ↔ ∀ a v t, l.drop a = v :: t → bdH n v v 1 t = false
 | [] => by simp [smN]
 | x :: l => by
  rw [smN, Bool.and_eq_true, Bool.not_eq_true', smN_iff]
  constructor
  ·rintro ⟨h1, h2⟩ a v t h
   cases a with
   | zero => rw [List.drop_zero, List.cons.injEq] at h; obtain ⟨rfl, rfl⟩ := h; exact h1
   | succ a => exact h2 a v t h
  ·intro h
   exact ⟨h 0 x l rfl, fun a v t e => h (a + 1) v t e⟩
theorem minL_cons {v : Nat} {t : List Nat} : minL (upL (v :: t)) = ((t.foldl mnN v : Nat) : Int) := by
 rw [minL, minT, List.take_of_length_le (Nat.le_refl _)]
 show (upL (v :: t)).foldl min (v : Int) = _
 rw [foldmin, List.foldl_cons, mn_eq, Nat.min_self]
theorem maxL_cons {v : Nat} {t : List Nat} : maxL (upL (v :: t)) = ((t.foldl mxN v : Nat) : Int) := by
 rw [maxL, maxT, List.take_of_length_le (Nat.le_refl _)]
 show (upL (v :: t)).foldl max (v : Int) = _
 rw [foldmax, List.foldl_cons, mx_eq, Nat.max_self]
theorem seg_up {q : List Nat} {a i v : Nat} {t : List Nat} (h : q.drop a = v :: t) : segL (upL q) a (a + 2 + i) = upL (v :: t.take (i + 1)) := by
 rw [segL, upL, ← List.map_take, ← List.map_drop, List.drop_take, h, show a + 2 + i - a = (i + 1) + 1 by omega, List.take_succ_cons]; rfl
theorem int_iff {q : List Nat} {a i v : Nat} {t : List Nat} (h : q.drop a = v :: t) : isIntB (upL q) a (a + 2 + i) = true ↔ (t.take (i + 1)).foldl mxN v = (t.take (i + 1)).foldl mnN v + (1 + i) := by
 rw [isIntB, decide_eq_true_eq, show ((a : Int)).toNat = a by omega, show ((a : Int) + 2 + i).toNat = a + 2 + i by omega, seg_up h, minL_cons, maxL_cons]
 omega
theorem ivs_nil {p : List Int} : (ivsL p).length = 0 ↔ ∀ a, a < p.length → ∀ i, i < p.length - 1 - a → ¬ ((i : Int) + 2 < p.length ∧ isIntB p a (a + 2 + i) = true) := by
 rw [List.length_eq_zero_iff, ivsL, ivA, List.flatMap_eq_nil_iff]
 constructor
 ·intro h a ha i hi hc
  have h1 := h a (List.mem_range.2 ha)
  rw [ivR, List.flatMap_eq_nil_iff] at h1
  have h2 := h1 i (List.mem_range.2 hi)
  rw [if_pos hc] at h2; cases h2
 ·intro h a ha
  rw [ivR, List.flatMap_eq_nil_iff]
  intro i hi
  rw [if_neg (h a (List.mem_range.1 ha) i (List.mem_range.1 hi))]
theorem sim_up {q : List Nat} : isSimB (upL q) = true ↔ 0 < q.length ∧ smN q.length q = true := by
 rw [isSimB, Bool.and_eq_true, decide_eq_true_eq, decide_eq_true_eq, up_len, ivs_nil, up_len, smN_iff]
 refine and_congr_right fun _ => ⟨fun h a v t e => ?_, fun h a ha i hi hc => ?_⟩
 ·rw [← Bool.not_eq_true, bdH_iff]
  rintro ⟨j, h1, h2, h3⟩
  have ha : a < q.length := by
   rcases Nat.lt_or_ge a q.length with g | g
   ·exact g
   ·rw [List.drop_of_length_le g] at e; cases e
  have hl : q.length - a = t.length + 1 := by rw [← List.length_drop, e]; rfl
  exact h a ha j (by omega) ⟨by omega, (int_iff e).2 h2⟩
 ·obtain ⟨v, t, e⟩ : ∃ v t, q.drop a = v :: t := by
   cases e : q.drop a with
   | nil => rw [List.drop_eq_nil_iff] at e; omega
   | cons v t => exact ⟨v, t, rfl⟩
  have hl : q.length - a = t.length + 1 := by rw [← List.length_drop, e]; rfl
  have h1 := h a v t e
  rw [← Bool.not_eq_true, bdH_iff] at h1
  exact h1 ⟨i, by omega, (int_iff e).1 hc.2, by omega⟩
theorem cnt_up {x : Nat} : ∀ {l : List Nat}, (((upL l).filter fun y => decide (y < (x : Int))).length : Int) + 1 = (cntN x l : Int)
 | [] => rfl
 | y :: l => by
  have ih := cnt_up (x := x) (l := l)
  show ((((y : Int) :: upL l).filter fun y => decide (y < (x : Int))).length : Int) + 1 = _
  rw [List.filter_cons, cntN]
  cases h : Nat.ble x y with
  | true =>
   have := Nat.le_of_ble_eq_true h
   rw [if_neg (by simp; omega)]; exact ih
  | false =>
   have : ¬ x ≤ y := fun g => by rw [Nat.ble_eq_true_of_le g] at h; cases h
   rw [if_pos (by simp; omega)]
   simp only [List.length_cons, cond_false]; omega
theorem pat_up {l : List Nat} : patL (upL l) = upL (ptN l) := by
 rw [patL, ptN, upL, upL, List.map_map, List.map_map]
 refine List.map_congr_left fun x _ => ?_
 simp only [Function.comp, rkI]
 rw [List.take_of_length_le (Nat.le_refl _)]
 exact cnt_up
theorem wo_up {q : List Nat} {k : Nat} : woL (upL q) k = upL (ptN (q.take k ++ q.drop (k + 1))) := by
 rw [woL, ← pat_up]
 congr 1
 simp only [upL, List.map_append, List.map_take, List.map_drop]
theorem pt_len {l : List Nat} : (ptN l).length = l.length := List.length_map ..
theorem dl_spec {m : Nat} : ∀ {l u : List Nat}, dlN m u l = true → ∃ k, k < l.length ∧ smN m (ptN (u ++ (l.take k ++ l.drop (k + 1)))) = true
 | [], _, h => by cases h
 | v :: l, u, h => by
  rw [dlN, Bool.or_eq_true] at h
  rcases h with h | h
  ·exact ⟨0, by simp, h⟩
  ·obtain ⟨k, h1, h2⟩ := dl_spec h
   exact ⟨k + 1, by simpa using h1, by simpa using h2⟩
theorem eqN_spec : ∀ {a b : List Nat}, eqN a b = true → a = b
 | [], [], _ => rfl
 | [], _ :: _, h => by cases h
 | _ :: _, [], h => by cases h
 | x :: a, y :: b, h => by
  rw [eqN, Bool.and_eq_true, beq_iff] at h
  rw [h.1, eqN_spec h.2]
/-- The ten. -/
def exL (n : Nat) : List (List Int) := (exN n).map upL
theorem sim_down {p : List Int} (hp : permB p = true) (h8 : p.length ≤ 8) (h4 : 4 ≤ p.length) (hs : isSimB p = true) : (∃ k, k < p.length ∧ isSimB (woL p k) = true) ∨ p ∈ exL p.length := by
 obtain ⟨g1, g2⟩ := permB_iff.1 hp
 obtain ⟨q, rfl⟩ : ∃ q, p = upL q := ⟨p.map Int.toNat, (up_back fun x hx => by have := g1 x hx; omega).symm⟩
 rw [up_len] at h8 h4 g1 ⊢
 have hq : ∀ x ∈ q, 1 ≤ x ∧ x ≤ q.length := fun x hx => by
  have := g1 (x : Int) (List.mem_map.2 ⟨x, hx, rfl⟩); omega
 have hn : q.Nodup := by
  rw [upL, List.nodup_iff_pairwise_ne, List.pairwise_map] at g2
  rw [List.nodup_iff_pairwise_ne]
  exact List.Pairwise.imp (fun h e => h (by rw [e])) g2
 have h1 := sr_spec (sr_n h4 h8) q rfl hq (by rwa [List.append_nil]) (by rw [List.append_nil]; exact (sim_up.1 hs).2)
 rw [List.append_nil, lfN, Bool.or_eq_true, List.any_eq_true] at h1
 rcases h1 with ⟨y, h1, h2⟩ | h1
 ·have := eqN_spec h2; subst this
  exact .inr (List.mem_map.2 ⟨q, h1, rfl⟩)
 ·obtain ⟨k, h2, h3⟩ := dl_spec h1
  rw [List.nil_append] at h3
  refine .inl ⟨k, h2, ?_⟩
  rw [wo_up, sim_up, pt_len]
  have e : (q.take k ++ q.drop (k + 1)).length = q.length - 1 := by simp; omega
  rw [e]; exact ⟨by omega, h3⟩
theorem low_of {p : List Int} {k : Nat} (hk : k < p.length) : woL p k ∈ lowL p := by
 rw [lowL, putL, put_mem]
 exact .inl (List.mem_map.2 ⟨k, by simpa using hk, rfl⟩)
theorem smp_nil {p : List Int} (hp : permB p = true) (h8 : p.length ≤ 8) (h4 : 4 ≤ p.length) (hs : isSimB p = true) (h : smpL p = []) : p ∈ exL p.length := by
 rcases sim_down hp h8 h4 hs with ⟨k, h1, h2⟩ | h1
 ·have : woL p k ∈ smpL p := by rw [smpL, List.mem_filter]; exact ⟨low_of h1, h2⟩
  rw [h] at this; cases this
 ·exact h1
theorem ex_all : ∀ n, n < 9 → ∀ p ∈ exL n, excB p = true := by decide +kernel
/-- The exceptional ones are the ten. -/
theorem exc_iff {p : List Int} : excB p = true ↔ p.length ≤ 8 ∧ p ∈ exL p.length := by
 constructor
 ·intro h
  simp only [excB, Bool.and_eq_true, decide_eq_true_eq, isPermB] at h
  obtain ⟨⟨⟨⟨h8, hp⟩, hs⟩, h4⟩, h0⟩ := h
  exact ⟨h8, smp_nil hp h8 h4 hs (List.length_eq_zero_iff.1 h0)⟩
 ·rintro ⟨h8, h⟩
  exact ex_all _ (by omega) p h
theorem sim_3 : ∀ p ∈ permL 3, isSimB p = false := by decide +kernel
def up2 : Nat → Int → Int → List Int
 | 0, _, _ => []
 | f + 1, v, n => if v ≤ n then v :: up2 f (v + 2) n else []
theorem up2_stop {f : Nat} {v n : Int} (h : n < v) : up2 f v n = [] := by
 cases f with
 | zero => rfl
 | succ f => rw [up2, if_neg (by omega)]
def eoL (n : Int) : List Int := if 1 ≤ n ∧ n ≤ 8 then up2 10 2 n ++ up2 10 1 n else []
theorem spec_EvenOdd_c (n : Int) : Fun Tryz.prog 22 [(.int .i64 (n))] [(.sl .own (List.map (PV.int .i64) (eoL n)))] := by
 refine fO sg0 [2] Tryz.func22 ?_
 have cE1 := @spec_l1In_c
 refine dEa trivial ?_
 all_goals try (refine zlf ?_; repeat' first | exact zso | refine And.intro ?_ ?_ | (refine zim ?_; intro zb hc) | (refine zin ?_; intro zb) | intro j')
 all_goals try refine zbx ?_
 all_goals try (rw [eoL, if_neg (by omega)]; rfl)
 refine v_loopB (fun ms1 S1 => ∃ (f : Nat) (v : Int) (out : List Int), S1.e 0 = .p (.int .i64 (n)) ∧ OwnL (S1.e 3) S1.h S1.n (PV.int .i64) ((out).length) (out) ∧ S1.e 4 = .p (.int .i64 (v)) ∧ (n + 2 < v + 2 * f) ∧ (up2 10 2 n = out ++ up2 f v n) ∧ (v ≤ n + 2) ∧ (0 ≤ v) ∧ ((out.length : Int) ≤ v) ∧ ms1 = f) ((fun (f : Nat) (v : Int) (out : List Int) => f) (10) (2) ([])) ?_ ⟨10, 2, [], dIa trivial ?_⟩
 all_goals try (refine zlf ?_; repeat' first | exact zso | refine And.intro ?_ ?_ | (refine zim ?_; intro zb hc) | (refine zin ?_; intro zb) | intro j')
 all_goals try refine zbx ?_
 rintro ms1 S1 ⟨f, v, out, h1_0, o1_3, h1_4, c1_0, c1_1, c1_2, c1_3, c1_4, hm1⟩
 obtain ⟨i1_3, h1_3, b1_3, l1_3⟩ := o1_3.out
 have ni1_3 := znds (x := i1_3) (n := S1.n)
 have fL1 := (And.intro h1_0 (And.intro h1_4 (And.intro h1_3 (And.intro b1_3 ni1_3))))
 refine dEa fL1 ?_
 all_goals try (refine zlf ?_; repeat' first | exact zso | refine And.intro ?_ ?_ | (refine zim ?_; intro zb hc) | (refine zin ?_; intro zb) | intro j')
 all_goals try refine zbx ?_
 ·obtain ⟨f, rfl⟩ : ∃ g, f = g + 1 := ⟨f - 1, by omega⟩
  focus
   refine q_lp_n ((fun (f : Nat) (v : Int) (out : List Int) => f) (f) (v+2) (out ++ [v])) (dC fL1 ?_) ⟨f, v+2, out ++ [v], dC fL1 ?_⟩
   all_goals try (refine zlf ?_; repeat' first | exact zso | refine And.intro ?_ ?_ | (refine zim ?_; intro zb hc) | (refine zin ?_; intro zb) | intro j')
   all_goals try refine zbx ?_
  rw [c1_1, up2, if_pos hc]
 rw [up2_stop hc, List.append_nil] at c1_1
 subst c1_1
 refine v_loopB (fun ms2 S2 => ∃ (f : Nat) (v : Int) (out : List Int), S2.e 0 = .p (.int .i64 (n)) ∧ OwnL (S2.e 3) S2.h S2.n (PV.int .i64) ((up2 10 2 n ++ out).length) (up2 10 2 n ++ out) ∧ S2.e 5 = .p (.int .i64 (v)) ∧ (n + 2 < v + 2 * f) ∧ (up2 10 1 n = out ++ up2 f v n) ∧ (v ≤ n + 2) ∧ (0 ≤ v) ∧ ((out.length : Int) ≤ v) ∧ S1.n ≤ S2.n ∧ ms2 = f) ((fun (f : Nat) (v : Int) (out : List Int) => f) (10) (1) ([])) ?_ ⟨10, 1, [], dIa fL1 ?_⟩
 all_goals try (refine zlf ?_; repeat' first | exact zso | refine And.intro ?_ ?_ | (refine zim ?_; intro zb hc) | (refine zin ?_; intro zb) | intro j')
 all_goals try refine zbx ?_
 rintro ms2 S2 ⟨f, v, out, h2_0, o2_3, h2_5, c2_0, c2_1, c2_2, c2_3, c2_4, u2_0, hm2⟩
 obtain ⟨i2_3, h2_3, b2_3, l2_3⟩ := o2_3.out
 have ni2_3 := znds (x := i2_3) (n := S2.n)
 have fL2 := (And.intro h2_0 (And.intro h2_5 (And.intro h2_3 (And.intro b2_3 ni2_3))))
 refine dEa fL2 ?_
 all_goals try (refine zlf ?_; repeat' first | exact zso | refine And.intro ?_ ?_ | (refine zim ?_; intro zb hc) | (refine zin ?_; intro zb) | intro j')
 all_goals try refine zbx ?_
 ·obtain ⟨f, rfl⟩ : ∃ g, f = g + 1 := ⟨f - 1, by omega⟩
  focus
   refine q_lp_n ((fun (f : Nat) (v : Int) (out : List Int) => f) (f) (v+2) (out ++ [v])) (dC fL2 ?_) ⟨f, v+2, out ++ [v], dC fL2 ?_⟩
   all_goals try (refine zlf ?_; repeat' first | exact zso | refine And.intro ?_ ?_ | (refine zim ?_; intro zb hc) | (refine zin ?_; intro zb) | intro j')
   all_goals try refine zbx ?_
  rw [c2_1, up2, if_pos hc]
 ·rw [eoL, if_pos (by omega), c2_1, up2_stop hc, List.append_nil]
theorem impl_EvenOdd_c (n : Int) : Fun Tryz.prog 21 [(.int .i64 (n))] [(.sl .own (List.map (PV.int .i64) (eoL n)))] := by
 refine fO sg0 [2] Tryz.func21 ?_
 refine dEa trivial ?_
 all_goals try (refine zlf ?_; repeat' first | exact zso | refine And.intro ?_ ?_ | (refine zim ?_; intro zb hc) | (refine zin ?_; intro zb) | intro j')
 all_goals try refine zbx ?_
 all_goals try (rw [eoL, if_neg (by omega)]; rfl)
 refine v_loopB (fun ms1 S1 => ∃ (f : Nat) (v : Int) (out : List Int), S1.e 0 = .p (.int .i64 (n)) ∧ OwnL (S1.e 3) S1.h S1.n (PV.int .i64) ((out).length) (out) ∧ S1.e 4 = .p (.int .i64 (v)) ∧ (n + 2 < v + 2 * f) ∧ (up2 10 2 n = out ++ up2 f v n) ∧ (v ≤ n + 2) ∧ (0 ≤ v) ∧ ((out.length : Int) ≤ v) ∧ ms1 = f) ((fun (f : Nat) (v : Int) (out : List Int) => f) (10) (2) ([])) ?_ ⟨10, 2, [], dIa trivial ?_⟩
 all_goals try (refine zlf ?_; repeat' first | exact zso | refine And.intro ?_ ?_ | (refine zim ?_; intro zb hc) | (refine zin ?_; intro zb) | intro j')
 all_goals try refine zbx ?_
 rintro ms1 S1 ⟨f, v, out, h1_0, o1_3, h1_4, c1_0, c1_1, c1_2, c1_3, c1_4, hm1⟩
 obtain ⟨i1_3, h1_3, b1_3, l1_3⟩ := o1_3.out
 have ni1_3 := znds (x := i1_3) (n := S1.n)
 have fL1 := (And.intro h1_0 (And.intro h1_4 (And.intro h1_3 (And.intro b1_3 ni1_3))))
 refine dEa fL1 ?_
 all_goals try (refine zlf ?_; repeat' first | exact zso | refine And.intro ?_ ?_ | (refine zim ?_; intro zb hc) | (refine zin ?_; intro zb) | intro j')
 all_goals try refine zbx ?_
 ·obtain ⟨f, rfl⟩ : ∃ g, f = g + 1 := ⟨f - 1, by omega⟩
  focus
   refine q_lp_n ((fun (f : Nat) (v : Int) (out : List Int) => f) (f) (v+2) (out ++ [v])) (dC fL1 ?_) ⟨f, v+2, out ++ [v], dC fL1 ?_⟩
   all_goals try (refine zlf ?_; repeat' first | exact zso | refine And.intro ?_ ?_ | (refine zim ?_; intro zb hc) | (refine zin ?_; intro zb) | intro j')
   all_goals try refine zbx ?_
  rw [c1_1, up2, if_pos hc]
 rw [up2_stop hc, List.append_nil] at c1_1
 subst c1_1
 refine v_loopB (fun ms2 S2 => ∃ (f : Nat) (v : Int) (out : List Int), S2.e 0 = .p (.int .i64 (n)) ∧ OwnL (S2.e 3) S2.h S2.n (PV.int .i64) ((up2 10 2 n ++ out).length) (up2 10 2 n ++ out) ∧ S2.e 5 = .p (.int .i64 (v)) ∧ (n + 2 < v + 2 * f) ∧ (up2 10 1 n = out ++ up2 f v n) ∧ (v ≤ n + 2) ∧ (0 ≤ v) ∧ ((out.length : Int) ≤ v) ∧ S1.n ≤ S2.n ∧ ms2 = f) ((fun (f : Nat) (v : Int) (out : List Int) => f) (10) (1) ([])) ?_ ⟨10, 1, [], dIa fL1 ?_⟩
 all_goals try (refine zlf ?_; repeat' first | exact zso | refine And.intro ?_ ?_ | (refine zim ?_; intro zb hc) | (refine zin ?_; intro zb) | intro j')
 all_goals try refine zbx ?_
 rintro ms2 S2 ⟨f, v, out, h2_0, o2_3, h2_5, c2_0, c2_1, c2_2, c2_3, c2_4, u2_0, hm2⟩
 obtain ⟨i2_3, h2_3, b2_3, l2_3⟩ := o2_3.out
 have ni2_3 := znds (x := i2_3) (n := S2.n)
 have fL2 := (And.intro h2_0 (And.intro h2_5 (And.intro h2_3 (And.intro b2_3 ni2_3))))
 refine dEa fL2 ?_
 all_goals try (refine zlf ?_; repeat' first | exact zso | refine And.intro ?_ ?_ | (refine zim ?_; intro zb hc) | (refine zin ?_; intro zb) | intro j')
 all_goals try refine zbx ?_
 ·obtain ⟨f, rfl⟩ : ∃ g, f = g + 1 := ⟨f - 1, by omega⟩
  focus
   refine q_lp_n ((fun (f : Nat) (v : Int) (out : List Int) => f) (f) (v+2) (out ++ [v])) (dC fL2 ?_) ⟨f, v+2, out ++ [v], dC fL2 ?_⟩
   all_goals try (refine zlf ?_; repeat' first | exact zso | refine And.intro ?_ ?_ | (refine zim ?_; intro zb hc) | (refine zin ?_; intro zb) | intro j')
   all_goals try refine zbx ?_
  rw [c2_1, up2, if_pos hc]
 ·rw [eoL, if_pos (by omega), c2_1, up2_stop hc, List.append_nil]
def simsB (n : Int) : List (List Int) := if 1 ≤ n ∧ n ≤ 6 then (permL n.toNat).filter isSimB else []
theorem simsB_le {n : Int} : (simsB n).length ≤ 8 ^ 8 := by
 unfold simsB; split
 ·exact Nat.le_trans (List.length_filter_le _ _) (permL_len (by omega))
 ·simp
theorem simsB_row {n : Int} : ∀ l ∈ simsB n, l.length ≤ 6 := by
 unfold simsB; split
 ·intro l hl
  have := permL_row l (List.mem_filter.1 hl).1
  omega
 ·simp
def sgSmF : FuncId → List Bool := fun f => if f = 36 then [true] else []
theorem sgSmF_eq {f : FuncId} : sgSmF f = if f = 36 then [true] else [] := _root_.id rfl
theorem way_sgSmF : wayE sgSmF = false ∧ wayN sgSmF = false ∧ wayS sgSmF = false ∧ wayZ sgSmF = false ∧ wayM sgSmF = false := ⟨rfl, rfl, rfl, rfl, rfl⟩
attribute [go_sem] sgSmF_eq way_sgSmF
theorem impl_SimplesOf_f_c (n : Int) : Fun Tryz.prog 9 [(.int .i64 (n))] [(.sl .own (List.map (elI false) (simsB n)))] := by
 by_cases hn : 1 ≤ n ∧ n ≤ 6
 ·have e1 : simsB n = (permL n.toNat).filter isSimB := if_pos hn
  have hp : ∀ x ∈ permL n.toNat, x.length ≤ 8 ∧ ∀ v ∈ x, 0 ≤ v ∧ v ≤ 1048576 := fun x hx => ⟨by have := permL_row x hx; omega, perm_bd (permL_isPerm (by omega) hx)⟩
  have c1 := impl_perms_f_c n.toNat (by omega)
  rw [show ((n.toNat : Nat) : Int) = n by omega] at c1
  have b1 := permL_len (n := n.toNat) (by omega)
  rw [e1]
  refine fO sgSmF [2] Tryz.func9 ?_
  have cE1 := @impl_perms_f_c; have cE2 := @impl_perms_c; have cM1 := @impl_simples_c
  have cE1 := @c1; have cE2 := trivial
  refine dEa trivial ?_
  all_goals try (refine zlf ?_; repeat' first | exact zso | refine And.intro ?_ ?_ | (refine zim ?_; intro zb hc) | (refine zin ?_; intro zb) | intro j')
  all_goals try refine zbx ?_
  all_goals first | exact hp | trace_state
 ·have e1 : simsB n = [] := if_neg hn
  rw [e1]
  refine fO sgSmF [2] Tryz.func9 ?_
  have cE1 := @impl_perms_f_c; have cE2 := @impl_perms_c; have cM1 := @impl_simples_c
  refine dEa trivial ?_
  all_goals try (refine zlf ?_; repeat' first | exact zso | refine And.intro ?_ ?_ | (refine zim ?_; intro zb hc) | (refine zin ?_; intro zb) | intro j')
  all_goals try refine zbx ?_
theorem spec_SimplesOf_c (n : Int) : Fun Tryz.prog 15 [(.int .i64 (n))] [(.sl .own (List.map (elI false) (simsB n)))] := by
 by_cases hn : 1 ≤ n ∧ n ≤ 6
 ·have e1 : simsB n = (permL n.toNat).filter isSimB := if_pos hn
  have e2 : permsB n = permL n.toNat := if_pos (by omega)
  have hr : ∀ k, k < (permL n.toNat).length → isPermB ((permL n.toNat).getD k []) = true := fun k hk => permL_isPerm (by omega) (getD_mem hk)
  have b1 := permL_len (n := n.toNat) (by omega)
  rw [e1]
  refine fO sg0 [2] Tryz.func15 ?_
  have cE1 := @spec_l1In_c; have cE2 := @spec_PermsOf_c; have cE3 := @spec_IsSimple_c
  refine dEa @e2 ?_
  all_goals try (refine zlf ?_; repeat' first | exact zso | refine And.intro ?_ ?_ | (refine zim ?_; intro zb hc) | (refine zin ?_; intro zb) | intro j')
  all_goals try refine zbx ?_
  refine v_loopB (fun ms1 S1 => ∃ (k : Nat), OwnL (S1.e 4) S1.h S1.n (elI false) ((permL n.toNat).length) (permL n.toNat) ∧ OwnL (S1.e 3) S1.h S1.n (elI false) ((((permL n.toNat).take k).filter isSimB).length) (((permL n.toNat).take k).filter isSimB) ∧ S1.e 5 = .p (.int .i64 (k)) ∧ (k ≤ (permL n.toNat).length) ∧ NId (S1.e 3) (S1.e 4) ∧ ms1 = (permL n.toNat).length - k) ((fun (k : Nat) => (permL n.toNat).length - k) (0)) ?_ ⟨0, dC trivial ?_⟩
  all_goals try (refine zlf ?_; repeat' first | exact zso | refine And.intro ?_ ?_ | (refine zim ?_; intro zb hc) | (refine zin ?_; intro zb) | intro j')
  all_goals try refine zbx ?_
  rintro ms1 S1 ⟨k, o1_4, o1_3, h1_5, c1_0, u1_0, hm1⟩
  obtain ⟨i1_4, h1_4, b1_4, l1_4⟩ := o1_4.out
  obtain ⟨i1_3, h1_3, b1_3, l1_3⟩ := o1_3.out
  have k1_0 := (u1_0).out h1_3 h1_4
  have ni1_4 := znds (x := i1_4) (n := S1.n)
  have ni1_3 := znds (x := i1_3) (n := S1.n)
  have di1_4i1_3 := zdne (x := i1_4) (y := i1_3)
  have fL1 := (And.intro h1_5 (And.intro h1_4 (And.intro b1_4 (And.intro h1_3 (And.intro b1_3 (And.intro ni1_4 (And.intro ni1_3 di1_4i1_3)))))))
  have b2 : (((permL n.toNat).take k).filter isSimB).length ≤ 8 ^ 8 := Nat.le_trans (List.length_filter_le _ _) (by rw [List.length_take]; omega)
  by_cases hk : k < (permL n.toNat).length
  ·have e3 := hr k hk
   have e4 := permL_row _ (getD_mem (d := []) hk)
   refine dEa (And.intro fL1 @e3) ?_
   all_goals try (refine zlf ?_; repeat' first | exact zso | refine And.intro ?_ ?_ | (refine zim ?_; intro zb hc) | (refine zin ?_; intro zb) | intro j')
   all_goals try refine zbx ?_
   ·focus
     refine q_lp_n ((fun (k : Nat) => (permL n.toNat).length - k) (k+1)) (dC fL1 ?_) ⟨k+1, dC fL1 ?_⟩
     all_goals try (refine zlf ?_; repeat' first | exact zso | refine And.intro ?_ ?_ | (refine zim ?_; intro zb hc) | (refine zin ?_; intro zb) | intro j')
     all_goals try refine zbx ?_
    all_goals (rw [take_getD (d := []) hk, List.filter_append, List.filter_cons, if_pos hc]; simp)
   ·focus
     refine q_lp_n ((fun (k : Nat) => (permL n.toNat).length - k) (k+1)) (dC fL1 ?_) ⟨k+1, dC fL1 ?_⟩
     all_goals try (refine zlf ?_; repeat' first | exact zso | refine And.intro ?_ ?_ | (refine zim ?_; intro zb hc) | (refine zin ?_; intro zb) | intro j')
     all_goals try refine zbx ?_
    all_goals (rw [take_getD (d := []) hk, List.filter_append, List.filter_cons, if_neg (by rw [hc]; decide)]; simp)
  ·refine dEa fL1 ?_
   all_goals try (refine zlf ?_; repeat' first | exact zso | refine And.intro ?_ ?_ | (refine zim ?_; intro zb hc) | (refine zin ?_; intro zb) | intro j')
   all_goals try refine zbx ?_
   rw [List.take_of_length_le (by omega)]
 ·have e1 : simsB n = [] := if_neg hn
  rw [e1]
  refine fO sg0 [2] Tryz.func15 ?_
  have cE1 := @spec_l1In_c; have cE2 := @spec_PermsOf_c; have cE3 := @spec_IsSimple_c
  refine dEa trivial ?_
  all_goals try (refine zlf ?_; repeat' first | exact zso | refine And.intro ?_ ?_ | (refine zim ?_; intro zb hc) | (refine zin ?_; intro zb) | intro j')
  all_goals try refine zbx ?_
def slB (p : List Int) : List (List Int) := if isPermB p = true then smpL p else []
theorem impl_SimpleLowers_f_c {m0 : Bool} (p : List Int) (hl : p.length ≤ 1048576) : Fun Tryz.prog 18 [(.sl (.lent m0) (List.map (PV.int .i64) (p)))] [(.sl .own (List.map (elI false) (slB p)))] := by
 by_cases hp : isPermB p = true
 ·obtain ⟨h8, hq⟩ := isP_8 hp
  have b1 := lowL_len (p := p)
  have b2 : ∀ l ∈ lowL p, l.length ≤ 8 ∧ ∀ x ∈ l, 0 ≤ x ∧ x ≤ 1048576 := fun l h => ⟨(low_facts hq h8 h).1, (low_facts hq h8 h).2.2⟩
  rw [show slB p = (lowL p).filter isSimB from if_pos hp]
  refine fO sgSmF [2] Tryz.func18 ?_
  have cE1 := @impl_IsPerm_c; have cE2 := @impl_lowers_c; have cM1 := @impl_simples_c
  refine dEa @hp ?_
  all_goals try (refine zlf ?_; repeat' first | exact zso | refine And.intro ?_ ?_ | (refine zim ?_; intro zb hc) | (refine zin ?_; intro zb) | intro j')
  all_goals try refine zbx ?_
  all_goals first | exact b2 | trace_state
 ·rw [show slB p = [] from if_neg hp]
  rw [Bool.not_eq_true] at hp
  refine fO sgSmF [2] Tryz.func18 ?_
  have cE1 := @impl_IsPerm_c; have cE2 := @impl_lowers_c; have cM1 := @impl_simples_c
  refine dEa @hp ?_
  all_goals try (refine zlf ?_; repeat' first | exact zso | refine And.intro ?_ ?_ | (refine zim ?_; intro zb hc) | (refine zin ?_; intro zb) | intro j')
  all_goals try refine zbx ?_
theorem spec_LowersOf_n_c {m0 : Bool} (p : List Int) (hl : p.length ≤ 1048576) (hp : isPermB p = false) : Fun Tryz.prog 46 [(.sl (.lent m0) (List.map (PV.int .i64) (p)))] [(.sl .own (List.map (elI false) (([] : List (List Int)))))] := by
 refine fO sg0 [2] Tryz.func46 ?_
 have cE1 := @spec_IsPerm_c; have cE2 := @spec_l7Without_c; have cM1 := @spec_l3Put_c
 refine dEa @hp ?_
 all_goals try (refine zlf ?_; repeat' first | exact zso | refine And.intro ?_ ?_ | (refine zim ?_; intro zb hc) | (refine zin ?_; intro zb) | intro j')
 all_goals try refine zbx ?_
 refine v_loopB (fun ms1 S1 => ∃ (k : Nat), S1.e 0 = .p (.sl (.lent m0) (List.map (PV.int .i64) (p))) ∧ OwnL (S1.e 3) S1.h S1.n (elI false) ((([] : List (List Int))).length) (([] : List (List Int))) ∧ S1.e 4 = .p (.int .i64 (k)) ∧ (k = 0) ∧ ms1 = 0) ((fun (k : Nat) => 0) (0)) ?_ ⟨0, dIa trivial ?_⟩
 all_goals try (refine zlf ?_; repeat' first | exact zso | refine And.intro ?_ ?_ | (refine zim ?_; intro zb hc) | (refine zin ?_; intro zb) | intro j')
 all_goals try refine zbx ?_
 rintro ms1 S1 ⟨k, h1_0, o1_3, h1_4, c1_0, hm1⟩
 obtain ⟨i1_3, h1_3, b1_3, l1_3⟩ := o1_3.out
 have ni1_3 := znds (x := i1_3) (n := S1.n)
 have fL1 := (And.intro h1_0 (And.intro h1_4 (And.intro h1_3 (And.intro b1_3 ni1_3))))
 subst c1_0
 refine dEa (And.intro fL1 @hp) ?_
 all_goals try (refine zlf ?_; repeat' first | exact zso | refine And.intro ?_ ?_ | (refine zim ?_; intro zb hc) | (refine zin ?_; intro zb) | intro j')
 all_goals try refine zbx ?_
theorem spec_SimpleLowers_n_c {m0 : Bool} (p : List Int) (hl : p.length ≤ 1048576) : Fun Tryz.prog 19 [(.sl (.lent m0) (List.map (PV.int .i64) (p)))] [(.sl .own (List.map (elI false) (slB p)))] := by
 by_cases hp : isPermB p = true
 ·rw [show slB p = smpL p from if_pos hp]
  exact spec_SimpleLowers_c p hl hp
 ·rw [show slB p = [] from if_neg hp]
  rw [Bool.not_eq_true] at hp
  refine fO sg0 [2] Tryz.func19 ?_
  have cE1 := @spec_LowersOf_n_c; have cE2 := @spec_LowersOf_c; have cE3 := @spec_IsSimple_c
  have cE2 := @spec_IsSimple_c; have cE3 := trivial
  refine dEa @hp ?_
  all_goals try (refine zlf ?_; repeat' first | exact zso | refine And.intro ?_ ?_ | (refine zim ?_; intro zb hc) | (refine zin ?_; intro zb) | intro j')
  all_goals try refine zbx ?_
  refine v_loopB (fun ms1 S1 => ∃ (k : Nat), S1.e 0 = .p (.sl (.lent m0) (List.map (PV.int .i64) (p))) ∧ OwnL (S1.e 3) S1.h S1.n (elI false) ((([] : List (List Int))).length) (([] : List (List Int))) ∧ OwnL (S1.e 4) S1.h S1.n (elI false) ((([] : List (List Int))).length) (([] : List (List Int))) ∧ S1.e 5 = .p (.int .i64 (k)) ∧ (k = 0) ∧ NId (S1.e 4) (S1.e 3) ∧ ms1 = 0) ((fun (k : Nat) => 0) (0)) ?_ ⟨0, dIa trivial ?_⟩
  all_goals try (refine zlf ?_; repeat' first | exact zso | refine And.intro ?_ ?_ | (refine zim ?_; intro zb hc) | (refine zin ?_; intro zb) | intro j')
  all_goals try refine zbx ?_
  rintro ms1 S1 ⟨k, h1_0, o1_3, o1_4, h1_5, c1_0, u1_0, hm1⟩
  obtain ⟨i1_3, h1_3, b1_3, l1_3⟩ := o1_3.out
  obtain ⟨i1_4, h1_4, b1_4, l1_4⟩ := o1_4.out
  have k1_0 := (u1_0).out h1_4 h1_3
  have ni1_3 := znds (x := i1_3) (n := S1.n)
  have ni1_4 := znds (x := i1_4) (n := S1.n)
  have di1_3i1_4 := zdne (x := i1_3) (y := i1_4)
  have fL1 := (And.intro h1_0 (And.intro h1_5 (And.intro h1_3 (And.intro b1_3 (And.intro h1_4 (And.intro b1_4 (And.intro ni1_3 (And.intro ni1_4 di1_3i1_4))))))))
  subst c1_0
  have cE2 := @spec_LowersOf_c; have cE3 := @spec_IsSimple_c
  refine dEa (And.intro fL1 @hp) ?_
  all_goals try (refine zlf ?_; repeat' first | exact zso | refine And.intro ?_ ?_ | (refine zim ?_; intro zb hc) | (refine zin ?_; intro zb) | intro j')
  all_goals try refine zbx ?_
theorem simsB_n : ∀ n, n < 7 → 1 ≤ n → (simsB (n : Nat)).length = [0, 1, 2, 0, 2, 6, 46].getD n 0 := by decide +kernel
/-- The exceptional ones are the symmetries of the even and odd numbers. -/
theorem ex_eo : ∀ n, n < 9 → 4 ≤ n → n % 2 = 0 → (sycL (eoL (n : Nat))).all (fun p => (exL n).contains p) = true ∧ (exL n).all (fun p => (sycL (eoL (n : Nat))).contains p) = true := by decide +kernel
theorem eo_perm : ∀ n, n < 9 → isPermB (eoL (n : Nat)) = true ∧ (eoL (n : Nat)).length = n := by decide +kernel
theorem ex_odd : ∀ n, n < 9 → n % 2 = 1 → exL n = [] := by decide +kernel
theorem ex_few : ∀ n, n < 4 → exL n = [] := by decide +kernel
theorem exc_known {e : List Int} (h : isPermB e = true) : excB e = (decide (4 ≤ e.length) && decide (e.length % 2 = 0) && (sycL (eoL (e.length : Nat))).contains e) := by
 have h8 := (isP_8 h).1
 rw [Bool.eq_iff_iff, exc_iff]
 simp only [Bool.and_eq_true, decide_eq_true_eq, List.contains_iff_mem]
 constructor
 ·rintro ⟨_, hm⟩
  have h4 : 4 ≤ e.length := by
   rcases Nat.lt_or_ge e.length 4 with q | q
   ·rw [ex_few _ q] at hm; cases hm
   ·exact q
  have h2 : e.length % 2 = 0 := by
   rcases Nat.mod_two_eq_zero_or_one e.length with q | q
   ·exact q
   ·rw [ex_odd _ (by omega) q] at hm; cases hm
  have := List.all_eq_true.1 (ex_eo e.length (by omega) h4 h2).2 e hm
  exact ⟨⟨h4, h2⟩, List.contains_iff_mem.1 this⟩
 ·rintro ⟨⟨h4, h2⟩, hm⟩
  have := List.all_eq_true.1 (ex_eo e.length (by omega) h4 h2).1 e hm
  exact ⟨h8, List.contains_iff_mem.1 this⟩
theorem drP {b : List UInt8} {s : Cu} {n : Nat} (h : n ≤ 8) : isPermB (drL b s n).1 = true := by
 simp only [isPermB, drL_perm, drL_len, Bool.and_true, decide_eq_true_eq]; exact h
/-- Draws, up to a simple one. -/
def rdF (b : List UInt8) (n : Nat) : Nat → Cu → List Int → List Int × Cu
 | 0, s, l => (l, s)
 | r + 1, s, _ => if isSimB (drL b s n).1 then drL b s n else rdF b n r (drL b s n).2 (drL b s n).1
theorem rdF_p {b : List UInt8} {n : Nat} (hn : n ≤ 8) : ∀ {r : Nat} {s : Cu} {l : List Int}, isPermB l = true → isPermB (rdF b n r s l).1 = true
 | 0, _, _, h => h
 | r + 1, s, l, _ => by
  rw [rdF]; split
  ·exact drP hn
  ·exact rdF_p hn (drP hn)
theorem symP : ∀ n, n < 9 → ∀ k, k < 8 → isPermB (symL (eoL (n : Nat)) k) = true := by decide +kernel
theorem spec_l31Draw_x (b : List UInt8) (s : Cu) (hb : b.length ≤ 1048576) : ∃ s' p, CallT Tryz.prog false 33 [.mu true (curC b s)] [some (curC b s')] [.sl .own (List.map (PV.int .i64) p)] ∧ isPermB p = true := by
 obtain ⟨s1, n, c1, hn⟩ := spec_l1PickInt_x (m0 := true) b s [4, 5, 6, 6, 8, 7] hb (by decide) (by decide)
 have h8 : 4 ≤ n ∧ n ≤ 8 := by simp at hn; omega
 obtain ⟨N, rfl⟩ := Int.eq_ofNat_of_zero_le (show 0 ≤ n by omega)
 simp only [List.map_cons, List.map_nil] at c1
 obtain ⟨q1, q2⟩ := eo_perm N (by omega)
 obtain ⟨q3, q4⟩ := isP_8 q1
 obtain ⟨x, hx⟩ : ∃ x, bwX b s1 3 = x := ⟨_, rfl⟩
 by_cases h0 : x = 0
 ·subst h0
  have q := bwX_r (b := b) (s := bwS b s1 3) (n := 8)
  obtain ⟨K, hK⟩ : ∃ K : Nat, bwX b (bwS b s1 3) 8 = (K : Int) := Int.eq_ofNat_of_zero_le (by omega)
  rw [hK] at q
  have hK8 : K < 8 := by omega
  have cs := spec_l3Symmetry_c (m0 := false) (eoL N) K hK8 q3 q4
  refine ⟨bwS b (bwS b s1 3) 8, symL (eoL N) K, ?_, symP N (by omega) K hK8⟩
  refine fX sgCu [2] Tryz.func33 ?_
  have cE1 := @spec_EvenOdd_c; have cE2 := @spec_l3Symmetry_c; have cE3 := @spec_IsSimple_c; have cM1 := @spec_l1Once_c; have cM2 := @spec_l1Below_c; have cM3 := @spec_l2Draw_c
  have cM4 := @c1
  refine dEa (And.intro @hx @hK) ?_
  all_goals try (refine zlf ?_; repeat' first | exact zso | refine And.intro ?_ ?_ | (refine zim ?_; intro zb hc) | (refine zin ?_; intro zb) | intro j')
  all_goals try refine zbx ?_
  all_goals trace_state
 ·have f0 : (x = 0) = False := eq_false h0
  obtain ⟨R, hR⟩ : ∃ R, rdF b N 6 (bwS b s1 3) (eoL N) = R := ⟨_, rfl⟩
  refine ⟨R.2, R.1, ?_, by rw [← hR]; exact rdF_p (by omega) q1⟩
  refine fX sgCu [2] Tryz.func33 ?_
  have cE1 := @spec_EvenOdd_c; have cE2 := @spec_l3Symmetry_c; have cE3 := @spec_IsSimple_c; have cM1 := @spec_l1Once_c; have cM2 := @spec_l1Below_c; have cM3 := @spec_l2Draw_c
  have cM4 := @c1
  refine dEa (And.intro @hx @f0) ?_
  all_goals try (refine zlf ?_; repeat' first | exact zso | refine And.intro ?_ ?_ | (refine zim ?_; intro zb hc) | (refine zin ?_; intro zb) | intro j')
  all_goals try refine zbx ?_
  refine v_loopB (fun ms1 S1 => ∃ (k : Nat) (c : Cu) (l : List Int), S1.e 0 = .ptr 0 0 ∧ S1.h 0 = .live true (curC b c) ∧ 0 < S1.n ∧ S1.e 3 = .p (.int .i64 (N)) ∧ OwnL (S1.e 4) S1.h S1.n (PV.int .i64) ((l).length) (l) ∧ S1.e 5 = .p (.int .i64 (k)) ∧ (k ≤ 6) ∧ (isPermB l = true) ∧ (rdF b N (6 - k) c l = R) ∧ NId (S1.e 4) (.ref 0 0 0) ∧ ms1 = 6 - k) ((fun (k : Nat) (c : Cu) (l : List Int) => 6 - k) (0) (bwS b s1 3) (eoL N)) ?_ ⟨0, bwS b s1 3, eoL N, dC trivial ?_⟩
  all_goals try (refine zlf ?_; repeat' first | exact zso | refine And.intro ?_ ?_ | (refine zim ?_; intro zb hc) | (refine zin ?_; intro zb) | intro j')
  all_goals try refine zbx ?_
  rintro ms1 S1 ⟨k, c, l, h1_0, b1_0, l1_0, h1_3, o1_4, h1_5, c1_0, c1_1, c1_2, u1_0, hm1⟩
  obtain ⟨i1_4, h1_4, b1_4, l1_4⟩ := o1_4.out
  have k1_0 := (u1_0).out h1_4 rfl
  have ni1_4 := znds (x := i1_4) (n := S1.n)
  have n0 := znds (x := 0) (n := S1.n)
  have di1_40 := zdne (x := i1_4) (y := 0)
  have fL1 := (And.intro h1_0 (And.intro b1_0 (And.intro h1_3 (And.intro h1_5 (And.intro h1_4 (And.intro b1_4 (And.intro ni1_4 (And.intro n0 di1_40))))))))
  ·by_cases hk : k < 6
   ·have g1 : isPermB (drL b c N).1 = true := drP (by omega)
    have g2 := (isP_8 g1).1
    have g3 : rdF b N (6 - k) c l = if isSimB (drL b c N).1 then drL b c N else rdF b N (6 - (k + 1)) (drL b c N).2 (drL b c N).1 := by
     rw [show 6 - k = (6 - (k + 1)) + 1 by omega]; rfl
    rw [g3] at c1_2
    cases hs : isSimB (drL b c N).1 with
    | true =>
     rw [hs, if_pos rfl] at c1_2
     subst c1_2
     have cM4 := trivial
     refine dEa (And.intro fL1 (And.intro @g1 @hs)) ?_
     all_goals try (refine zlf ?_; repeat' first | exact zso | refine And.intro ?_ ?_ | (refine zim ?_; intro zb hc) | (refine zin ?_; intro zb) | intro j')
     all_goals try refine zbx ?_
     all_goals trace_state
    | false =>
     rw [hs, if_neg (by decide)] at c1_2
     have cM4 := trivial
     refine dEa (And.intro fL1 (And.intro @g1 @hs)) ?_
     all_goals try (refine zlf ?_; repeat' first | exact zso | refine And.intro ?_ ?_ | (refine zim ?_; intro zb hc) | (refine zin ?_; intro zb) | intro j')
     all_goals try refine zbx ?_
     focus
      refine q_lp_n ((fun (k : Nat) (c : Cu) (l : List Int) => 6 - k) (k+1) ((drL b c N).2) ((drL b c N).1)) (dC fL1 ?_) ⟨k+1, (drL b c N).2, (drL b c N).1, dC fL1 ?_⟩
      all_goals try (refine zlf ?_; repeat' first | exact zso | refine And.intro ?_ ?_ | (refine zim ?_; intro zb hc) | (refine zin ?_; intro zb) | intro j')
      all_goals try refine zbx ?_
     all_goals trace_state
   ·obtain rfl : k = 6 := by omega
    have g4 : (l, c) = R := c1_2
    subst g4
    have cM4 := trivial
    refine dEa fL1 ?_
    all_goals try (refine zlf ?_; repeat' first | exact zso | refine And.intro ?_ ?_ | (refine zim ?_; intro zb hc) | (refine zin ?_; intro zb) | intro j')
    all_goals try refine zbx ?_
    all_goals trace_state
  all_goals trace_state
def bdQ (b : List UInt8) (s : Cu) : Int := [1, 1, 1, 2, (3 : Int)].getD (bwX b s 5).toNat 0
theorem bdQ_r {b : List UInt8} {s : Cu} : 1 ≤ bdQ b s ∧ bdQ b s ≤ 3 := by
 have q := bwX_r (b := b) (s := s) (n := 5)
 have h : bdQ b s ∈ [1, 1, 1, 2, (3 : Int)] := getD_mem (by simp; omega)
 simp at h; omega
theorem bdQ_c {m0 : Bool} (b : List UInt8) (s : Cu) (hb : b.length ≤ 1048576) : CallT Tryz.prog false 59 [.mu true (curC b s), .pv (.sl (.lent m0) [.int .i64 1, .int .i64 1, .int .i64 1, .int .i64 2, .int .i64 3])] [some (curC b (bwS b s 5)), none] [.int .i64 (bdQ b s)] :=
 spec_l1PickInt_b (m0 := m0) b s [1, 1, 1, 2, 3] hb (by decide) (by decide)
def ibL (b : List UInt8) (s : Cu) : Nat → List (List Int) × Cu
 | 0 => ([], s)
 | k + 1 => ((ibL b s k).1 ++ [(drL b (bwS b (ibL b s k).2 5) (bdQ b (ibL b s k).2).toNat).1], (drL b (bwS b (ibL b s k).2 5) (bdQ b (ibL b s k).2).toNat).2)
theorem ibL_p {b : List UInt8} {s : Cu} : ∀ {k : Nat}, (ibL b s k).1.length = k ∧ ∀ l ∈ (ibL b s k).1, isPermB l = true
 | 0 => by simp [ibL]
 | k + 1 => by
  obtain ⟨h1, h2⟩ := ibL_p (b := b) (s := s) (k := k)
  rw [ibL]
  refine ⟨by simp [h1], fun x hx => ?_⟩
  rcases List.mem_append.1 hx with q | q
  ·exact h2 x q
  ·rw [List.mem_singleton] at q; subst q
   have := bdQ_r (b := b) (s := (ibL b s k).2)
   exact drP (by omega)
def ibT : List (List UInt8) := [[50, 52, 49, 51], [51, 49, 52, 50], [50, 52, 49, 53, 51], [50, 53, 51, 49, 52], [51, 49, 53, 50, 52]]
theorem ib_all : ∀ t ∈ ibT, t.length ≤ 100 ∧ isPermB (prsL t) = true := by decide +kernel
/-- What is drawn first. -/
theorem ib_tail (b : List UInt8) (s : Cu) (p : List Int) (hb : b.length ≤ 1048576) (hp : isPermB p = true) : (ibL b s p.length).1.length = p.length ∧ (ibL b s p.length).1.all isPermB = true :=
 ⟨ibL_p.1, List.all_eq_true.2 ibL_p.2⟩
theorem inO_short {p : List Int} {L : List (List Int)} (h : inOk L = true) (he : L.length = p.length) : (inO p L p.length).length ≤ 8 := by
 rw [inO_len (by omega)]
 simp only [inOk, Bool.and_eq_true, decide_eq_true_eq] at h
 have := lenS_take (L := L) (j := p.length)
 omega
set_option maxHeartbeats 1600000 in
theorem spec_l5Inflated_x (b : List UInt8) (s : Cu) (hb : b.length ≤ 1048576) : ∃ s' p, CallT Tryz.prog false 58 [.mu true (curC b s)] [some (curC b s')] [.sl .own (List.map (PV.int .i64) p)] ∧ p.length ≤ 1048576 := by
 have q := bwX_r (b := b) (s := s) (n := 5)
 obtain ⟨N, hN⟩ : ∃ N : Nat, bwX b s 5 = (N : Int) := Int.eq_ofNat_of_zero_le (by omega)
 rw [hN] at q
 have hN4 : N < 5 := by omega
 have nn : (1 + (N : Int)).toNat = N + 1 := by omega
 obtain ⟨s2, hs2⟩ : ∃ s2, (drL b (bwS b s 5) (N + 1)).2 = s2 := ⟨_, rfl⟩
 obtain ⟨x, hx⟩ : ∃ x, bwX b s2 2 = x := ⟨_, rfl⟩
 by_cases h0 : x = 0
 ·subst h0
  obtain ⟨s3, t, c1, ht⟩ := spec_l1Pick_x (m0 := true) b (bwS b s2 2) ibT hb (by decide) (by decide)
  obtain ⟨t1, hp⟩ := ib_all t ht
  simp only [ibT, List.map_cons, List.map_nil] at c1
  generalize hP : prsL t = P at *
  obtain ⟨L, hL⟩ : ∃ L, (ibL b s3 P.length).1 = L := ⟨_, rfl⟩
  obtain ⟨y1, y2⟩ := ib_tail b s3 P hb hp
  rw [hL] at y1 y2
  have y3 : ∀ l ∈ L, l.length ≤ 8 := fun l hl => (isP_8 (List.all_eq_true.1 y2 l hl)).1
  have h8 := (isP_8 hp).1
  refine ⟨(ibL b s3 P.length).2, if inOk L = true then inO P L P.length else P, ?_, by split; exact Nat.le_trans (inO_short (by assumption) y1) (by decide); omega⟩
  refine fX sgCu [2] Tryz.func58 ?_
  have cE1 := @spec_ParsePerm_c; have cE2 := @spec_InflateBy_c; have cM1 := @spec_l1Below_c; have cM2 := @spec_l2Draw_c; have cM3 := @spec_l1Once_c
  have cM4 := @c1
  refine dEa (And.intro @hN (And.intro @nn (And.intro @hs2 (And.intro @hx @hP)))) ?_
  all_goals try (refine zlf ?_; repeat' first | exact zso | refine And.intro ?_ ?_ | (refine zim ?_; intro zb hc; repeat (have zc := zb.1; replace zb := zb.2)) | (refine zin ?_; intro zb) | intro j')
  all_goals try refine zbx ?_
  refine v_loopB (fun ms1 S1 => ∃ (k : Nat), S1.e 0 = .ptr 0 0 ∧ S1.h 0 = .live true (curC b (ibL b s3 k).2) ∧ 0 < S1.n ∧ OwnL (S1.e 3) S1.h S1.n (PV.int .i64) ((P).length) (P) ∧ OwnL (S1.e 4) S1.h S1.n (elI false) (((ibL b s3 k).1).length) ((ibL b s3 k).1) ∧ S1.e 5 = .p (.int .i64 (k)) ∧ (k ≤ P.length) ∧ NId (S1.e 4) (S1.e 3) ∧ NId (S1.e 3) (.ref 0 0 0) ∧ NId (S1.e 4) (.ref 0 0 0) ∧ ms1 = P.length - k) ((fun (k : Nat) => P.length - k) (0)) ?_ ⟨0, dC trivial ?_⟩
  all_goals try (refine zlf ?_; repeat' first | exact zso | refine And.intro ?_ ?_ | (refine zim ?_; intro zb hc; repeat (have zc := zb.1; replace zb := zb.2)) | (refine zin ?_; intro zb) | intro j')
  all_goals try refine zbx ?_
  rintro ms1 S1 ⟨k, h1_0, b1_0, l1_0, o1_3, o1_4, h1_5, c1_0, u1_0, u1_1, u1_2, hm1⟩
  obtain ⟨i1_3, h1_3, b1_3, l1_3⟩ := o1_3.out
  obtain ⟨i1_4, h1_4, b1_4, l1_4⟩ := o1_4.out
  have k1_0 := (u1_0).out h1_4 h1_3
  have k1_1 := (u1_1).out h1_3 rfl
  have k1_2 := (u1_2).out h1_4 rfl
  have ni1_3 := znds (x := i1_3) (n := S1.n)
  have ni1_4 := znds (x := i1_4) (n := S1.n)
  have n0 := znds (x := 0) (n := S1.n)
  have di1_3i1_4 := zdne (x := i1_3) (y := i1_4)
  have di1_30 := zdne (x := i1_3) (y := 0)
  have di1_40 := zdne (x := i1_4) (y := 0)
  have fL1 := (And.intro h1_0 (And.intro b1_0 (And.intro h1_5 (And.intro h1_3 (And.intro b1_3 (And.intro h1_4 (And.intro b1_4 (And.intro ni1_3 (And.intro ni1_4 (And.intro n0 (And.intro di1_3i1_4 (And.intro di1_30 di1_40))))))))))))
  ·obtain ⟨w1, w2⟩ := ibL_p (b := b) (s := s3) (k := k)
   by_cases hk : k < P.length
   ·have g5 := bdQ_r (b := b) (s := (ibL b s3 k).2)
    have cM4 := @bdQ_c
    refine dEa fL1 ?_
    all_goals try (refine zlf ?_; repeat' first | exact zso | refine And.intro ?_ ?_ | (refine zim ?_; intro zb hc; repeat (have zc := zb.1; replace zb := zb.2)) | (refine zin ?_; intro zb) | intro j')
    all_goals try refine zbx ?_
    focus
     refine q_lp_n ((fun (k : Nat) => P.length - k) (k+1)) (dC fL1 ?_) ⟨k+1, dC fL1 ?_⟩
     all_goals try (refine zlf ?_; repeat' first | exact zso | refine And.intro ?_ ?_ | (refine zim ?_; intro zb hc; repeat (have zc := zb.1; replace zb := zb.2)) | (refine zin ?_; intro zb) | intro j')
     all_goals try refine zbx ?_
    all_goals (first | (rw [ibL_p.1, ibL_p.1]; done) | skip)
    all_goals trace_state
   ·obtain rfl : k = P.length := by omega
    cases ho : inOk L with
    | true =>
     have z1 : (if true = true then inO P L P.length else []) = inO P L P.length := if_pos rfl
     have z2 : (if true = true then inO P L P.length else P) = inO P L P.length := if_pos rfl
     have cM4 := trivial
     refine dEa (And.intro fL1 (And.intro @hL (And.intro @ho (And.intro @z1 (And.intro @z2 (And.intro @hp @y2)))))) ?_
     all_goals try (refine zlf ?_; repeat' first | exact zso | refine And.intro ?_ ?_ | (refine zim ?_; intro zb hc; repeat (have zc := zb.1; replace zb := zb.2)) | (refine zin ?_; intro zb) | intro j')
     all_goals try refine zbx ?_
     all_goals trace_state
    | false =>
     have z1 : (if false = true then inO P L P.length else []) = [] := if_neg (by decide)
     have z2 : (if false = true then inO P L P.length else P) = P := if_neg (by decide)
     have cM4 := trivial
     refine dEa (And.intro fL1 (And.intro @hL (And.intro @ho (And.intro @z1 (And.intro @z2 (And.intro @hp @y2)))))) ?_
     all_goals try (refine zlf ?_; repeat' first | exact zso | refine And.intro ?_ ?_ | (refine zim ?_; intro zb hc; repeat (have zc := zb.1; replace zb := zb.2)) | (refine zin ?_; intro zb) | intro j')
     all_goals try refine zbx ?_
     all_goals trace_state
  all_goals trace_state
 ·have f0 : (x = 0) = False := eq_false h0
  have hp : isPermB (drL b (bwS b s 5) (N + 1)).1 = true := drP (by omega)
  generalize hP : (drL b (bwS b s 5) (N + 1)).1 = P at *
  obtain ⟨L, hL⟩ : ∃ L, (ibL b (bwS b s2 2) P.length).1 = L := ⟨_, rfl⟩
  obtain ⟨y1, y2⟩ := ib_tail b (bwS b s2 2) P hb hp
  rw [hL] at y1 y2
  have y3 : ∀ l ∈ L, l.length ≤ 8 := fun l hl => (isP_8 (List.all_eq_true.1 y2 l hl)).1
  have h8 := (isP_8 hp).1
  refine ⟨(ibL b (bwS b s2 2) P.length).2, if inOk L = true then inO P L P.length else P, ?_, by split; exact Nat.le_trans (inO_short (by assumption) y1) (by decide); omega⟩
  refine fX sgCu [2] Tryz.func58 ?_
  have cE1 := @spec_ParsePerm_c; have cE2 := @spec_InflateBy_c; have cM1 := @spec_l1Below_c; have cM2 := @spec_l2Draw_c; have cM3 := @spec_l1Once_c
  refine dEa (And.intro @hN (And.intro @nn (And.intro @hs2 (And.intro @hx (And.intro @f0 @hP))))) ?_
  all_goals try (refine zlf ?_; repeat' first | exact zso | refine And.intro ?_ ?_ | (refine zim ?_; intro zb hc; repeat (have zc := zb.1; replace zb := zb.2)) | (refine zin ?_; intro zb) | intro j')
  all_goals try refine zbx ?_
  refine v_loopB (fun ms1 S1 => ∃ (k : Nat), S1.e 0 = .ptr 0 0 ∧ S1.h 0 = .live true (curC b (ibL b (bwS b s2 2) k).2) ∧ 0 < S1.n ∧ OwnL (S1.e 3) S1.h S1.n (PV.int .i64) ((P).length) (P) ∧ OwnL (S1.e 4) S1.h S1.n (elI false) (((ibL b (bwS b s2 2) k).1).length) ((ibL b (bwS b s2 2) k).1) ∧ S1.e 5 = .p (.int .i64 (k)) ∧ (k ≤ P.length) ∧ NId (S1.e 4) (S1.e 3) ∧ NId (S1.e 3) (.ref 0 0 0) ∧ NId (S1.e 4) (.ref 0 0 0) ∧ ms1 = P.length - k) ((fun (k : Nat) => P.length - k) (0)) ?_ ⟨0, dC trivial ?_⟩
  all_goals try (refine zlf ?_; repeat' first | exact zso | refine And.intro ?_ ?_ | (refine zim ?_; intro zb hc; repeat (have zc := zb.1; replace zb := zb.2)) | (refine zin ?_; intro zb) | intro j')
  all_goals try refine zbx ?_
  rintro ms1 S1 ⟨k, h1_0, b1_0, l1_0, o1_3, o1_4, h1_5, c1_0, u1_0, u1_1, u1_2, hm1⟩
  obtain ⟨i1_3, h1_3, b1_3, l1_3⟩ := o1_3.out
  obtain ⟨i1_4, h1_4, b1_4, l1_4⟩ := o1_4.out
  have k1_0 := (u1_0).out h1_4 h1_3
  have k1_1 := (u1_1).out h1_3 rfl
  have k1_2 := (u1_2).out h1_4 rfl
  have ni1_3 := znds (x := i1_3) (n := S1.n)
  have ni1_4 := znds (x := i1_4) (n := S1.n)
  have n0 := znds (x := 0) (n := S1.n)
  have di1_3i1_4 := zdne (x := i1_3) (y := i1_4)
  have di1_30 := zdne (x := i1_3) (y := 0)
  have di1_40 := zdne (x := i1_4) (y := 0)
  have fL1 := (And.intro h1_0 (And.intro b1_0 (And.intro h1_5 (And.intro h1_3 (And.intro b1_3 (And.intro h1_4 (And.intro b1_4 (And.intro ni1_3 (And.intro ni1_4 (And.intro n0 (And.intro di1_3i1_4 (And.intro di1_30 di1_40))))))))))))
  ·obtain ⟨w1, w2⟩ := ibL_p (b := b) (s := (bwS b s2 2)) (k := k)
   by_cases hk : k < P.length
   ·have g5 := bdQ_r (b := b) (s := (ibL b (bwS b s2 2) k).2)
    have cM4 := @bdQ_c
    refine dEa fL1 ?_
    all_goals try (refine zlf ?_; repeat' first | exact zso | refine And.intro ?_ ?_ | (refine zim ?_; intro zb hc; repeat (have zc := zb.1; replace zb := zb.2)) | (refine zin ?_; intro zb) | intro j')
    all_goals try refine zbx ?_
    focus
     refine q_lp_n ((fun (k : Nat) => P.length - k) (k+1)) (dC fL1 ?_) ⟨k+1, dC fL1 ?_⟩
     all_goals try (refine zlf ?_; repeat' first | exact zso | refine And.intro ?_ ?_ | (refine zim ?_; intro zb hc; repeat (have zc := zb.1; replace zb := zb.2)) | (refine zin ?_; intro zb) | intro j')
     all_goals try refine zbx ?_
    all_goals (first | (rw [ibL_p.1, ibL_p.1]; done) | skip)
    all_goals trace_state
   ·obtain rfl : k = P.length := by omega
    cases ho : inOk L with
    | true =>
     have z1 : (if true = true then inO P L P.length else []) = inO P L P.length := if_pos rfl
     have z2 : (if true = true then inO P L P.length else P) = inO P L P.length := if_pos rfl
     have cM4 := trivial
     refine dEa (And.intro fL1 (And.intro @hL (And.intro @ho (And.intro @z1 (And.intro @z2 (And.intro @hp @y2)))))) ?_
     all_goals try (refine zlf ?_; repeat' first | exact zso | refine And.intro ?_ ?_ | (refine zim ?_; intro zb hc; repeat (have zc := zb.1; replace zb := zb.2)) | (refine zin ?_; intro zb) | intro j')
     all_goals try refine zbx ?_
     all_goals trace_state
    | false =>
     have z1 : (if false = true then inO P L P.length else []) = [] := if_neg (by decide)
     have z2 : (if false = true then inO P L P.length else P) = P := if_neg (by decide)
     have cM4 := trivial
     refine dEa (And.intro fL1 (And.intro @hL (And.intro @ho (And.intro @z1 (And.intro @z2 (And.intro @hp @y2)))))) ?_
     all_goals try (refine zlf ?_; repeat' first | exact zso | refine And.intro ?_ ?_ | (refine zim ?_; intro zb hc; repeat (have zc := zb.1; replace zb := zb.2)) | (refine zin ?_; intro zb) | intro j')
     all_goals try refine zbx ?_
     all_goals trace_state
  all_goals trace_state
theorem spec_l5Bent_x (b : List UInt8) (s : Cu) (hb : b.length ≤ 1048576) : ∃ s' p, CallT Tryz.prog false 32 [.mu true (curC b s)] [some (curC b s')] [.sl .own (List.map (PV.int .i64) p)] ∧ p.length ≤ 1048576 := by
 obtain ⟨x, hx⟩ : ∃ x, bwX b s 3 = x := ⟨_, rfl⟩
 by_cases h0 : x = 0
 ·subst h0
  obtain ⟨s1, p, c1, hp⟩ := spec_l2Bent_x b (bwS b s 3) hb
  refine ⟨s1, p, ?_, Nat.le_trans hp.len (by decide)⟩
  refine fX sgCu [2] Tryz.func32 ?_
  have cM1 := @spec_l1Once_c
  have cM2 := @c1
  refine dEa @hx ?_
  all_goals try (refine zlf ?_; repeat' first | exact zso | refine And.intro ?_ ?_ | (refine zim ?_; intro zb hc) | (refine zin ?_; intro zb) | intro j')
  all_goals try refine zbx ?_
  all_goals trace_state
 ·have f0 : (x = 0) = False := eq_false h0
  obtain ⟨s1, p, c1, hp⟩ := spec_l5Inflated_x b (bwS b s 3) hb
  refine ⟨s1, p, ?_, hp⟩
  refine fX sgCu [2] Tryz.func32 ?_
  have cM1 := @spec_l1Once_c
  have cM2 := @c1
  refine dEa (And.intro @hx @f0) ?_
  all_goals try (refine zlf ?_; repeat' first | exact zso | refine And.intro ?_ ?_ | (refine zim ?_; intro zb hc) | (refine zin ?_; intro zb) | intro j')
  all_goals try refine zbx ?_
  all_goals trace_state
theorem spec_DrawSimplesOf_x (b : List UInt8) (hb : b.length ≤ 1048576) : ∃ n, Fun Tryz.prog 8 [.sl (.lent false) (b.map u8P)] [.int .i64 n] ∧ -1 ≤ n ∧ n ≤ 6 := by
 have q := bwX_r (b := b) (s := ⟨0, newH b (min b.length 4000)⟩) (n := 8)
 refine ⟨bwX b ⟨0, newH b (min b.length 4000)⟩ 8 - 1, ?_, by omega⟩
 refine fO sgCu [2] Tryz.func8 ?_
 have cE1 := @spec_l1New_c; have cM1 := @spec_l1Below_c
 refine dEa trivial ?_
 all_goals try (refine zlf ?_; repeat' first | exact zso | refine And.intro ?_ ?_ | (refine zim ?_; intro zb hc) | (refine zin ?_; intro zb) | intro j')
 all_goals try refine zbx ?_
theorem spec_DrawEvenOdd_x (b : List UInt8) (hb : b.length ≤ 1048576) : ∃ n, Fun Tryz.prog 12 [.sl (.lent false) (b.map u8P)] [.int .i64 n] ∧ -1 ≤ n ∧ n ≤ 9 := by
 have q := bwX_r (b := b) (s := ⟨0, newH b (min b.length 4000)⟩) (n := 11)
 refine ⟨bwX b ⟨0, newH b (min b.length 4000)⟩ 11 - 1, ?_, by omega⟩
 refine fO sgCu [2] Tryz.func12 ?_
 have cE1 := @spec_l1New_c; have cM1 := @spec_l1Below_c
 refine dEa trivial ?_
 all_goals try (refine zlf ?_; repeat' first | exact zso | refine And.intro ?_ ?_ | (refine zim ?_; intro zb hc) | (refine zin ?_; intro zb) | intro j')
 all_goals try refine zbx ?_
theorem spec_DrawCountInflations_x (b : List UInt8) (hb : b.length ≤ 1048576) : ∃ n, Fun Tryz.prog 13 [.sl (.lent false) (b.map u8P)] [.int .i64 n] ∧ -1 ≤ n ∧ n ≤ 6 := by
 have q := bwX_r (b := b) (s := ⟨0, newH b (min b.length 4000)⟩) (n := 8)
 refine ⟨bwX b ⟨0, newH b (min b.length 4000)⟩ 8 - 1, ?_, by omega⟩
 refine fO sgCu [2] Tryz.func13 ?_
 have cE1 := @spec_l1New_c; have cM1 := @spec_l1Below_c
 refine dEa trivial ?_
 all_goals try (refine zlf ?_; repeat' first | exact zso | refine And.intro ?_ ?_ | (refine zim ?_; intro zb hc) | (refine zin ?_; intro zb) | intro j')
 all_goals try refine zbx ?_
theorem spec_DrawIsExceptional_x (b : List UInt8) (hb : b.length ≤ 1048576) : ∃ p, Fun Tryz.prog 10 [.sl (.lent false) (b.map u8P)] [.sl .own (List.map (PV.int .i64) p)] ∧ isPermB p = true := by
 obtain ⟨s1, p, c1, hp⟩ := spec_l31Draw_x b ⟨0, newH b (min b.length 4000)⟩ hb
 refine ⟨p, ?_, hp⟩
 refine fO sgCu [2] Tryz.func10 ?_
 have cE1 := @spec_l1New_c
 have cM1 := @c1
 refine dEa trivial ?_
 all_goals try (refine zlf ?_; repeat' first | exact zso | refine And.intro ?_ ?_ | (refine zim ?_; intro zb hc) | (refine zin ?_; intro zb) | intro j')
 all_goals try refine zbx ?_
theorem spec_DrawSimpleChain_x (b : List UInt8) (hb : b.length ≤ 1048576) : ∃ p, Fun Tryz.prog 5 [.sl (.lent false) (b.map u8P)] [.sl .own (List.map (PV.int .i64) p)] ∧ p.length ≤ 1048576 := by
 obtain ⟨x, hx⟩ : ∃ x, bwX b ⟨0, newH b (min b.length 4000)⟩ 4 = x := ⟨_, rfl⟩
 by_cases h0 : x = 0
 ·subst h0
  obtain ⟨s1, p, c1, h1⟩ := spec_l5Bent_x b (bwS b ⟨0, newH b (min b.length 4000)⟩ 4) hb
  refine ⟨p, ?_, h1⟩
  refine fO sgCu [2] Tryz.func5 ?_
  have cE1 := @spec_l1New_c; have cM1 := @spec_l1Once_c
  have cM2 := @c1
  refine dEa @hx ?_
  all_goals try (refine zlf ?_; repeat' first | exact zso | refine And.intro ?_ ?_ | (refine zim ?_; intro zb hc) | (refine zin ?_; intro zb) | intro j')
  all_goals try refine zbx ?_
  all_goals trace_state
 ·have f0 : (x = 0) = False := eq_false h0
  obtain ⟨s1, p, c1, h1⟩ := spec_l31Draw_x b (bwS b ⟨0, newH b (min b.length 4000)⟩ 4) hb
  refine ⟨p, ?_, Nat.le_trans (isP_8 h1).1 (by decide)⟩
  refine fO sgCu [2] Tryz.func5 ?_
  have cE1 := @spec_l1New_c; have cM1 := @spec_l1Once_c
  have cM2 := @c1
  refine dEa (And.intro @hx @f0) ?_
  all_goals try (refine zlf ?_; repeat' first | exact zso | refine And.intro ?_ ?_ | (refine zim ?_; intro zb hc) | (refine zin ?_; intro zb) | intro j')
  all_goals try refine zbx ?_
  all_goals trace_state
theorem spec_DrawSimpleLowers_x (b : List UInt8) (hb : b.length ≤ 1048576) : ∃ p, Fun Tryz.prog 11 [.sl (.lent false) (b.map u8P)] [.sl .own (List.map (PV.int .i64) p)] ∧ p.length ≤ 1048576 := by
 obtain ⟨x, hx⟩ : ∃ x, bwX b ⟨0, newH b (min b.length 4000)⟩ 4 = x := ⟨_, rfl⟩
 by_cases h0 : x = 0
 ·subst h0
  obtain ⟨s1, p, c1, h1⟩ := spec_l2Bent_x b (bwS b ⟨0, newH b (min b.length 4000)⟩ 4) hb
  refine ⟨p, ?_, Nat.le_trans h1.len (by decide)⟩
  refine fO sgCu [2] Tryz.func11 ?_
  have cE1 := @spec_l1New_c; have cM1 := @spec_l1Once_c
  have cM2 := @c1
  refine dEa @hx ?_
  all_goals try (refine zlf ?_; repeat' first | exact zso | refine And.intro ?_ ?_ | (refine zim ?_; intro zb hc) | (refine zin ?_; intro zb) | intro j')
  all_goals try refine zbx ?_
  all_goals trace_state
 ·have f0 : (x = 0) = False := eq_false h0
  obtain ⟨s1, p, c1, h1⟩ := spec_l31Draw_x b (bwS b ⟨0, newH b (min b.length 4000)⟩ 4) hb
  refine ⟨p, ?_, Nat.le_trans (isP_8 h1).1 (by decide)⟩
  refine fO sgCu [2] Tryz.func11 ?_
  have cE1 := @spec_l1New_c; have cM1 := @spec_l1Once_c
  have cM2 := @c1
  refine dEa (And.intro @hx @f0) ?_
  all_goals try (refine zlf ?_; repeat' first | exact zso | refine And.intro ?_ ?_ | (refine zim ?_; intro zb hc) | (refine zin ?_; intro zb) | intro j')
  all_goals try refine zbx ?_
  all_goals trace_state
/-! ### what the sort's worlds bear -/
section
open Go.Sort
variable {α : Type} [Inhabited α] {enc : α → Value} {w : World} {blk off m : Nat} {dk : Array α} {os : Array Obj}
theorem sw_size : (sortWorld enc w blk off m dk os).heap.size = w.heap.size + os.size := by
 simp [sortWorld, grow, putRow, mapBlock, Go.Sort.ahead]
theorem sw_other {B : Nat} (hB : B < w.heap.size) (hne : B ≠ blk) : (sortWorld enc w blk off m dk os).heap[B]? = w.heap[B]? := by
 simp only [sortWorld, grow, putRow, mapBlock, Go.Sort.ahead]
 rw [Array.getElem?_append_left (by simpa using hB), Array.getElem?_modify, if_neg (Ne.symm hne)]
theorem sw_at {c : Array Value} {e : TypeId} {fr : Nat × Nat} (h : w.heap[blk]? = some (.cells c e fr)) : (sortWorld enc w blk off m dk os).heap[blk]? = some (.cells (putCells enc off dk c) e fr) := by
 have hB : blk < w.heap.size := by
  rcases Nat.lt_or_ge blk w.heap.size with h1 | h1
  ·exact h1
  ·rw [Array.getElem?_eq_none h1] at h; cases h
 simp only [sortWorld, grow, putRow, mapBlock, Go.Sort.ahead]
 rw [Array.getElem?_append_left (by simpa using hB), Array.getElem?_modify, if_pos rfl, h]; rfl
theorem sw_drawn : w.drawn ≤ (sortWorld enc w blk off m dk os).drawn := Nat.le_add_right _ _
omit [Amb] [NoQ] in
theorem keep_grow [Amb] (hq : Amb.q = true) {w w' : World} {M : Nat → Prop} (hM : ∀ B, ¬ M B) (h : Keep w w' M) : ∃ q os', w' = grow (w.drewN q) os' := by
 obtain ⟨h1, h2, h3, h4, h5, h6⟩ := h
 have h6 := h6 hq
 refine ⟨w'.drawn - w.drawn, w'.heap.extract w.heap.size w'.heap.size, ?_⟩
 cases w with
 | mk hp tp dr os ou =>
  cases w' with
  | mk hp' tp' dr' os' ou' =>
   simp only at h1 h2 h3 h4 h5 h6
   subst h1; subst h2; subst h3
   simp only [grow, World.drewN, World.mk.injEq, and_true, true_and]
   refine ⟨?_, by omega⟩
   apply Array.ext_getElem?
   intro k
   by_cases hk : k < hp.size
   ·rw [Array.getElem?_append_left hk]; exact h5 k hk (hM k)
   ·rw [Array.getElem?_append_right (by omega), Array.getElem?_extract]
    by_cases h9 : k < hp'.size
    ·rw [if_pos (by omega)]; congr 1; omega
    ·rw [if_neg (by omega), Array.getElem?_eq_none (by omega)]
end
/-- Nothing is told of tables, all is told of draws. -/
@[reducible] def ambQ : Amb := ⟨fun _ => none, true⟩
omit [Amb] [NoQ] in
theorem Fun.callsQ {P : Program} {f : FuncId} {args : List PV} {n : Int} (hf : @Fun ambQ P f args [.int .i64 n]) (w : World) {vs : List Value} (hr : RepL w (fun _ => False) (fun _ => True) args vs) :
  Calls P f ⟨vs⟩ w fun e w' => e = .returned (.int .i64 n) ∧ ∃ q os', w' = Go.Sort.grow (w.drewN q) os' := by
 obtain ⟨_, _, _, _, h⟩ := hf
 have dead : ∀ j, argH (args.map .pv) j = .dead := fun j => by
  unfold argH
  rw [List.getElem?_map]
  cases args[j]? <;> rfl
 have hno : ∀ (ι : Nat → Loc) B, ¬ Held (argH (args.map .pv)) ι B := by
  rintro ι B ⟨id, ho⟩
  rw [dead] at ho; exact ho
 have hrep : ∀ (l : List PV) (vs : List Value) (k : Nat), RepL w (fun _ => False) (fun _ => True) l vs → RepAL w (Held (argH (args.map .pv)) fun _ => ⟨0, 0, 0, 0, noInn⟩) (fun _ => True) (fun _ => ⟨0, 0, 0, 0, noInn⟩) (argAVs k (l.map .pv)) vs := by
  intro l
  induction l with
  | nil => intro vs k h; simpa [argAVs, RepAL, RepL] using h
  | cons x l ih =>
   intro vs k h
   simp only [RepL] at h
   obtain ⟨v, vs', rfl, h1, h2⟩ := h
   simp only [List.map_cons, argAVs, Arg.av, RepAL, RepA]
   exact ⟨v, vs', rfl, RepP.tr (F := fun _ => False) (fun _ _ _ _ hv => ⟨hv, hno _ _⟩) (fun _ _ _ h => h) _ _ h1, ih _ _ h2⟩
 refine (h w (fun _ => True) (fun _ => ⟨0, 0, 0, 0, noInn⟩) vs (@AmbOk.mk ambQ w _ (fun B o h => by cases h) (fun B o h => by cases h)) (fun _ _ => trivial) ⟨?_, ?_⟩ (hrep _ _ _ hr)).mono ?_
 ·intro id; rw [dead]; trivial
 ·intro id _ B ho; rw [dead] at ho; exact ho.elim
 ·rintro e w' ⟨v, ι', rfl, _, hk, _, hv⟩
  have hv : v = .int .i64 n := by simpa [impAll, imp, imp1, RepA, RepP] using hv
  subst hv
  exact ⟨rfl, @keep_grow ambQ rfl _ _ _ (fun B => hno _ B) hk⟩
/-! ### one order -/
theorem insK_perm {L : List (List Int)} {p : List Int} {j : Nat} : (insK L p j).Perm (p :: L) := by
 rw [insK]
 conv => rhs; rw [← List.take_append_drop j L]
 exact List.perm_middle
theorem isort_perm (L : List (List Int)) : ∀ {A : List (List Int)}, (L.foldl insS A).Perm (L ++ A) := by
 induction L with
 | nil => intro A; exact List.Perm.refl _
 | cons x l ih =>
  intro A
  rw [List.foldl_cons]
  refine ih.trans ?_
  refine (List.Perm.append_left l (insK_perm (L := A) (p := x))).trans ?_
  exact List.perm_middle
theorem leP_anti {a b : List Int} (h1 : leP a b) (h2 : leP b a) : a = b := by
 by_cases e : a = b
 ·exact e
 ·have := bef_tot (a := a) (b := b) h2 e
  rw [leP] at h1; rw [h1] at this; cases this
theorem ws_uniq : ∀ {A B : List (List Int)}, WS A → WS B → A.Perm B → A = B
 | [], B, _, _, h => (List.Perm.nil_eq h)
 | a :: A, [], _, _, h => by have := h.length_eq; simp at this
 | a :: A, b :: B, h1, h2, h => by
  have h1' := List.pairwise_cons.1 h1
  have h2' := List.pairwise_cons.1 h2
  have e : a = b := by
   have ha : a ∈ b :: B := h.subset (by simp)
   have hb : b ∈ a :: A := h.symm.subset (by simp)
   rcases List.mem_cons.1 ha with e | ha
   ·exact e
   ·rcases List.mem_cons.1 hb with e | hb
    ·exact e.symm
    ·exact leP_anti (h1'.1 b hb) (h2'.1 a ha)
  subst e
  rw [ws_uniq h1'.2 h2'.2 (List.Perm.cons_inv h)]
theorem isort_of {A L : List (List Int)} (h1 : WS A) (h2 : A.Perm L) : A = isortL L := by
 refine ws_uniq h1 (isort_ws L List.Pairwise.nil) (h2.trans ?_)
 have := isort_perm L (A := [])
 rw [List.append_nil] at this
 exact this.symm
theorem swo_rows {n : Nat} (L : List (List Int)) : Go.Sort.SWO (ltOf fun i j : _root_.Fin n => cmpP (L.getD i.1 []) (L.getD j.1 [])) where
 irrefl x := bef_irr
 trans x y z h1 h2 := bef_trans h1 h2
 ntrans x y z h1 h2 := leP_trans (a := L.getD z.1 []) (b := L.getD y.1 []) (c := L.getD x.1 []) h2 h1
/-! ### the sort -/
omit [Amb] [NoQ] in
theorem ext_all {α : Type} (a : Array α) {n : Nat} (h : a.size = n) : a.extract 0 n = a := by subst h; simp
section
open Go.Sort
set_option maxHeartbeats 1000000 in
theorem sort_any {P : Program} {f g : FuncId} {fn : Func} (hf : P.funcs[f]? = some fn) (hb : fn.body.isSome = true) (hn : (fn.name == "runtime.NumGoroutine") = false)
  (hs : ∀ {α : Type} [Inhabited α] (enc : α → Value) (_ : OneCell enc) (cf : α → α → Int) (_ : SWO (ltOf cf)) (blk off cap : Nat) (d : Array α) (w : World) (_ : CmpLays1 P g #[] enc cf blk off d.size w) (_ : Holds enc w blk off d) (_ : blk < w.heap.size) (_ : d.size < 4611686018427387904),
   Calls P f #[.slice (some ⟨blk, off, none⟩) d.size cap, .func (.func g) #[] #[]] w fun e w' => e = .returned (.tuple #[]) ∧ ∃ d' n os, PermIn 0 d.size d d' ∧ SortedIn (ltOf cf) 0 d.size d' ∧ w' = sortWorld enc w blk off n d' os)
  (hc : ∀ (p q : List Int), p.length ≤ 1048576 → q.length ≤ 1048576 → @Fun ambQ P g [.sl .ro (p.map (PV.int .i64)), .sl .ro (q.map (PV.int .i64))] [.int .i64 (cmpP p q)])
  (L : List (List Int)) (h0 : 0 < L.length) (hL : L.length ≤ 1048576) (hl : ∀ l ∈ L, l.length ≤ 1048576) :
  CallT P false f [.mu false (List.map (elI false) L), .pv (.fn g [] [])] [some (List.map (elI false) (isortL L)), none] [] := by
 have eB : ∀ Z : List (List Int), mkB true (List.map (elI false) Z) = .live true (List.map (elI false) Z) := fun Z => mkB_plain (NDl.h (c := List.map (elI false) Z))
 have eL : lenC (List.map (elI false) L) = L.length := by rw [lenC_live, List.length_map]
 have eA : ∀ j, argH [.mu false (List.map (elI false) L), .pv (.fn g [] [])] j = if j = 0 then .live true (List.map (elI false) L) else .dead := fun j => by
  match j with
  | 0 => exact eB L
  | 1 => rfl
  | j + 2 => rfl
 have eP : ∀ j, postH false [.mu false (List.map (elI false) L), .pv (.fn g [] [])] [some (List.map (elI false) (isortL L)), none] [] j = if j = 0 then .live true (List.map (elI false) (isortL L)) else .dead := fun j => by
  match j with
  | 0 => exact eB (isortL L)
  | 1 => rfl
  | j + 2 => rfl
 have hnr : noRoL (List.map (elI false) (isortL L)) = true := noRoL_map (fun _ => nr_frI) _
 refine ⟨⟨fn, hf, hb, hn⟩, rfl, rfl, by simp [hnr], ?_⟩
 intro w G ι vs hamb hG ok hv
 simp only [argAVs, Arg.av, RepAL, RepA, eL] at hv
 obtain ⟨v0, vs1, rfl, ⟨a, cap, rfl, hle, hcap, hmax, hloc⟩, v1, vs2, rfl, hv1, rfl⟩ := hv
 simp only [RepP, RepL] at hv1
 obtain ⟨_, _, rfl, rfl, rfl⟩ := hv1
 have hlive := ok.ok 0
 rw [eA, if_pos rfl] at hlive
 obtain ⟨g1, g2, g3⟩ := hlive
 rw [List.length_map] at g1
 have hc0 : (ι 0).cap ≠ 0 := by omega
 rcases g3 with g3 | ⟨⟨cs, E, lo, hi, hcell, hfit, hfr⟩, hrep, horg⟩
 ·exact absurd g3 hc0
 have hBlt : (ι 0).B < w.heap.size := by
  rcases Nat.lt_or_ge (ι 0).B w.heap.size with h1 | h1
  ·exact h1
  ·rw [Array.getElem?_eq_none h1] at hcell; cases hcell
 have heldA : ∀ B, Held (argH [.mu false (List.map (elI false) L), .pv (.fn g [] [])]) ι B ↔ B = (ι 0).B := fun B => by
  constructor
  ·rintro ⟨id, ho⟩
   rw [eA] at ho
   split at ho
   ·rename_i e; subst e; exact ho.2.symm
   ·exact ho.elim
  ·rintro rfl
   exact ⟨0, by rw [eA, if_pos rfl]; exact ⟨hc0, rfl⟩⟩
 have heldP : ∀ B, Held (postH false [.mu false (List.map (elI false) L), .pv (.fn g [] [])] [some (List.map (elI false) (isortL L)), none] []) ι B ↔ B = (ι 0).B := fun B => by
  constructor
  ·rintro ⟨id, ho⟩
   rw [eP] at ho
   split at ho
   ·rename_i e; subst e; exact ho.2.symm
   ·exact ho.elim
  ·rintro rfl
   exact ⟨0, by rw [eP, if_pos rfl]; exact ⟨hc0, rfl⟩⟩
 rw [RepC_iff] at hrep
 have hel : ∀ j : _root_.Fin L.length, ∃ v, w.cell? ⟨(ι 0).B, (ι 0).off + j.1, none⟩ = some v ∧ v.oneCell' = true ∧ RepP w (Held (argH [.mu false (List.map (elI false) L), .pv (.fn g [] [])]) ι) G (elI false (L.getD j.1 [])) v := fun j => by
  refine hrep j.1 _ ?_
  rw [List.getElem?_map, List.getElem?_eq_getElem j.2, List.getD_eq_getElem?_getD, List.getElem?_eq_getElem j.2]; rfl
 let enc : _root_.Fin L.length → Value := fun j => Classical.choose (hel j)
 have he : ∀ j, w.cell? ⟨(ι 0).B, (ι 0).off + j.1, none⟩ = some (enc j) ∧ (enc j).oneCell' = true ∧ RepP w (Held (argH [.mu false (List.map (elI false) L), .pv (.fn g [] [])]) ι) G (elI false (L.getD j.1 [])) (enc j) := fun j => Classical.choose_spec (hel j)
 generalize enc = enc at he
 haveI : Inhabited (_root_.Fin L.length) := ⟨⟨0, h0⟩⟩
 let d : Array (_root_.Fin L.length) := Array.ofFn fun i => i
 have hd : d.size = L.length := Array.size_ofFn
 have hda : ∀ j (h : j < L.length), d[j]! = ⟨j, h⟩ := fun j h => by
  rw [getElem!_pos d j (by rw [hd]; exact h)]; exact Array.getElem_ofFn _
 have hdl : d.toList.map (fun i => L.getD i.1 []) = L := by
  apply List.ext_getElem?
  intro k
  rw [List.getElem?_map]
  by_cases hk : k < L.length
  ·rw [Array.getElem?_toList, Array.getElem?_eq_getElem (by rw [hd]; exact hk), List.getElem?_eq_getElem hk]
   simp only [Option.map_some, d, Array.getElem_ofFn]
   rw [List.getD_eq_getElem?_getD, List.getElem?_eq_getElem hk]; rfl
  ·rw [Array.getElem?_toList, Array.getElem?_eq_none (by rw [hd]; omega), List.getElem?_eq_none (by omega)]; rfl
 have hne : ∀ B o v, ¬ Held (argH [.mu false (List.map (elI false) L), .pv (.fn g [] [])]) ι B → w.cell? ⟨B, o, none⟩ = some v → B < w.heap.size ∧ B ≠ (ι 0).B := fun B o v hF hv => ⟨cell?_lt hv, fun e => hF ((heldA B).2 e)⟩
 have hst : ∀ (m : Nat) (dk : Array (_root_.Fin L.length)) (os : Array Obj) (B o : Nat) (v : Value), ¬ Held (argH [.mu false (List.map (elI false) L), .pv (.fn g [] [])]) ι B → w.cell? ⟨B, o, none⟩ = some v → (sortWorld enc w (ι 0).B (ι 0).off m dk os).cell? ⟨B, o, none⟩ = some v := fun m dk os B o v hF hv => by
  obtain ⟨q1, q2⟩ := hne B o v hF hv
  rw [cell?_eq, sw_other q1 q2, ← cell?_eq]; exact hv
 have hcmp : CmpLays1 P g #[] enc (fun i j : _root_.Fin L.length => cmpP (L.getD i.1 []) (L.getD j.1 [])) (ι 0).B (ι 0).off d.size w := by
  intro m os dk _ x y
  have hx : ∀ z : _root_.Fin L.length, RepP (sortWorld enc w (ι 0).B (ι 0).off m dk os) (fun _ => False) (fun _ => True) (.sl .ro ((L.getD z.1 []).map (PV.int .i64))) (enc z) := fun z => by
   have q := RepP.tr (F' := fun _ => False) (G' := fun _ => True) (w' := sortWorld enc w (ι 0).B (ι 0).off m dk os) (fun B o v hF hv => ⟨hst m dk os B o v hF hv, fun h => h⟩) (fun _ _ _ _ => trivial) _ _ (he z).2.2
   rw [elI_eq] at q
   simp only [RepP] at q ⊢
   obtain ⟨a', c', q1, q2, q3, _, q5⟩ := q
   refine ⟨a', c', q1, q2, q3, (by intro e; cases e), ?_⟩
   rcases q5 with q5 | ⟨B, o, q6, q7, _, q8⟩
   ·exact .inl q5
   ·exact .inr ⟨B, o, q6, q7, (by intro e; cases e), q8⟩
  have hlen : ∀ z : _root_.Fin L.length, (L.getD z.1 []).length ≤ 1048576 := fun z => hl _ (getD_mem z.2)
  have := Fun.callsQ (hc (L.getD x.1 []) (L.getD y.1 []) (hlen x) (hlen y)) (sortWorld enc w (ι 0).B (ι 0).off m dk os) (vs := [enc x, enc y]) (by
   simp only [RepL]
   exact ⟨_, _, rfl, hx x, _, _, rfl, hx y, rfl⟩)
  exact this
 have hH : Holds enc w (ι 0).B (ι 0).off d := by
  intro j hj
  rw [hd] at hj
  rw [hda j hj]
  refine ⟨(he ⟨j, hj⟩).1, ?_⟩
  simp only [World.frozen?, hcell]
  simp; omega
 have ha : a = some ⟨(ι 0).B, (ι 0).off, none⟩ := by
  rcases hloc with h | h
  ·omega
  ·simpa using h
 subst ha
 have key := hs enc (fun j => (he j).2.1) (fun i j : _root_.Fin L.length => cmpP (L.getD i.1 []) (L.getD j.1 [])) (swo_rows L) (ι 0).B (ι 0).off cap d w hcmp hH hBlt (by omega)
 rw [hd] at key
 refine key.mono ?_
 rintro e w' ⟨rfl, d', n, os, hp, hsrt, rfl⟩
 obtain ⟨p1, _, p3⟩ := hp
 have hd' : d'.size = L.length := by rw [p1, hd]
 have hperm : (d'.toList.map fun i => L.getD i.1 []).Perm L := by
  have e1 : (d'.extract 0 L.length).toList = d'.toList := by rw [ext_all d' hd']
  have e2 : (d.extract 0 L.length).toList = d.toList := by rw [ext_all d hd]
  rw [e1, e2] at p3
  have := p3.map fun i => L.getD i.1 []
  rwa [hdl] at this
 have hws : WS (d'.toList.map fun i => L.getD i.1 []) := by
  rw [WS, List.pairwise_map, List.pairwise_iff_getElem]
  intro i j hi hj hij
  have := hsrt i j (Nat.zero_le _) hij (by rw [← hd']; simpa using hj)
  rw [getElem!_pos d' j (by simpa using hj), getElem!_pos d' i (by simpa using hi)] at this
  exact this
 have hrows := isort_of hws hperm
 have hkeep : ∀ k, k < w.heap.size → ¬ argM [.mu false (List.map (elI false) L), .pv (.fn g [] [])] ι k → (sortWorld enc w (ι 0).B (ι 0).off n d' os).heap[k]? = w.heap[k]? := fun k hk hM => sw_other hk fun e => hM ((heldA k).2 e)
 have hstays : Stays w (sortWorld enc w (ι 0).B (ι 0).off n d' os) (Held (argH [.mu false (List.map (elI false) L), .pv (.fn g [] [])]) ι) (Held (postH false [.mu false (List.map (elI false) L), .pv (.fn g [] [])] [some (List.map (elI false) (isortL L)), none] []) ι) := fun B o v hF hv => ⟨hst n d' os B o v hF hv, fun h => hF ((heldA B).2 ((heldP B).1 h))⟩
 refine ⟨.tuple #[], ι, rfl, fun _ _ => LocEq.refl _, ⟨rfl, rfl, rfl, by rw [sw_size]; omega, hkeep, fun _ => sw_drawn⟩, ⟨fun id => ?_, fun id id' B ho ho' => ?_⟩, ?_⟩
 ·rw [eP]
  split
  ·rename_i e
   subst e
   refine ⟨by rw [List.length_map, isortL_len]; exact g1, g2, .inr ⟨⟨_, E, lo, hi, sw_at hcell, by simpa [putCells] using hfit, by simpa [putCells] using hfr⟩, ?_, horg⟩⟩
   rw [RepC_iff]
   intro j x hj
   have hj0 : j < L.length := by
    have := (List.getElem?_eq_some_iff.1 hj).1
    rw [List.length_map, isortL_len] at this; exact this
   rw [← hrows, List.map_map, List.getElem?_map, Array.getElem?_toList, Array.getElem?_eq_getElem (by omega)] at hj
   simp only [Option.map_some, Option.some.injEq, Function.comp] at hj
   subst hj
   have hx := he (d'[j]'(by omega))
   refine ⟨enc (d'[j]'(by omega)), ?_, hx.2.1, RepP.tr hstays (fun _ _ _ h => h) _ _ hx.2.2⟩
   have hcs : (ι 0).off + j < cs.size := by omega
   rw [cell?_eq, sw_at hcell]
   simp only [putCells, Array.getElem?_mapIdx]
   rw [Array.getElem?_eq_getElem hcs]
   simp only [Option.map_some]
   rw [if_pos ⟨by omega, by omega⟩, show (ι 0).off + j - (ι 0).off = j by omega, getElem!_pos d' j (by omega)]
  ·trivial
 ·rw [eP] at ho ho'
  split at ho
  ·split at ho'
   ·omega
   ·exact ho'.elim
  ·exact ho.elim
 ·simp [impAll, imps, RepA, RepAL]
end
end Go.Gl
namespace Go.Proofs
open Go.Shelf
def Tryz.laysSort_ren : Go.Shelf.Ren := ⟨fun | 6 => 93 | 15 => 111 | 14 => 110 | 28 => 126 | 29 => 127 | 20 => 118 | 21 => 119 | 22 => 120 | 23 => 121 | 24 => 122 | 25 => 123 | 26 => 124 | 27 => 125 | 46 => 132 | 47 => 133 | 48 => 134 | 49 => 135 | 50 => 136 | 57 => 137 | n => n, fun | 22 => 26 | 24 => 24 | 25 => 58 | 3 => 3 | 39 => 65 | 0 => 0 | 53 => 103 | 55 => 105 | 4 => 4 | 46 => 96 | 45 => 95 | 50 => 100 | 5 => 5 | 9 => 9 | 66 => 106 | 70 => 110 | 76 => 112 | 77 => 113 | n => n, fun | n => n⟩
theorem Tryz.laysSort : Go.Proofs.SlLaysF.n6 Tryz.prog Tryz.laysSort_ren := {
 mixed := by kernel_rfl
 f6 := ⟨Tryz.f93.name, by decide, Tryz.func93.trans (congrArg some (by kernel_rfl))⟩
 f14 := ⟨Tryz.f110.name, by decide, Tryz.func110.trans (congrArg some (by kernel_rfl))⟩
 f15 := Tryz.func111.trans (congrArg some (by kernel_rfl))
 f20 := ⟨Tryz.f118.name, by decide, Tryz.func118.trans (congrArg some (by kernel_rfl))⟩
 f21 := ⟨Tryz.f119.name, by decide, Tryz.func119.trans (congrArg some (by kernel_rfl))⟩
 f22 := ⟨Tryz.f120.name, by decide, Tryz.func120.trans (congrArg some (by kernel_rfl))⟩
 f23 := ⟨Tryz.f121.name, by decide, Tryz.func121.trans (congrArg some (by kernel_rfl))⟩
 f24 := ⟨Tryz.f122.name, by decide, Tryz.func122.trans (congrArg some (by kernel_rfl))⟩
 f25 := ⟨Tryz.f123.name, by decide, Tryz.func123.trans (congrArg some (by kernel_rfl))⟩
 f26 := ⟨Tryz.f124.name, by decide, Tryz.func124.trans (congrArg some (by kernel_rfl))⟩
 f27 := ⟨Tryz.f125.name, by decide, Tryz.func125.trans (congrArg some (by kernel_rfl))⟩
 f28 := Tryz.func126.trans (congrArg some (by kernel_rfl))
 f29 := Tryz.func127.trans (congrArg some (by kernel_rfl))
 f46 := ⟨Tryz.f132.name, by decide, Tryz.func132.trans (congrArg some (by kernel_rfl))⟩
 f47 := Tryz.func133.trans (congrArg some (by kernel_rfl))
 f48 := Tryz.func134.trans (congrArg some (by kernel_rfl))
 f49 := ⟨Tryz.f135.name, by decide, Tryz.func135.trans (congrArg some (by kernel_rfl))⟩
 f50 := ⟨Tryz.f136.name, by decide, Tryz.func136.trans (congrArg some (by kernel_rfl))⟩
 f57 := ⟨Tryz.f137.name, by decide, Tryz.func137.trans (congrArg some (by kernel_rfl))⟩
 t0 := Tryz.underlying0
 a0 := Tryz.isAgg0
 z0 := Tryz.sizeOf0
 v0 := Tryz.zeroValue0
 t3 := Tryz.underlying3
 a3 := Tryz.isAgg3
 z3 := Tryz.sizeOf3
 v3 := Tryz.zeroValue3
 t4 := Tryz.underlying4
 a4 := Tryz.isAgg4
 z4 := Tryz.sizeOf4
 v4 := Tryz.zeroValue4
 t5 := Tryz.underlying5
 a5 := Tryz.isAgg5
 z5 := Tryz.sizeOf5
 v5 := Tryz.zeroValue5
 t9 := Tryz.underlying9
 a9 := Tryz.isAgg9
 z9 := Tryz.sizeOf9
 v9 := Tryz.zeroValue9
 t22 := Tryz.underlying26
 a22 := Tryz.isAgg26
 z22 := Tryz.sizeOf26
 v22 := Tryz.zeroValue26
 a24 := Tryz.isAgg24
 z24 := Tryz.sizeOf24
 t25 := Tryz.underlying58
 a25 := Tryz.isAgg58
 z25 := Tryz.sizeOf58
 v25 := Tryz.zeroValue58
 t39 := Tryz.underlying65
 a39 := Tryz.isAgg65
 z39 := Tryz.sizeOf65
 v39 := Tryz.zeroValue65
 t45 := Tryz.underlying95
 a45 := Tryz.isAgg95
 z45 := Tryz.sizeOf95
 v45 := Tryz.zeroValue95
 t46 := Tryz.underlying96
 a46 := Tryz.isAgg96
 z46 := Tryz.sizeOf96
 v46 := Tryz.zeroValue96
 t50 := Tryz.underlying100
 a50 := Tryz.isAgg100
 z50 := Tryz.sizeOf100
 v50 := Tryz.zeroValue100
 t53 := Tryz.underlying103
 a53 := Tryz.isAgg103
 z53 := Tryz.sizeOf103
 v53 := Tryz.zeroValue103
 t55 := Tryz.underlying105
 a55 := Tryz.isAgg105
 z55 := Tryz.sizeOf105
 v55 := Tryz.zeroValue105
 t66 := Tryz.underlying106
 a66 := Tryz.isAgg106
 z66 := Tryz.sizeOf106
 v66 := Tryz.zeroValue106
 t70 := Tryz.underlying110
 a70 := Tryz.isAgg110
 z70 := Tryz.sizeOf110
 v70 := Tryz.zeroValue110
 t76 := Tryz.underlying112
 a76 := Tryz.isAgg112
 z76 := Tryz.sizeOf112
 v76 := Tryz.zeroValue112
 t77 := Tryz.underlying113
 a77 := Tryz.isAgg113
 z77 := Tryz.sizeOf113
 v77 := Tryz.zeroValue113 }
open Go.RowKit Go.Lib Go.Sort in
theorem Tryz.sort_all {α : Type} [Inhabited α] (enc : α → Value) (h1 : OneCell enc) (cf : α → α → Int) (hO : SWO (ltOf cf)) (g : Nat) (cb : Array Value) (blk off cap : Nat) (d : Array α) (w : World)
  (eg : ∀ args w, (callFunc g args).run Tryz.prog w = .ok (.enter g args) w) (hcmp : CmpLays1 Tryz.prog g cb enc cf blk off d.size w) (hH : Holds enc w blk off d) (hblk : blk < w.heap.size) (hsz : d.size < 4611686018427387904) :
  Calls Tryz.prog 93 #[.slice (some ⟨blk, off, none⟩) d.size cap, .func (.func g) #[] cb] w fun e w' => e = .returned (.tuple #[]) ∧ ∃ d' n os, PermIn 0 d.size d d' ∧ SortedIn (ltOf cf) 0 d.size d' ∧ w' = sortWorld enc w blk off n d' os :=
 Any.slices_SortFunc Tryz.laysSort enc h1 cf hO g cb blk off cap d w eg hcmp hH hblk hsz
end Go.Proofs
namespace Go.Gl
open Go Go.Proofs
variable [Amb] [NoQ]
theorem sort_all_c (Z : List (List Int)) (h0 : 0 < Z.length) (hl : Z.length ≤ 1048576) (hz : ∀ l ∈ Z, l.length ≤ 1048576) : CallT Tryz.prog false 93 [.mu false (List.map (elI false) Z), .pv (.fn 94 [] [])] [some (List.map (elI false) (isortL Z)), none] [] :=
 sort_any (g := 94) Tryz.func93 rfl rfl
  (fun enc h1 cf hO blk off cap d w hcmp hH hblk hsz => Tryz.sort_all enc h1 cf hO 94 #[] blk off cap d w (enters_of Tryz.func94 (by kernel_rfl) rfl) hcmp hH hblk hsz)
  (fun p q hp hq => @impl_comparePerms_c ambQ true true p q hp hq) Z h0 hl hz
theorem slices_SortFunc_LLint_int_a_c (Z : List (List Int)) (hl : Z.length ≤ 1048576) (hz : ∀ l ∈ Z, l.length ≤ 1048576) : CallT Tryz.prog false 93 [.mu false (List.map (elI false) (Z)), .pv (.fn 94 [] [])] [some (List.map (elI false) (isortL Z)), none] [] := by
 -- %nobody
 by_cases h0 : 0 < Z.length
 ·exact sort_all_c Z h0 hl hz
 ·exact slices_SortFunc_LLint_int_c Z (by omega) hz
def sgOrB : FuncId → List Bool := fun f => if f = 93 then [true] else if f = 95 then [true] else []
theorem sgOrB_eq {f : FuncId} : sgOrB f = if f = 93 then [true] else if f = 95 then [true] else [] := _root_.id rfl
theorem way_sgOrB : wayE sgOrB = false ∧ wayN sgOrB = false ∧ wayS sgOrB = false ∧ wayZ sgOrB = false ∧ wayM sgOrB = false := ⟨rfl, rfl, rfl, rfl, rfl⟩
attribute [go_sem] sgOrB_eq way_sgOrB
theorem impl_ordered_a_c {e0 m0 : Bool} (L : List (List Int)) (hL : L.length ≤ 1000) (hl : ∀ l ∈ L, l.length ≤ 1048576) : Fun Tryz.prog 65 [(.sl (.lent m0) (List.map (elI e0) (L)))] [(.sl .own (List.map (elI false) (putL L)))] := by
 refine fO sgOrB [2] Tryz.func65 ?_
 have cE1 := @slices_Clone_c; have cE2 := @impl_comparePerms_c; have cE3 := @slices_Equal_int_int_c; have cM1 := @slices_SortFunc_LLint_int_a_c; have cM2 := @slices_SortFunc_LLint_int_c; have cM3 := @slices_CompactFunc_LLint_int_c
 refine dEa trivial ?_
 all_goals try (refine zlf ?_; repeat' first | exact zso | refine And.intro ?_ ?_ | (refine zim ?_; intro zb hc) | (refine zin ?_; intro zb) | intro j')
 all_goals try refine zbx ?_
 refine v_loopB (fun ms1 S1 => ∃ (k : Nat), S1.e 7 = .p (.sl (.lent m0) (List.map (elI e0) (L))) ∧ S1.e 8 = .p (.int .i64 (L.length)) ∧ OwnL (S1.e 3) S1.h S1.n (elI false) ((L.take k).length) (L.take k) ∧ S1.e 9 = .p (.int .i64 (k)) ∧ (k ≤ L.length) ∧ ms1 = L.length - k) ((fun (k : Nat) => L.length - k) (0)) ?_ ⟨0, dC trivial ?_⟩
 all_goals try (refine zlf ?_; repeat' first | exact zso | refine And.intro ?_ ?_ | (refine zim ?_; intro zb hc) | (refine zin ?_; intro zb) | intro j')
 all_goals try refine zbx ?_
 rintro ms1 S1 ⟨k, h1_7, h1_8, o1_3, h1_9, c1_0, hm1⟩
 obtain ⟨i1_3, h1_3, b1_3, l1_3⟩ := o1_3.out
 have ni1_3 := znds (x := i1_3) (n := S1.n)
 have fL1 := (And.intro h1_7 (And.intro h1_8 (And.intro h1_9 (And.intro h1_3 (And.intro b1_3 ni1_3)))))
 ·have b1 : k < L.length → (L.getD k []).length ≤ 1048576 := fun h => hl _ (getD_mem h)
  refine dE fL1 ?_
  all_goals try (refine zlf ?_; repeat' first | exact zso | refine And.intro ?_ ?_ | (refine zim ?_; intro zb hc) | (refine zin ?_; intro zb) | intro j')
  all_goals try refine zbx ?_
  all_goals try have b3 := b1 (by omega)
  all_goals try exact zaut
  ·focus
    refine q_lp_n ((fun (k : Nat) => L.length - k) (k+1)) (dC fL1 ?_) ⟨k+1, dC fL1 ?_⟩
    all_goals try (refine zlf ?_; repeat' first | exact zso | refine And.intro ?_ ?_ | (refine zim ?_; intro zb hc) | (refine zin ?_; intro zb) | intro j')
    all_goals try refine zbx ?_
   rw [take_getD (d := []) (by omega)]
  ·intro l h; exact hl l (List.mem_of_mem_take h)
  ·rw [isortL_len]
  ·rw [isortL_len]; simp; omega
  ·intro l h; have := hl l (List.mem_of_mem_take (isortL_mem.1 h)); omega
  ·rw [List.take_of_length_le (by omega), ord_eq]
 all_goals trace_state
end Go.Gl
