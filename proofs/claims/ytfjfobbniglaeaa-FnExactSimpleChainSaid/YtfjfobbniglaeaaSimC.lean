/-
 Simple permutations one below the other: what their functions compute. Conditions: none.
-/
import Derived.Test.YtfjfobbniglaeaaPatI2
import Derived.Test.YtfjfobbniglaeaaBasis
import Derived.Test.YtfjfobbniglaeaaOrd
import Derived.Test.YtfjfobbniglaeaaPatM
set_option linter.unusedSimpArgs false
set_option linter.unusedVariables false
set_option maxRecDepth 20000
set_option linter.unusedSectionVars false
namespace Go.Gl
open Go Go.Proofs
variable [Amb] [NoQ]
/-- Those one below, or two below if there are none. -/
def nxS (p : List Int) : List (List Int) := if smpL p = [] then (ptR p (p.length - 2)).filter isSimB else smpL p
def nxQ (p : List Int) : List Int := (nxS p).getD 0 []
theorem rk_mono {x y : Int} (h : x < y) : ∀ {l : List Int}, (l.filter fun z => decide (z < x)).length + l.count x ≤ (l.filter fun z => decide (z < y)).length
 | [] => by simp
 | a :: l => by
  have ih := rk_mono h (l := l)
  rw [List.filter_cons, List.filter_cons, List.count_cons]
  by_cases h1 : a < x
  ·have h2 : a < y := by omega
   have h3 : ¬ a = x := by omega
   simp [h1, h2, h3]; omega
  ·by_cases h2 : a < y
   ·by_cases h3 : a = x
    ·simp [h1, h2, h3, h]; omega
    ·simp [h1, h2, h3]; omega
   ·have h3 : ¬ a = x := by omega
    simp [h1, h2, h3]; omega
theorem patL_at {r : List Int} {i : Nat} (hi : i < r.length) : (patL r).getD i 0 = (((r.filter fun z => decide (z < r.getD i 0)).length : Nat) : Int) + 1 := by
 rw [patL, List.getD_eq_getElem?_getD, List.getElem?_map, List.getElem?_eq_getElem hi, List.getD_eq_getElem?_getD, List.getElem?_eq_getElem hi]
 simp [rkI]
theorem patL_ord {r : List Int} {i j : Nat} (hi : i < r.length) (hj : j < r.length) : (patL r).getD i 0 < (patL r).getD j 0 ↔ r.getD i 0 < r.getD j 0 := by
 rw [patL_at hi, patL_at hj]
 have hc : ∀ k, k < r.length → 1 ≤ r.count (r.getD k 0) := fun k hk => List.one_le_count_iff.2 (getD_mem hk)
 have h1 := hc i hi
 have h2 := hc j hj
 rcases Int.lt_trichotomy (r.getD i 0) (r.getD j 0) with h | h | h
 ·have := rk_mono h (l := r); omega
 ·rw [h]; omega
 ·have := rk_mono h (l := r); omega
theorem rg_gd {n i : Nat} (h : i < n) : (List.range n).getD i 0 = i := by rw [List.getD_eq_getElem?_getD, List.getElem?_range h]; rfl
theorem has_self {p : List Int} : hasB p p = true := by
 rw [hasB_iff]
 refine ⟨List.range p.length, by simp, List.pairwise_lt_range, fun x hx => List.mem_range.1 hx, fun i j hij hj => ?_⟩
 rw [List.length_range] at hj
 rw [rg_gd (by omega), rg_gd hj]
def skJ (j k : Nat) : Nat := if k < j then k else k + 1
theorem skJ_at {p : List Int} {j k : Nat} (hj : j < p.length) (hk : k < p.length - 1) : (p.take j ++ p.drop (j + 1)).getD k 0 = p.getD (skJ j k) 0 := by
 unfold skJ
 by_cases h : k < j
 ·rw [if_pos h, List.getD_eq_getElem?_getD, List.getElem?_append_left (by simp; omega), List.getElem?_take_of_lt h, ← List.getD_eq_getElem?_getD]
 ·rw [if_neg h, List.getD_eq_getElem?_getD, List.getElem?_append_right (by simp; omega), List.getElem?_drop, List.length_take, List.getD_eq_getElem?_getD]
  congr 2; omega
theorem patL_sub {p : List Int} {k : Nat} (hk : k < p.length) : hasB p (woL p k) = true := by
 have hl := woL_len hk
 have hr : (p.take k ++ p.drop (k + 1)).length = p.length - 1 := by simp; omega
 refine hasB_of (p := woL p k) (skJ k) (fun i j hij _ => by unfold skJ; split <;> split <;> omega) (fun i hi => by unfold skJ; split <;> omega) (fun i j hi hj => ?_) has_self
 rw [woL, patL_ord (by omega) (by omega), skJ_at hk (by omega), skJ_at hk (by omega)]
theorem nxS_ok {p : List Int} (hp : isPermB p = true) (hs : isSimB p = true) (h2 : 2 < p.length) : nxS p ≠ [] ∧ ∀ q ∈ nxS p, isPermB q = true ∧ isSimB q = true ∧ q.length < p.length ∧ q.length + 2 ≥ p.length ∧ hasB p q = true := by
 obtain ⟨h8, hq⟩ := isP_8 hp
 have h4 : 4 ≤ p.length := by
  rcases Nat.lt_or_ge p.length 4 with g | g
  ·have e3 : p.length = 3 := by omega
   have := sim_3 p (permL_mem.2 ⟨hq, e3⟩)
   rw [this] at hs; cases hs
  ·exact g
 unfold nxS
 by_cases h : smpL p = []
 ·rw [if_pos h]
  have hx := smp_nil hq h8 h4 hs h
  obtain ⟨_, _, _, g4, g5⟩ := pi_all p.length (by omega) p hx
  refine ⟨fun e => g4 (by rw [e]; rfl), fun q hqm => ?_⟩
  have := List.all_eq_true.1 g5 q hqm
  simp only [Bool.and_eq_true, decide_eq_true_eq] at this
  exact ⟨this.1.1, (List.mem_filter.1 hqm).2, by omega, by omega, this.2⟩
 ·rw [if_neg h]
  refine ⟨h, fun q hqm => ?_⟩
  rw [smpL, List.mem_filter] at hqm
  obtain ⟨k, hk, rfl⟩ := low_mem hqm.1
  have e := woL_len hk
  exact ⟨(low_facts hq h8 hqm.1).2.1, hqm.2, by omega, by omega, patL_sub hk⟩
theorem nxQ_mem {p : List Int} (hp : isPermB p = true) (hs : isSimB p = true) (h2 : 2 < p.length) : nxQ p ∈ nxS p := by
 have h := (nxS_ok hp hs h2).1
 exact getD_mem (List.length_pos_iff.2 h)
/-- The chain below. -/
def chL : Nat → List Int → List (List Int)
 | 0, p => [p]
 | d + 1, p => if 2 < p.length then p :: chL d (nxQ p) else [p]
end Go.Gl
