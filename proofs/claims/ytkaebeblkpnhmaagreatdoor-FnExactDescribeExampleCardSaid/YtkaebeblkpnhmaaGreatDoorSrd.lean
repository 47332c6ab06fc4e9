/-
  Lists in order: what the library's function computes. Conditions: none.
-/
import Derived.Test.YtkaebeblkpnhmaaGreatDoorBasis
set_option linter.unusedSimpArgs false
set_option linter.unusedVariables false
set_option maxRecDepth 20000
set_option linter.unusedSectionVars false
namespace Go.Gl
open Go Go.Proofs
variable [Amb]
def srtB (l : List Int) : Bool := (List.range l.length).all fun i => decide (i = 0) || decide (l.getD (i - 1) 0 ≤ l.getD i 0)
theorem srtB_iff {l : List Int} : srtB l = true ↔ ∀ i, i < l.length → 0 < i → l.getD (i - 1) 0 ≤ l.getD i 0 := by
  simp only [srtB, List.all_eq_true, List.mem_range, Bool.or_eq_true, decide_eq_true_eq]
  constructor
  · intro h i hi h0; rcases h i hi with h | h
    · omega
    · exact h
  · intro h i hi
    by_cases h0 : i = 0
    · exact .inl h0
    · exact .inr (h i hi (by omega))
theorem cmp_Less_int_c (x : Int) (y : Int) : Fun Tryz.prog 135 [(.int .i64 (x)), (.int .i64 (y))] [(.bool (decide (x < y)))] := by
  refine fO sg0 [4] Tryz.func135 ?_
  have cE1 := @cmp_isNaN_int_c
  refine dEa trivial ?_
  all_goals try (refine zlf ?_; repeat' first | exact zso | refine And.intro ?_ ?_ | (refine zim ?_; intro zb hc) | (refine zin ?_; intro zb) | intro j')
  all_goals try refine zbx ?_
theorem slices_IsSorted_int_int_c {m0 : Bool} (l : List Int) (hl : l.length ≤ 1048576) : Fun Tryz.prog 115 [(.sl (.lent m0) (List.map (PV.int .i64) (l)))] [(.bool (srtB l))] := by
  refine fO sg0 [2] Tryz.func115 ?_
  have cE1 := @cmp_Less_int_c; have cD1 := zdh [false, false, false, false, false, false, false, false, false, true] []
  refine dEa trivial ?_
  all_goals try (refine zlf ?_; repeat' first | exact zso | refine And.intro ?_ ?_ | (refine zim ?_; intro zb hc) | (refine zin ?_; intro zb) | intro j')
  all_goals try refine zbx ?_
  refine v_loopB (fun ms1 S1 => ∃ (k : Nat), S1.e 0 = .p (.sl (.lent m0) (List.map (PV.int .i64) (l))) ∧ S1.e 3 = .p (.int .i64 (k - 1)) ∧ (k ≤ l.length) ∧ (∀ i, k ≤ i → i < l.length → 0 < i → l.getD (i - 1) 0 ≤ l.getD i 0) ∧ ms1 = k) ((fun (k : Nat) => k) (l.length)) ?_ ⟨l.length, dIa trivial ?_⟩
  all_goals try (refine zlf ?_; repeat' first | exact zso | refine And.intro ?_ ?_ | (refine zim ?_; intro zb hc) | (refine zin ?_; intro zb) | intro j')
  all_goals try refine zbx ?_
  rintro ms1 S1 ⟨k, h1_0, h1_3, c1_0, c1_1, hm1⟩
  have fL1 := (And.intro h1_0 h1_3)
  have e1 : ((k : Int) - 1).toNat = k - 1 := by omega
  have e2 : ((k : Int) - 1 - 1).toNat = k - 1 - 1 := by omega
  refine dEa fL1 ?_
  all_goals try (refine zlf ?_; repeat' first | exact zso | refine And.intro ?_ ?_ | (refine zim ?_; intro zb hc) | (refine zin ?_; intro zb) | intro j')
  all_goals try refine zbx ?_
  · refine (Bool.eq_false_iff.2 fun h => ?_).symm
    have := srtB_iff.1 h (k - 1) (by omega) (by omega)
    rw [e1, e2] at hc; omega
  · focus
      refine q_lp_n ((fun (k : Nat) => k) (k-1)) (dC fL1 ?_) ⟨k-1, dC fL1 ?_⟩
      all_goals try (refine zlf ?_; repeat' first | exact zso | refine And.intro ?_ ?_ | (refine zim ?_; intro zb hc) | (refine zin ?_; intro zb) | intro j')
      all_goals try refine zbx ?_
    intro i h1 h2 h3
    by_cases h4 : i = k - 1
    · subst h4; rw [e1, e2] at hc; exact hc
    · exact c1_1 i (by omega) h2 h3
  · refine (srtB_iff.2 fun i h1 h2 => c1_1 i (by omega) h1 h2).symm
end Go.Gl
