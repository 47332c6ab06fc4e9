/-
  Grids: what their functions compute. Conditions: none.
-/
import Derived.Test.YtknmheddofilbaaLaw1
import Derived.Test.YtknmheddofilbaaLib
set_option linter.unusedSimpArgs false
set_option linter.unusedVariables false
set_option maxRecDepth 20000
set_option linter.unusedSectionVars false
namespace Go.Gl
open Go Go.Proofs
variable [Amb]
def rowB (n : Nat) (r : List Int) : Bool := decide (r.length = n) && decide (1 ≤ r.length) && decide (r.length ≤ 3) && r.all fun x => decide (-1 ≤ x) && decide (x ≤ 1)
def gridB (m : List (List Int)) : Bool := decide (1 ≤ m.length) && decide (m.length ≤ 3) && m.all (rowB (m.getD 0 []).length)
theorem all_at {α : Type} {l : List α} {p : α → Bool} {k : Nat} {d : α} (h : k < l.length) (hf : p (l.getD k d) = false) : l.all p = false := by
  rw [List.all_eq_false]; exact ⟨l.getD k d, getD_mem h, by rw [hf]; decide⟩
theorem all_succ {α : Type} {l : List α} {p : α → Bool} {k : Nat} {d : α} (h : k < l.length) (hf : p (l.getD k d) = true) (ht : (l.take k).all p = true) : (l.take (k + 1)).all p = true := by
  rw [take_getD (d := d) h, List.all_append, ht, List.all_cons, hf]; rfl
theorem grid_bad {m : List (List Int)} {k : Nat} (h : k < m.length) (hf : rowB (m.getD 0 []).length (m.getD k []) = false) : gridB m = false := by
  rw [gridB, all_at h hf, Bool.and_false]
theorem spec_IsGrid_c {e0 m0 : Bool} (m : List (List Int)) (hm : m.length ≤ 1099511627776) (hl : ∀ l ∈ m, l.length ≤ 1099511627776) : Fun Try.prog 24 [(.sl (.lent m0) (List.map (elI e0) (m)))] [(.bool (gridB m))] := by
  refine fO sg0 [2] Try.func24 ?_
  have cE1 := @spec_l1In_c; have cD1 := zdh [false, false, false, false, false, false, false, false, false, false, false, false, false, false, false, false, true, false, false] []
  refine dE trivial ?_
  all_goals try (refine zlf ?_; repeat' first | exact zso | refine And.intro ?_ ?_ | (refine zim ?_; intro zb hc) | (refine zin ?_; intro zb) | intro j')
  all_goals try refine zbx ?_
  refine v_loopB (fun ms1 S1 => ∃ (k : Nat), S1.e 0 = .p (.sl (.lent m0) (List.map (elI e0) (m))) ∧ S1.e 3 = .p (.int .i64 (k)) ∧ (k ≤ m.length) ∧ ((m.take k).all (rowB (m.getD 0 []).length) = true) ∧ ms1 = m.length - k) ((fun (k : Nat) => m.length - k) (0)) ?_ ⟨0, dI trivial ?_⟩
  all_goals try (refine zlf ?_; repeat' first | exact zso | refine And.intro ?_ ?_ | (refine zim ?_; intro zb hc) | (refine zin ?_; intro zb) | intro j')
  all_goals try refine zbx ?_
  rintro ms1 S1 ⟨k, h1_0, h1_3, c1_0, c1_1, hm1⟩
  have fL1 := (And.intro h1_0 h1_3)
  refine dE fL1 ?_
  all_goals try (refine zlf ?_; repeat' first | exact zso | refine And.intro ?_ ?_ | (refine zim ?_; intro zb hc) | (refine zin ?_; intro zb) | intro j')
  all_goals try refine zbx ?_
  all_goals try have hk := hl (m.getD k []) (getD_mem (by omega))
  all_goals try exact zaut
  · rw [grid_bad (by omega : k < m.length)]
    rw [rowB]
    rcases hc with hc | hc
    · rw [decide_eq_false (by omega : ¬ 1 ≤ (m.getD k []).length)]; simp
    · rw [decide_eq_false (by omega : ¬ (m.getD k []).length ≤ 3)]; simp
  · refine v_loopB (fun ms2 S2 => ∃ (c : Nat), S2.e 0 = .p (.sl (.lent m0) (List.map (elI e0) (m))) ∧ S2.e 3 = .p (.int .i64 (k)) ∧ S2.e 4 = .p (.int .i64 (c)) ∧ (c ≤ (m.getD k []).length) ∧ (((m.getD k []).take c).all (fun x => decide (-1 ≤ x) && decide (x ≤ 1)) = true) ∧ S1.n ≤ S2.n ∧ ms2 = (m.getD k []).length - c) ((fun (c : Nat) => (m.getD k []).length - c) (0)) ?_ ⟨0, dIa fL1 ?_⟩
    all_goals try (refine zlf ?_; repeat' first | exact zso | refine And.intro ?_ ?_ | (refine zim ?_; intro zb hc) | (refine zin ?_; intro zb) | intro j')
    all_goals try refine zbx ?_
    rintro ms2 S2 ⟨c, h2_0, h2_3, h2_4, c2_0, c2_1, u2_0, hm2⟩
    have fL2 := (And.intro h2_0 (And.intro h2_3 h2_4))
    refine dEa fL2 ?_
    all_goals try (refine zlf ?_; repeat' first | exact zso | refine And.intro ?_ ?_ | (refine zim ?_; intro zb hc) | (refine zin ?_; intro zb) | intro j')
    all_goals try refine zbx ?_
    · rw [grid_bad (by omega : k < m.length)]
      rw [rowB, all_at (d := 0) (by omega : c < (m.getD k []).length)]
      · simp
      · rcases hc with hc | hc
        · rw [decide_eq_false (by omega)]; rfl
        · rw [decide_eq_false (by omega : ¬ _ ≤ (1 : Int))]; simp
    · focus
        refine q_lp_n ((fun (c : Nat) => (m.getD k []).length - c) (c+1)) (dC fL2 ?_) ⟨c+1, dC fL2 ?_⟩
        all_goals try (refine zlf ?_; repeat' first | exact zso | refine And.intro ?_ ?_ | (refine zim ?_; intro zb hc) | (refine zin ?_; intro zb) | intro j')
        all_goals try refine zbx ?_
      exact all_succ (d := 0) (by omega) (by rw [decide_eq_true (by omega), decide_eq_true (by omega)]; rfl) c2_1
    · focus
        refine q_lp_n ((fun (k : Nat) => m.length - k) (k+1)) (dC fL2 ?_) ⟨k+1, dC fL2 ?_⟩
        all_goals try (refine zlf ?_; repeat' first | exact zso | refine And.intro ?_ ?_ | (refine zim ?_; intro zb hc) | (refine zin ?_; intro zb) | intro j')
        all_goals try refine zbx ?_
      refine all_succ (d := []) (by omega) ?_ c1_1
      rw [List.take_of_length_le (by omega)] at c2_1
      rw [rowB, c2_1, decide_eq_true (by omega), decide_eq_true (by omega), decide_eq_true (by omega)]; rfl
  · rw [grid_bad (by omega : k < m.length)]
    rw [rowB, decide_eq_false (by omega)]; simp
  · rw [List.take_of_length_le (by omega)] at c1_1
    rw [gridB, c1_1, Bool.and_true]; congr 1 <;> (rw [decide_eq_decide]; omega)
theorem impl_IsGrid_1_c (x : Int) : Fun Try.prog 100 [(.int .i64 (x))] [(.bool ((decide (x < -1) || decide (1 < x))))] := by
  refine fO sg0 [2] Try.func100 ?_
  refine dE trivial ?_
  all_goals try (refine zlf ?_; repeat' first | exact zso | refine And.intro ?_ ?_ | (refine zim ?_; intro zb hc) | (refine zin ?_; intro zb) | intro j')
  all_goals try refine zbx ?_
  · simp
  · simp
theorem any_bad (r : List Int) : (r.any fun x => decide (x < -1) || decide (1 < x)) = !(r.all fun x => decide (-1 ≤ x) && decide (x ≤ 1)) := by
  rw [List.not_all_eq_any_not]
  congr 1; funext x
  rw [Bool.not_and, ← decide_not, ← decide_not]
  congr 1 <;> (rw [decide_eq_decide]; omega)
theorem impl_IsGrid_c {e0 m0 : Bool} (m : List (List Int)) (hm : m.length ≤ 1099511627776) (hl : ∀ l ∈ m, l.length ≤ 1099511627776) : Fun Try.prog 23 [(.sl (.lent m0) (List.map (elI e0) (m)))] [(.bool (gridB m))] := by
  have hf : ∀ l ∈ m, Fun Try.prog 99 [.sl (.lent e0) (List.map (PV.int .i64) l), .fn 100 [] []] [.bool (l.any fun x => decide (x < -1) || decide (1 < x))] := fun l h =>
    slices_ContainsFunc_int_int_c l _ [] _ (hl l h) fun x _ => impl_IsGrid_1_c x
  refine fO sg0 [2] Try.func23 ?_
  have cE1 := @impl_IsGrid_1_c; have cE2 := @slices_ContainsFunc_int_int_c
  have cE2 := @hf; have cE3 := @slices_ContainsFunc_int_int_c
  refine dEa trivial ?_
  all_goals try (refine zlf ?_; repeat' first | exact zso | refine And.intro ?_ ?_ | (refine zim ?_; intro zb hc) | (refine zin ?_; intro zb) | intro j')
  all_goals try refine zbx ?_
  · rw [gridB, List.all_eq_false.2 ⟨m.getD 0 [], getD_mem (by omega), by rw [rowB, decide_eq_false (by omega : ¬ (m.getD 0 []).length ≤ 3)]; simp⟩, Bool.and_false]
  · refine v_loopB (fun ms1 S1 => ∃ (k : Nat), S1.e 0 = .p (.sl (.lent m0) (List.map (elI e0) (m))) ∧ S1.e 27 = .p (.sl (.lent m0) (List.map (elI e0) (m))) ∧ S1.e 28 = .p (.int .i64 (m.length)) ∧ S1.e 29 = .p (.int .i64 (k)) ∧ (k ≤ m.length) ∧ ((m.take k).all (rowB (m.getD 0 []).length) = true) ∧ ms1 = m.length - k) ((fun (k : Nat) => m.length - k) (0)) ?_ ⟨0, dIa trivial ?_⟩
    all_goals try (refine zlf ?_; repeat' first | exact zso | refine And.intro ?_ ?_ | (refine zim ?_; intro zb hc) | (refine zin ?_; intro zb) | intro j')
    all_goals try refine zbx ?_
    rintro ms1 S1 ⟨k, h1_0, h1_27, h1_28, h1_29, c1_0, c1_1, hm1⟩
    have fL1 := (And.intro h1_0 (And.intro h1_27 (And.intro h1_28 h1_29)))
    have cE2 := @hf
    refine dEa fL1 ?_
    all_goals try (refine zlf ?_; repeat' first | exact zso | refine And.intro ?_ ?_ | (refine zim ?_; intro zb hc) | (refine zin ?_; intro zb) | intro j')
    all_goals try refine zbx ?_
    · exact getD_mem (by omega)
    · rw [any_bad, Bool.not_eq_true'] at hc
      rw [grid_bad (by omega : k < m.length)]
      rw [rowB, hc, Bool.and_false]
    · focus
        refine q_lp_n ((fun (k : Nat) => m.length - k) (k+1)) (dC fL1 ?_) ⟨k+1, dC fL1 ?_⟩
        all_goals try (refine zlf ?_; repeat' first | exact zso | refine And.intro ?_ ?_ | (refine zim ?_; intro zb hc) | (refine zin ?_; intro zb) | intro j')
        all_goals try refine zbx ?_
      rw [any_bad, Bool.not_eq_false'] at hc
      refine all_succ (d := []) (by omega) ?_ c1_1
      rw [rowB, hc, decide_eq_true (by omega), decide_eq_true (by omega), decide_eq_true (by omega)]; rfl
    · rw [grid_bad (by omega : k < m.length)]
      rw [rowB, decide_eq_false (by omega)]; simp
    · rw [List.take_of_length_le (by omega)] at c1_1
      rw [gridB, c1_1, decide_eq_true (by omega), decide_eq_true (by omega)]; rfl
  · rw [gridB, List.all_eq_false.2 ⟨m.getD 0 [], getD_mem (by omega), by rw [rowB, decide_eq_false (by omega : ¬ 1 ≤ (m.getD 0 []).length)]; simp⟩, Bool.and_false]
  · rw [gridB, decide_eq_false (by omega : ¬ m.length ≤ 3)]; simp
  · rw [gridB, decide_eq_false (by omega : ¬ 1 ≤ m.length)]; simp
end Go.Gl
