/-
  The library's copy of a slice, and its search. Conditions: none.
-/
import Derived.Test.YtfjfobbniglaeaaDoorLib
import Derived.Test.YtfjfobbniglaeaaDoorShelf
set_option linter.unusedSimpArgs false
set_option linter.unusedVariables false
set_option maxRecDepth 20000
set_option linter.unusedSectionVars false
namespace Go.Gl
open Go Go.Proofs
variable [Amb] [NoQ]
theorem slices_Clone_c {m0 : Bool} (l : List Int) (hl : l.length ≤ 1099511627776) :
    Fun Tryd.prog 90 [.sl (.lent m0) (List.map (.int .i64) l)] [.sl .own (List.map (.int .i64) l)] := by
  refine Fun.of_row 3 Tryd.func90 rfl rfl nrL_int (by intro x hx; rw [List.mem_map] at hx; obtain ⟨_, _, rfl⟩ := hx; rfl) ?_
  intro w F G vs _ hv
  simp only [RepL] at hv
  obtain ⟨a, vs1, rfl, ha, rfl⟩ := hv
  have e1 : (l.map (PV.int .i64)).map pvV = l.map (Value.int .i64) := by simp [Function.comp_def, pvV, plV]
  simp only [RepP] at ha
  obtain ⟨a, cap, rfl, h1, h2, ho, h3⟩ := ha
  rw [e1, List.length_map] at *
  by_cases hn : a = none
  · subst hn
    have hl0 : l = [] := by
      rcases h3 with h3 | ⟨B, off, h3, _⟩
      · simpa using h3
      · cases h3
    subst hl0
    exact (Tryd.slices_Clone_int_nil _ _ w).mono fun e w' h => ⟨_, h.1, ⟨by simp, .inl ⟨rfl, rfl⟩⟩, h.2 ▸ Go.RowKit.Below.refl _ _⟩
  · obtain ⟨ad, rfl⟩ : ∃ ad, a = some ad := by cases a with | none => exact absurd rfl hn | some ad => exact ⟨ad, rfl⟩
    by_cases hl0 : l = []
    · subst hl0
      exact (Tryd.slices_Clone_int_zero ad cap w).mono fun e w' ⟨v, hv, hr, _, hw⟩ => ⟨v, hv, hr, hw⟩
    · rcases h3 with h3 | ⟨B, off, h3, _, _, hc⟩
      · simp at h3; exact absurd h3 hl0
      · cases h3
        rw [RepC_iff] at hc
        have := Tryd.slices_Clone_int B off l.length cap l w (Nat.le_refl _) (by omega) (fun j hj => by
          obtain ⟨u, hu, _, hr⟩ := hc j (.int .i64 (l.getD j 0)) (by rw [List.getElem?_map, List.getD_eq_getElem?_getD, List.getElem?_eq_getElem hj]; rfl)
          rw [repP_i hr] at hu; exact hu)
        rw [List.take_length] at this
        exact this.mono fun e w' ⟨v, hv, hr, _, hw⟩ => ⟨v, hv, hr, hw⟩
--%reg slices.Clone[[]int,int] slices_Clone_c _ ?_
theorem idxP_hit {p : Int → Bool} : ∀ {l : List Int} {k : Nat} {i : Nat}, k < l.length → (∀ j, j < k → p (l.getD j 0) = false) → p (l.getD k 0) = true → idxP p l i = i + k
  | [], k, i, h, _, _ => by simp at h
  | x :: l, 0, i, _, _, h => by simp at h; simp [idxP, h]
  | x :: l, k + 1, i, h, h1, h2 => by
    have h0 := h1 0 (by omega)
    simp only [List.getD_cons_zero] at h0
    rw [idxP, h0]
    simp only [Bool.false_eq_true, if_false]
    rw [idxP_hit (k := k) (by simpa using h) (fun j hj => by simpa using h1 (j + 1) (by omega)) (by simpa using h2)]
    push_cast; omega
theorem idxP_miss {p : Int → Bool} : ∀ {l : List Int} {i : Nat}, (∀ j, j < l.length → p (l.getD j 0) = false) → idxP p l i = -1
  | [], _, _ => rfl
  | x :: l, i, h => by
    have h0 := h 0 (by simp)
    simp only [List.getD_cons_zero] at h0
    rw [idxP, h0]
    simp only [Bool.false_eq_true, if_false]
    exact idxP_miss fun j hj => by simpa using h (j + 1) (by simp; omega)
theorem slices_Index_int_int_c {m0 : Bool} (l : List Int) (x : Int) (hl : l.length ≤ 1099511627776) : Fun Tryd.prog 71 [(.sl (.lent m0) (List.map (PV.int .i64) (l))), (.int .i64 (x))] [(.int .i64 (idxP (fun y => decide (x = y)) l 0))] := by
  refine fO sg0 [4] Tryd.func71 ?_
  refine dE trivial ?_
  all_goals try (refine zlf ?_; repeat' first | exact zso | refine And.intro ?_ ?_ | (refine zim ?_; intro zb hc) | (refine zin ?_; intro zb) | intro j')
  all_goals try refine zbx ?_
  refine v_loopB (fun ms1 S1 => ∃ (k : Nat), S1.e 0 = .p (.sl (.lent m0) (List.map (PV.int .i64) (l))) ∧ S1.e 1 = .p (.int .i64 (x)) ∧ S1.e 7 = .p (.int .i64 (l.length)) ∧ S1.e 8 = .p (.int .i64 (k)) ∧ (k ≤ l.length) ∧ (∀ j, j < k → decide (x = l.getD j 0) = false) ∧ ms1 = l.length - k) ((fun (k : Nat) => l.length - k) (0)) ?_ ⟨0, dIa trivial ?_⟩
  all_goals try (refine zlf ?_; repeat' first | exact zso | refine And.intro ?_ ?_ | (refine zim ?_; intro zb hc) | (refine zin ?_; intro zb) | intro j')
  all_goals try refine zbx ?_
  rintro ms1 S1 ⟨k, h1_0, h1_1, h1_7, h1_8, c1_0, c1_1, hm1⟩
  have fL1 := (And.intro h1_0 (And.intro h1_1 (And.intro h1_7 h1_8)))
  refine dEa fL1 ?_
  all_goals try (refine zlf ?_; repeat' first | exact zso | refine And.intro ?_ ?_ | (refine zim ?_; intro zb hc) | (refine zin ?_; intro zb) | intro j')
  all_goals try refine zbx ?_
  · rw [idxP_hit (k := k) (by omega) c1_1 (by simpa using hc)]; push_cast; omega
  · focus
      refine q_lp_n ((fun (k : Nat) => l.length - k) (k+1)) (dC fL1 ?_) ⟨k+1, dC fL1 ?_⟩
      all_goals try (refine zlf ?_; repeat' first | exact zso | refine And.intro ?_ ?_ | (refine zim ?_; intro zb hc) | (refine zin ?_; intro zb) | intro j')
      all_goals try refine zbx ?_
    intro j hj
    by_cases e : j = k
    · subst e; simpa using hc
    · exact c1_1 j (by omega)
  · rw [idxP_miss fun j hj => c1_1 j (by omega)]
theorem slices_Contains_int_int_c {m0 : Bool} (l : List Int) (x : Int) (hl : l.length ≤ 1099511627776) : Fun Tryd.prog 34 [(.sl (.lent m0) (List.map (PV.int .i64) (l))), (.int .i64 (x))] [(.bool (l.contains x))] := by
  refine fO sg0 [4] Tryd.func34 ?_
  have cE1 := @slices_Index_int_int_c
  refine dEa trivial ?_
  all_goals try (refine zlf ?_; repeat' first | exact zso | refine And.intro ?_ ?_ | (refine zim ?_; intro zb hc) | (refine zin ?_; intro zb) | intro j')
  all_goals try refine zbx ?_
  rw [idxP_any, Bool.eq_iff_iff, List.any_eq_true, List.contains_iff_mem]
  constructor
  · rintro ⟨y, hy, e⟩; rw [decide_eq_true_eq] at e; exact e ▸ hy
  · intro h; exact ⟨x, h, decide_eq_true rfl⟩
end Go.Gl
