/-
 The library's copy of a slice, and its search. Conditions: none.
-/
import Derived.Test.YtfjfobbniglaeaaNum
import Derived.Test.YtfjfobbniglaeaaShelf
set_option linter.unusedSimpArgs false
set_option linter.unusedVariables false
set_option maxRecDepth 20000
set_option linter.unusedSectionVars false
namespace Go.Gl
open Go Go.Proofs
variable [Amb] [NoQ]
theorem slices_Clone_c {m0 : Bool} (l : List Int) (hl : l.length ≤ 1099511627776) :
  Fun Try.prog 57 [.sl (.lent m0) (List.map (.int .i64) l)] [.sl .own (List.map (.int .i64) l)] := by
 refine Fun.of_row 3 Try.func57 rfl rfl nrL_int (by intro x hx; rw [List.mem_map] at hx; obtain ⟨_, _, rfl⟩ := hx; rfl) ?_
 intro w F G vs _ hv
 simp only [RepL] at hv
 obtain ⟨a, vs1, rfl, ha, rfl⟩ := hv
 have e1 : (l.map (PV.int .i64)).map pvV = l.map (Value.int .i64) := by simp [Function.comp_def, pvV, plV]
 simp only [RepP] at ha
 obtain ⟨a, cap, rfl, h1, h2, ho, h3⟩ := ha
 rw [e1, List.length_map] at *
 by_cases hn : a = none
 ·subst hn
  have hl0 : l = [] := by
   rcases h3 with h3 | ⟨B, off, h3, _⟩
   ·simpa using h3
   ·cases h3
  subst hl0
  exact (Try.slices_Clone_int_nil _ _ w).mono fun e w' h => ⟨_, h.1, ⟨by simp, .inl ⟨rfl, rfl⟩⟩, h.2 ▸ Go.RowKit.Below.refl _ _⟩
 ·obtain ⟨ad, rfl⟩ : ∃ ad, a = some ad := by cases a with | none => exact absurd rfl hn | some ad => exact ⟨ad, rfl⟩
  by_cases hl0 : l = []
  ·subst hl0
   exact (Try.slices_Clone_int_zero ad cap w).mono fun e w' ⟨v, hv, hr, _, hw⟩ => ⟨v, hv, hr, hw⟩
  ·rcases h3 with h3 | ⟨B, off, h3, _, _, hc⟩
   ·simp at h3; exact absurd h3 hl0
   ·cases h3
    rw [RepC_iff] at hc
    have := Try.slices_Clone_int B off l.length cap l w (Nat.le_refl _) (by omega) (fun j hj => by
     obtain ⟨u, hu, _, hr⟩ := hc j (.int .i64 (l.getD j 0)) (by rw [List.getElem?_map, List.getD_eq_getElem?_getD, List.getElem?_eq_getElem hj]; rfl)
     rw [repP_i hr] at hu; exact hu)
    rw [List.take_length] at this
    exact this.mono fun e w' ⟨v, hv, hr, _, hw⟩ => ⟨v, hv, hr, hw⟩
--%reg slices.Clone[[]int,int] slices_Clone_c _ ?_
end Go.Gl
