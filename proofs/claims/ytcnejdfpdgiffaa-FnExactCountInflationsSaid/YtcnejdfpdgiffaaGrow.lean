/-
  The library's growing of a nil slice. Conditions: none.
-/
import Derived.Test.YtcnejdfpdgiffaaNum
import Derived.Test.YtcnejdfpdgiffaaShelf
set_option linter.unusedSimpArgs false
set_option linter.unusedVariables false
set_option maxRecDepth 20000
set_option linter.unusedSectionVars false
namespace Go.Gl
open Go Go.Proofs
variable [Amb]
theorem slices_Grow_c (n : Nat) (h1 : n ≤ 1000000) :
    Fun Try.prog 179 [.sl .own [], .int .i64 n] [.sl .own []] := by
  refine Fun.of_row 3 Try.func179 rfl rfl rfl (fun x hx => by cases hx) ?_
  intro w F G vs _ hv
  simp only [RepL] at hv
  obtain ⟨a, vs1, rfl, ha, b, vs2, rfl, hb, rfl⟩ := hv
  simp only [RepP] at ha hb
  subst hb
  obtain ⟨ad, cap, rfl, _, _, hown, _⟩ := ha
  obtain ⟨_, rfl, rfl⟩ := hown trivial
  by_cases h0 : n = 0
  · subst h0
    refine (Try.slices_Grow_room none 0 0 0 w (Nat.le_refl _) (by omega) (by omega) (Nat.le_refl _)).mono ?_
    rintro e w' ⟨rfl, rfl⟩
    exact ⟨_, rfl, ⟨rfl, .inl ⟨rfl, rfl⟩⟩, Go.RowKit.Below.refl _ _⟩
  · obtain ⟨i0, hi, hz0, hz1, hz2⟩ := info_parts (P := Try.prog) (e := 3) (show (Try.prog.info? 3).map (fun i => (i.zero, i.size, i.bytes)) = some (some (.int .i64 0), 1, 8) by kernel_rfl)
    have key := Any8.slices_Grow_grow Try.laysGrow i0 (.int .i64 0) hi hz0 (by rw [hz1]; decide) none 0 0 n [] w (Nat.le_refl _) (by omega) (by rw [hz2]; omega) (by omega) (by simp) (fun _ => rfl) (fun a h => by cases h)
    refine Calls.mono key ?_
    rintro e w' ⟨rfl, rfl⟩
    have g1 := grownCap_ge w (0 + n) 0 (Try.laysGrow_ren.t 25)
    have g2 := grownCap_le_maxLen w (0 + n) 0 (Try.laysGrow_ren.t 25) (by unfold maxLen; omega)
    refine ⟨_, rfl, ⟨rfl, .inr ⟨w.heap.size, grownCap w (0 + n) 0 (Try.laysGrow_ren.t 25), #[] ++ Builtin.zeroCells (Value.int IntKind.i64 0).cells (0 + n - 0) ++ Builtin.zeroCells (Value.int IntKind.i64 0).cells (grownCap w (0 + n) 0 (Try.laysGrow_ren.t 25) - (0 + n)), rfl, Nat.le_refl _, (MapKept.heap_alloc w.drew _).1, Nat.zero_le _, g2, ?_, rfl⟩⟩, ?_⟩
    · simp only [Nat.zero_add] at g1 g2 ⊢
      simp [Builtin.zeroCells, Value.cells]
      omega
    · exact ((Go.RowKit.Below.refl w.heap.size w).drew).alloc (Nat.le_refl _) _
theorem slices_Grow_d (n : Nat) (h1 : n ≤ 1000000) : Fun Try.prog 179 [.sl .own [], .int .i64 n] [.sl .own (List.map (PV.int .i64) [])] := slices_Grow_c n h1
end Go.Gl
