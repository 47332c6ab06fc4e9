/-
  What is told of two blocks. Conditions: none.
-/
import Derived.Test.YtkaebeblkpnhmaaGreatDoorItoa
import Derived.Test.YtkaebeblkpnhmaaGreatDoorSplitS
set_option linter.unusedSimpArgs false
set_option linter.unusedVariables false
set_option maxRecDepth 20000
set_option linter.unusedSectionVars false
namespace Go.Gl
open Go Go.Proofs
variable [Amb]
/-- What is told of two blocks: that they are as they were. -/
@[reducible] def ambTwo (w : World) (a b : Nat) : Amb := ⟨fun B => if B = a ∨ B = b then w.heap[B]? else none⟩
omit [Amb] in
theorem ambTwo_ok {w : World} {a b B : Nat} {o : Obj} (h : (ambTwo w a b).tb B = some o) : w.heap[B]? = some o := by
  have h : (if B = a ∨ B = b then w.heap[B]? else none) = some o := h
  split at h
  · exact h
  · cases h
omit [Amb] in
theorem ambTwo_tab {w : World} {a g : Nat} (hg : Tryz.prog.globalNamed "internal/strconv.uint64pow10" = some g) (h : Lib.TabIs Tryz.prog w "internal/strconv.uint64pow10" .u64 Lib.pow10Tab) : @TabA (ambTwo w a g) := @TabA.mk (ambTwo w a g) (fun w' hw => by
  unfold Lib.TabIs World.var? at h ⊢
  rw [hg, Option.bind_some] at h ⊢
  cases e : w.heap[g]? with
  | none => rw [e] at h; cases h
  | some o => rw [hw g o (show (if g = a ∨ g = g then w.heap[g]? else none) = some o by rw [if_pos (.inr rfl)]; exact e)]; rw [e] at h; exact h)
omit [Amb] in
theorem ambTwo_spl {w : World} {b : Nat} (h : ∃ m : Int, w.cell? ⟨0, 0, none⟩ = some (.int .i64 m)) : @SplA (ambTwo w 0 b) := @SplA.mk (ambTwo w 0 b) (fun w' hw => by
  obtain ⟨m, h⟩ := h
  refine ⟨m, ?_⟩
  cases e : w.heap[0]? with
  | none => simp only [World.cell?, e] at h; cases h
  | some o =>
    have := hw 0 o (show (if 0 = 0 ∨ 0 = b then w.heap[0]? else none) = some o by rw [if_pos (.inl rfl)]; exact e)
    simp only [World.cell?, this]
    simp only [World.cell?, e] at h
    exact h)
end Go.Gl
