/-
  The law of the bases of the examples. Conditions: none.
-/
import Derived.Test.YtfjfobbniglaeaaDoorExB
import Derived.Test.YtfjfobbniglaeaaDoorLaw2
set_option linter.unusedSimpArgs false
set_option linter.unusedVariables false
set_option maxRecDepth 20000
set_option linter.unusedSectionVars false
namespace Go.Gl
open Go Go.Proofs
variable [Amb] [NoQ]
variable [SplA]
theorem eb_rows {k : Int} : (ebL k).length ≤ 1001 ∧ ∀ l ∈ ebL k, l.length ≤ 1000 := by
  have h1 := exT_len (k := k)
  have h2 := spB_len (c := 32) (s := exT k) (cur := [])
  have h : ebL k = [] ∨ ebL k = (splitC 32 (exT k)).map prsL := by
    unfold ebL pbL
    by_cases e1 : exT k = []
    · left; rw [if_pos e1]
    · rw [if_neg e1, if_neg e1]
      by_cases e2 : pbOk (exT k) = true
      · right; rw [if_pos e2]
      · left; rw [if_neg e2]
  rcases h with h | h
  · rw [h]; simp
  · rw [h]
    refine ⟨by rw [List.length_map, splitC]; omega, fun l hl => ?_⟩
    obtain ⟨x, hx, rfl⟩ := List.mem_map.1 hl
    have h3 := spB_mem x hx
    have h4 := prsL_len (s := x)
    simp at h3; omega
end Go.Gl
