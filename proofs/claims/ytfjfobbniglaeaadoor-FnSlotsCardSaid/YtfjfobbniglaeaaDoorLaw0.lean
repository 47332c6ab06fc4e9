/-
  The helpers of the laws: copies, comparisons, marks. Conditions: none.
-/
import Derived.Test.YtfjfobbniglaeaaDoorNum
import Derived.Test.YtfjfobbniglaeaaDoorGlC
set_option linter.unusedSimpArgs false
set_option linter.unusedVariables false
set_option maxRecDepth 20000
set_option linter.unusedSectionVars false
namespace Go.Gl
open Go Go.Proofs
variable [Amb] [NoQ]
/-- The marks: from k on, n of them. -/
def markL (n : Nat) (k : Int) : List Int := (List.range n).map fun i : Nat => k + (i : Int)
theorem markL_length {n : Nat} {k : Int} : (markL n k).length = n := by simp [markL]
theorem take_succ_iff {a b : List Int} {k : Nat} (ha : k < a.length) (hb : k < b.length) : a.take (k + 1) = b.take (k + 1) ↔ a.take k = b.take k ∧ a.getD k 0 = b.getD k 0 := by
  rw [List.take_add_one, List.take_add_one, List.getD_eq_getElem?_getD, List.getD_eq_getElem?_getD, List.getElem?_eq_getElem ha, List.getElem?_eq_getElem hb]
  simp only [Option.toList_some, Option.getD_some]
  constructor
  · intro h
    have := List.append_inj h (by simp; omega)
    exact ⟨this.1, by simpa using this.2⟩
  · rintro ⟨h1, h2⟩; rw [h1, h2]
theorem take_getD {α : Type} {l : List α} {i : Nat} {d : α} (h : i < l.length) : l.take (i + 1) = l.take i ++ [l.getD i d] := by
  rw [List.take_add_one, List.getD_eq_getElem?_getD, List.getElem?_eq_getElem h]; rfl
theorem mk_take {n : Nat} {k : Int} : List.take n (markL n k) = markL n k := by
  rw [List.take_of_length_le]; simp [markL_length]
attribute [go_sem] mk_take markL_length List.not_mem_nil List.mem_cons or_false
end Go.Gl
