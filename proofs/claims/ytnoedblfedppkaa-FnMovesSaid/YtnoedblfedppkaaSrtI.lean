/-
  Numbers in order: what the library's sorting and the reference's compute. Conditions: none.
-/
import Derived.Test.YtnoedblfedppkaaHas
import Derived.Test.YtnoedblfedppkaaPermF
import Derived.Test.YtnoedblfedppkaaPText
import Derived.Test.YtnoedblfedppkaaPerm
import Derived.Test.YtnoedblfedppkaaNum
import Derived.Test.YtnoedblfedppkaaProg
import Derived.Shelf.Strconv.Itoa0
import Derived.Ground.Names2Prog
import Derived.Shelf.Slices.Clone
set_option linter.unusedSimpArgs false
set_option linter.unusedVariables false
set_option maxRecDepth 20000
set_option linter.unusedSectionVars false
namespace Go.Gl
open Go Go.Proofs
variable [Amb]
/-- Where x belongs among the first k of a sorted list of numbers. -/
def atI (L : List Int) (x : Int) : Nat → Nat
  | 0 => 0
  | k + 1 => if x < L.getD k 0 then atI L x k else k + 1
def inkI (L : List Int) (x : Int) (j : Nat) : List Int := L.take j ++ x :: L.drop j
def insI (L : List Int) (x : Int) : List Int := inkI L x (atI L x L.length)
def srtI (L : List Int) : List Int := L.foldl insI []
theorem insI_perm {L : List Int} {x : Int} : (insI L x).Perm (x :: L) := by
  unfold insI inkI
  refine List.perm_middle.trans ?_
  rw [List.take_append_drop]
theorem srt_perm (L : List Int) : ∀ {A : List Int}, (L.foldl insI A).Perm (L ++ A) := by
  induction L with
  | nil => intro A; exact List.Perm.refl _
  | cons y l ih =>
    intro A
    rw [List.foldl_cons]
    refine (ih).trans ((List.Perm.append_left l insI_perm).trans ?_)
    exact List.perm_middle
theorem srtI_perm {L : List Int} : (srtI L).Perm L := by
  have := srt_perm L (A := [])
  rw [List.append_nil] at this; exact this
theorem srtI_len {L : List Int} : (srtI L).length = L.length := srtI_perm.length_eq
theorem atI_uniq {L : List Int} {p : Int} : ∀ {k j : Nat}, j ≤ k → (∀ q, j ≤ q → q < k → p < L.getD q 0) → (0 < j → ¬ p < L.getD (j - 1) 0) → atI L p k = j
  | 0, j, h, _, _ => by rw [atI]; omega
  | k + 1, j, h, h1, h2 => by
    rw [atI]
    by_cases e : j = k + 1
    · subst e
      have := h2 (by omega)
      rw [Nat.add_sub_cancel] at this
      rw [if_neg this]
    · rw [if_pos (h1 k (by omega) (by omega))]
      exact atI_uniq (by omega) (fun q a b => h1 q a (by omega)) h2
theorem srtI_snoc {L : List Int} {i : Nat} (h : i < L.length) : srtI (L.take (i + 1)) = insI (srtI (L.take i)) (L.getD i 0) := by
  rw [take_getD (d := 0) h]; unfold srtI; rw [List.foldl_append]; rfl
theorem srtI_tl {L : List Int} {i : Nat} (h : i ≤ L.length) : (srtI (L.take i)).length = i := by
  rw [srtI_len, List.length_take]; omega
end Go.Gl
