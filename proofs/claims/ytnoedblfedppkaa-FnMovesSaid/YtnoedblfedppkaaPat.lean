/-
  Patterns, complements and inverses: what their functions compute. Conditions: none.
-/
import Derived.Test.YtnoedblfedppkaaPermF
import Derived.Test.YtnoedblfedppkaaPText
import Derived.Test.YtnoedblfedppkaaNum
import Derived.Test.YtnoedblfedppkaaShelf
set_option linter.unusedSimpArgs false
set_option linter.unusedVariables false
set_option maxRecDepth 20000
set_option linter.unusedSectionVars false
namespace Go.Gl
open Go Go.Proofs
variable [Amb]
def invL (p : List Int) : Nat → List Int
  | 0 => List.replicate p.length 0
  | k + 1 => (invL p k).set (p.getD k 0 - 1).toNat ((k : Int) + 1)
theorem invL_len {p : List Int} : ∀ {k : Nat}, (invL p k).length = p.length
  | 0 => by simp [invL]
  | k + 1 => by rw [invL, List.length_set, invL_len]
theorem invL_at {p : List Int} (hp : permB p = true) : ∀ {k : Nat}, k ≤ p.length → ∀ i, i < k → (invL p k).getD (p.getD i 0 - 1).toNat 0 = (i : Int) + 1
  | k + 1, h, i, hi => by
    have b1 := perm_at hp (i := k) (by omega)
    have b2 := perm_at hp (i := i) (by omega)
    rw [invL, List.getD_eq_getElem?_getD, List.getElem?_set, invL_len]
    by_cases e : i = k
    · subst e; rw [if_pos rfl, if_pos (by omega)]; rfl
    · rw [if_neg fun h1 => e (perm_inj hp (by omega) (by omega) (by omega)), ← List.getD_eq_getElem?_getD]
      exact invL_at hp (by omega) i (by omega)
def inv (p : List Int) : List Int := invL p p.length
theorem inv_len {p : List Int} : (inv p).length = p.length := invL_len
end Go.Gl
