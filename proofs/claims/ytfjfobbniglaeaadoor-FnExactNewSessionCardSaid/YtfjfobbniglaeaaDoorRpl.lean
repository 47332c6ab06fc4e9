/-
  The library's slices.Replace of one number by some, in the world's words: its five roads. Conditions: those that each lemma names.
-/
import Derived.Test.YtfjfobbniglaeaaDoorA0
import Derived.Shelf.Spec.SlicesInsertGrow
import Derived.Deep.Draws
set_option linter.unusedSimpArgs false
set_option linter.unusedVariables false
set_option maxRecDepth 20000
set_option linter.unusedSectionVars false
namespace Go.Gl
open Go Go.Proofs Go.Shelf Go.RowKit Go.Lib
variable [Amb]
/-- The cells of block b have turned, in their place; other blocks are xs they were, or new. -/
structure Tnd (w w' : World) (b : Nat) : Prop where
  os : w'.os = w.os
  tape : w'.tape = w.tape
  output : w'.output = w.output
  size : w.heap.size ≤ w'.heap.size
  drawn : w.drawn ≤ w'.drawn
  other : ∀ k, k < w.heap.size → k ≠ b → w'.heap[k]? = w.heap[k]?
  row : ∀ cs E fr, w.heap[b]? = some (.cells cs E fr) → ∃ cs', w'.heap[b]? = some (.cells cs' E fr) ∧ cs'.size = cs.size
theorem Tnd.trans {w w' w'' : World} {b : Nat} (h : Tnd w w' b) (k : Tnd w' w'' b) : Tnd w w'' b :=
  ⟨k.os.trans h.os, k.tape.trans h.tape, k.output.trans h.output, Nat.le_trans h.size k.size, Nat.le_trans h.drawn k.drawn, fun i hi hne => (k.other i (Nat.lt_of_lt_of_le hi h.size) hne).trans (h.other i hi hne), fun cs E fr hc => by
    obtain ⟨c1, h1, h2⟩ := h.row cs E fr hc
    obtain ⟨c2, h3, h4⟩ := k.row c1 E fr h1
    exact ⟨c2, h3, h4.trans h2⟩⟩
theorem Tnd.drewN (w : World) (b n : Nat) : Tnd w (w.drewN n) b := ⟨rfl, rfl, rfl, Nat.le_refl _, Nat.le_add_right _ _, fun _ _ _ => rfl, fun cs _ _ h => ⟨cs, h, rfl⟩⟩
theorem Tnd.drew (w : World) (b : Nat) : Tnd w w.drew b := ⟨rfl, rfl, rfl, Nat.le_refl _, Nat.le_succ _, fun _ _ _ => rfl, fun cs _ _ h => ⟨cs, h, rfl⟩⟩
theorem Tnd.setCell (w : World) (b o : Nat) (v : Value) : Tnd w (w.setCell ⟨b, o, none⟩ v) b := by
  refine ⟨rfl, rfl, rfl, by simp [World.setCell], Nat.le_refl _, fun k hk hne => ?_, fun cs E fr h => ?_⟩
  · simp only [World.setCell]
    rw [Array.getElem?_modify, if_neg (Ne.symm hne)]
  · refine ⟨cs.setIfInBounds o v, ?_, by simp⟩
    simp only [World.setCell]
    rw [Array.getElem?_modify, if_pos rfl, h]; rfl
theorem Tnd.setCells (b : Nat) : ∀ (vs : List Value) (w : World) (o : Nat), Tnd w (w.setCells b o vs) b
  | [], w, o => Tnd.drewN w b 0
  | v :: vs, w, o => (Tnd.setCell w b o v).trans (Tnd.setCells b vs _ (o + 1))
theorem Tnd.alloc (w : World) (o : Obj) : Tnd w (w.alloc o) w.heap.size := by
  have e : (w.alloc o).heap = w.heap.push o := rfl
  exact ⟨rfl, rfl, rfl, by rw [e]; simp, Nat.le_refl _, fun k hk hne => by rw [e, Array.getElem?_push, if_neg (by omega)], fun cs E fr h => by rw [Array.getElem?_eq_none (Nat.le_refl _)] at h; cases h⟩
/-- What stands after two lists were laid into a row. -/
theorem lay2 {w w' : World} {b p q : Nat} {xs ys : List Value} (hw : w' = (w.setCells b p xs).setCells b q ys) (hd : p + xs.length ≤ q ∨ q + ys.length ≤ p) (hx : ∀ j, j < xs.length → (w.cell? ⟨b, p + j, none⟩).isSome = true)
    (hy : ∀ j, j < ys.length → (w.cell? ⟨b, q + j, none⟩).isSome = true) :
    (∀ j v, xs[j]? = some v → w'.cell? ⟨b, p + j, none⟩ = some v) ∧ (∀ j v, ys[j]? = some v → w'.cell? ⟨b, q + j, none⟩ = some v) ∧ (∀ x, (x < p ∨ p + xs.length ≤ x) → (x < q ∨ q + ys.length ≤ x) → w'.cell? ⟨b, x, none⟩ = w.cell? ⟨b, x, none⟩) := by
  subst hw
  refine ⟨fun j v hv => ?_, fun j v hv => ?_, fun x h1 h2 => ?_⟩
  · have hj : j < xs.length := (List.getElem?_eq_some_iff.1 hv).1
    rw [World.cell?_setCells_out _ _ _ _ _ (fun _ _ => by simp only; omega), World.cell?_setCells_in b xs p w hx j hj]
    rw [← hv, List.getElem?_eq_getElem hj]
  · have hj : j < ys.length := (List.getElem?_eq_some_iff.1 hv).1
    rw [World.cell?_setCells_in b ys q _ (fun k hk => isSome_setCells _ _ _ _ hx _ (hy k hk)) j hj]
    rw [← hv, List.getElem?_eq_getElem hj]
  · rw [World.cell?_setCells_out _ _ _ _ _ (fun _ _ => by simp only; omega), World.cell?_setCells_out _ _ _ _ _ (fun _ _ => by simp only; omega)]
theorem three {f : Nat → Option Value} {i : Nat} {cs vs ds : List Value} (hi : i ≤ cs.length) (h1 : ∀ j v, j < i → cs[j]? = some v → f j = some v) (h2 : ∀ j v, vs[j]? = some v → f (i + j) = some v)
    (h3 : ∀ j v, ds[j]? = some v → f (i + vs.length + j) = some v) (j : Nat) (v : Value) (h : (cs.take i ++ (vs ++ ds))[j]? = some v) : f j = some v := by
  have hl : (cs.take i).length = i := by simp; omega
  rw [List.getElem?_append] at h
  split at h
  · rw [List.getElem?_take] at h
    split at h
    · exact h1 j v (by omega) h
    · cases h
  · rw [hl] at h
    rename_i hj
    rw [hl] at hj
    rw [List.getElem?_append] at h
    split at h
    · have := h2 _ v h
      rwa [show i + (j - i) = j by omega] at this
    · rename_i hk
      have := h3 _ v h
      rwa [show i + vs.length + (j - i - vs.length) = j by omega] at this
end Go.Gl
