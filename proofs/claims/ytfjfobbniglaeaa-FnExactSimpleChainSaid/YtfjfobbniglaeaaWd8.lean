/-
 The run of append, one row put behind rows of the holder's own. Conditions: none.
-/
import Derived.Test.YtfjfobbniglaeaaWd7
set_option linter.unusedSimpArgs false
set_option linter.unusedVariables false
set_option maxRecDepth 20000
set_option linter.unusedSectionVars false
namespace Go.Gl
open Go Go.Proofs Go.RowKit Go.Lib
variable [Amb]
theorem run_push {w : World} {L : List (List Int)} {q : List Int} {l lq : Loc} {v u : Value} {t0 c0 : Nat} (hO : Own w (bL L) l) (hq : Own w (bI q) lq) (hap : ∀ x, owns (bI q) lq x → ¬ owns (bL L) l x) (hv : hdrAt l L.length v) (hu : hdrAt lq q.length u) (ht : w.cell? ⟨t0, 0, none⟩ = some u) (hN : L.length ≤ 1000000) :
  ∃ v' w' l', (∀ ty, (Builtin.append_ #[28, 28] ty #[v, .slice (some ⟨t0, 0, none⟩) 1 c0]).run Try.prog w = .ok v' w') ∧ hdrAt l' (L.length + 1) v' ∧ Own w' (bL (L ++ [q])) l' ∧ (∀ x, owns (bL (L ++ [q])) l' x → owns (bL L) l x ∨ owns (bI q) lq x ∨ w.heap.size ≤ x) ∧ Keep w w' (owns (bL L) l) := by
 have hsl : (slT Try.prog 28).isSome = true := by rw [sl28]; rfl
 obtain ⟨e, i, zv, k1, k2, k3, k4, k5, k6, k7⟩ := slT_some hsl
 have ht0 : t0 < w.heap.size := cell?_lt ht
 have hu1 : u.oneCell' = true := by obtain ⟨a, rfl, _⟩ := hu; rfl
 have src : Src Try.prog w (.slice (some ⟨t0, 0, none⟩) 1 c0) [u] := ⟨fun w1 => by simp [Builtin.lenOf], fun w1 hw => run_firstCells_some (P := Try.prog) w1 1 1 ⟨t0, 0, none⟩ 1 c0 [u] (by simp) (fun j x hj => by
  cases j with
  | zero => simp at hj; subst hj; rw [add_at, cell?_heap hw]; exact ht
  | succ j => simp at hj), fun x hx => by simp at hx; subst hx; exact hu1⟩
 obtain ⟨olds, ol1, ol2⟩ := deep_vals hO
 have ol1 : olds.length = L.length := by simpa [canon] using ol1
 have olc : ∀ (j : Nat) (x : Value), olds[j]? = some x → w.cell? ⟨l.B, l.off + j, none⟩ = some x := fun j x hx => by
  have hlt := (List.getElem?_eq_some_iff.1 hx).1
  obtain ⟨y, y1, _, _, y4⟩ := ol2 j (.row j) (by rw [canon, List.getElem?_map, List.getElem?_range (by omega)]; rfl)
  rw [hx] at y1; cases y1; exact y4
 have olv : ∀ (j : Nat) (x : Value), j < L.length → w.cell? ⟨l.B, l.off + j, none⟩ = some x → olds[j]? = some x := fun j x hj hx => by
  have h1 := olc j _ (List.getElem?_eq_getElem (show j < olds.length by omega))
  rw [hx] at h1
  rw [List.getElem?_eq_getElem (show j < olds.length by omega)]; exact h1.symm ▸ rfl
 have hlc : L.length ≤ l.cap := by simpa [canon] using hO.2.1.1
 have hlm : l.cap ≤ maxLen := hO.2.1.2.1
 obtain ⟨a, rfl, ha⟩ := hv
 by_cases hfit : L.length + 1 ≤ l.cap
 ·have hc0 : l.cap ≠ 0 := by omega
  obtain rfl : a = some ⟨l.B, l.off, none⟩ := ha.resolve_left hc0
  obtain ⟨⟨cells, E, lo, hi', hcell, hsz, hfr⟩, _, _⟩ := hO.2.1.2.2.resolve_left hc0
  have hrun := run_storeCells_gen Try.prog l.B (l.off + L.length) E lo hi' [u] 0 cells w hcell (hfr.imp id fun q => q.2) (by simp; omega) (fun x hx => by simp at hx; subst hx; exact hu1)
  let cs' : Array Value := (cells.toList.take (l.off + L.length + 0) ++ [u] ++ cells.toList.drop (l.off + L.length + 0 + [u].length)).toArray
  have hcs : cs'.size = cells.size := by simp [cs']; omega
  have hwr := Wrote.setRow (cs' := cs') hcell hcs
  have hb2 := setRow_heap w l.B cells cs' E (lo, hi') hcell
  have hcs1 : cs'.toList = cells.toList.take (l.off + L.length) ++ u :: cells.toList.drop (l.off + L.length + 1) := by simp [cs']
  have htk : (cells.toList.take (l.off + L.length)).length = l.off + L.length := by simp; omega
  have key := own_psh (w' := w.setRow l.B cs') (B0 := l.B) (off0 := l.off) (cap0 := l.cap) hO hq hap hu hfit hlm
   ⟨cs', E, lo, hi', hb2, by omega, hfr.imp id fun q => ⟨q.1, by have := q.2; omega⟩⟩
   (fun j x hj hx => by
    rw [cell?_eq, hcell] at hx
    rw [cell?_eq, hb2]
    simp only at hx ⊢
    rw [← Array.getElem?_toList] at hx ⊢
    rw [hcs1, List.getElem?_append_left (by omega), List.getElem?_take, if_pos (by omega)]; exact hx)
   (by
    rw [cell?_eq, hb2]
    simp only
    rw [← Array.getElem?_toList, hcs1, List.getElem?_append_right (by omega), htk]; simp)
   (fun B _ hB => hwr.other B hB) (.inr ⟨rfl, hc0⟩)
  refine ⟨_, w.setRow l.B cs', l.psh lq l.B l.off l.cap L.length, fun ty => run_append_fit (P := Try.prog) (w := w) (w' := w.setRow l.B cs') (t := 28) (t' := 28) (ty := ty) k1 k2 k4 (.inl hsl) (base := some ⟨l.B, l.off, none⟩) (sLen := L.length) (sCap := l.cap) src hfit (fun b hb => by cases hb; rw [add_at]; exact hrun) (fun h => by cases h), ⟨_, rfl, .inr rfl⟩, key.1, fun x hx => ?_, ?_⟩
  ·rcases key.2 x hx with h | h | h
   ·exact .inl (.inl ⟨hc0, h.symm⟩)
   ·exact .inl h
   ·exact .inr (.inl h)
  ·exact ⟨hwr.os, hwr.tape, hwr.output, by rw [hwr.size]; exact Nat.le_refl _, fun k hk hn => hwr.other k fun e => hn (e ▸ .inl ⟨hc0, rfl⟩), fun _ => by rw [hwr.drawn]; exact Nat.le_refl _⟩
 ·have hrun := fun ty => run_append_more (P := Try.prog) (w := w) (t := 28) (t' := 28) (ty := ty) k1 k2 k3 k4 k7 (.inl hsl) (base := a) (sLen := L.length) (sCap := l.cap) (olds := olds) src (by simp; omega) (vals_first (B := l.B) (o := l.off) ol1 (ha.imp (fun h => by omega) id) olc) (by simp; omega)
  have hgc := grownCap_ge w (L.length + 1) l.cap e
  have hgm := grownCap_le_maxLen w (L.length + 1) l.cap e (by simp only [maxLen]; omega)
  have hzc := cells_one k5 k6
  have hp := Pushed.drew w (.cells (olds ++ [u] ++ (Builtin.zeroCells zv.cells (grownCap w (L.length + 1) l.cap e - (L.length + 1))).toList).toArray e)
  have key := own_psh (w' := w.drew.alloc (.cells (olds ++ [u] ++ (Builtin.zeroCells zv.cells (grownCap w (L.length + 1) l.cap e - (L.length + 1))).toList).toArray e)) (B0 := w.heap.size) (off0 := 0) (cap0 := grownCap w (L.length + 1) l.cap e) hO hq hap hu hgc hgm
   ⟨_, e, 0, 0, hp.at, by simp [Builtin.zeroCells, hzc]; omega, .inl (Nat.le_refl _)⟩
   (fun j x hj hx => by
    rw [cell?_eq, hp.at]
    simp only [Nat.zero_add, List.getElem?_toArray]
    rw [List.append_assoc, List.getElem?_append_left (by omega)]; exact olv j x hj hx)
   (by
    rw [cell?_eq, hp.at]
    simp only [Nat.zero_add, List.getElem?_toArray]
    rw [List.append_assoc, List.getElem?_append_right (by omega), ol1]; simp)
   (fun B hB _ => hp.old hB) (.inl rfl)
  refine ⟨_, _, _, hrun, ⟨_, rfl, .inr rfl⟩, key.1, fun x hx => ?_, hp.keep _⟩
  rcases key.2 x hx with h | h | h
  ·exact .inr (.inr (by omega))
  ·exact .inl h
  ·exact .inr (.inl h)
end Go.Gl
