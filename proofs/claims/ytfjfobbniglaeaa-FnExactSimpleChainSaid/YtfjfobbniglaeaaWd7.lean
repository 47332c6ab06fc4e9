/-
 A row put behind rows of the holder's own, told at the world. Conditions: none.
-/
import Derived.Test.YtfjfobbniglaeaaWd6
set_option linter.unusedSimpArgs false
set_option linter.unusedVariables false
set_option maxRecDepth 20000
set_option linter.unusedSectionVars false
namespace Go.Gl
open Go Go.Proofs Go.RowKit Go.Lib
variable [Amb]
/-- The rows' place, one row more. -/
def Loc.psh (l lq : Loc) (B off cap n : Nat) : Loc := ⟨B, off, cap, n + 1, fun r => if r < n then l.inn r else (lq.B, lq.off, lq.cap)⟩
theorem psh_old {l lq : Loc} {B off cap n r : Nat} (h : r < n) : (l.psh lq B off cap n).sub r = l.sub r := by simp only [Loc.sub, Loc.psh, if_pos h]
theorem psh_new {l lq : Loc} {B off cap n : Nat} : (l.psh lq B off cap n).sub n = ⟨lq.B, lq.off, lq.cap, 0, noInn⟩ := by simp only [Loc.sub, Loc.psh, Nat.lt_irrefl, if_false]
theorem psh_row {L : List (List Int)} {q : List Int} {r : Nat} {c : List PV} (h : ((L ++ [q]).map fun l => some (l.map (PV.int .i64)))[r]? = some (some c)) :
  (r < L.length ∧ (L.map fun l => some (l.map (PV.int .i64)))[r]? = some (some c)) ∨ (r = L.length ∧ c = q.map (PV.int .i64)) := by
 rw [List.map_append, List.getElem?_append, List.length_map] at h
 split at h
 ·rename_i h1; exact .inl ⟨h1, h⟩
 ·rename_i h1
  have h2 := (List.getElem?_eq_some_iff.1 h).1
  simp at h2
  obtain rfl : r = L.length := by omega
  right
  simp at h
  exact ⟨rfl, h.symm⟩
theorem own_psh {w w' : World} {L : List (List Int)} {q : List Int} {l lq : Loc} {u : Value} {B0 off0 cap0 : Nat} (hO : Own w (bL L) l) (hq : Own w (bI q) lq) (hap : ∀ x, owns (bI q) lq x → ¬ owns (bL L) l x) (hu : hdrAt lq q.length u)
  (hle : L.length + 1 ≤ cap0) (hmx : cap0 ≤ maxLen) (hrow : ∃ cs E lo hi, w'.heap[B0]? = some (.cells cs E (lo, hi)) ∧ off0 + cap0 ≤ cs.size ∧ (hi ≤ lo ∨ SB = true ∧ cs.size ≤ lo))
  (hold : ∀ (j : Nat) (v : Value), j < L.length → w.cell? ⟨l.B, l.off + j, none⟩ = some v → w'.cell? ⟨B0, off0 + j, none⟩ = some v) (hnew : w'.cell? ⟨B0, off0 + L.length, none⟩ = some u)
  (hkeep : ∀ B, B < w.heap.size → B ≠ B0 → w'.heap[B]? = w.heap[B]?) (hB0 : B0 = w.heap.size ∨ (B0 = l.B ∧ l.cap ≠ 0)) :
  Own w' (bL (L ++ [q])) (l.psh lq B0 off0 cap0 L.length) ∧ ∀ x, owns (bL (L ++ [q])) (l.psh lq B0 off0 cap0 L.length) x → x = B0 ∨ owns (bL L) l x ∨ owns (bI q) lq x := by
 have hO0 := hO
 obtain ⟨n1, ⟨l1, l2, l3⟩, r1, d1, b1⟩ := hO
 have ne0 : ∀ r c, (L.map fun l => some (l.map (PV.int .i64)))[r]? = some (some c) → (l.sub r).cap ≠ 0 → (l.sub r).B ≠ B0 := fun r c hr hc e => by
  rcases hB0 with q | ⟨q, q'⟩
  ·have := hO0.lt (B := (l.sub r).B) (.inr ⟨r, c, hr, hc, rfl⟩); omega
  ·exact b1 r c hr q' hc (e.trans q)
 have neq : lq.cap ≠ 0 → lq.B ≠ B0 := fun hc e => by
  rcases hB0 with q | ⟨q, q'⟩
  ·have := hq.lt (B := lq.B) ⟨hc, rfl⟩; omega
  ·exact hap lq.B ⟨hc, rfl⟩ (.inl ⟨q', (e.trans q).symm⟩)
 have neL : ∀ r c, (L.map fun l => some (l.map (PV.int .i64)))[r]? = some (some c) → (l.sub r).cap ≠ 0 → lq.cap ≠ 0 → lq.B ≠ (l.sub r).B := fun r c hr hc hc' e =>
  hap lq.B ⟨hc', rfl⟩ (.inr ⟨r, c, hr, hc, e.symm⟩)
 have same : ∀ B, B < w.heap.size → B ≠ B0 → w'.heap[B]? = w.heap[B]? := hkeep
 have mv : ∀ {a : List Int} {k : Loc}, Own w (bI a) k → (k.cap ≠ 0 → k.B ≠ B0) → Own w' (bI a) k := fun {a k} h hne => h.move fun x hx => by
  obtain ⟨h0, rfl⟩ := hx
  exact hkeep _ (h.lt (B := k.B) ⟨h0, rfl⟩) (hne h0)
 refine ⟨⟨by simp [Loc.psh], ⟨by simpa [canon, Loc.psh] using hle, hmx, .inr ⟨hrow, trivial, fun j x hx => ?_⟩⟩, fun r c hr => ?_, fun r c r' c' hr hr' hne hc hc' => ?_, fun r c hr _ hc => ?_⟩, fun x hx => ?_⟩
 ·have hj : j < (L ++ [q]).length := by have := (List.getElem?_eq_some_iff.1 hx).1; simpa [canon] using this
  obtain rfl : x = .row j := by rw [canon, List.getElem?_map, List.getElem?_range hj] at hx; simpa using hx.symm
  by_cases hjl : j < L.length
  ·have hc0 : l.cap ≠ 0 := by
    have : L.length ≤ l.cap := by simpa [canon] using l1
    omega
   rcases l3 with l3 | ⟨_, _, l3⟩
   ·exact absurd l3 hc0
   obtain ⟨v, v1, v2, v3⟩ := l3 j (.row j) (by rw [canon, List.getElem?_map, List.getElem?_range hjl]; rfl)
   refine ⟨v, hold j v hjl v1, v2, by simpa using hj, fun c hc => ?_⟩
   rcases psh_row hc with ⟨_, h⟩ | ⟨h, _⟩
   ·rw [psh_old hjl]; exact v3.2 c h
   ·omega
  ·obtain rfl : j = L.length := by simp at hj; omega
   obtain ⟨a, rfl, ha⟩ := hu
   refine ⟨_, hnew, rfl, by simp, fun c hc => ?_⟩
   rcases psh_row hc with ⟨h, _⟩ | ⟨_, rfl⟩
   ·omega
   ·rw [psh_new, List.length_map]; exact ⟨a, rfl, ha⟩
 ·rcases psh_row hr with ⟨h, hr⟩ | ⟨rfl, rfl⟩
  ·rw [psh_old h]
   obtain ⟨_, rfl⟩ := bL_row hr
   exact mv (a := L.getD r []) (k := l.sub r) (show Own w (bI (L.getD r [])) (l.sub r) from r1 r _ hr) (ne0 r _ hr)
  ·rw [psh_new]
   exact mv (a := q) (k := lq) hq neq
 ·rcases psh_row hr with ⟨h, hr⟩ | ⟨rfl, rfl⟩
  ·rw [psh_old h] at hc ⊢
   rcases psh_row hr' with ⟨h', hr'⟩ | ⟨rfl, rfl⟩
   ·rw [psh_old h'] at hc' ⊢
    exact d1 r c r' c' hr hr' hne hc hc'
   ·rw [psh_new] at hc' ⊢
    exact fun e => neL r c hr hc hc' e.symm
  ·rw [psh_new] at hc ⊢
   rcases psh_row hr' with ⟨h', hr'⟩ | ⟨rfl, rfl⟩
   ·rw [psh_old h'] at hc' ⊢
    exact neL r' c' hr' hc' hc
   ·exact absurd rfl hne
 ·rcases psh_row hr with ⟨h, hr⟩ | ⟨rfl, rfl⟩
  ·rw [psh_old h] at hc ⊢
   exact ne0 r c hr hc
  ·rw [psh_new] at hc ⊢
   exact neq hc
 ·rcases hx with ⟨_, rfl⟩ | ⟨r, c, hr, h0, rfl⟩
  ·exact .inl rfl
  ·rcases psh_row hr with ⟨h, hr⟩ | ⟨rfl, rfl⟩
   ·rw [psh_old h] at h0 ⊢
    exact .inr (.inl (.inr ⟨r, c, hr, h0, rfl⟩))
   ·rw [psh_new] at h0 ⊢
    exact .inr (.inr ⟨h0, rfl⟩)
end Go.Gl
