/-
  A program logic over the walk's rules: arguments of a law that are slices of slices. Conditions: those that each lemma names.
-/
import Derived.Test.YtdiiocckeldkfaaGl30
import Derived.LaidMore
import Derived.OpenShut
set_option linter.unusedSimpArgs false
set_option linter.unusedVariables false
namespace Go.Gl
open Go Go.RowKit Go.ChangeShapes

section
variable {H : Type} {enc : TypeId × Value → H} {P : Program} {w : World} {base : Nat} {sp : Nat → Bool} {held : Bool} {G : Nat → Prop}

theorem cells_1 {a : Addr} {c : List Value} (h : w.cells? base a 1 = some c) : ∃ v, c = [v] ∧ w.cell? a = some v := by
  have e0 : a.add 0 = a := by simp [Addr.add]
  unfold World.cells? at h
  split at h
  · simp only [List.range_succ, List.range_zero, List.nil_append, List.mapM_cons, List.mapM_nil, e0] at h
    cases hcc : w.cell? a with
    | none => simp [hcc] at h
    | some c => simp [hcc] at h; exact ⟨c, h.symm, rfl⟩
  · cases h

theorem open_rows {t e : TypeId} {fuel : Nat} {cs : List Value} {x : DataW H × List MemPlace} {α : Type} (f : α → PV) (ht : P.underlying t = some (.slice e)) (hc : P.cellsOf e = 1)
    (hel : ∀ n v y, DataW.trod enc P w base sp held n e [v] = some y → ∃ a : α, v.oneCell' = true ∧ RepP w (fun _ => False) G (f a) v)
    (h : DataW.trod enc P w base sp held fuel t cs = some x) : ∃ (v : Value) (L : List α), cs = [v] ∧ RepP w (fun _ => False) G (.sl .ro (L.map f)) v := by
  rcases DataW.trod_slice ht h with ⟨rfl, _⟩ | ⟨a, len, cap, elems, rest, n, _, rfl, rfl, hb, hl, hm, hlen, hes, _, _⟩
  · refine ⟨_, [], rfl, ?_⟩
    simp only [List.map_nil, RepP]
    exact ⟨none, 0, rfl, Nat.le_refl _, Nat.zero_le _, (by intro h; cases h), Or.inl trivial⟩
  · have key : ∀ i, i < len → ∃ v, w.cell? (a.add i) = some v ∧ ∃ a : α, v.oneCell' = true ∧ RepP w (fun _ => False) G (f a) v := by
      intro i hi
      have hE := hes i hi
      rw [hc, Nat.mul_one, List.getElem?_eq_getElem (by omega)] at hE
      simp only [Option.bind_eq_some_iff] at hE
      obtain ⟨c1, hc1, hy1⟩ := hE
      obtain ⟨v, rfl, hv⟩ := cells_1 hc1
      exact ⟨v, hv, hel _ _ _ hy1⟩
    have key2 : ∃ L : List α, L.length = len ∧ ∀ i (hi : i < L.length), ∃ v, w.cell? (a.add i) = some v ∧ v.oneCell' = true ∧ RepP w (fun _ => False) G (f L[i]) v := by
      have : ∀ m, m ≤ len → ∃ L : List α, L.length = m ∧ ∀ i (hi : i < L.length), ∃ v, w.cell? (a.add i) = some v ∧ v.oneCell' = true ∧ RepP w (fun _ => False) G (f L[i]) v := by
        intro m
        induction m with
        | zero => intro _; exact ⟨[], rfl, fun i hi => by simp at hi⟩
        | succ m ih =>
          intro hle
          obtain ⟨L, hL, hL2⟩ := ih (by omega)
          obtain ⟨v, hv, b, h1, h2⟩ := key m (by omega)
          refine ⟨L ++ [b], by simp [hL], fun i hi => ?_⟩
          by_cases him : i < L.length
          · obtain ⟨v', q1, q2, q3⟩ := hL2 i him
            exact ⟨v', q1, q2, by rw [List.getElem_append_left him]; exact q3⟩
          · have : i = m := by simp at hi; omega
            subst this
            refine ⟨v, hv, h1, ?_⟩
            rw [List.getElem_append_right (by omega)]
            simpa [hL] using h2
      exact this len (Nat.le_refl _)
    obtain ⟨L, hL, hL2⟩ := key2
    refine ⟨_, L, rfl, ?_⟩
    simp only [RepP, List.length_map]
    refine ⟨some a, cap, by rw [hL], by omega, hm, (by intro h; cases h), ?_⟩
    by_cases h0 : len = 0
    · left; have : L = [] := List.eq_nil_of_length_eq_zero (by omega)
      subst this; rfl
    · right
      obtain ⟨B, off, spot⟩ := a
      obtain ⟨v, hv, _, _⟩ := hL2 0 (by omega)
      have hs : spot = none := by simpa [Addr.add] using World.cell?_spot hv
      subst hs
      refine ⟨B, off, rfl, id, (by intro h; cases h), ?_⟩
      have main : ∀ (M : List α) (o : Nat), (∀ i (hi : i < M.length), ∃ v, w.cell? ⟨B, o + i, none⟩ = some v ∧ v.oneCell' = true ∧ RepP w (fun _ => False) G (f M[i]) v) → RepC w (fun _ => False) G B o (M.map f) := by
        intro M
        induction M with
        | nil => intro o _; simp only [List.map_nil, RepC]
        | cons y M ih =>
          intro o hy
          simp only [List.map_cons, RepC]
          refine ⟨by have := hy 0 (by simp); rw [List.getElem_cons_zero] at this; simpa using this, ih (o + 1) fun i hi => ?_⟩
          have := hy (i + 1) (by simpa using hi)
          rw [show o + 1 + i = o + (i + 1) by omega]
          simpa using this
      refine main L off fun i hi => ?_
      have := hL2 i hi
      by_cases hi0 : i = 0
      · subst hi0; simpa [Addr.add] using this
      · simpa [Addr.add, hi0] using this

theorem ints_row {t e : TypeId} {k : IntKind} {fuel : Nat} {v : Value} {x : DataW H × List MemPlace} (ht : P.underlying t = some (.slice e)) (he : P.underlying e = some (.int k)) (hc : P.cellsOf e = 1)
    (h : DataW.trod enc P w base (fun _ => true) held fuel t [v] = some x) : ∃ zs : List Int, v.oneCell' = true ∧ RepP w (fun _ => False) G (ints k zs) v := by
  rcases open_ints ht he hc h with ⟨hcs, _⟩ | ⟨a, l, c, zs, hcs, _, hl, hm, hz, _, hcell, hwz⟩
  · simp only [List.cons.injEq, and_true] at hcs
    subst hcs
    exact ⟨[], rfl, (IsRow.rep (zs := []) (.inl ⟨rfl, rfl, rfl, rfl⟩) : RepP w _ G (ints k _) _)⟩
  · simp only [List.cons.injEq, and_true] at hcs
    subst hcs
    exact ⟨zs.take l, rfl, IsRow.rep (.inr ⟨_, rfl, hl, hm, by simpa using hz, hcell, hwz⟩)⟩
theorem open_intss {t e i : TypeId} {fuel : Nat} {cs : List Value} {x : DataW H × List MemPlace} (ht : P.underlying t = some (.slice e)) (hc : P.cellsOf e = 1)
    (he : P.underlying e = some (.slice i)) (hi : P.underlying i = some (.int .i64)) (hci : P.cellsOf i = 1)
    (h : DataW.trod enc P w base (fun _ => true) held fuel t cs = some x) : ∃ (v : Value) (L : List (List Int)), cs = [v] ∧ RepP w (fun _ => False) G (.sl .ro (L.map (elI true))) v :=
  open_rows (elI true) ht hc (fun n v y hy => by
    obtain ⟨zs, h1, h2⟩ := ints_row (G := G) he hi hci hy
    exact ⟨zs, h1, h2⟩) h
theorem rep_lensC {G : Nat → Prop} {B : Nat} : ∀ {L : List (List Int)} {off : Nat}, RepC w (fun _ => False) G B off (L.map (elI true)) → ∀ l ∈ L, l.length ≤ 9223372036854775807
  | [], _, _ => by simp
  | x :: L, off, h => by
    have hm : maxLen = 9223372036854775807 := rfl
    simp only [List.map_cons, RepC] at h
    obtain ⟨⟨v', _, _, h4⟩, h5⟩ := h
    intro l hl
    rcases List.mem_cons.1 hl with rfl | hl
    · simp only [elI, RepP, List.length_map] at h4
      obtain ⟨_, _, _, q1, q2, _⟩ := h4
      omega
    · exact rep_lensC h5 l hl
/-- The lengths of what came in. -/
theorem rep_lens {G : Nat → Prop} {L : List (List Int)} {v : Value} (h : RepP w (fun _ => False) G (.sl .ro (L.map (elI true))) v) : L.length ≤ 9223372036854775807 ∧ ∀ l ∈ L, l.length ≤ 9223372036854775807 := by
  simp only [RepP, List.length_map] at h
  obtain ⟨a, cap, _, h1, h2, _, h3⟩ := h
  have hm : maxLen = 9223372036854775807 := rfl
  refine ⟨by omega, ?_⟩
  rcases h3 with h3 | ⟨B, off, _, _, _, h3⟩
  · intro l hl
    have : L = [] := List.map_eq_nil_iff.1 h3
    subst this; simp at hl
  · exact rep_lensC h3
end
end Go.Gl
