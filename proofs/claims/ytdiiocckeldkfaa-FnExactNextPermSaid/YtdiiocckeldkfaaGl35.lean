/-
  A program logic over the walk's rules: arguments of a law that are structs of two rows and a row of rows. Conditions: those that each lemma names.
-/
import Derived.Test.YtdiiocckeldkfaaGl34
import Derived.Lib.SmallJoins
set_option linter.unusedSimpArgs false
set_option linter.unusedVariables false
namespace Go.Gl
open Go Go.RowKit Go.ChangeShapes Go.Joins Go.WideShapes Go.Deep

section
variable {H : Type} {enc : TypeId × Value → H} {P : Program} {w : World} {base : Nat} {held : Bool} {G : Nat → Prop}

def sessR (a b : List Int) (c : List (List Int)) : PV := .agg [.sl (.lent true) (a.map (.int .i64)), .sl (.lent true) (b.map (.int .i64)), .sl (.lent true) (c.map (elI true))]
theorem open_sess {t s ss i : TypeId} {r : Reach} {b0 : Nat} {f0 f1 f2 : Field} {v : Value} {d : DataW H} {p : List MemPlace} (hs : P.underlying t = some (.struct #[f0, f1, f2])) (hone : oneCellFields P #[f0, f1, f2] = true) (hC : P.cellsOf t = 3)
    (e0 : f0.type = s) (e1 : f1.type = s) (e2 : f2.type = ss) (hts : P.underlying s = some (.slice i)) (hti : P.underlying i = some (.int .i64)) (hci : P.cellsOf i = 1) (htss : P.underlying ss = some (.slice s)) (hcs : P.cellsOf s = 1)
    (hv : Value.okWide P w r b0 t v) (h : DataW.Trod enc P w base (fun _ => true) held t v d p) : ∃ (a b : List Int) (c : List (List Int)), RepP w (fun _ => False) G (sessR a b c) v := by
  obtain ⟨v0, v1, v2, y0, y1, y2, n, rfl, _, _, h0, h1, h2⟩ := open_agg3 hs hone hC hv h
  rw [e0] at h0
  rw [e1] at h1
  rw [e2] at h2
  obtain ⟨a, _, ha⟩ := ints_row (G := G) hts hti hci h0
  obtain ⟨b, _, hb⟩ := ints_row (G := G) hts hti hci h1
  obtain ⟨v, c, hcv, hc⟩ := open_intss (G := G) htss hcs hts hti hci h2
  simp only [List.cons.injEq, and_true] at hcv
  subst hcv
  refine ⟨a, b, c, ?_⟩
  show RepP w (fun _ => False) G (.agg [_, _, _]) _
  simp only [RepP, RepL]
  exact ⟨[v0, v1, v2], rfl, v0, [v1, v2], rfl, ha, v1, [v2], rfl, hb, v2, [], rfl, hc, rfl⟩
theorem row_len {l : List Int} {v : Value} (h : RepP w (fun _ => False) G (.sl (.lent true) (l.map (.int .i64))) v) : l.length ≤ 9223372036854775807 := by
  simp only [RepP, List.length_map] at h
  obtain ⟨a, cap, _, h1, h2, _⟩ := h
  have hm : maxLen = 9223372036854775807 := rfl
  omega
theorem sess_lens {a b : List Int} {c : List (List Int)} {v : Value} (h : RepP w (fun _ => False) G (sessR a b c) v) :
    a.length ≤ 9223372036854775807 ∧ b.length ≤ 9223372036854775807 ∧ c.length ≤ 9223372036854775807 ∧ ∀ l ∈ c, l.length ≤ 9223372036854775807 := by
  have h : RepP w (fun _ => False) G (.agg [.sl (.lent true) (a.map (.int .i64)), .sl (.lent true) (b.map (.int .i64)), .sl (.lent true) (c.map (elI true))]) v := h
  rw [RepP] at h
  obtain ⟨cs, _, h⟩ := h
  simp only [RepL] at h
  obtain ⟨v0, _, _, h0, v1, _, _, h1, v2, _, _, h2, _⟩ := h
  exact ⟨row_len h0, row_len h1, rep_lens h2⟩
end
end Go.Gl
