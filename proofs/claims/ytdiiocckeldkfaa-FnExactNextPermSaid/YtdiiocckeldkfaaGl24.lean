/-
  A program logic over the walk's rules: a function's value contract, told as the walk's rules tell it. Conditions: those that each lemma names.
-/
import Derived.Test.YtdiiocckeldkfaaGl23
import Derived.Below
set_option linter.unusedSimpArgs false
set_option linter.unusedVariables false
namespace Go.Gl
open Go Go.RowKit

theorem Fun.calls {P : Program} {f : FuncId} {args : List PV} {b : Bool} (hf : Fun P f args [.bool b]) (w : World) {vs : List Value} (hr : RepL w (fun _ => False) (fun B => w.heap.size ≤ B) args vs) :
    Calls P f ⟨vs⟩ w fun e w' => e = .returned (.bool b) ∧ Below w.heap.size w w' := by
  obtain ⟨_, _, _, _, h⟩ := hf
  have dead : ∀ j, argH (args.map .pv) j = .dead := fun j => by
    unfold argH
    rw [List.getElem?_map]
    cases args[j]? <;> rfl
  have hno : ∀ (ι : Nat → Loc) B, ¬ Held (argH (args.map .pv)) ι B := by
    rintro ι B ⟨id, m, c, hl, _⟩
    rw [dead] at hl; cases hl
  have hrep : ∀ (l : List PV) (vs : List Value) (k : Nat), RepL w (fun _ => False) (fun B => w.heap.size ≤ B) l vs → RepAL w (Held (argH (args.map .pv)) fun _ => ⟨0, 0, 0⟩) (fun B => w.heap.size ≤ B) (fun _ => ⟨0, 0, 0⟩) (argAVs k (l.map .pv)) vs := by
    intro l
    induction l with
    | nil => intro vs k h; simpa [argAVs, RepAL, RepL] using h
    | cons x l ih =>
      intro vs k h
      simp only [RepL] at h
      obtain ⟨v, vs', rfl, h1, h2⟩ := h
      simp only [List.map_cons, argAVs, Arg.av, RepAL, RepA]
      exact ⟨v, vs', rfl, RepP.tr (F := fun _ => False) (fun _ _ _ _ hv => ⟨hv, hno _ _⟩) (fun _ _ _ h => h) _ _ h1, ih _ _ h2⟩
  refine (h w (fun B => w.heap.size ≤ B) (fun _ => ⟨0, 0, 0⟩) vs (fun _ h => h) ⟨?_, ?_, ?_⟩ (hrep _ _ _ hr)).mono ?_
  · intro id m c hl; rw [dead] at hl; cases hl
  · intro id m c hl; rw [dead] at hl; cases hl
  · intro id m c _ _ _ hl; rw [dead] at hl; cases hl
  · rintro e w' ⟨v, ι', rfl, _, hk, _, hv⟩
    have hv : v = .bool b := by simpa [impAll, imp, imp1, RepA, RepP] using hv
    subst hv
    exact ⟨rfl, hk.os, hk.tape, hk.output, hk.size, fun k hk' => hk.block k hk' (hno _ _)⟩

/-! ### arguments -/

theorem rep_nil {w : World} {F G : Nat → Prop} : RepL w F G [] [] := by simp only [RepL]
theorem rep_cons {w : World} {F G : Nat → Prop} {x : PV} {xs : List PV} {v : Value} {vs : List Value} (h : RepP w F G x v) (hs : RepL w F G xs vs) : RepL w F G (x :: xs) (v :: vs) := by
  simp only [RepL]; exact ⟨v, vs, rfl, h, hs⟩
theorem rep_i {w : World} {F G : Nat → Prop} {k : IntKind} (n : Int) : RepP w F G (.int k n) (.int k n) := by simp only [RepP]
theorem rep_b {w : World} {F G : Nat → Prop} (b : Bool) : RepP w F G (.bool b) (.bool b) := by simp only [RepP]
theorem rep_s {w : World} {F G : Nat → Prop} (s : ByteArray) : RepP w F G (.str s.data.toList) (.string s) := by simp only [RepP]

/-- A slice of integers that came in: it is nil; or it leads to a row of 'cap' cells, the numbers 'zs', the first 'len' of which are its elements. -/
def IsRow (k : IntKind) (w : World) (a : Option Addr) (len cap : Nat) (zs : List Int) : Prop :=
  (a = none ∧ len = 0 ∧ cap = 0 ∧ zs = []) ∨
  ∃ x, a = some x ∧ len ≤ cap ∧ cap ≤ maxLen ∧ zs.length = cap ∧ (∀ i, i < zs.length → w.cell? (x.add i) = some (.int k (zs.getD i 0))) ∧ ∀ n ∈ zs, (Lit.int k n).wf = true

def ints (k : IntKind) (xs : List Int) : PV := .sl .ro (xs.map (.int k))

theorem IsRow.rep {k : IntKind} {w : World} {G : Nat → Prop} {a : Option Addr} {len cap : Nat} {zs : List Int} (h : IsRow k w a len cap zs) : RepP w (fun _ => False) G (ints k (zs.take len)) (.slice a len cap) := by
  simp only [ints, RepP]
  rcases h with ⟨rfl, rfl, rfl, rfl⟩ | ⟨x, rfl, hl, hm, hz, hc, _⟩
  · exact ⟨none, 0, rfl, Nat.le_refl _, Nat.zero_le _, (by intro h; cases h), .inl rfl⟩
  · have e : ((zs.take len).map (PV.int k)).length = len := by simp; omega
    refine ⟨some x, cap, by rw [e], by rw [e]; exact hl, hm, (by intro h; cases h), ?_⟩
    by_cases h0 : len = 0
    · left; subst h0; rfl
    · right
      obtain ⟨B, off, spot⟩ := x
      have h1 := hc 0 (by omega)
      have hs : spot = none := by simpa [Addr.add] using World.cell?_spot h1
      subst hs
      refine ⟨B, off, rfl, id, (by intro h; cases h), ?_⟩
      have key : ∀ (ys : List Int) (o : Nat), (∀ i (hi : i < ys.length), w.cell? ⟨B, o + i, none⟩ = some (.int k ys[i])) → RepC w (fun _ => False) G B o (ys.map (.int k)) := by
        intro ys
        induction ys with
        | nil => intro o _; simp only [List.map_nil, RepC]
        | cons y ys ih =>
          intro o hy
          simp only [List.map_cons, RepC, RepP]
          refine ⟨⟨_, hy 0 (by simp), rfl, rfl⟩, ih (o + 1) fun i hi => ?_⟩
          have := hy (i + 1) (by simpa using hi)
          rw [show o + 1 + i = o + (i + 1) by omega]
          simpa using this
      refine key _ off fun i hi => ?_
      have hi' : i < zs.length := by simp at hi; omega
      have := hc i hi'
      by_cases hi0 : i = 0
      · subst hi0; simpa [Addr.add, hi'] using this
      · simpa [Addr.add, hi', hi0] using this

end Go.Gl
