/-
  A contract asked with less known of its arguments' memory. Conditions: none.
-/
import Derived.Test.YtcnejdfpdgiffaaNum
set_option linter.unusedSimpArgs false
set_option linter.unusedVariables false
set_option maxRecDepth 20000
set_option linter.unusedSectionVars false
namespace Go.Gl
open Go Go.Proofs
variable [Amb]
mutual
/-- Less is known of the memory of slices. -/
def wk : PV → PV
  | .sl .fr xs => .sl .ro (wkL xs)
  | .sl .ro xs => .sl .ro (wkL xs)
  | .agg xs => .agg (wkL xs)
  | .sl .own xs => .sl .own xs
  | .int k n => .int k n
  | .bool b => .bool b
  | .str s => .str s
  | .fn f a b => .fn f a b
  | .nilf => .nilf
  | .pc xs => .pc xs
  | .any => .any
  | .dl rows => .dl rows
def wkL : List PV → List PV
  | [] => []
  | x :: xs => wk x :: wkL xs
end
theorem wkL_len : ∀ {xs : List PV}, (wkL xs).length = xs.length
  | [] => rfl
  | x :: xs => by simp only [wkL, List.length_cons, wkL_len (xs := xs)]
theorem wkL_map {α : Type} {f g : α → PV} (h : ∀ a, wk (f a) = g a) : ∀ {l : List α}, wkL (l.map f) = l.map g
  | [] => rfl
  | x :: l => by simp only [List.map_cons, wkL, h, wkL_map h (l := l)]
mutual
theorem RepP.wk {w : World} {F G : Nat → Prop} : ∀ (x : PV) (v : Value), RepP w F G x v → RepP w F G (Gl.wk x) v
  | .int _ _, _, h => h
  | .bool _, _, h => h
  | .str _, _, h => h
  | .nilf, _, h => h
  | .any, _, _ => trivial
  | .dl _, _, h => by simp only [RepP] at h
  | .fn _ _ _, _, h => h
  | .pc _, _, h => h
  | .sl o xs, v, h => by
    cases o with
    | own => exact h
    | ro =>
      simp only [Gl.wk, RepP] at h ⊢
      obtain ⟨a, cap, hv, hl, hm, ho, hx⟩ := h
      refine ⟨a, cap, by rw [wkL_len]; exact hv, by rw [wkL_len]; exact hl, hm, fun q => (by cases q), ?_⟩
      rcases hx with hx | ⟨B, off, ha, hF, hG, hc⟩
      · subst hx; exact .inl (by simp only [wkL])
      · exact .inr ⟨B, off, ha, hF, fun q => (by cases q), RepC.wk xs B off hc⟩
    | fr =>
      simp only [Gl.wk, RepP] at h ⊢
      obtain ⟨a, cap, hv, hl, hm, ho, hx⟩ := h
      refine ⟨a, cap, by rw [wkL_len]; exact hv, by rw [wkL_len]; exact hl, hm, fun q => (by cases q), ?_⟩
      rcases hx with hx | ⟨B, off, ha, hF, hG, hc⟩
      · subst hx; exact .inl (by simp only [wkL])
      · exact .inr ⟨B, off, ha, hF, fun q => (by cases q), RepC.wk xs B off hc⟩
  | .agg xs, v, h => by
    simp only [Gl.wk, RepP] at h ⊢
    obtain ⟨cs, hv, hx⟩ := h
    exact ⟨cs, hv, RepL.wk xs cs hx⟩
theorem RepC.wk {w : World} {F G : Nat → Prop} : ∀ (xs : List PV) (B o : Nat), RepC w F G B o xs → RepC w F G B o (wkL xs)
  | [], _, _, _ => by simp only [wkL, RepC]
  | x :: xs, B, o, h => by
    simp only [wkL, RepC] at h ⊢
    obtain ⟨⟨v, hv, h1, hx⟩, hr⟩ := h
    exact ⟨⟨v, hv, h1, RepP.wk x v hx⟩, RepC.wk xs B (o + 1) hr⟩
theorem RepL.wk {w : World} {F G : Nat → Prop} : ∀ (xs : List PV) (vs : List Value), RepL w F G xs vs → RepL w F G (wkL xs) vs
  | [], vs, h => h
  | x :: xs, vs, h => by
    simp only [wkL, RepL] at h ⊢
    obtain ⟨v, vs', rfl, h1, h2⟩ := h
    exact ⟨v, vs', rfl, RepP.wk x v h1, RepL.wk xs vs' h2⟩
end
/-- A contract does for arguments of which more is known. -/
theorem Fun.wk {P : Program} {f : FuncId} {args args' res : List PV} (e : wkL args = args') (h : Fun P f args' res) : Fun P f args res := by
  subst e
  obtain ⟨h1, h2, h3, h4, h5⟩ := h
  refine ⟨h1, h2, h3, h4, fun w G ι vs amb hG ok hrp => ?_⟩
  have hlen : (List.map Arg.pv (wkL args)).length = (args.map Arg.pv).length := by simp only [List.length_map, wkL_len]
  have hH : argH ((wkL args).map .pv) = argH (args.map .pv) := by
    funext j
    unfold argH
    rw [List.getElem?_map, List.getElem?_map]
    cases (wkL args)[j]? <;> cases args[j]? <;> rfl
  have hM : argM ((wkL args).map .pv) ι = argM (args.map .pv) ι := by funext B; unfold argM; rw [hH]
  have hP : postH false ((wkL args).map .pv) [] res = postH false (args.map .pv) [] res := by
    unfold postH
    have : outH ((wkL args).map .pv) [] = outH (args.map .pv) [] := by
      funext j
      unfold outH
      rw [List.getElem?_map, List.getElem?_map]
      cases (wkL args)[j]? <;> cases args[j]? <;> rfl
    rw [this, hlen]
  have hrep : ∀ (l : List PV) (vs : List Value) (k : Nat), RepAL w (Held (argH (args.map .pv)) ι) G ι (argAVs k (l.map .pv)) vs → RepAL w (Held (argH (args.map .pv)) ι) G ι (argAVs k ((wkL l).map .pv)) vs := by
    intro l
    induction l with
    | nil => intro vs k h; exact h
    | cons x l ih =>
      intro vs k h
      simp only [wkL, List.map_cons, argAVs, Arg.av, RepAL, RepA] at h ⊢
      obtain ⟨v, vs', rfl, h1, h2⟩ := h
      exact ⟨v, vs', rfl, RepP.wk x v h1, ih _ _ h2⟩
  have key := h5 w G ι vs (by rw [hM]; exact amb) hG (by rw [hM, hH]; exact ok) (by rw [hH]; exact hrep args vs 0 hrp)
  rw [hM, hP, hlen] at key
  exact key
end Go.Gl
