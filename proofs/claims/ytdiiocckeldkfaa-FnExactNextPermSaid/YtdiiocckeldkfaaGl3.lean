/-
  A program logic over the walk's rules, third part: what the readings of memory bear. Conditions: none; lemmas on the definitions of the first part.
-/
import Derived.Test.YtdiiocckeldkfaaGl2
namespace Go.Gl
open Go

/-- What a step leaves of the memory that readings lie in. -/
def Stays (w w' : World) (F F' : Nat → Prop) : Prop :=
  ∀ B o v, ¬ F B → w.cell? ⟨B, o, none⟩ = some v → w'.cell? ⟨B, o, none⟩ = some v ∧ ¬ F' B

theorem RepC_ne {w : World} {F G : Nat → Prop} {B o : Nat} {x : PV} {xs : List PV} (h : RepC w F G B o (x :: xs)) : ∃ v, w.cell? ⟨B, o, none⟩ = some v := by
  simp only [RepC] at h
  obtain ⟨⟨v, hv, _⟩, _⟩ := h
  exact ⟨v, hv⟩

mutual
theorem RepP.tr {w w' : World} {F F' G G' : Nat → Prop} (H : Stays w w' F F') (HG : ∀ B, (∃ o v, w.cell? ⟨B, o, none⟩ = some v) → ¬ F B → G B → G' B) : ∀ (x : PV) (v : Value), RepP w F G x v → RepP w' F' G' x v
  | .int _ _, _, h => h
  | .bool _, _, h => h
  | .str _, _, h => h
  | .nilf, _, h => h
  | .any, _, _ => trivial
  | .sl o xs, v, h => by
    simp only [RepP] at h ⊢
    obtain ⟨a, cap, hv, hl, hm, ho, hx⟩ := h
    refine ⟨a, cap, hv, hl, hm, ho, ?_⟩
    rcases hx with hx | ⟨B, off, ha, hF, hG, hc⟩
    · exact .inl hx
    · cases xs with
      | nil => exact .inl rfl
      | cons y ys =>
        obtain ⟨u, hu⟩ := RepC_ne hc
        exact .inr ⟨B, off, ha, (H B off u hF hu).2, fun e => HG B ⟨off, u, hu⟩ hF (hG e), RepC.tr H HG (y :: ys) B off (fun o v hv => (H B o v hF hv).1) hc⟩
  | .agg xs, v, h => by
    simp only [RepP] at h ⊢
    obtain ⟨cs, hv, hx⟩ := h
    exact ⟨cs, hv, RepL.tr H HG xs cs hx⟩
  | .fn f a b, v, h => by
    simp only [RepP] at h ⊢
    obtain ⟨a', b', hv, ha, hb⟩ := h
    exact ⟨a', b', hv, RepL.tr H HG a a' ha, RepL.tr H HG b b' hb⟩
  | .pc xs, v, h => by
    simp only [RepP] at h ⊢
    obtain ⟨B, off, hv, hF, hc⟩ := h
    cases xs with
    | nil => exact ⟨B, off, hv, .inl rfl, by simp only [RepC]⟩
    | cons y ys =>
      have hF' : ¬ F B := by rcases hF with hF | hF; exact absurd hF (by simp); exact hF
      obtain ⟨u, hu⟩ := RepC_ne hc
      exact ⟨B, off, hv, .inr (H B off u hF' hu).2, RepC.tr H HG (y :: ys) B off (fun o v hv => (H B o v hF' hv).1) hc⟩
theorem RepC.tr {w w' : World} {F F' G G' : Nat → Prop} (H : Stays w w' F F') (HG : ∀ B, (∃ o v, w.cell? ⟨B, o, none⟩ = some v) → ¬ F B → G B → G' B) : ∀ (xs : List PV) (B o : Nat),
    (∀ o v, w.cell? ⟨B, o, none⟩ = some v → w'.cell? ⟨B, o, none⟩ = some v) → RepC w F G B o xs → RepC w' F' G' B o xs
  | [], _, _, _, _ => by simp only [RepC]
  | x :: xs, B, o, hB, h => by
    simp only [RepC] at h ⊢
    obtain ⟨⟨v, hv, h1, hx⟩, hr⟩ := h
    exact ⟨⟨v, hB _ _ hv, h1, RepP.tr H HG x v hx⟩, RepC.tr H HG xs B (o + 1) hB hr⟩
theorem RepL.tr {w w' : World} {F F' G G' : Nat → Prop} (H : Stays w w' F F') (HG : ∀ B, (∃ o v, w.cell? ⟨B, o, none⟩ = some v) → ¬ F B → G B → G' B) : ∀ (xs : List PV) (vs : List Value),
    RepL w F G xs vs → RepL w' F' G' xs vs
  | [], _, h => by simpa only [RepL] using h
  | x :: xs, vs, h => by
    simp only [RepL] at h ⊢
    obtain ⟨v, vs', rfl, hx, hr⟩ := h
    exact ⟨v, vs', rfl, RepP.tr H HG x v hx, RepL.tr H HG xs vs' hr⟩
end

mutual
theorem RepA.tr {w w' : World} {F F' G G' : Nat → Prop} {ι ι' : Nat → Loc} (H : Stays w w' F F') (HG : ∀ B, (∃ o v, w.cell? ⟨B, o, none⟩ = some v) → ¬ F B → G B → G' B) :
    ∀ (x : AV) (v : Value), (∀ i, x.has i = true → ι' i = ι i) → RepA w F G ι x v → RepA w' F' G' ι' x v
  | .p x, v, _, h => RepP.tr H HG x v h
  | .ref id off len, v, hi, h => by
    have e := hi id (by simp [AV.has])
    simp only [RepA] at h ⊢
    rw [e]; exact h
  | .ptr id off, v, hi, h => by
    have e := hi id (by simp [AV.has])
    simp only [RepA] at h ⊢
    rw [e]; exact h
  | .agg xs, v, hi, h => by
    simp only [RepA] at h ⊢
    obtain ⟨cs, hv, hx⟩ := h
    exact ⟨cs, hv, RepAL.tr H HG xs cs (fun i h => hi i (by simpa [AV.has] using h)) hx⟩
  | .tup xs, v, hi, h => by
    simp only [RepA] at h ⊢
    obtain ⟨cs, hv, hx⟩ := h
    exact ⟨cs, hv, RepAL.tr H HG xs cs (fun i h => hi i (by simpa [AV.has] using h)) hx⟩
  | .fn f a b, v, hi, h => by
    simp only [RepA] at h ⊢
    obtain ⟨a', b', hv, ha, hb⟩ := h
    exact ⟨a', b', hv, RepAL.tr H HG a a' (fun i h => hi i (by simp [AV.has, h])) ha, RepAL.tr H HG b b' (fun i h => hi i (by simp [AV.has, h])) hb⟩
theorem RepAL.tr {w w' : World} {F F' G G' : Nat → Prop} {ι ι' : Nat → Loc} (H : Stays w w' F F') (HG : ∀ B, (∃ o v, w.cell? ⟨B, o, none⟩ = some v) → ¬ F B → G B → G' B) :
    ∀ (xs : List AV) (vs : List Value), (∀ i, AV.hasL xs i = true → ι' i = ι i) → RepAL w F G ι xs vs → RepAL w' F' G' ι' xs vs
  | [], _, _, h => by simpa only [RepAL] using h
  | x :: xs, vs, hi, h => by
    simp only [RepAL] at h ⊢
    obtain ⟨v, vs', rfl, hx, hr⟩ := h
    exact ⟨v, vs', rfl, RepA.tr H HG x v (fun i h => hi i (by simp [AV.hasL, h])) hx, RepAL.tr H HG xs vs' (fun i h => hi i (by simp [AV.hasL, h])) hr⟩
end

theorem Stays.refl (w : World) (F : Nat → Prop) : Stays w w F F := fun _ _ _ h hv => ⟨hv, h⟩

/-! ### cells in memory, one by one -/

theorem RepC_iff {w : World} {F G : Nat → Prop} {B : Nat} : ∀ {xs : List PV} {o : Nat}, RepC w F G B o xs ↔ ∀ (j : Nat) (x : PV), xs[j]? = some x → ∃ v, w.cell? ⟨B, o + j, none⟩ = some v ∧ v.oneCell' = true ∧ RepP w F G x v
  | [], o => by simp [RepC]
  | x :: xs, o => by
    simp only [RepC]
    rw [RepC_iff (xs := xs) (o := o + 1)]
    constructor
    · rintro ⟨h0, hr⟩ j y hj
      cases j with
      | zero => simp only [List.getElem?_cons_zero, Option.some.injEq] at hj; subst hj; simpa using h0
      | succ j => simp only [List.getElem?_cons_succ] at hj; have := hr j y hj; rwa [show o + 1 + j = o + (j + 1) from by omega] at this
    · intro h
      refine ⟨by simpa using h 0 x rfl, fun j y hj => ?_⟩
      have := h (j + 1) y (by simpa using hj)
      rwa [show o + (j + 1) = o + 1 + j from by omega] at this

theorem RepC_drop {w : World} {F G : Nat → Prop} {B o : Nat} {xs : List PV} (h : RepC w F G B o xs) (k : Nat) : RepC w F G B (o + k) (xs.drop k) := by
  rw [RepC_iff] at h ⊢
  intro j x hj
  rw [List.getElem?_drop] at hj
  have := h (k + j) x hj
  rwa [show o + (k + j) = o + k + j from by omega] at this

theorem RepC_take {w : World} {F G : Nat → Prop} {B o : Nat} {xs : List PV} (h : RepC w F G B o xs) (k : Nat) : RepC w F G B o (xs.take k) := by
  rw [RepC_iff] at h ⊢
  intro j x hj
  rw [List.getElem?_take] at hj
  split at hj
  · exact h j x hj
  · cases hj

theorem RepC_append {w : World} {F G : Nat → Prop} {B o : Nat} {xs ys : List PV} : RepC w F G B o (xs ++ ys) ↔ RepC w F G B o xs ∧ RepC w F G B (o + xs.length) ys := by
  induction xs generalizing o with
  | nil => simp [RepC]
  | cons x xs ih =>
    simp only [List.cons_append, RepC, List.length_cons]
    rw [ih, show o + 1 + xs.length = o + (xs.length + 1) from by omega]
    constructor
    · rintro ⟨a, b, c⟩; exact ⟨⟨a, b⟩, c⟩
    · rintro ⟨⟨a, b⟩, c⟩; exact ⟨a, b, c⟩

theorem RepL_length {w : World} {F G : Nat → Prop} : ∀ {xs : List PV} {vs : List Value}, RepL w F G xs vs → vs.length = xs.length
  | [], vs, h => by simp only [RepL] at h; subst h; rfl
  | x :: xs, vs, h => by
    simp only [RepL] at h
    obtain ⟨v, vs', rfl, _, hr⟩ := h
    simp [RepL_length hr]
theorem RepL_get {w : World} {F G : Nat → Prop} : ∀ {xs : List PV} {vs : List Value}, RepL w F G xs vs → ∀ (j : Nat) (x : PV), xs[j]? = some x → ∃ v, vs[j]? = some v ∧ RepP w F G x v
  | [], vs, h, j, x, hj => by simp at hj
  | y :: xs, vs, h, j, x, hj => by
    simp only [RepL] at h
    obtain ⟨v, vs', rfl, hy, hr⟩ := h
    cases j with
    | zero => simp only [List.getElem?_cons_zero, Option.some.injEq] at hj ⊢; subst hj; exact ⟨v, rfl, hy⟩
    | succ j => simp only [List.getElem?_cons_succ] at hj ⊢; exact RepL_get hr j x hj
theorem RepL_of {w : World} {F G : Nat → Prop} : ∀ {xs : List PV} {vs : List Value}, vs.length = xs.length → (∀ (j : Nat) (x : PV) (v : Value), xs[j]? = some x → vs[j]? = some v → RepP w F G x v) → RepL w F G xs vs
  | [], vs, h, _ => by simp only [RepL]; simpa using h
  | x :: xs, [], h, _ => by simp at h
  | x :: xs, v :: vs, h, hh => by
    simp only [RepL]
    exact ⟨v, vs, rfl, hh 0 x v rfl rfl, RepL_of (by simpa using h) fun j y u hj hu => hh (j + 1) y u (by simpa using hj) (by simpa using hu)⟩
theorem RepAL_length {w : World} {F G : Nat → Prop} {ι : Nat → Loc} : ∀ {xs : List AV} {vs : List Value}, RepAL w F G ι xs vs → vs.length = xs.length
  | [], vs, h => by simp only [RepAL] at h; subst h; rfl
  | x :: xs, vs, h => by
    simp only [RepAL] at h
    obtain ⟨v, vs', rfl, _, hr⟩ := h
    simp [RepAL_length hr]
theorem RepAL_get {w : World} {F G : Nat → Prop} {ι : Nat → Loc} : ∀ {xs : List AV} {vs : List Value}, RepAL w F G ι xs vs → ∀ (j : Nat) (x : AV), xs[j]? = some x → ∃ v, vs[j]? = some v ∧ RepA w F G ι x v
  | [], vs, h, j, x, hj => by simp at hj
  | y :: xs, vs, h, j, x, hj => by
    simp only [RepAL] at h
    obtain ⟨v, vs', rfl, hy, hr⟩ := h
    cases j with
    | zero => simp only [List.getElem?_cons_zero, Option.some.injEq] at hj ⊢; subst hj; exact ⟨v, rfl, hy⟩
    | succ j => simp only [List.getElem?_cons_succ] at hj ⊢; exact RepAL_get hr j x hj
theorem RepAL_of {w : World} {F G : Nat → Prop} {ι : Nat → Loc} : ∀ {xs : List AV} {vs : List Value}, vs.length = xs.length → (∀ (j : Nat) (x : AV) (v : Value), xs[j]? = some x → vs[j]? = some v → RepA w F G ι x v) → RepAL w F G ι xs vs
  | [], vs, h, _ => by simp only [RepAL]; simpa using h
  | x :: xs, [], h, _ => by simp at h
  | x :: xs, v :: vs, h, hh => by
    simp only [RepAL]
    exact ⟨v, vs, rfl, hh 0 x v rfl rfl, RepAL_of (by simpa using h) fun j y u hj hu => hh (j + 1) y u (by simpa using hj) (by simpa using hu)⟩
theorem RepAL_map {w : World} {F G : Nat → Prop} {ι : Nat → Loc} {α : Type} {f : α → AV} {g : α → Value} (h : ∀ a, RepA w F G ι (f a) (g a)) : ∀ xs : List α, RepAL w F G ι (xs.map f) (xs.map g)
  | [] => by simp [RepAL]
  | x :: xs => by simp only [List.map_cons, RepAL]; exact ⟨_, _, rfl, h x, RepAL_map h xs⟩
theorem RepAL_append {w : World} {F G : Nat → Prop} {ι : Nat → Loc} : ∀ {xs ys : List AV} {vs us : List Value}, RepAL w F G ι xs vs → RepAL w F G ι ys us → RepAL w F G ι (xs ++ ys) (vs ++ us)
  | [], _, _, _, h, h' => by simp only [RepAL] at h; subst h; simpa using h'
  | x :: xs, ys, vs, us, h, h' => by
    simp only [RepAL] at h
    obtain ⟨v, vs', rfl, hx, hr⟩ := h
    simp only [List.cons_append, RepAL]
    exact ⟨_, _, rfl, hx, RepAL_append hr h'⟩
theorem RepAL_p {w : World} {F G : Nat → Prop} {ι : Nat → Loc} : ∀ {xs : List PV} {vs : List Value}, RepAL w F G ι (xs.map .p) vs ↔ RepL w F G xs vs
  | [], vs => by simp [RepAL, RepL]
  | x :: xs, vs => by
    simp only [List.map_cons, RepAL, RepL, RepA]
    constructor
    · rintro ⟨v, vs', rfl, h, hr⟩; exact ⟨v, vs', rfl, h, RepAL_p.1 hr⟩
    · rintro ⟨v, vs', rfl, h, hr⟩; exact ⟨v, vs', rfl, h, RepAL_p.2 hr⟩

end Go.Gl
