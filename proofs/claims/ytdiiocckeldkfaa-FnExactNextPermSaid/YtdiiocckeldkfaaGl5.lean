/-
  A program logic over the walk's rules, fifth part: a new block, a write, a block let go. Conditions: those that each lemma names.
-/
import Derived.Test.YtdiiocckeldkfaaGl4
namespace Go.Gl
open Go

/-- One block more; nothing else has turned (but for draws). -/
structure Pushed (w w' : World) (o : Obj) : Prop where
  heap : w'.heap = w.heap.push o
  os : w'.os = w.os
  tape : w'.tape = w.tape
  output : w'.output = w.output

theorem Pushed.alloc (w : World) (o : Obj) : Pushed w (w.alloc o) o := ⟨rfl, rfl, rfl, rfl⟩
theorem Pushed.drew (w : World) (o : Obj) : Pushed w (w.drew.alloc o) o := ⟨rfl, rfl, rfl, rfl⟩

theorem cell?_eq (w : World) (B o : Nat) : w.cell? ⟨B, o, none⟩ = match w.heap[B]? with | some (.cells c _ _) => c[o]? | _ => none := rfl

theorem cell?_lt {w : World} {B o : Nat} {v : Value} (h : w.cell? ⟨B, o, none⟩ = some v) : B < w.heap.size := World.block_lt_of_cell? w _ h

theorem Pushed.old {w w' : World} {o : Obj} (h : Pushed w w' o) {B : Nat} (hB : B < w.heap.size) : w'.heap[B]? = w.heap[B]? := by
  rw [h.heap, Array.getElem?_push, if_neg (by omega)]
theorem Pushed.at {w w' : World} {o : Obj} (h : Pushed w w' o) : w'.heap[w.heap.size]? = some o := by rw [h.heap]; simp
theorem Pushed.size {w w' : World} {o : Obj} (h : Pushed w w' o) : w'.heap.size = w.heap.size + 1 := by rw [h.heap]; simp
theorem Pushed.cell {w w' : World} {o : Obj} (h : Pushed w w' o) {B i : Nat} (hB : B < w.heap.size) : w'.cell? ⟨B, i, none⟩ = w.cell? ⟨B, i, none⟩ := by
  simp only [cell?_eq, h.old hB]

theorem Keep.refl (w : World) (M : Nat → Prop) : Keep w w M := ⟨rfl, rfl, rfl, Nat.le_refl _, fun _ _ _ => rfl⟩
theorem Keep.trans {a b c : World} {M : Nat → Prop} (h : Keep a b M) (k : Keep b c M) : Keep a c M :=
  ⟨k.os.trans h.os, k.tape.trans h.tape, k.output.trans h.output, Nat.le_trans h.size k.size, fun i hi hM => (k.block i (Nat.lt_of_lt_of_le hi h.size) hM).trans (h.block i hi hM)⟩
theorem Pushed.keep {w w' : World} {o : Obj} (h : Pushed w w' o) (M : Nat → Prop) : Keep w w' M :=
  ⟨h.os, h.tape, h.output, by rw [h.size]; omega, fun _ hk _ => h.old hk⟩

section
variable {w0 : World} {nA nt : Nat} {M G : Nat → Prop} {ι0 : Nat → Loc} {A : Nat → Prop} {w w' : World} {S : St} {ι : Nat → Loc} {a : Act}

def updL (ι : Nat → Loc) (k : Nat) (l : Loc) : Nat → Loc := fun i => if i = k then l else ι i
def updH (h : Nat → Blk) (k : Nat) (b : Blk) : Nat → Blk := fun i => if i = k then b else h i

theorem RowAt.same {l : Loc} (h : RowAt w l) (he : w'.heap[l.B]? = w.heap[l.B]?) : RowAt w' l := by
  obtain ⟨cs, E, lo, hi, hh, r⟩ := h
  exact ⟨cs, E, lo, hi, by rw [he]; exact hh, r⟩

theorem RowAt.lt {l : Loc} (h : RowAt w l) : l.B < w.heap.size := by
  obtain ⟨cs, E, lo, hi, hh, _⟩ := h
  exact (Array.getElem?_eq_some_iff.1 hh).1

theorem held_lt {z : Nat} {h : Nat → Blk} (ok : HeapOk w z M G h ι) {B : Nat} (hh : Held h ι B) : B < w.heap.size := by
  obtain ⟨id, m, c, hl, hc, rfl⟩ := hh
  obtain ⟨_, _, h3⟩ := ok.live id m c hl
  rcases h3 with h3 | ⟨hr, _⟩
  · exact absurd h3 hc
  · exact hr.lt

theorem held_new {h : Nat → Blk} {k : Nat} {m : Bool} {xs : List PV} {l : Loc} {B : Nat} (hh : Held (updH h k (.live m xs)) (updL ι k l) B) : Held h ι B ∨ B = l.B := by
  obtain ⟨id, m', c, hl, hc, hB⟩ := hh
  by_cases e : id = k
  · subst e; simp only [updL, if_true] at hB; exact .inr hB.symm
  · simp only [updH, e, if_false] at hl
    simp only [updL, e, if_false] at hc hB
    exact .inl ⟨id, m', c, hl, hc, hB⟩

theorem Stays.new {o : Obj} (hp : Pushed w w' o) {h : Nat → Blk} {k : Nat} {m : Bool} {xs : List PV} {l : Loc} (hl : l.B = w.heap.size) :
    Stays w w' (Held h ι) (Held (updH h k (.live m xs)) (updL ι k l)) := by
  intro B i v hF hv
  have hlt := cell?_lt hv
  refine ⟨by rw [hp.cell hlt]; exact hv, fun hh => ?_⟩
  rcases held_new hh with hh | hh
  · exact hF hh
  · omega

/-- A new block in memory, which is the call's own from here on, with room to spare or none. -/
theorem HeapOk.new {z : Nat} {h : Nat → Blk} {k : Nat} (ok : HeapOk w z M G h ι) (hk : h k = .dead) {cs : Array Value} {E : TypeId} {lo hi : Nat} (hp : Pushed w w' (.cells cs E (lo, hi)))
    (hz : z ≤ w.heap.size) (hG : G w.heap.size) (hfr : hi ≤ lo ∨ cs.size ≤ lo) (m : Bool) (xs : List PV) (cap : Nat) (hcap : cap ≤ maxLen) (hc : cap ≤ cs.size) (hx : xs.length ≤ cap)
    (hxs : ∀ (j : Nat) (x : PV), xs[j]? = some x → ∃ v, cs[j]? = some v ∧ v.oneCell' = true ∧ RepP w (Held h ι) G x v) :
    HeapOk w' z M G (updH h k (.live m xs)) (updL ι k ⟨w.heap.size, 0, cap⟩) := by
  have st := Stays.new (w := w) (w' := w') (ι := ι) hp (h := h) (k := k) (m := m) (xs := xs) (l := ⟨w.heap.size, 0, cap⟩) rfl
  have gg : ∀ B, (∃ o v, w.cell? ⟨B, o, none⟩ = some v) → ¬ Held h ι B → G B → G B := fun _ _ _ h => h
  refine ⟨fun id m' c hl => ?_, fun id m' c hf => ?_, fun id m1 c id' m2 c' hl hl' hne h0 h0' => ?_⟩
  · by_cases e : id = k
    · subst e
      simp only [updH, if_true] at hl
      cases hl
      simp only [updL, if_true]
      refine ⟨hx, hcap, .inr ⟨⟨cs, E, lo, hi, hp.at, by simpa using hc, hfr⟩, ?_, .inl ⟨hz, hG⟩⟩⟩
      rw [RepC_iff]
      intro j x hj
      obtain ⟨v, hv, h1, hr⟩ := hxs j x hj
      refine ⟨v, ?_, h1, RepP.tr st gg _ _ hr⟩
      rw [cell?_eq, hp.at]; simpa using hv
    · simp only [updH, e, if_false] at hl
      simp only [updL, e, if_false]
      obtain ⟨h1, h2, h3⟩ := ok.live id m' c hl
      refine ⟨h1, h2, h3.imp _root_.id fun ⟨hr, hc, hx⟩ => ⟨hr.same (hp.old hr.lt), RepC.tr st gg _ _ _ (fun o v hv => ?_) hc, hx⟩⟩
      rw [hp.cell (cell?_lt hv)]; exact hv
  · by_cases e : id = k
    · subst e; simp only [updH, if_true] at hf; cases hf
    · simp only [updH, e, if_false] at hf
      simp only [updL, e, if_false]
      obtain ⟨h1, h2, h3⟩ := ok.froz id m' c hf
      refine ⟨h1, h2, ?_⟩
      rcases h3 with h3 | ⟨hF, hg, hc⟩
      · exact .inl h3
      · cases c with
        | nil => exact .inl rfl
        | cons y ys =>
          obtain ⟨u, hu⟩ := RepC_ne hc
          exact .inr ⟨(st _ _ u hF hu).2, hg, RepC.tr st gg _ _ _ (fun o v hv => by rw [hp.cell (cell?_lt hv)]; exact hv) hc⟩
  · by_cases e : id = k
    · subst e
      by_cases e' : id' = id
      · exact absurd e'.symm hne
      · simp only [updH, e', if_false] at hl'
        simp only [updL, e', if_false, if_true] at h0' ⊢
        have := held_lt ok ⟨id', m2, c', hl', h0', rfl⟩
        omega
    · simp only [updH, e, if_false] at hl
      simp only [updL, e, if_false] at h0 ⊢
      by_cases e' : id' = k
      · subst e'
        simp only [if_true]
        have := held_lt ok ⟨id, m1, c, hl, h0, rfl⟩
        omega
      · simp only [updH, e', if_false] at hl'
        simp only [e', if_false] at h0' ⊢
        simp only [updL, e', if_false] at h0'
        exact ok.sep id m1 c id' m2 c' hl hl' hne h0 h0'

/-- A block of no cells (the nil slice). -/
theorem HeapOk.nil {z : Nat} {h : Nat → Blk} {k : Nat} (ok : HeapOk w z M G h ι) (hk : h k = .dead) (m : Bool) (l : Loc) (hl0 : l.cap = 0) : HeapOk w z M G (updH h k (.live m [])) (updL ι k l) ∧
    (∀ B, Held (updH h k (.live m [])) (updL ι k l) B → Held h ι B) := by
  have hh : ∀ B, Held (updH h k (.live m [])) (updL ι k l) B → Held h ι B := by
    rintro B ⟨id, m', c, hl, hc, hB⟩
    by_cases e : id = k
    · subst e; simp only [updL, if_true] at hc; exact absurd hl0 hc
    · simp only [updH, e, if_false] at hl
      simp only [updL, e, if_false] at hc hB
      exact ⟨id, m', c, hl, hc, hB⟩
  have st : Stays w w (Held h ι) (Held (updH h k (.live m [])) (updL ι k l)) := fun B o v hF hv => ⟨hv, fun h' => hF (hh B h')⟩
  have gg : ∀ B, (∃ o v, w.cell? ⟨B, o, none⟩ = some v) → ¬ Held h ι B → G B → G B := fun _ _ _ h => h
  refine ⟨⟨fun id m' c hl => ?_, fun id m' c hf => ?_, fun id m1 c id' m2 c' hl hl' hne h0 h0' => ?_⟩, hh⟩
  · by_cases e : id = k
    · subst e
      simp only [updH, if_true] at hl
      cases hl
      simp only [updL, if_true]
      exact ⟨by simp, by omega, .inl hl0⟩
    · simp only [updH, e, if_false] at hl
      simp only [updL, e, if_false]
      obtain ⟨h1, h2, h3⟩ := ok.live id m' c hl
      exact ⟨h1, h2, h3.imp _root_.id fun ⟨hr, hc, hx⟩ => ⟨hr, RepC.tr st gg _ _ _ (fun o v hv => hv) hc, hx⟩⟩
  · by_cases e : id = k
    · subst e; simp only [updH, if_true] at hf; cases hf
    · simp only [updH, e, if_false] at hf
      simp only [updL, e, if_false]
      obtain ⟨h1, h2, h3⟩ := ok.froz id m' c hf
      exact ⟨h1, h2, h3.imp _root_.id fun ⟨hF, hg, hc⟩ => ⟨fun h' => hF (hh _ h'), hg, RepC.tr st gg _ _ _ (fun o v hv => hv) hc⟩⟩
  · by_cases e : id = k
    · subst e; simp only [updL, if_true] at h0; exact absurd hl0 h0
    · by_cases e' : id' = k
      · subst e'; simp only [updL, if_true] at h0'; exact absurd hl0 h0'
      · simp only [updH, e, if_false] at hl
        simp only [updH, e', if_false] at hl'
        simp only [updL, e, e', if_false] at h0 h0' ⊢
        exact ok.sep id m1 c id' m2 c' hl hl' hne h0 h0'

theorem HeapOk.kill {z : Nat} {h : Nat → Blk} (ok : HeapOk w z M G h ι) (k : Nat) : HeapOk w z M G (updH h k .dead) ι ∧ (∀ B, Held (updH h k .dead) ι B → Held h ι B) := by
  have hh : ∀ B, Held (updH h k .dead) ι B → Held h ι B := by
    rintro B ⟨id, m', c, hl, hc, hB⟩
    by_cases e : id = k
    · subst e; simp only [updH, if_true] at hl; cases hl
    · simp only [updH, e, if_false] at hl
      exact ⟨id, m', c, hl, hc, hB⟩
  have st : Stays w w (Held h ι) (Held (updH h k .dead) ι) := fun B o v hF hv => ⟨hv, fun h' => hF (hh B h')⟩
  have gg : ∀ B, (∃ o v, w.cell? ⟨B, o, none⟩ = some v) → ¬ Held h ι B → G B → G B := fun _ _ _ h => h
  have back : ∀ {id m c}, updH h k .dead id = .live m c → h id = .live m c := by
    intro id m c hl
    by_cases e : id = k
    · subst e; simp only [updH, if_true] at hl; cases hl
    · simpa only [updH, e, if_false] using hl
  refine ⟨⟨fun id m' c hl => ?_, fun id m' c hf => ?_, fun id m1 c id' m2 c' hl hl' => ok.sep id m1 c id' m2 c' (back hl) (back hl')⟩, hh⟩
  · obtain ⟨h1, h2, h3⟩ := ok.live id m' c (back hl)
    exact ⟨h1, h2, h3.imp _root_.id fun ⟨hr, hc, hx⟩ => ⟨hr, RepC.tr st gg _ _ _ (fun o v hv => hv) hc, hx⟩⟩
  · by_cases e : id = k
    · subst e; simp only [updH, if_true] at hf; cases hf
    · simp only [updH, e, if_false] at hf
      obtain ⟨h1, h2, h3⟩ := ok.froz id m' c hf
      exact ⟨h1, h2, h3.imp _root_.id fun ⟨hF, hg, hc⟩ => ⟨fun h' => hF (hh _ h'), hg, RepC.tr st gg _ _ _ (fun o v hv => hv) hc⟩⟩

/-- The cells of one block have turned; nothing else (but for draws). -/
structure Wrote (w w' : World) (B : Nat) (cs' : Array Value) : Prop where
  size : w'.heap.size = w.heap.size
  at_ : ∃ cs E fr, w.heap[B]? = some (.cells cs E fr) ∧ w'.heap[B]? = some (.cells cs' E fr) ∧ cs'.size = cs.size
  other : ∀ k, k ≠ B → w'.heap[k]? = w.heap[k]?
  os : w'.os = w.os
  tape : w'.tape = w.tape
  output : w'.output = w.output

/-- A write into a block of the call's own, which is known from here on as block k (k may be the old number). -/
theorem HeapOk.write {z : Nat} {h : Nat → Blk} {id k : Nat} {m : Bool} {c c' : List PV} (ok : HeapOk w z M G h ι) (hid : h id = .live m c) (hk : k = id ∨ h k = .dead) (h0 : (ι id).cap ≠ 0)
    {cs' : Array Value} (hw : Wrote w w' (ι id).B cs') (off' cap' : Nat) (ho : (ι id).off ≤ off') (hoc : off' + cap' = (ι id).off + (ι id).cap) (hlen : c'.length ≤ cap')
    (hc' : ∀ (j : Nat) (x : PV), c'[j]? = some x → ∃ v, cs'[off' + j]? = some v ∧ v.oneCell' = true ∧ RepP w (Held h ι) G x v) :
    HeapOk w' z M G (updH (updH h id .dead) k (.live m c')) (updL ι k ⟨(ι id).B, off', cap'⟩) ∧
    (∀ B, Held (updH (updH h id .dead) k (.live m c')) (updL ι k ⟨(ι id).B, off', cap'⟩) B → Held h ι B) ∧
    Stays w w' (Held h ι) (Held (updH (updH h id .dead) k (.live m c')) (updL ι k ⟨(ι id).B, off', cap'⟩)) := by
  have hheld : Held h ι (ι id).B := ⟨id, m, c, hid, h0, rfl⟩
  have back : ∀ {i m1 c1}, i ≠ k → updH (updH h id .dead) k (.live m c') i = .live m1 c1 → i ≠ id ∧ h i = .live m1 c1 := by
    intro i m1 c1 hne hl
    simp only [updH, hne, if_false] at hl
    by_cases e : i = id
    · simp only [e, if_true] at hl; cases hl
    · simp only [e, if_false] at hl; exact ⟨e, hl⟩
  have hh : ∀ B, Held (updH (updH h id .dead) k (.live m c')) (updL ι k ⟨(ι id).B, off', cap'⟩) B → Held h ι B := by
    rintro B ⟨i, m1, c1, hl, hc, hB⟩
    by_cases e : i = k
    · subst e; simp only [updL, if_true] at hB; subst hB; exact hheld
    · obtain ⟨_, hl'⟩ := back e hl
      simp only [updL, e, if_false] at hc hB
      exact ⟨i, m1, c1, hl', hc, hB⟩
  have cellne : ∀ {B o}, B ≠ (ι id).B → w'.cell? ⟨B, o, none⟩ = w.cell? ⟨B, o, none⟩ := fun hne => by simp only [cell?_eq, hw.other _ hne]
  have st : Stays w w' (Held h ι) (Held (updH (updH h id .dead) k (.live m c')) (updL ι k ⟨(ι id).B, off', cap'⟩)) := fun B o v hF hv =>
    ⟨by rw [cellne (fun e : B = (ι id).B => hF (by rw [e]; exact hheld))]; exact hv, fun h' => hF (hh B h')⟩
  have gg : ∀ B, (∃ o v, w.cell? ⟨B, o, none⟩ = some v) → ¬ Held h ι B → G B → G B := fun _ _ _ h => h
  obtain ⟨g1, g2, g3⟩ := ok.live id m c hid
  rcases g3 with g3 | ⟨⟨cs, E, lo, hi, hcell, hfit, hfr⟩, _, gx⟩
  · exact absurd g3 h0
  obtain ⟨cs1, E1, fr1, hb1, hb2, hsz⟩ := hw.at_
  rw [hcell] at hb1
  cases hb1
  refine ⟨⟨fun i m1 c1 hl => ?_, fun i m1 c1 hf => ?_, fun i m1 c1 i' m2 c2 hl hl' hne z0 z0' => ?_⟩, hh, st⟩
  · by_cases e : i = k
    · subst e
      simp only [updH, if_true] at hl
      cases hl
      simp only [updL, if_true]
      refine ⟨hlen, by omega, .inr ⟨⟨cs', E, lo, hi, hb2, by rw [hsz]; simp only; omega, by rw [hsz]; exact hfr⟩, ?_, gx⟩⟩
      rw [RepC_iff]
      intro j x hj
      obtain ⟨v, hv, h1, hr⟩ := hc' j x hj
      exact ⟨v, by rw [cell?_eq, hb2]; exact hv, h1, RepP.tr st gg _ _ hr⟩
    · obtain ⟨hni, hl'⟩ := back e hl
      simp only [updL, e, if_false]
      obtain ⟨h1, h2, h3⟩ := ok.live i m1 c1 hl'
      refine ⟨h1, h2, ?_⟩
      by_cases hz0 : (ι i).cap = 0
      · exact .inl hz0
      · rcases h3 with h3 | ⟨hr, hc, hx⟩
        · exact absurd h3 hz0
        · have hB := ok.sep i m1 c1 id m c hl' hid hni hz0 h0
          exact .inr ⟨hr.same (hw.other _ hB), RepC.tr st gg _ _ _ (fun o v hv => by rw [cellne hB]; exact hv) hc, hx⟩
  · by_cases e : i = k
    · subst e; simp only [updH, if_true] at hf; cases hf
    · simp only [updH, e, if_false] at hf
      by_cases e' : i = id
      · simp only [e', if_true] at hf; cases hf
      · simp only [e', if_false] at hf
        simp only [updL, e, if_false]
        obtain ⟨h1, h2, h3⟩ := ok.froz i m1 c1 hf
        refine ⟨h1, h2, h3.imp _root_.id fun ⟨hF, hg, hc⟩ => ⟨fun h' => hF (hh _ h'), hg, RepC.tr st gg _ _ _ (fun o v hv => ?_) hc⟩⟩
        rw [cellne (fun e' : (ι i).B = (ι id).B => hF (by rw [e']; exact hheld))]; exact hv
  · by_cases e : i = k
    · subst e
      by_cases e' : i' = i
      · exact absurd e'.symm hne
      · obtain ⟨hni, hl2⟩ := back e' hl'
        simp only [updL, e', if_false, if_true] at z0' ⊢
        exact ok.sep id m c i' m2 c2 hid hl2 (Ne.symm hni) h0 z0'
    · obtain ⟨hni, hl1⟩ := back e hl
      simp only [updL, e, if_false] at z0 ⊢
      by_cases e' : i' = k
      · subst e'
        simp only [if_true]
        exact ok.sep i m1 c1 id m c hl1 hid hni z0 h0
      · obtain ⟨hni', hl2⟩ := back e' hl'
        simp only [e', if_false]
        simp only [updL, e', if_false] at z0'
        exact ok.sep i m1 c1 i' m2 c2 hl1 hl2 hne z0 z0'

/-- THE STEP, in general: a world, a heap, places, all carried on. -/
theorem Rel.step (h : Rel w0 nA nt M G ι0 A w S ι a) {A' : Nat → Prop} {h' : Nat → Blk} {ι' : Nat → Loc} (hA : ∀ i, A i → A' i) (hk : Keep w w' M) (ok : HeapOk w' w0.heap.size M G h' ι')
    (st : Stays w w' (Held S.h ι) (Held h' ι')) (hι : ∀ i, A i → ι' i = ι i) (hdead : ∀ i, ¬ A' i → h' i = .dead) : Rel w0 nA nt M G ι0 A' w' { S with h := h' } ι' a :=
  ⟨h.keep.trans hk, ok, fun t => RepA.tr st (fun _ _ _ h => h) _ _ (fun i hi => hι i (h.named t i hi)) (h.slots t), hdead, fun t i hi => hA i (h.named t i hi),
    fun j hj => (hι j (h.args j hj)).trans (h.loc j hj), fun j hj => hA j (h.args j hj), h.new, h.size, h.defers⟩

end
end Go.Gl
