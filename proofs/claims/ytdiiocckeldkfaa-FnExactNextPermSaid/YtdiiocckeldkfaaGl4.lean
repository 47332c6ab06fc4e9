/-
  A program logic over the walk's rules, fourth part: the relation of a state to a world, and how it is carried on by a freezing, a new block, a write. Conditions: those that each lemma names.
-/
import Derived.Test.YtdiiocckeldkfaaGl3
namespace Go.Gl
open Go

/-- The world w and the frame a are as the state S tells: 'A': the numbers given so far; 'w0': the world of the call's beginning. -/
structure Rel (w0 : World) (nA nt : Nat) (M G : Nat → Prop) (ι0 : Nat → Loc) (A : Nat → Prop) (w : World) (S : St) (ι : Nat → Loc) (a : Act) : Prop where
  keep : Keep w0 w M
  heap : HeapOk w w0.heap.size M G S.h ι
  slots : ∀ t, RepA w (Held S.h ι) G ι (S.e t) (a.tmps.getD t undef)
  alloc : ∀ id, ¬ A id → S.h id = .dead
  named : ∀ t i, (S.e t).has i = true → A i
  loc : ∀ j, j < nA → ι j = ι0 j
  args : ∀ j, j < nA → A j
  new : ∀ B, w0.heap.size ≤ B → G B
  size : a.tmps.size = nt
  defers : a.defers = []

section
variable {w0 : World} {nA nt : Nat} {M G : Nat → Prop} {ι0 : Nat → Loc} {A : Nat → Prop} {w : World} {S : St} {ι : Nat → Loc} {a : Act}

theorem Rel.mono {A' : Nat → Prop} (h : Rel w0 nA nt M G ι0 A w S ι a) (hA : ∀ i, A i → A' i) : Rel w0 nA nt M G ι0 A' w S ι a :=
  ⟨h.keep, h.heap, h.slots, fun i hi => h.alloc i fun h => hi (hA i h), fun t i hi => hA i (h.named t i hi), h.loc, fun j hj => hA j (h.args j hj), h.new, h.size, h.defers⟩

theorem getD_put {a : Act} {d : Nat} {v : Value} {t : Nat} (hd : d < a.tmps.size) : (a.put (some d) v).tmps.getD t undef = if t = d then v else a.tmps.getD t undef := by
  simp only [Act.put, Array.getD_eq_getD_getElem?, Array.getElem?_setIfInBounds]
  by_cases h : t = d
  · subst h; simp [hd]
  · have h' : ¬ d = t := fun e => h e.symm
    simp [h, h']

theorem Rel.put (h : Rel w0 nA nt M G ι0 A w S ι a) (d : Option Nat) (hd : ∀ x, d = some x → x < nt) {v : AV} {val : Value} (hv : RepA w (Held S.h ι) G ι v val) (hn : ∀ i, v.has i = true → A i) :
    Rel w0 nA nt M G ι0 A w (S.puto d v) ι (a.put d val) := by
  cases d with
  | none => exact h
  | some d =>
    have hd' : d < a.tmps.size := by rw [h.size]; exact hd d rfl
    refine ⟨h.keep, h.heap, fun t => ?_, h.alloc, fun t i hi => ?_, h.loc, h.args, h.new, by simp [Act.put, h.size], h.defers⟩
    · rw [getD_put hd']
      simp only [St.puto, St.put]
      by_cases ht : t = d
      · simp only [ht, if_true]; exact hv
      · simp only [ht, if_false]; exact h.slots t
    · simp only [St.puto, St.put] at hi
      by_cases ht : t = d
      · simp only [ht, if_true] at hi; exact hn i hi
      · simp only [ht, if_false] at hi; exact h.named t i hi

/-! ### freezing -/

def Frz (h h' : Nat → Blk) : Prop := ∀ id, h' id = h id ∨ ∃ m c, h id = .live m c ∧ h' id = .froz m c

theorem Frz.refl (h : Nat → Blk) : Frz h h := fun _ => .inl rfl

theorem Frz.live {h h' : Nat → Blk} (f : Frz h h') {id : Nat} {m : Bool} {c : List PV} (hl : h' id = .live m c) : h id = .live m c := by
  rcases f id with e | ⟨m', c', _, e⟩
  · rw [← e]; exact hl
  · rw [e] at hl; cases hl

theorem Frz.held {h h' : Nat → Blk} (f : Frz h h') {ι : Nat → Loc} {B : Nat} (hh : Held h' ι B) : Held h ι B := by
  obtain ⟨id, m, c, hl, hc, hB⟩ := hh
  exact ⟨id, m, c, f.live hl, hc, hB⟩

theorem Stays.frz {h h' : Nat → Blk} (f : Frz h h') (w : World) (ι : Nat → Loc) : Stays w w (Held h ι) (Held h' ι) :=
  fun _ _ _ hF hv => ⟨hv, fun hh => hF (f.held hh)⟩

theorem HeapOk.frz {z : Nat} {h h' : Nat → Blk} (ok : HeapOk w z M G h ι) (f : Frz h h') : HeapOk w z M G h' ι := by
  have tr : ∀ {B o xs}, RepC w (Held h ι) G B o xs → RepC w (Held h' ι) G B o xs := fun hc => RepC.tr (Stays.frz f w ι) (fun _ _ _ h => h) _ _ _ (fun _ _ hv => hv) hc
  refine ⟨fun id m c hl => ?_, fun id m c hf => ?_, fun id m c id' m' c' hl hl' => ok.sep id m c id' m' c' (f.live hl) (f.live hl')⟩
  · obtain ⟨h1, h2, h3⟩ := ok.live id m c (f.live hl)
    refine ⟨h1, h2, h3.imp _root_.id fun ⟨hr, hc, hx⟩ => ⟨hr, tr hc, hx⟩⟩
  · rcases f id with e | ⟨m', c', hl, e⟩
    · rw [e] at hf
      obtain ⟨h1, h2, h3⟩ := ok.froz id m c hf
      exact ⟨h1, h2, h3.imp _root_.id fun ⟨hF, hG, hc⟩ => ⟨fun hh => hF (f.held hh), hG, tr hc⟩⟩
    · rw [e] at hf
      obtain ⟨rfl, rfl⟩ : m' = m ∧ c' = c := by cases hf; exact ⟨rfl, rfl⟩
      obtain ⟨h1, h2, h3⟩ := ok.live id m' c' hl
      refine ⟨h1, h2, ?_⟩
      rcases h3 with h0 | ⟨_, hc, hx⟩
      · left; rw [h0] at h1; exact List.eq_nil_of_length_eq_zero (by omega)
      · by_cases h0 : (ι id).cap = 0
        · left; rw [h0] at h1; exact List.eq_nil_of_length_eq_zero (by omega)
        · right
          refine ⟨?_, fun hm => ?_, tr hc⟩
          · rintro ⟨id', m'', c'', hl', hc', hB⟩
            have hne : id' ≠ id := by rintro rfl; rw [e] at hl'; cases hl'
            exact ok.sep id' m'' c'' id m' c' (f.live hl') hl hne hc' h0 hB
          · rcases hx with ⟨_, hg⟩ | ⟨hm', _⟩
            · exact hg
            · rw [hm] at hm'; cases hm'

theorem Rel.frz (h : Rel w0 nA nt M G ι0 A w S ι a) {h' : Nat → Blk} (f : Frz S.h h') : Rel w0 nA nt M G ι0 A w { S with h := h' } ι a := by
  refine ⟨h.keep, h.heap.frz f, fun t => RepA.tr (Stays.frz f w ι) (fun _ _ _ h => h) _ _ (fun _ _ => rfl) (h.slots t), fun i hi => ?_, h.named, h.loc, h.args, h.new, h.size, h.defers⟩
  rcases f i with e | ⟨m, c, hl, _⟩
  · exact e.trans (h.alloc i hi)
  · rw [h.alloc i hi] at hl; cases hl

theorem hwsH_append (h : Nat → Blk) : ∀ (l m : List (Nat × Blk)), hwsH h (l ++ m) = hwsH (hwsH h l) m
  | [], _ => rfl
  | (i, b) :: l, m => by simp only [List.cons_append, hwsH]; exact hwsH_append _ l m

def FrzL (h : Nat → Blk) (ws : List (Nat × Blk)) : Prop := ∀ p ∈ ws, ∃ m c, h p.1 = .live m c ∧ p.2 = .froz m c

theorem FrzL.frz {h : Nat → Blk} : ∀ {ws : List (Nat × Blk)}, FrzL h ws → Frz h (hwsH h ws) := by
  have key : ∀ (ws : List (Nat × Blk)) (g : Nat → Blk), Frz h g → FrzL h ws → Frz h (hwsH g ws) := by
    intro ws
    induction ws with
    | nil => intro g hg _; exact hg
    | cons p ws ih =>
      intro g hg hw
      obtain ⟨i, b⟩ := p
      simp only [hwsH]
      refine ih _ (fun id => ?_) fun q hq => hw q (by simp [hq])
      obtain ⟨m, c, hl, hb⟩ := hw (i, b) (by simp)
      by_cases e : id = i
      · subst e; simp only [if_true]; exact .inr ⟨m, c, hl, hb⟩
      · simp only [e, if_false]; exact hg id
  intro ws hw
  exact key ws h (Frz.refl h) hw

/-! ### what is published -/

theorem oneCell_of_cellOk {F : Nat → Prop} {x : PV} {v : Value} (hx : x.cellOk = true) (h : RepP w F G x v) : v.oneCell' = true := by
  cases x <;> simp only [PV.cellOk] at hx <;> simp only [RepP] at h
  case int => subst h; rfl
  case bool => subst h; rfl
  case str => subst h; rfl
  case sl => obtain ⟨_, _, rfl, _⟩ := h; rfl
  case fn => obtain ⟨_, _, rfl, _⟩ := h; rfl
  case nilf => subst h; rfl
  all_goals simp at hx

theorem RepP_cell {F : Nat → Prop} {x : PV} {v : Value} (h : RepP w F G x v) : RepP w F G x.cell v := by
  cases x with
  | sl o xs =>
    cases o with
    | own =>
      simp only [PV.cell, RepP] at h ⊢
      obtain ⟨a', cap, hv, hl, hm, ho, _⟩ := h
      obtain ⟨rfl, rfl, rfl⟩ := ho trivial
      exact ⟨none, 0, hv, by simp, hm, by simp, .inl trivial⟩
    | _ => exact h
  | _ => exact h

/-- A slice of the call's own, told by its elements. -/
theorem ref_told {z : Nat} {h h' : Nat → Blk} (ok : HeapOk w z M G h ι) (f : Frz h h') {id off len : Nat} {m : Bool} {c : List PV} {val : Value} (hb : h' id = .froz m c) (hle : off + len ≤ c.length)
    (hv : RepA w (Held h ι) G ι (.ref id off len) val) : RepP w (Held h' ι) G (.sl (.lent m) ((c.drop off).take len)) val := by
  have ok' := ok.frz f
  obtain ⟨h1, h2, h3⟩ := ok'.froz id m c hb
  simp only [RepA] at hv
  obtain ⟨a', cap, rfl, hlc, hcap, hcm, ha⟩ := hv
  have hlen : ((c.drop off).take len).length = len := by simp; omega
  simp only [RepP]
  refine ⟨a', cap, by rw [hlen], by rw [hlen]; exact hlc, by omega, ?_, ?_⟩
  · intro e; cases m <;> simp [Fl.lent] at e
  · by_cases h0 : len = 0
    · left; exact List.eq_nil_of_length_eq_zero (by omega)
    · right
      rcases h3 with h3 | ⟨hF, hG, hc⟩
      · subst h3; simp at hle; omega
      · rcases ha with ha | ha
        · omega
        · refine ⟨_, _, ha, hF, fun e => hG ?_, RepC_take (RepC_drop hc off) len⟩
          cases m
          · rfl
          · simp [Fl.lent] at e

theorem pub_sound {v : AV} {K : PV → List (Nat × Blk) → List Nat → Prop} (hp : pub S.h v K) :
    ∃ x ws rd, K x ws rd ∧ FrzL S.h ws ∧ x.cellOk = true ∧ (∀ p ∈ ws, p.1 ∈ rd) ∧
      ∀ {w : World} {z : Nat} {M G : Nat → Prop} {ι : Nat → Loc} {h' : Nat → Blk} {val : Value}, HeapOk w z M G S.h ι → Frz S.h h' → (∀ p ∈ ws, h' p.1 = p.2) → RepA w (Held S.h ι) G ι v val → RepP w (Held h' ι) G x val := by
  unfold pub at hp
  split at hp
  · rename_i x
    refine ⟨_, _, _, hp.2, fun p hp => by simp at hp, hp.1, fun p hp => by simp at hp, ?_⟩
    intro w z M G ι h' val ok f _ hv
    exact RepP.tr (Stays.frz f w ι) (fun _ _ _ h => h) _ _ (RepP_cell hv)
  · rename_i id off len
    split at hp
    · rename_i m c hb
      refine ⟨_, _, _, hp.2, fun p hp => ?_, ?_, fun p hp => ?_, ?_⟩
      · simp only [List.mem_singleton] at hp; subst hp; exact ⟨m, c, hb, rfl⟩
      · cases m <;> rfl
      · simp only [List.mem_singleton] at hp; subst hp; simp
      · intro w z M G ι h' val ok f hw hv
        exact ref_told ok f (hw (id, .froz m c) (by simp)) hp.1 hv
    · rename_i m c hb
      refine ⟨_, _, _, hp.2, fun p hp => by simp at hp, ?_, fun p hp => by simp at hp, ?_⟩
      · cases m <;> rfl
      · intro w z M G ι h' val ok f hw hv
        refine ref_told ok f ?_ hp.1 hv
        rcases f id with e | ⟨m', c', hl, _⟩
        · rw [e]; exact hb
        · rw [hb] at hl; cases hl
    · exact hp.elim
  · exact hp.elim

theorem FrzL.append {h : Nat → Blk} {l m : List (Nat × Blk)} (hl : FrzL h l) (hm : FrzL h m) : FrzL h (l ++ m) := fun p hp => by
  rcases List.mem_append.1 hp with hp | hp
  · exact hl p hp
  · exact hm p hp

theorem pubs_sound : ∀ {vs : List AV} {K : List PV → List (Nat × Blk) → List Nat → Prop}, pubs S.h vs K →
    ∃ xs ws rd, K xs ws rd ∧ FrzL S.h ws ∧ xs.length = vs.length ∧ (∀ x ∈ xs, x.cellOk = true) ∧ (∀ p ∈ ws, p.1 ∈ rd) ∧
      ∀ {w : World} {z : Nat} {M G : Nat → Prop} {ι : Nat → Loc} {h' : Nat → Blk}, HeapOk w z M G S.h ι → Frz S.h h' → (∀ p ∈ ws, h' p.1 = p.2) → ∀ (j : Nat) (v : AV) (val : Value) (x : PV), vs[j]? = some v → xs[j]? = some x → RepA w (Held S.h ι) G ι v val → RepP w (Held h' ι) G x val
  | [], K, hp => ⟨[], [], [], hp, fun p hp => by simp at hp, rfl, fun x hx => by simp at hx, fun p hp => by simp at hp, fun _ _ _ j v val x hj => by simp at hj⟩
  | v :: vs, K, hp => by
    simp only [pubs] at hp
    obtain ⟨x, ws, rd, hK, hf, hx, hw, hr⟩ := pub_sound hp
    obtain ⟨xs, ws', rd', hK', hf', hl, hxs, hw', hr'⟩ := pubs_sound hK
    refine ⟨x :: xs, ws ++ ws', rd ++ rd', hK', hf.append hf', by simp [hl], ?_, ?_, ?_⟩
    · intro y hy
      rcases List.mem_cons.1 hy with rfl | hy
      · exact hx
      · exact hxs y hy
    · intro p hp
      rcases List.mem_append.1 hp with hp | hp
      · exact List.mem_append.2 (.inl (hw p hp))
      · exact List.mem_append.2 (.inr (hw' p hp))
    · intro w z M G ι h' ok f hh j u val y hj hy hv
      cases j with
      | zero =>
        simp only [List.getElem?_cons_zero, Option.some.injEq] at hj hy
        subst hj hy
        exact hr ok f (fun p hp => hh p (List.mem_append.2 (.inl hp))) hv
      | succ j =>
        simp only [List.getElem?_cons_succ] at hj hy
        exact hr' ok f (fun p hp => hh p (List.mem_append.2 (.inr hp))) j u val y hj hy hv

/-- A freezing sets what it says. -/
theorem hwsH_frz {h : Nat → Blk} {ws : List (Nat × Blk)} (hf : FrzL h ws) : ∀ p ∈ ws, hwsH h ws p.1 = p.2 := by
  have key : ∀ (ws : List (Nat × Blk)) (g : Nat → Blk) (i : Nat) (m : Bool) (c : List PV), FrzL h ws → h i = .live m c → (g i = .froz m c ∨ ∃ b, (i, b) ∈ ws) → hwsH g ws i = .froz m c := by
    intro ws
    induction ws with
    | nil =>
      intro g i m c _ _ hor
      rcases hor with hg | ⟨b, hb⟩
      · exact hg
      · simp at hb
    | cons p ws ih =>
      intro g i m c hw hi hor
      obtain ⟨j, b⟩ := p
      simp only [hwsH]
      refine ih _ i m c (fun q hq => hw q (by simp [hq])) hi ?_
      by_cases e : i = j
      · subst e
        left
        obtain ⟨m', c', hl, hb⟩ := hw (i, b) (by simp)
        rw [hi] at hl
        cases hl
        simpa using hb
      · rcases hor with hg | ⟨b', hb'⟩
        · left; simp only [e, if_false]; exact hg
        · right
          rcases List.mem_cons.1 hb' with h | h
          · exact absurd (congrArg Prod.fst h) e
          · exact ⟨b', h⟩
  intro p hp
  obtain ⟨m, c, hl, hb⟩ := hf p hp
  rw [key ws h p.1 m c hf hl (.inr ⟨p.2, hp⟩), hb]

end
end Go.Gl
