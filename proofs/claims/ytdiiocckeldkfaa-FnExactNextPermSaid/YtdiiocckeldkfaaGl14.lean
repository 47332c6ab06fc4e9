/-
  A program logic over the walk's rules, fourteenth part: what is handed to a call and what comes back. Conditions: those that each lemma names.
-/
import Derived.Test.YtdiiocckeldkfaaGl13
namespace Go.Gl
open Go

mutual
theorem RepP.noRo {w : World} {F G F2 G2 : Nat → Prop} (H : ∀ B, ¬ F B → G B → ¬ F2 B ∧ G2 B) : ∀ (x : PV) (v : Value), Gl.noRo x = true → RepP w F G x v → RepP w F2 G2 x v
  | .int _ _, _, _, h => h
  | .bool _, _, _, h => h
  | .str _, _, _, h => h
  | .nilf, _, _, h => h
  | .any, _, hn, _ => by simp [Gl.noRo] at hn
  | .fn _ _ _, _, hn, _ => by simp [Gl.noRo] at hn
  | .pc _, _, hn, _ => by simp [Gl.noRo] at hn
  | .sl o xs, v, hn, h => by
    simp only [RepP] at h ⊢
    obtain ⟨a, cap, hv, hl, hm, ho, hx⟩ := h
    refine ⟨a, cap, hv, hl, hm, ho, ?_⟩
    cases o with
    | ro => simp [Gl.noRo] at hn
    | own => exact .inl (ho rfl).1
    | fr =>
      simp only [Gl.noRo] at hn
      rcases hx with hx | ⟨B, off, ha, hF, hG, hc⟩
      · exact .inl hx
      · obtain ⟨h1, h2⟩ := H B hF (hG rfl)
        exact .inr ⟨B, off, ha, h1, fun _ => h2, RepC.noRo H xs B off hn hc⟩
  | .agg xs, v, hn, h => by
    simp only [RepP] at h ⊢
    simp only [Gl.noRo] at hn
    obtain ⟨cs, hv, hx⟩ := h
    exact ⟨cs, hv, RepL.noRo H xs cs hn hx⟩
theorem RepC.noRo {w : World} {F G F2 G2 : Nat → Prop} (H : ∀ B, ¬ F B → G B → ¬ F2 B ∧ G2 B) : ∀ (xs : List PV) (B o : Nat), noRoL xs = true → RepC w F G B o xs → RepC w F2 G2 B o xs
  | [], _, _, _, _ => by simp only [RepC]
  | x :: xs, B, o, hn, h => by
    simp only [noRoL, Bool.and_eq_true] at hn
    simp only [RepC] at h ⊢
    obtain ⟨⟨v, hv, h1, hx⟩, hr⟩ := h
    exact ⟨⟨v, hv, h1, RepP.noRo H x v hn.1 hx⟩, RepC.noRo H xs B (o + 1) hn.2 hr⟩
theorem RepL.noRo {w : World} {F G F2 G2 : Nat → Prop} (H : ∀ B, ¬ F B → G B → ¬ F2 B ∧ G2 B) : ∀ (xs : List PV) (vs : List Value), noRoL xs = true → RepL w F G xs vs → RepL w F2 G2 xs vs
  | [], _, _, h => by simpa only [RepL] using h
  | x :: xs, vs, hn, h => by
    simp only [noRoL, Bool.and_eq_true] at hn
    simp only [RepL] at h ⊢
    obtain ⟨v, vs', rfl, hx, hr⟩ := h
    exact ⟨v, vs', rfl, RepP.noRo H x v hn.1 hx, RepL.noRo H xs vs' hn.2 hr⟩
end

/-- 'x' tells the value v to a callee that may write the blocks of F' and no other. -/
def Pur (h : Nat → Blk) (v : AV) (x : PV) (rd : List Nat) : Prop :=
  ∀ {w : World} {z : Nat} {M G : Nat → Prop} {ι : Nat → Loc} {val : Value} {F' G' : Nat → Prop}, HeapOk w z M G h ι → RepA w (Held h ι) G ι v val → (∀ B, F' B → Held h ι B) →
    (∀ id ∈ rd, ∀ m c, h id = .live m c → (ι id).cap ≠ 0 → ¬ F' (ι id).B) → (∀ B, ¬ Held h ι B → G B → G' B) → RepP w F' G' x val

theorem Pur.mono {h : Nat → Blk} {v : AV} {x : PV} {rd rd' : List Nat} (p : Pur h v x rd) (hr : ∀ i ∈ rd, i ∈ rd') : Pur h v x rd' :=
  fun ok hv h1 h2 h3 => p ok hv h1 (fun id hid => h2 id (hr id hid)) h3

theorem pur_cells {w : World} {G : Nat → Prop} {h : Nat → Blk} {ι : Nat → Loc} {F' G' : Nat → Prop} (h1 : ∀ B, F' B → Held h ι B) (h3 : ∀ B, ¬ Held h ι B → G B → G' B) {B o : Nat} {xs : List PV}
    (hc : RepC w (Held h ι) G B o xs) : RepC w F' G' B o xs :=
  RepC.tr (fun _ _ _ hF hv => ⟨hv, fun h' => hF (h1 _ h')⟩) (fun B _ hF hG => h3 B hF hG) _ _ _ (fun _ _ hv => hv) hc

theorem pur1_sound {h : Nat → Blk} {v : AV} {K : PV → List Nat → Prop} (hK : pur1 h v K) : ∃ x rd, K x rd ∧ Pur h v x rd := by
  unfold pur1 at hK
  split at hK
  · rename_i x
    refine ⟨_, _, hK, ?_⟩
    intro w z M G ι val F' G' ok hv h1 h2 h3
    exact RepP.tr (fun _ _ _ hF hv => ⟨hv, fun h' => hF (h1 _ h')⟩) (fun B _ hF hG => h3 B hF hG) _ _ (RepP_cell hv)
  · rename_i id off len
    have key : ∀ (o : Fl) c, ((∃ m, h id = .live m c) ∨ ∃ m, h id = .froz m c) → off + len ≤ c.length → (o = .ro ∨ ∃ m, o = .lent m ∧ h id = .froz m c) → Pur h (.ref id off len) (.sl o ((c.drop off).take len)) [id] := by
      intro o c hb hle ho
      intro w z M G ι val F' G' ok hv h1 h2 h3
      obtain ⟨ad, cap, rfl, hl, hcap, hm, hc⟩ := rep_ref hv
      have hlen : ((c.drop off).take len).length = len := by simp; omega
      simp only [RepP]
      refine ⟨ad, cap, by rw [hlen], by omega, by omega, ?_, ?_⟩
      · intro e
        rcases ho with rfl | ⟨m, rfl, _⟩
        · cases e
        · cases m <;> simp [Fl.lent] at e
      · by_cases h0 : len = 0
        · left; exact List.eq_nil_of_length_eq_zero (by omega)
        · right
          rcases hc with hc | rfl
          · omega
          · have hcne : c ≠ [] := by intro e; subst e; simp at hle; omega
            have hcells := ok.cells hb hcne
            refine ⟨_, _, rfl, ?_, ?_, RepC_take (RepC_drop (pur_cells h1 h3 hcells) off) len⟩
            · rcases hb with ⟨m, hb⟩ | ⟨m, hb⟩
              · exact h2 id (by simp) m c hb (by omega)
              · obtain ⟨_, _, g3⟩ := ok.froz id m c hb
                rcases g3 with g3 | ⟨g, _, _⟩
                · exact absurd g3 hcne
                · exact fun h' => g (h1 _ h')
            · intro e
              rcases ho with rfl | ⟨m, rfl, hb'⟩
              · cases e
              · obtain ⟨_, _, g3⟩ := ok.froz id m c hb'
                rcases g3 with g3 | ⟨g, gg, _⟩
                · exact absurd g3 hcne
                · refine h3 _ g (gg ?_)
                  cases m
                  · rfl
                  · simp [Fl.lent] at e
    split at hK
    · rename_i m c hb; exact ⟨_, _, hK.2, key _ c (.inl ⟨m, hb⟩) hK.1 (.inl rfl)⟩
    · rename_i m c hb; exact ⟨_, _, hK.2, key _ c (.inr ⟨m, hb⟩) hK.1 (.inr ⟨m, rfl, hb⟩)⟩
    · exact hK.elim
  · rename_i id off
    have key : ∀ c, ((∃ m, h id = .live m c) ∨ ∃ m, h id = .froz m c) → Pur h (.ptr id off) (.pc (c.drop off)) [id] := by
      intro c hb
      intro w z M G ι val F' G' ok hv h1 h2 h3
      simp only [RepA] at hv
      simp only [RepP]
      refine ⟨_, _, hv, ?_, ?_⟩
      · by_cases hcne : c = []
        · left; subst hcne; simp
        · right
          rcases hb with ⟨m, hb⟩ | ⟨m, hb⟩
          · obtain ⟨g1, _, _⟩ := ok.live id m c hb
            exact h2 id (by simp) m c hb (by have := List.length_pos_iff.2 hcne; omega)
          · obtain ⟨_, _, g3⟩ := ok.froz id m c hb
            rcases g3 with g3 | ⟨g, _, _⟩
            · exact absurd g3 hcne
            · exact fun h' => g (h1 _ h')
      · by_cases hcne : c = []
        · subst hcne; simp [RepC]
        · exact RepC_drop (pur_cells h1 h3 (ok.cells hb hcne)) off
    split at hK
    · rename_i m c hb; exact ⟨_, _, hK, key c (.inl ⟨m, hb⟩)⟩
    · rename_i m c hb; exact ⟨_, _, hK, key c (.inr ⟨m, hb⟩)⟩
    · exact hK.elim
  · exact hK.elim

theorem purs1_sound {h : Nat → Blk} : ∀ {vs : List AV} {K : List PV → List Nat → Prop}, purs1 h vs K → ∃ xs rd, K xs rd ∧
    ∀ {w : World} {z : Nat} {M G : Nat → Prop} {ι : Nat → Loc} {vals : List Value} {F' G' : Nat → Prop}, HeapOk w z M G h ι → RepAL w (Held h ι) G ι vs vals → (∀ B, F' B → Held h ι B) →
    (∀ id ∈ rd, ∀ m c, h id = .live m c → (ι id).cap ≠ 0 → ¬ F' (ι id).B) → (∀ B, ¬ Held h ι B → G B → G' B) → RepL w F' G' xs vals
  | [], K, hK => ⟨[], [], hK, fun _ hv _ _ _ => by simpa only [RepAL, RepL] using hv⟩
  | v :: vs, K, hK => by
    simp only [purs1] at hK
    obtain ⟨x, rd, hK, hp⟩ := pur1_sound hK
    obtain ⟨xs, rd', hK, hps⟩ := purs1_sound hK
    refine ⟨x :: xs, rd ++ rd', hK, ?_⟩
    intro w z M G ι vals F' G' ok hv h1 h2 h3
    simp only [RepAL] at hv
    obtain ⟨u, us, rfl, hu, hus⟩ := hv
    simp only [RepL]
    exact ⟨u, us, rfl, hp ok hu h1 (fun id hid => h2 id (by simp [hid])) h3, hps ok hus h1 (fun id hid => h2 id (by simp [hid])) h3⟩

theorem pur_sound {h : Nat → Blk} {v : AV} {K : PV → List Nat → Prop} (hK : pur h v K) : ∃ x rd, K x rd ∧ Pur h v x rd := by
  unfold pur at hK
  split at hK
  · rename_i xs
    obtain ⟨ys, rd, hk, hp⟩ := purs1_sound hK
    refine ⟨_, _, hk, ?_⟩
    intro w z M G ι val F' G' ok hv h1 h2 h3
    simp only [RepA] at hv
    obtain ⟨cs, rfl, hl⟩ := hv
    simp only [RepP]
    exact ⟨cs, rfl, hp ok hl h1 h2 h3⟩
  · rename_i f first caps
    obtain ⟨ys, rd, hk, hp⟩ := purs1_sound hK
    obtain ⟨zs, rd', hk, hp'⟩ := purs1_sound hk
    refine ⟨_, _, hk, ?_⟩
    intro w z M G ι val F' G' ok hv h1 h2 h3
    simp only [RepA] at hv
    obtain ⟨b, c, rfl, hl, hl'⟩ := hv
    simp only [RepP]
    exact ⟨b, c, rfl, hp ok hl h1 (fun id hid => h2 id (by simp [hid])) h3, hp' ok hl' h1 (fun id hid => h2 id (by simp [hid])) h3⟩
  · exact pur1_sound hK

/-- How an argument is handed over. -/
def Handed (h : Nat → Blk) (v : AV) (a : Arg) (m : Option Nat) (rd : List Nat) : Prop :=
  (∃ x, a = .pv x ∧ m = none ∧ Pur h v x rd) ∨ (∃ c id b, a = .mu false c ∧ m = some id ∧ v = .ref id 0 c.length ∧ h id = .live b c) ∨ (∃ c id b, a = .mu true c ∧ m = some id ∧ v = .ptr id 0 ∧ h id = .live b c)

theorem pass_sound {h : Nat → Blk} : ∀ {vs : List AV} {sg : List Bool} {K : List Arg → List Nat → List (Option Nat) → Prop}, pass h sg vs K →
    ∃ as rd ms, K as rd ms ∧ as.length = vs.length ∧ ms.length = vs.length ∧ ∀ (j : Nat) (v : AV) (a : Arg) (m : Option Nat), vs[j]? = some v → as[j]? = some a → ms[j]? = some m → Handed h v a m rd := by
  intro vs
  induction vs with
  | nil =>
    intro sg K hK
    have : pass h sg [] K = K [] [] [] := by cases sg with
      | nil => rfl
      | cons b sg => cases b <;> rfl
    rw [this] at hK
    exact ⟨[], [], [], hK, rfl, rfl, fun j v a m hv => by simp at hv⟩
  | cons v vs ih =>
    intro sg K hK
    have step : ∀ {v : AV} {a : Arg} {m : Option Nat} {as rd rd' ms}, Handed h v a m rd → (∀ i ∈ rd, i ∈ rd') → (∀ (j : Nat) (v : AV) (a : Arg) (m : Option Nat), vs[j]? = some v → as[j]? = some a → ms[j]? = some m → Handed h v a m rd') →
        ∀ (j : Nat) (v' : AV) (a' : Arg) (m' : Option Nat), (v :: vs)[j]? = some v' → (a :: as)[j]? = some a' → (m :: ms)[j]? = some m' → Handed h v' a' m' rd' := by
      intro v a m as rd rd' ms h0 hr hs j v' a' m' h1 h2 h3
      cases j with
      | zero =>
        simp only [List.getElem?_cons_zero, Option.some.injEq] at h1 h2 h3
        subst h1 h2 h3
        rcases h0 with ⟨x, e1, e2, p⟩ | h0 | h0
        · exact .inl ⟨x, e1, e2, p.mono hr⟩
        · exact .inr (.inl h0)
        · exact .inr (.inr h0)
      | succ j => exact hs j v' a' m' (by simpa using h1) (by simpa using h2) (by simpa using h3)
    have plain : ∀ sg' : List Bool, pur h v (fun x rd => pass h sg' vs fun as rd' ms => K (.pv x :: as) (rd ++ rd') (none :: ms)) →
        ∃ as rd ms, K as rd ms ∧ as.length = (v :: vs).length ∧ ms.length = (v :: vs).length ∧ ∀ (j : Nat) (v' : AV) (a : Arg) (m : Option Nat), (v :: vs)[j]? = some v' → as[j]? = some a → ms[j]? = some m → Handed h v' a m rd := by
      intro sg' hp
      obtain ⟨x, rd, hp, hx⟩ := pur_sound hp
      obtain ⟨as, rd', ms, hk, l1, l2, hs⟩ := ih hp
      refine ⟨_, _, _, hk, by simp [l1], by simp [l2], step (.inl ⟨x, rfl, rfl, hx⟩) (fun i hi => List.mem_append.2 (.inl hi)) fun j v a m h1 h2 h3 => ?_⟩
      rcases hs j v a m h1 h2 h3 with ⟨y, e1, e2, p⟩ | h0 | h0
      · exact .inl ⟨y, e1, e2, p.mono fun i hi => List.mem_append.2 (.inr hi)⟩
      · exact .inr (.inl h0)
      · exact .inr (.inr h0)
    cases sg with
    | nil => exact plain [] (by simpa only [pass, List.tail_nil] using hK)
    | cons b sg =>
      cases b with
      | false => exact plain sg (by simpa only [pass, List.tail_cons] using hK)
      | true =>
        simp only [pass] at hK
        split at hK
        · rename_i id len
          split at hK
          · rename_i b c hb
            obtain ⟨hlen, hK⟩ := hK
            obtain ⟨as, rd, ms, hk, l1, l2, hs⟩ := ih hK
            exact ⟨_, _, _, hk, by simp [l1], by simp [l2], step (.inr (.inl ⟨c, id, b, rfl, rfl, by rw [hlen], hb⟩)) (fun i hi => hi) hs⟩
          · exact hK.elim
        · rename_i id
          split at hK
          · rename_i b c hb
            obtain ⟨as, rd, ms, hk, l1, l2, hs⟩ := ih hK
            exact ⟨_, _, _, hk, by simp [l1], by simp [l2], step (.inr (.inr ⟨c, id, b, rfl, rfl, rfl, hb⟩)) (fun i hi => hi) hs⟩
          · exact hK.elim
        · exact hK.elim

/-! ### numbers -/

theorem argAVs_get : ∀ (as : List Arg) (j i : Nat), (argAVs j as)[i]? = (as[i]?).map (Arg.av (j + i))
  | [], _, _ => by simp [argAVs]
  | a :: as, j, i => by
    cases i with
    | zero => simp [argAVs]
    | succ i => simp only [argAVs, List.getElem?_cons_succ]; rw [argAVs_get as (j + 1) i, show j + 1 + i = j + (i + 1) from by omega]
theorem argAVs_length : ∀ (as : List Arg) (j : Nat), (argAVs j as).length = as.length
  | [], _ => rfl
  | a :: as, j => by simp [argAVs, argAVs_length as (j + 1)]

def shift (k : Nat) (l : List (Nat × Blk)) : List (Nat × Blk) := l.map fun p => (k + p.1, p.2)
theorem shift_append (k : Nat) (l m : List (Nat × Blk)) : shift k (l ++ m) = shift k l ++ shift k m := by simp [shift]
theorem shift_shift (k i : Nat) (l : List (Nat × Blk)) : shift k (shift i l) = shift (k + i) l := by simp [shift, Nat.add_assoc]
theorem impW1_shift (m : Bool) (k : Nat) (x : PV) : impW1 m k x = shift k (impW1 m 0 x) := by
  unfold impW1; split <;> simp [shift]
theorem impWL_shift (m : Bool) : ∀ (xs : List PV) (k : Nat), impWL m k xs = shift k (impWL m 0 xs)
  | [], k => by simp [impWL, shift]
  | x :: xs, k => by
    simp only [impWL]
    rw [shift_append, ← impW1_shift, impWL_shift m xs (k + 1), impWL_shift m xs (0 + 1), shift_shift]
    try simp
theorem impW_shift (m : Bool) (k : Nat) (x : PV) : impW m k x = shift k (impW m 0 x) := by
  cases x <;> simp only [impW] <;> first | exact impW1_shift m k _ | (rw [impWL_shift m _ (k + 1), impWL_shift m _ (0 + 1), shift_shift]; try simp)
theorem impWs_shift (m : Bool) : ∀ (xs : List PV) (k : Nat), impWs m k xs = shift k (impWs m 0 xs)
  | [], k => by simp [impWs, shift]
  | x :: xs, k => by
    simp only [impWs]
    rw [shift_append, ← impW_shift, impWs_shift m xs (k + 16), impWs_shift m xs (0 + 16), shift_shift]
    try simp

theorem impW1_lt {m : Bool} {x : PV} : ∀ p ∈ impW1 m 0 x, p.1 = 0 := by
  unfold impW1; split <;> simp
theorem impWL_lt {m : Bool} : ∀ {xs : List PV}, ∀ p ∈ impWL m 0 xs, p.1 < xs.length
  | [], p, hp => by simp [impWL] at hp
  | x :: xs, p, hp => by
    simp only [impWL, List.mem_append] at hp
    rcases hp with hp | hp
    · have := impW1_lt p hp; simp; omega
    · rw [impWL_shift] at hp
      simp only [shift, List.mem_map] at hp
      obtain ⟨q, hq, rfl⟩ := hp
      have := impWL_lt q hq
      simp; omega
theorem impW_lt {m : Bool} {x : PV} (h : smallP x = true) : ∀ p ∈ impW m 0 x, p.1 < 16 := by
  intro p hp
  cases x with
  | agg xs =>
    simp only [impW] at hp
    simp [smallP] at h
    rw [impWL_shift] at hp
    simp only [shift, List.mem_map] at hp
    obtain ⟨q, hq, rfl⟩ := hp
    have := impWL_lt q hq
    simp; omega
  | _ => simp only [impW] at hp; have := impW1_lt p hp; omega
theorem impWs_lt {m : Bool} : ∀ {xs : List PV}, xs.all smallP = true → ∀ p ∈ impWs m 0 xs, p.1 < 16 * xs.length
  | [], _, p, hp => by simp [impWs] at hp
  | x :: xs, h, p, hp => by
    simp only [List.all_cons, Bool.and_eq_true] at h
    simp only [impWs, List.mem_append] at hp
    rcases hp with hp | hp
    · have := impW_lt (x := x) (by simpa using h.1) p hp; simp; omega
    · rw [impWs_shift] at hp
      simp only [shift, List.mem_map] at hp
      obtain ⟨q, hq, rfl⟩ := hp
      have := impWs_lt h.2 q hq
      simp; omega
theorem impWs_256 {m : Bool} {res : List PV} (h : resOk res = true) : ∀ p ∈ impWs m 0 res, p.1 < 256 := by
  unfold resOk at h
  simp only [Bool.and_eq_true, decide_eq_true_eq] at h
  intro p hp
  have := impWs_lt h.2 p hp
  omega

theorem impWs_live {m : Bool} : ∀ {xs : List PV} {k : Nat}, ∀ p ∈ impWs m k xs, ∃ c, p.2 = .live m c ∧ (noRoL xs = true → noRoL c = true) := by
  have one : ∀ (x : PV) (k : Nat), ∀ p ∈ impW1 m k x, ∃ c, p.2 = .live m c ∧ (noRo x = true → noRoL c = true) := by
    intro x k p hp
    unfold impW1 at hp
    split at hp
    · rename_i ys; simp at hp; subst hp; exact ⟨ys, rfl, fun h => by simpa [noRo] using h⟩
    · simp at hp
  have list : ∀ (xs : List PV) (k : Nat), ∀ p ∈ impWL m k xs, ∃ c, p.2 = .live m c ∧ (noRoL xs = true → noRoL c = true) := by
    intro xs
    induction xs with
    | nil => intro k p hp; simp [impWL] at hp
    | cons x xs ih =>
      intro k p hp
      simp only [impWL, List.mem_append] at hp
      rcases hp with hp | hp
      · obtain ⟨c, e, hc⟩ := one x k p hp
        exact ⟨c, e, fun h => hc (by simp only [noRoL, Bool.and_eq_true] at h; exact h.1)⟩
      · obtain ⟨c, e, hc⟩ := ih _ p hp
        exact ⟨c, e, fun h => hc (by simp only [noRoL, Bool.and_eq_true] at h; exact h.2)⟩
  intro xs
  induction xs with
  | nil => intro k p hp; simp [impWs] at hp
  | cons x xs ih =>
    intro k p hp
    simp only [impWs, List.mem_append] at hp
    rcases hp with hp | hp
    · have : ∃ c, p.2 = .live m c ∧ (noRo x = true → noRoL c = true) := by
        cases x with
        | agg ys =>
          obtain ⟨c, e, hc⟩ := list ys _ p (by simpa only [impW] using hp)
          exact ⟨c, e, fun h => hc (by simpa [noRo] using h)⟩
        | _ => exact one _ k p (by simpa only [impW] using hp)
      obtain ⟨c, e, hc⟩ := this
      exact ⟨c, e, fun h => hc (by simp only [noRoL, Bool.and_eq_true] at h; exact h.1)⟩
    · obtain ⟨c, e, hc⟩ := ih p hp
      exact ⟨c, e, fun h => hc (by simp only [noRoL, Bool.and_eq_true] at h; exact h.2)⟩

/-- What a list of settings sets, set elsewhere. -/
theorem hwsH_shift {h h' : Nat → Blk} {k k' x : Nat} : ∀ {l : List (Nat × Blk)}, h (k + x) = h' (k' + x) → hwsH h (shift k l) (k + x) = hwsH h' (shift k' l) (k' + x) := by
  intro l
  induction l generalizing h h' with
  | nil => intro e; exact e
  | cons p l ih =>
    intro e
    obtain ⟨i, b⟩ := p
    simp only [shift, List.map_cons, hwsH]
    refine ih ?_
    by_cases hi : x = i
    · subst hi; simp
    · have h1 : ¬ (k + x = k + i) := by omega
      have h2 : ¬ (k' + x = k' + i) := by omega
      simp only [h1, h2, if_false]
      exact e

/-- What is set is one of the settings, or what stood there. -/
theorem hwsH_cases {h : Nat → Blk} : ∀ {l : List (Nat × Blk)} {i : Nat}, hwsH h l i = h i ∨ ∃ b, (i, b) ∈ l ∧ hwsH h l i = b := by
  intro l
  induction l generalizing h with
  | nil => intro i; exact .inl rfl
  | cons p l ih =>
    intro i
    obtain ⟨j, b⟩ := p
    simp only [hwsH]
    rcases ih (h := fun j' => if j' = j then b else h j') (i := i) with e | ⟨b', hb, e⟩
    · by_cases hi : i = j
      · subst hi
        right
        exact ⟨b, by simp, by rw [e]; simp⟩
      · left; rw [e]; simp [hi]
    · exact .inr ⟨b', by simp [hb], e⟩

theorem outWs_other {h g : Nat → Blk} {outs : List (Option (List PV))} : ∀ {ms : List (Option Nat)} {j0 id : Nat}, id ∉ ms.filterMap _root_.id → hwsH g (outWs h outs j0 ms) id = g id
  | [], _, _, _ => rfl
  | none :: ms, j0, id, hn => by
    simp only [outWs]
    exact outWs_other (by simpa using hn)
  | some i :: ms, j0, id, hn => by
    simp only [outWs, hwsH]
    have hn' : id ≠ i ∧ id ∉ ms.filterMap _root_.id := by simpa using hn
    rw [outWs_other hn'.2]
    simp [hn'.1]

theorem outWs_at {h : Nat → Blk} {outs : List (Option (List PV))} : ∀ {ms : List (Option Nat)} {g : Nat → Blk} {j0 j id : Nat}, (ms.filterMap _root_.id).Nodup → ms[j]? = some (some id) →
    hwsH g (outWs h outs j0 ms) id = outB outs[j0 + j]? (h id)
  | [], g, j0, j, id, _, hj => by simp at hj
  | none :: ms, g, j0, j, id, hn, hj => by
    simp only [outWs]
    cases j with
    | zero => simp at hj
    | succ j =>
      rw [outWs_at (j := j) (by simpa using hn) (by simpa using hj), show j0 + 1 + j = j0 + (j + 1) from by omega]
  | some i :: ms, g, j0, j, id, hn, hj => by
    simp only [outWs, hwsH]
    have hn' : i ∉ ms.filterMap _root_.id ∧ (ms.filterMap _root_.id).Nodup := by simpa using hn
    cases j with
    | zero =>
      simp only [List.getElem?_cons_zero, Option.some.injEq] at hj
      subst hj
      rw [outWs_other hn'.1]
      simp
    | succ j =>
      rw [outWs_at (j := j) hn'.2 (by simpa using hj), show j0 + 1 + j = j0 + (j + 1) from by omega]

end Go.Gl
