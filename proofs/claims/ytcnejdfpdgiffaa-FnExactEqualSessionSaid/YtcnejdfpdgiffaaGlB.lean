/-
  A program logic over the walk's rules, joined: calls, regions, pieces of code. Conditions: those that each lemma names.
-/
import Derived.Test.YtcnejdfpdgiffaaGlA
namespace Go.Gl
open Go

mutual
theorem RepP.noRo {w : World} {F G F2 G2 : Nat → Prop} (H : ∀ B, ¬ F B → G B → ¬ F2 B ∧ G2 B) : ∀ (x : PV) (v : Value), Gl.noRo x = true → RepP w F G x v → RepP w F2 G2 x v
  | .int _ _, _, _, h => h
  | .bool _, _, _, h => h
  | .str _, _, _, h => h
  | .nilf, _, _, h => h
  | .any, _, hn, _ => by simp [Gl.noRo] at hn
  | .fn _ _ _, _, hn, _ => by simp [Gl.noRo] at hn
  | .pc _, _, hn, _ => by simp [Gl.noRo] at hn
  | .sl o xs, v, hn, h => by
    simp only [RepP] at h ⊢
    obtain ⟨a, cap, hv, hl, hm, ho, hx⟩ := h
    refine ⟨a, cap, hv, hl, hm, ho, ?_⟩
    cases o with
    | ro => simp [Gl.noRo] at hn
    | own => exact .inl (ho rfl).1
    | fr =>
      simp only [Gl.noRo] at hn
      rcases hx with hx | ⟨B, off, ha, hF, hG, hc⟩
      · exact .inl hx
      · obtain ⟨h1, h2⟩ := H B hF (hG rfl)
        exact .inr ⟨B, off, ha, h1, fun _ => h2, RepC.noRo H xs B off hn hc⟩
  | .agg xs, v, hn, h => by
    simp only [RepP] at h ⊢
    simp only [Gl.noRo] at hn
    obtain ⟨cs, hv, hx⟩ := h
    exact ⟨cs, hv, RepL.noRo H xs cs hn hx⟩
theorem RepC.noRo {w : World} {F G F2 G2 : Nat → Prop} (H : ∀ B, ¬ F B → G B → ¬ F2 B ∧ G2 B) : ∀ (xs : List PV) (B o : Nat), noRoL xs = true → RepC w F G B o xs → RepC w F2 G2 B o xs
  | [], _, _, _, _ => by simp only [RepC]
  | x :: xs, B, o, hn, h => by
    simp only [noRoL, Bool.and_eq_true] at hn
    simp only [RepC] at h ⊢
    obtain ⟨⟨v, hv, h1, hx⟩, hr⟩ := h
    exact ⟨⟨v, hv, h1, RepP.noRo H x v hn.1 hx⟩, RepC.noRo H xs B (o + 1) hn.2 hr⟩
theorem RepL.noRo {w : World} {F G F2 G2 : Nat → Prop} (H : ∀ B, ¬ F B → G B → ¬ F2 B ∧ G2 B) : ∀ (xs : List PV) (vs : List Value), noRoL xs = true → RepL w F G xs vs → RepL w F2 G2 xs vs
  | [], _, _, h => by simpa only [RepL] using h
  | x :: xs, vs, hn, h => by
    simp only [noRoL, Bool.and_eq_true] at hn
    simp only [RepL] at h ⊢
    obtain ⟨v, vs', rfl, hx, hr⟩ := h
    exact ⟨v, vs', rfl, RepP.noRo H x v hn.1 hx, RepL.noRo H xs vs' hn.2 hr⟩
end

/-- 'x' tells the value v to a callee that may write the blocks of F' and no other. -/
def Pur (h : Nat → Blk) (v : AV) (x : PV) (rd : List Nat) : Prop :=
  ∀ {w : World} {z : Nat} {M G : Nat → Prop} {ι : Nat → Loc} {val : Value} {F' G' : Nat → Prop}, HeapOk w z M G h ι → RepA w (Held h ι) G ι v val → (∀ B, F' B → Held h ι B) →
    (∀ id ∈ rd, ∀ m c, h id = .live m c → (ι id).cap ≠ 0 → ¬ F' (ι id).B) → (∀ B, ¬ Held h ι B → G B → G' B) → RepP w F' G' x val

theorem Pur.mono {h : Nat → Blk} {v : AV} {x : PV} {rd rd' : List Nat} (p : Pur h v x rd) (hr : ∀ i ∈ rd, i ∈ rd') : Pur h v x rd' :=
  fun ok hv h1 h2 h3 => p ok hv h1 (fun id hid => h2 id (hr id hid)) h3

theorem pur_cells {w : World} {G : Nat → Prop} {h : Nat → Blk} {ι : Nat → Loc} {F' G' : Nat → Prop} (h1 : ∀ B, F' B → Held h ι B) (h3 : ∀ B, ¬ Held h ι B → G B → G' B) {B o : Nat} {xs : List PV}
    (hc : RepC w (Held h ι) G B o xs) : RepC w F' G' B o xs :=
  RepC.tr (fun _ _ _ hF hv => ⟨hv, fun h' => hF (h1 _ h')⟩) (fun B _ hF hG => h3 B hF hG) _ _ _ (fun _ _ hv => hv) hc

theorem pur1_sound {h : Nat → Blk} {v : AV} {K : PV → List Nat → Prop} (hK : pur1 h v K) : ∃ x rd, K x rd ∧ Pur h v x rd := by
  unfold pur1 at hK
  split at hK
  · rename_i x
    refine ⟨_, _, hK, ?_⟩
    intro w z M G ι val F' G' ok hv h1 h2 h3
    exact RepP.tr (fun _ _ _ hF hv => ⟨hv, fun h' => hF (h1 _ h')⟩) (fun B _ hF hG => h3 B hF hG) _ _ (RepP_cell hv)
  · rename_i id off len
    have key : ∀ (o : Fl) c, ((∃ m, h id = .live m c) ∨ ∃ m, h id = .froz m c) → off + len ≤ c.length → (o = .ro ∨ ∃ m, o = .lent m ∧ h id = .froz m c) → Pur h (.ref id off len) (.sl o ((c.drop off).take len)) [id] := by
      intro o c hb hle ho
      intro w z M G ι val F' G' ok hv h1 h2 h3
      obtain ⟨ad, cap, rfl, hl, hcap, hm, hc⟩ := rep_ref hv
      have hlen : ((c.drop off).take len).length = len := by simp; omega
      simp only [RepP]
      refine ⟨ad, cap, by rw [hlen], by omega, by omega, ?_, ?_⟩
      · intro e
        rcases ho with rfl | ⟨m, rfl, _⟩
        · cases e
        · cases m <;> simp [Fl.lent] at e
      · by_cases h0 : len = 0
        · left; exact List.eq_nil_of_length_eq_zero (by omega)
        · right
          rcases hc with hc | rfl
          · omega
          · have hcne : c ≠ [] := by intro e; subst e; simp at hle; omega
            have hcells := ok.cells hb hcne
            refine ⟨_, _, rfl, ?_, ?_, RepC_take (RepC_drop (pur_cells h1 h3 hcells) off) len⟩
            · rcases hb with ⟨m, hb⟩ | ⟨m, hb⟩
              · exact h2 id (by simp) m c hb (by omega)
              · obtain ⟨_, _, g3⟩ := ok.froz id m c hb
                rcases g3 with g3 | ⟨g, _, _⟩
                · exact absurd g3 hcne
                · exact fun h' => g (h1 _ h')
            · intro e
              rcases ho with rfl | ⟨m, rfl, hb'⟩
              · cases e
              · obtain ⟨_, _, g3⟩ := ok.froz id m c hb'
                rcases g3 with g3 | ⟨g, gg, _⟩
                · exact absurd g3 hcne
                · refine h3 _ g (gg ?_)
                  cases m
                  · rfl
                  · simp [Fl.lent] at e
    split at hK
    · rename_i m c hb; exact ⟨_, _, hK.2, key _ c (.inl ⟨m, hb⟩) hK.1 (.inl rfl)⟩
    · rename_i m c hb; exact ⟨_, _, hK.2, key _ c (.inr ⟨m, hb⟩) hK.1 (.inr ⟨m, rfl, hb⟩)⟩
    · exact hK.elim
  · rename_i id off
    have key : ∀ c, ((∃ m, h id = .live m c) ∨ ∃ m, h id = .froz m c) → Pur h (.ptr id off) (.pc (c.drop off)) [id] := by
      intro c hb
      intro w z M G ι val F' G' ok hv h1 h2 h3
      simp only [RepA] at hv
      simp only [RepP]
      refine ⟨_, _, hv, ?_, ?_⟩
      · by_cases hcne : c = []
        · left; subst hcne; simp
        · right
          rcases hb with ⟨m, hb⟩ | ⟨m, hb⟩
          · obtain ⟨g1, _, _⟩ := ok.live id m c hb
            exact h2 id (by simp) m c hb (by have := List.length_pos_iff.2 hcne; omega)
          · obtain ⟨_, _, g3⟩ := ok.froz id m c hb
            rcases g3 with g3 | ⟨g, _, _⟩
            · exact absurd g3 hcne
            · exact fun h' => g (h1 _ h')
      · by_cases hcne : c = []
        · subst hcne; simp [RepC]
        · exact RepC_drop (pur_cells h1 h3 (ok.cells hb hcne)) off
    split at hK
    · rename_i m c hb; exact ⟨_, _, hK, key c (.inl ⟨m, hb⟩)⟩
    · rename_i m c hb; exact ⟨_, _, hK, key c (.inr ⟨m, hb⟩)⟩
    · exact hK.elim
  · exact hK.elim

theorem purs1_sound {h : Nat → Blk} : ∀ {vs : List AV} {K : List PV → List Nat → Prop}, purs1 h vs K → ∃ xs rd, K xs rd ∧
    ∀ {w : World} {z : Nat} {M G : Nat → Prop} {ι : Nat → Loc} {vals : List Value} {F' G' : Nat → Prop}, HeapOk w z M G h ι → RepAL w (Held h ι) G ι vs vals → (∀ B, F' B → Held h ι B) →
    (∀ id ∈ rd, ∀ m c, h id = .live m c → (ι id).cap ≠ 0 → ¬ F' (ι id).B) → (∀ B, ¬ Held h ι B → G B → G' B) → RepL w F' G' xs vals
  | [], K, hK => ⟨[], [], hK, fun _ hv _ _ _ => by simpa only [RepAL, RepL] using hv⟩
  | v :: vs, K, hK => by
    simp only [purs1] at hK
    obtain ⟨x, rd, hK, hp⟩ := pur1_sound hK
    obtain ⟨xs, rd', hK, hps⟩ := purs1_sound hK
    refine ⟨x :: xs, rd ++ rd', hK, ?_⟩
    intro w z M G ι vals F' G' ok hv h1 h2 h3
    simp only [RepAL] at hv
    obtain ⟨u, us, rfl, hu, hus⟩ := hv
    simp only [RepL]
    exact ⟨u, us, rfl, hp ok hu h1 (fun id hid => h2 id (by simp [hid])) h3, hps ok hus h1 (fun id hid => h2 id (by simp [hid])) h3⟩

theorem pur_sound {h : Nat → Blk} {v : AV} {K : PV → List Nat → Prop} (hK : pur h v K) : ∃ x rd, K x rd ∧ Pur h v x rd := by
  unfold pur at hK
  split at hK
  · rename_i xs
    obtain ⟨ys, rd, hk, hp⟩ := purs1_sound hK
    refine ⟨_, _, hk, ?_⟩
    intro w z M G ι val F' G' ok hv h1 h2 h3
    simp only [RepA] at hv
    obtain ⟨cs, rfl, hl⟩ := hv
    simp only [RepP]
    exact ⟨cs, rfl, hp ok hl h1 h2 h3⟩
  · rename_i f first caps
    obtain ⟨ys, rd, hk, hp⟩ := purs1_sound hK
    obtain ⟨zs, rd', hk, hp'⟩ := purs1_sound hk
    refine ⟨_, _, hk, ?_⟩
    intro w z M G ι val F' G' ok hv h1 h2 h3
    simp only [RepA] at hv
    obtain ⟨b, c, rfl, hl, hl'⟩ := hv
    simp only [RepP]
    exact ⟨b, c, rfl, hp ok hl h1 (fun id hid => h2 id (by simp [hid])) h3, hp' ok hl' h1 (fun id hid => h2 id (by simp [hid])) h3⟩
  · exact pur1_sound hK

/-- How an argument is handed over. -/
def Handed (h : Nat → Blk) (v : AV) (a : Arg) (m : Option Nat) (rd : List Nat) : Prop :=
  (∃ x, a = .pv x ∧ m = none ∧ Pur h v x rd) ∨ (∃ c id b, a = .mu false c ∧ m = some id ∧ v = .ref id 0 c.length ∧ h id = .live b c) ∨ (∃ c id b, a = .mu true c ∧ m = some id ∧ v = .ptr id 0 ∧ h id = .live b c)

theorem pass_sound {h : Nat → Blk} : ∀ {vs : List AV} {sg : List Bool} {K : List Arg → List Nat → List (Option Nat) → Prop}, pass h sg vs K →
    ∃ as rd ms, K as rd ms ∧ as.length = vs.length ∧ ms.length = vs.length ∧ ∀ (j : Nat) (v : AV) (a : Arg) (m : Option Nat), vs[j]? = some v → as[j]? = some a → ms[j]? = some m → Handed h v a m rd := by
  intro vs
  induction vs with
  | nil =>
    intro sg K hK
    have : pass h sg [] K = K [] [] [] := by cases sg with
      | nil => rfl
      | cons b sg => cases b <;> rfl
    rw [this] at hK
    exact ⟨[], [], [], hK, rfl, rfl, fun j v a m hv => by simp at hv⟩
  | cons v vs ih =>
    intro sg K hK
    have step : ∀ {v : AV} {a : Arg} {m : Option Nat} {as rd rd' ms}, Handed h v a m rd → (∀ i ∈ rd, i ∈ rd') → (∀ (j : Nat) (v : AV) (a : Arg) (m : Option Nat), vs[j]? = some v → as[j]? = some a → ms[j]? = some m → Handed h v a m rd') →
        ∀ (j : Nat) (v' : AV) (a' : Arg) (m' : Option Nat), (v :: vs)[j]? = some v' → (a :: as)[j]? = some a' → (m :: ms)[j]? = some m' → Handed h v' a' m' rd' := by
      intro v a m as rd rd' ms h0 hr hs j v' a' m' h1 h2 h3
      cases j with
      | zero =>
        simp only [List.getElem?_cons_zero, Option.some.injEq] at h1 h2 h3
        subst h1 h2 h3
        rcases h0 with ⟨x, e1, e2, p⟩ | h0 | h0
        · exact .inl ⟨x, e1, e2, p.mono hr⟩
        · exact .inr (.inl h0)
        · exact .inr (.inr h0)
      | succ j => exact hs j v' a' m' (by simpa using h1) (by simpa using h2) (by simpa using h3)
    have plain : ∀ sg' : List Bool, pur h v (fun x rd => pass h sg' vs fun as rd' ms => K (.pv x :: as) (rd ++ rd') (none :: ms)) →
        ∃ as rd ms, K as rd ms ∧ as.length = (v :: vs).length ∧ ms.length = (v :: vs).length ∧ ∀ (j : Nat) (v' : AV) (a : Arg) (m : Option Nat), (v :: vs)[j]? = some v' → as[j]? = some a → ms[j]? = some m → Handed h v' a m rd := by
      intro sg' hp
      obtain ⟨x, rd, hp, hx⟩ := pur_sound hp
      obtain ⟨as, rd', ms, hk, l1, l2, hs⟩ := ih hp
      refine ⟨_, _, _, hk, by simp [l1], by simp [l2], step (.inl ⟨x, rfl, rfl, hx⟩) (fun i hi => List.mem_append.2 (.inl hi)) fun j v a m h1 h2 h3 => ?_⟩
      rcases hs j v a m h1 h2 h3 with ⟨y, e1, e2, p⟩ | h0 | h0
      · exact .inl ⟨y, e1, e2, p.mono fun i hi => List.mem_append.2 (.inr hi)⟩
      · exact .inr (.inl h0)
      · exact .inr (.inr h0)
    cases sg with
    | nil => exact plain [] (by simpa only [pass, List.tail_nil] using hK)
    | cons b sg =>
      cases b with
      | false => exact plain sg (by simpa only [pass, List.tail_cons] using hK)
      | true =>
        simp only [pass] at hK
        split at hK
        · rename_i id len
          split at hK
          · rename_i b c hb
            obtain ⟨hlen, hK⟩ := hK
            obtain ⟨as, rd, ms, hk, l1, l2, hs⟩ := ih hK
            exact ⟨_, _, _, hk, by simp [l1], by simp [l2], step (.inr (.inl ⟨c, id, b, rfl, rfl, by rw [hlen], hb⟩)) (fun i hi => hi) hs⟩
          · exact hK.elim
        · rename_i id
          split at hK
          · rename_i b c hb
            obtain ⟨as, rd, ms, hk, l1, l2, hs⟩ := ih hK
            exact ⟨_, _, _, hk, by simp [l1], by simp [l2], step (.inr (.inr ⟨c, id, b, rfl, rfl, rfl, hb⟩)) (fun i hi => hi) hs⟩
          · exact hK.elim
        · exact hK.elim

/-! ### numbers -/

theorem argAVs_get : ∀ (as : List Arg) (j i : Nat), (argAVs j as)[i]? = (as[i]?).map (Arg.av (j + i))
  | [], _, _ => by simp [argAVs]
  | a :: as, j, i => by
    cases i with
    | zero => simp [argAVs]
    | succ i => simp only [argAVs, List.getElem?_cons_succ]; rw [argAVs_get as (j + 1) i, show j + 1 + i = j + (i + 1) from by omega]
theorem argAVs_length : ∀ (as : List Arg) (j : Nat), (argAVs j as).length = as.length
  | [], _ => rfl
  | a :: as, j => by simp [argAVs, argAVs_length as (j + 1)]

def shift (k : Nat) (l : List (Nat × Blk)) : List (Nat × Blk) := l.map fun p => (k + p.1, p.2)
theorem shift_append (k : Nat) (l m : List (Nat × Blk)) : shift k (l ++ m) = shift k l ++ shift k m := by simp [shift]
theorem shift_shift (k i : Nat) (l : List (Nat × Blk)) : shift k (shift i l) = shift (k + i) l := by simp [shift, Nat.add_assoc]
theorem impW1_shift (m : Bool) (k : Nat) (x : PV) : impW1 m k x = shift k (impW1 m 0 x) := by
  unfold impW1; split <;> simp [shift]
theorem impWL_shift (m : Bool) : ∀ (xs : List PV) (k : Nat), impWL m k xs = shift k (impWL m 0 xs)
  | [], k => by simp [impWL, shift]
  | x :: xs, k => by
    simp only [impWL]
    rw [shift_append, ← impW1_shift, impWL_shift m xs (k + 1), impWL_shift m xs (0 + 1), shift_shift]
    try simp
theorem impW_shift (m : Bool) (k : Nat) (x : PV) : impW m k x = shift k (impW m 0 x) := by
  cases x <;> simp only [impW] <;> first | exact impW1_shift m k _ | (rw [impWL_shift m _ (k + 1), impWL_shift m _ (0 + 1), shift_shift]; try simp)
theorem impWs_shift (m : Bool) : ∀ (xs : List PV) (k : Nat), impWs m k xs = shift k (impWs m 0 xs)
  | [], k => by simp [impWs, shift]
  | x :: xs, k => by
    simp only [impWs]
    rw [shift_append, ← impW_shift, impWs_shift m xs (k + 16), impWs_shift m xs (0 + 16), shift_shift]
    try simp

theorem impW1_lt {m : Bool} {x : PV} : ∀ p ∈ impW1 m 0 x, p.1 = 0 := by
  unfold impW1; split <;> simp
theorem impWL_lt {m : Bool} : ∀ {xs : List PV}, ∀ p ∈ impWL m 0 xs, p.1 < xs.length
  | [], p, hp => by simp [impWL] at hp
  | x :: xs, p, hp => by
    simp only [impWL, List.mem_append] at hp
    rcases hp with hp | hp
    · have := impW1_lt p hp; simp; omega
    · rw [impWL_shift] at hp
      simp only [shift, List.mem_map] at hp
      obtain ⟨q, hq, rfl⟩ := hp
      have := impWL_lt q hq
      simp; omega
theorem impW_lt {m : Bool} {x : PV} (h : smallP x = true) : ∀ p ∈ impW m 0 x, p.1 < 16 := by
  intro p hp
  cases x with
  | agg xs =>
    simp only [impW] at hp
    simp [smallP] at h
    rw [impWL_shift] at hp
    simp only [shift, List.mem_map] at hp
    obtain ⟨q, hq, rfl⟩ := hp
    have := impWL_lt q hq
    simp; omega
  | _ => simp only [impW] at hp; have := impW1_lt p hp; omega
theorem impWs_lt {m : Bool} : ∀ {xs : List PV}, xs.all smallP = true → ∀ p ∈ impWs m 0 xs, p.1 < 16 * xs.length
  | [], _, p, hp => by simp [impWs] at hp
  | x :: xs, h, p, hp => by
    simp only [List.all_cons, Bool.and_eq_true] at h
    simp only [impWs, List.mem_append] at hp
    rcases hp with hp | hp
    · have := impW_lt (x := x) (by simpa using h.1) p hp; simp; omega
    · rw [impWs_shift] at hp
      simp only [shift, List.mem_map] at hp
      obtain ⟨q, hq, rfl⟩ := hp
      have := impWs_lt h.2 q hq
      simp; omega
theorem impWs_256 {m : Bool} {res : List PV} (h : resOk res = true) : ∀ p ∈ impWs m 0 res, p.1 < 256 := by
  unfold resOk at h
  simp only [Bool.and_eq_true, decide_eq_true_eq] at h
  intro p hp
  have := impWs_lt h.2 p hp
  omega

theorem impWs_live {m : Bool} : ∀ {xs : List PV} {k : Nat}, ∀ p ∈ impWs m k xs, ∃ c, p.2 = .live m c ∧ (noRoL xs = true → noRoL c = true) := by
  have one : ∀ (x : PV) (k : Nat), ∀ p ∈ impW1 m k x, ∃ c, p.2 = .live m c ∧ (noRo x = true → noRoL c = true) := by
    intro x k p hp
    unfold impW1 at hp
    split at hp
    · rename_i ys; simp at hp; subst hp; exact ⟨ys, rfl, fun h => by simpa [noRo] using h⟩
    · simp at hp
  have list : ∀ (xs : List PV) (k : Nat), ∀ p ∈ impWL m k xs, ∃ c, p.2 = .live m c ∧ (noRoL xs = true → noRoL c = true) := by
    intro xs
    induction xs with
    | nil => intro k p hp; simp [impWL] at hp
    | cons x xs ih =>
      intro k p hp
      simp only [impWL, List.mem_append] at hp
      rcases hp with hp | hp
      · obtain ⟨c, e, hc⟩ := one x k p hp
        exact ⟨c, e, fun h => hc (by simp only [noRoL, Bool.and_eq_true] at h; exact h.1)⟩
      · obtain ⟨c, e, hc⟩ := ih _ p hp
        exact ⟨c, e, fun h => hc (by simp only [noRoL, Bool.and_eq_true] at h; exact h.2)⟩
  intro xs
  induction xs with
  | nil => intro k p hp; simp [impWs] at hp
  | cons x xs ih =>
    intro k p hp
    simp only [impWs, List.mem_append] at hp
    rcases hp with hp | hp
    · have : ∃ c, p.2 = .live m c ∧ (noRo x = true → noRoL c = true) := by
        cases x with
        | agg ys =>
          obtain ⟨c, e, hc⟩ := list ys _ p (by simpa only [impW] using hp)
          exact ⟨c, e, fun h => hc (by simpa [noRo] using h)⟩
        | _ => exact one _ k p (by simpa only [impW] using hp)
      obtain ⟨c, e, hc⟩ := this
      exact ⟨c, e, fun h => hc (by simp only [noRoL, Bool.and_eq_true] at h; exact h.1)⟩
    · obtain ⟨c, e, hc⟩ := ih p hp
      exact ⟨c, e, fun h => hc (by simp only [noRoL, Bool.and_eq_true] at h; exact h.2)⟩

/-- What a list of settings sets, set elsewhere. -/
theorem hwsH_shift {h h' : Nat → Blk} {k k' x : Nat} : ∀ {l : List (Nat × Blk)}, h (k + x) = h' (k' + x) → hwsH h (shift k l) (k + x) = hwsH h' (shift k' l) (k' + x) := by
  intro l
  induction l generalizing h h' with
  | nil => intro e; exact e
  | cons p l ih =>
    intro e
    obtain ⟨i, b⟩ := p
    simp only [shift, List.map_cons, hwsH]
    refine ih ?_
    by_cases hi : x = i
    · subst hi; simp
    · have h1 : ¬ (k + x = k + i) := by omega
      have h2 : ¬ (k' + x = k' + i) := by omega
      simp only [h1, h2, if_false]
      exact e

/-- What is set is one of the settings, or what stood there. -/
theorem hwsH_cases {h : Nat → Blk} : ∀ {l : List (Nat × Blk)} {i : Nat}, hwsH h l i = h i ∨ ∃ b, (i, b) ∈ l ∧ hwsH h l i = b := by
  intro l
  induction l generalizing h with
  | nil => intro i; exact .inl rfl
  | cons p l ih =>
    intro i
    obtain ⟨j, b⟩ := p
    simp only [hwsH]
    rcases ih (h := fun j' => if j' = j then b else h j') (i := i) with e | ⟨b', hb, e⟩
    · by_cases hi : i = j
      · subst hi
        right
        exact ⟨b, by simp, by rw [e]; simp⟩
      · left; rw [e]; simp [hi]
    · exact .inr ⟨b', by simp [hb], e⟩

theorem outWs_other {h g : Nat → Blk} {outs : List (Option (List PV))} : ∀ {ms : List (Option Nat)} {j0 id : Nat}, id ∉ ms.filterMap _root_.id → hwsH g (outWs h outs j0 ms) id = g id
  | [], _, _, _ => rfl
  | none :: ms, j0, id, hn => by
    simp only [outWs]
    exact outWs_other (by simpa using hn)
  | some i :: ms, j0, id, hn => by
    simp only [outWs, hwsH]
    have hn' : id ≠ i ∧ id ∉ ms.filterMap _root_.id := by simpa using hn
    rw [outWs_other hn'.2]
    simp [hn'.1]

theorem outWs_at {h : Nat → Blk} {outs : List (Option (List PV))} : ∀ {ms : List (Option Nat)} {g : Nat → Blk} {j0 j id : Nat}, (ms.filterMap _root_.id).Nodup → ms[j]? = some (some id) →
    hwsH g (outWs h outs j0 ms) id = outB outs[j0 + j]? (h id)
  | [], g, j0, j, id, _, hj => by simp at hj
  | none :: ms, g, j0, j, id, hn, hj => by
    simp only [outWs]
    cases j with
    | zero => simp at hj
    | succ j =>
      rw [outWs_at (j := j) (by simpa using hn) (by simpa using hj), show j0 + 1 + j = j0 + (j + 1) from by omega]
  | some i :: ms, g, j0, j, id, hn, hj => by
    simp only [outWs, hwsH]
    have hn' : i ∉ ms.filterMap _root_.id ∧ (ms.filterMap _root_.id).Nodup := by simpa using hn
    cases j with
    | zero =>
      simp only [List.getElem?_cons_zero, Option.some.injEq] at hj
      subst hj
      rw [outWs_other hn'.1]
      simp
    | succ j =>
      rw [outWs_at (j := j) hn'.2 (by simpa using hj), show j0 + 1 + j = j0 + (j + 1) from by omega]

end Go.Gl

namespace Go.Gl
open Go

section imports
variable {w : World} {F F2 G G2 : Nat → Prop} {ι ι2 : Nat → Loc}

theorem imp1_rep (H : ∀ B, ¬ F B → G B → ¬ F2 B ∧ G2 B) {n k : Nat} (hι : ι2 k = ι n) {x : PV} (hn : noRo x = true) {v : Value} (h : RepA w F G ι (imp1 n x) v) : RepA w F2 G2 ι2 (imp1 k x) v := by
  have plain : RepA w F G ι (.p x) v → RepA w F2 G2 ι2 (.p x) v := fun h => by
    simp only [RepA] at h ⊢
    exact RepP.noRo H _ _ hn h
  cases x with
  | sl o xs =>
    cases o with
    | own =>
      simp only [imp1, RepA] at h ⊢
      rw [hι]; exact h
    | ro => exact plain h
    | fr => exact plain h
  | _ => exact plain h

theorem impL_rep (H : ∀ B, ¬ F B → G B → ¬ F2 B ∧ G2 B) : ∀ {xs : List PV} {n k : Nat}, (∀ x, x < xs.length → ι2 (k + x) = ι (n + x)) → noRoL xs = true → ∀ {vs : List Value}, RepAL w F G ι (impL n xs) vs → RepAL w F2 G2 ι2 (impL k xs) vs
  | [], _, _, _, _, _, h => by simpa only [impL, RepAL] using h
  | x :: xs, n, k, hι, hn, vs, h => by
    simp only [noRoL, Bool.and_eq_true] at hn
    simp only [impL, RepAL] at h ⊢
    obtain ⟨v, vs', rfl, h1, h2⟩ := h
    refine ⟨v, vs', rfl, imp1_rep H (by simpa using hι 0 (by simp)) hn.1 h1, impL_rep H (fun y hy => ?_) hn.2 h2⟩
    rw [show k + 1 + y = k + (y + 1) from by omega, show n + 1 + y = n + (y + 1) from by omega]
    exact hι (y + 1) (by simpa using hy)

theorem imp_rep (H : ∀ B, ¬ F B → G B → ¬ F2 B ∧ G2 B) {n k : Nat} (hι : ∀ x, x < 16 → ι2 (k + x) = ι (n + x)) {x : PV} (hn : noRo x = true) (hs : smallP x = true) {v : Value} (h : RepA w F G ι (imp n x) v) : RepA w F2 G2 ι2 (imp k x) v := by
  cases x with
  | agg xs =>
    simp only [imp, RepA] at h ⊢
    simp [smallP] at hs
    obtain ⟨cs, hv, hl⟩ := h
    refine ⟨cs, hv, impL_rep H (fun y hy => ?_) (by simpa [noRo] using hn) hl⟩
    rw [show k + 1 + y = k + (y + 1) from by omega, show n + 1 + y = n + (y + 1) from by omega]
    exact hι (y + 1) (by omega)
  | _ => simp only [imp] at h ⊢; exact imp1_rep H (by simpa using hι 0 (by omega)) hn h

theorem imps_rep (H : ∀ B, ¬ F B → G B → ¬ F2 B ∧ G2 B) : ∀ {xs : List PV} {n k : Nat}, (∀ x, x < 16 * xs.length → ι2 (k + x) = ι (n + x)) → noRoL xs = true → xs.all smallP = true →
    ∀ {vs : List Value}, RepAL w F G ι (imps n xs) vs → RepAL w F2 G2 ι2 (imps k xs) vs
  | [], _, _, _, _, _, _, h => by simpa only [imps, RepAL] using h
  | x :: xs, n, k, hι, hn, hs, vs, h => by
    simp only [noRoL, Bool.and_eq_true] at hn
    simp only [List.all_cons, Bool.and_eq_true] at hs
    simp only [imps, RepAL] at h ⊢
    obtain ⟨v, vs', rfl, h1, h2⟩ := h
    refine ⟨v, vs', rfl, imp_rep H (fun y hy => hι y (by simp; omega)) hn.1 (by simpa using hs.1) h1, imps_rep H (fun y hy => ?_) hn.2 hs.2 h2⟩
    rw [show k + 16 + y = k + (y + 16) from by omega, show n + 16 + y = n + (y + 16) from by omega]
    exact hι (y + 16) (by simp; omega)

theorem impAll_rep (H : ∀ B, ¬ F B → G B → ¬ F2 B ∧ G2 B) {res : List PV} {n k : Nat} (hι : ∀ x, x < 256 → ι2 (k + x) = ι (n + x)) (hn : noRoL res = true) (hs : resOk res = true) {v : Value} (h : RepA w F G ι (impAll n res) v) : RepA w F2 G2 ι2 (impAll k res) v := by
  simp only [resOk, Bool.and_eq_true, decide_eq_true_eq] at hs
  have tup : RepA w F G ι (.tup (imps n res)) v → RepA w F2 G2 ι2 (.tup (imps k res)) v := by
    intro h
    simp only [RepA] at h ⊢
    obtain ⟨cs, hv, hl⟩ := h
    exact ⟨cs, hv, imps_rep H (fun x hx => hι x (by omega)) hn hs.2 hl⟩
  match res, hn, hs, h, tup with
  | [], _, _, h, tup => exact tup h
  | [x], hn, hs, h, _ =>
    simp only [noRoL, Bool.and_true] at hn
    simp only [List.all_cons, List.all_nil, Bool.and_true] at hs
    exact imp_rep H (fun y hy => hι y (by omega)) hn (by simpa using hs.2) h
  | x :: y :: zs, _, _, h, tup => exact tup h

theorem imp1_has {k i : Nat} {x : PV} (h : (imp1 k x).has i = true) : i = k := by
  unfold imp1 at h
  split at h <;> simp [AV.has] at h
  exact h.symm
theorem impL_has : ∀ {xs : List PV} {k i : Nat}, AV.hasL (impL k xs) i = true → k ≤ i ∧ i < k + xs.length
  | [], _, _, h => by simp [impL, AV.hasL] at h
  | x :: xs, k, i, h => by
    simp only [impL, AV.hasL, Bool.or_eq_true] at h
    rcases h with h | h
    · have := imp1_has h; simp; omega
    · have := impL_has h; simp; omega
theorem imp_has {k i : Nat} {x : PV} (hs : smallP x = true) (h : (imp k x).has i = true) : k ≤ i ∧ i < k + 16 := by
  cases x with
  | agg xs => simp only [imp, AV.has] at h; simp [smallP] at hs; have := impL_has h; omega
  | _ => simp only [imp] at h; have := imp1_has h; omega
theorem imps_has : ∀ {xs : List PV} {k i : Nat}, xs.all smallP = true → AV.hasL (imps k xs) i = true → k ≤ i ∧ i < k + 16 * xs.length
  | [], _, _, _, h => by simp [imps, AV.hasL] at h
  | x :: xs, k, i, hs, h => by
    simp only [List.all_cons, Bool.and_eq_true] at hs
    simp only [imps, AV.hasL, Bool.or_eq_true] at h
    rcases h with h | h
    · have := imp_has (x := x) (by simpa using hs.1) h; simp; omega
    · have := imps_has hs.2 h; simp; omega
theorem impAll_has {res : List PV} {k i : Nat} (hs : resOk res = true) (h : (impAll k res).has i = true) : k ≤ i ∧ i < k + 256 := by
  simp only [resOk, Bool.and_eq_true, decide_eq_true_eq] at hs
  match res, hs, h with
  | [], _, h => simp [impAll, imps, AV.has, AV.hasL] at h
  | [x], hs, h =>
    simp only [List.all_cons, List.all_nil, Bool.and_true] at hs
    have := imp_has (x := x) (by simpa using hs.2) h; omega
  | x :: y :: zs, hs, h =>
    simp only [impAll, AV.has] at h
    have := imps_has hs.2 h; omega
end imports

section
variable {P : Program} {sg : FuncId → List Bool} {w0 : World} {nA nt : Nat} {M G : Nat → Prop} {ι0 : Nat → Loc} {A : Nat → Prop} {w : World} {S : St} {ι : Nat → Loc} {a : Act}

theorem does_callf {o : Oper} {k : Nat} {K : R → Prop} (h : Rel w0 nA nt M G ι0 A w S ι a) (hd : ∀ d, o.dst = some d → d < nt) (hA : ∀ x, x < 256 → ¬ A (k + x)) {f : FuncId} {vs : List AV} {vals : List Value}
    (hrun : ∀ fn, P.funcs[f]? = some fn → fn.body.isSome = true → (fn.name == "runtime.NumGoroutine") = false → (execOp a.eval o).run P w = .ok (.enter f ⟨vals⟩) w)
    (hvs : RepAL w (Held S.h ι) G ι vs vals) (hnamed : ∀ i, AV.hasL vs i = true → A i) (hK : callW P sg S.h k f vs K) : Does P w0 nA nt M G ι0 A k o w S a K := by
  obtain ⟨as, rd, ms, ⟨hlent, tk, outs, res, hc, hk⟩, l1, l2, hh⟩ := pass_sound hK
  obtain ⟨⟨fn, hf1, hf2, hf3⟩, hnr, hro, houts, hcall⟩ := hc
  obtain ⟨hnodup, hread⟩ := hlent
  have hrun := hrun fn hf1 hf2 hf3
  -- the places lent
  let ιf : Nat → Loc := fun j => match ms[j]? with | some (some id) => ι id | _ => ⟨0, 0, 0⟩
  let G' : Nat → Prop := fun B => G B ∧ ¬ Held S.h ι B
  have lentJ : ∀ j m c, argH as j = .live m c → m = true ∧ ∃ (id : Nat) (b : Bool), ms[j]? = some (some id) ∧ S.h id = .live b c ∧ A id ∧ ιf j = ι id ∧ j < as.length := by
    intro j m c hj
    unfold argH at hj
    split at hj
    · rename_i p c' haj
      cases hj
      have hlt := (List.getElem?_eq_some_iff.1 haj).1
      have hv := List.getElem?_eq_getElem (l := vs) (i := j) (by omega)
      have hm := List.getElem?_eq_getElem (l := ms) (i := j) (by omega)
      rcases hh j _ _ _ hv haj hm with ⟨x, e, _⟩ | ⟨c1, id, b, e1, e2, e3, e4⟩ | ⟨c1, id, b, e1, e2, e3, e4⟩
      · cases e
      · cases e1
        rw [e2] at hm
        exact ⟨rfl, id, b, hm, e4, hnamed id (hasL_mem hv (by rw [e3]; simp [AV.has])), by simp only [ιf, hm], hlt⟩
      · cases e1
        rw [e2] at hm
        exact ⟨rfl, id, b, hm, e4, hnamed id (hasL_mem hv (by rw [e3]; simp [AV.has])), by simp only [ιf, hm], hlt⟩
    · cases hj
  have lentHeld : ∀ B, argM as ιf B → ∃ (j id : Nat) (b : Bool) (c : List PV), ms[j]? = some (some id) ∧ S.h id = .live b c ∧ (ι id).cap ≠ 0 ∧ (ι id).B = B := by
    rintro B ⟨j, m, c, hj, hc, hB⟩
    obtain ⟨_, id, b, e1, e2, _, e4, _⟩ := lentJ j m c hj
    rw [e4] at hc hB
    exact ⟨j, id, b, c, e1, e2, hc, hB⟩
  have mHeld : ∀ B, argM as ιf B → Held S.h ι B := fun B hB => by
    obtain ⟨j, id, b, c, _, e2, e3, e4⟩ := lentHeld B hB
    exact ⟨id, b, c, e2, e3, e4⟩
  have memMs : ∀ {j id : Nat}, ms[j]? = some (some id) → id ∈ ms.filterMap _root_.id := fun hj => List.mem_filterMap.2 ⟨_, List.mem_of_getElem? hj, rfl⟩
  have ofMs : ∀ {id : Nat}, id ∈ ms.filterMap _root_.id → ∃ j : Nat, ms[j]? = some (some id) := fun hid => by
    obtain ⟨x, hx, e⟩ := List.mem_filterMap.1 hid
    obtain ⟨j, hj⟩ := List.mem_iff_getElem?.1 hx
    simp at e; subst e
    exact ⟨j, hj⟩
  have msA : ∀ {j id : Nat}, ms[j]? = some (some id) → A id ∧ ∃ b c, S.h id = .live b c ∧ argH as j = .live true c ∧ j < as.length := by
    intro j id hj
    have hlt := (List.getElem?_eq_some_iff.1 hj).1
    have hv := List.getElem?_eq_getElem (l := vs) (i := j) (by omega)
    have ha := List.getElem?_eq_getElem (l := as) (i := j) (by omega)
    rcases hh j _ _ _ hv ha hj with ⟨x, _, e, _⟩ | ⟨c1, id', b, e1, e2, e3, e4⟩ | ⟨c1, id', b, e1, e2, e3, e4⟩
    · cases e
    · cases e2
      exact ⟨hnamed id (hasL_mem hv (by rw [e3]; simp [AV.has])), b, c1, e4, by simp only [argH, ha, e1], by omega⟩
    · cases e2
      exact ⟨hnamed id (hasL_mem hv (by rw [e3]; simp [AV.has])), b, c1, e4, by simp only [argH, ha, e1], by omega⟩
  have inj : ∀ {i j id : Nat}, ms[i]? = some (some id) → ms[j]? = some (some id) → i = j := by
    intro i j id hi hj
    exact filterMap_inj hnodup hi hj
  have toF : ∀ {B o xs}, RepC w (Held S.h ι) G B o xs → RepC w (Held (argH as) ιf) G' B o xs := fun hc =>
    RepC.tr (fun B _ _ hF hv => ⟨hv, fun h' => hF (mHeld B h')⟩) (fun B _ hF hG => ⟨hG, hF⟩) _ _ _ (fun _ _ hv => hv) hc
  have ok0 : HeapOk w w.heap.size (argM as ιf) G' (argH as) ιf := by
    refine ⟨fun j m c hj => ?_, fun j m c hj => ?_, fun i m1 c1 j m2 c2 hi hj hne z1 z2 => ?_⟩
    · obtain ⟨rfl, id, b, e1, e2, e3, e4, _⟩ := lentJ j m c hj
      obtain ⟨g1, g2, g3⟩ := h.heap.live id b c e2
      rw [e4]
      refine ⟨g1, g2, ?_⟩
      by_cases h0 : (ι id).cap = 0
      · exact .inl h0
      · rcases g3 with g3 | ⟨r1, r2, _⟩
        · exact absurd g3 h0
        · exact .inr ⟨r1, toF r2, .inr ⟨rfl, ⟨j, true, c, hj, by rw [e4]; exact h0, by rw [e4]⟩⟩⟩
    · unfold argH at hj; split at hj <;> cases hj
    · obtain ⟨_, id, b, e1, e2, _, e4, _⟩ := lentJ i m1 c1 hi
      obtain ⟨_, id', b', e1', e2', _, e4', _⟩ := lentJ j m2 c2 hj
      rw [e4] at z1 ⊢
      rw [e4'] at z2 ⊢
      refine h.heap.sep id b c1 id' b' c2 e2 e2' ?_ z1 z2
      rintro rfl
      exact hne (inj e1 e1')
  have hvals : RepAL w (Held (argH as) ιf) G' ιf (argAVs 0 as) vals := by
    refine RepAL_of (by rw [argAVs_length, l1]; exact RepAL_length hvs) fun j x val hx hval => ?_
    rw [argAVs_get] at hx
    simp only [Option.map_eq_some_iff] at hx
    obtain ⟨arg, harg, rfl⟩ := hx
    have hlt := (List.getElem?_eq_some_iff.1 harg).1
    have hv := List.getElem?_eq_getElem (l := vs) (i := j) (by omega)
    have hm := List.getElem?_eq_getElem (l := ms) (i := j) (by omega)
    obtain ⟨val', hval', hrep⟩ := RepAL_get hvs j _ hv
    rw [hval] at hval'
    cases hval'
    rcases hh j _ _ _ hv harg hm with ⟨x, rfl, _, p⟩ | ⟨c1, id, b, rfl, e2, e3, e4⟩ | ⟨c1, id, b, rfl, e2, e3, e4⟩
    · simp only [Arg.av, RepA]
      refine p h.heap hrep mHeld (fun id hid m c hb hc0 hM => ?_) fun B hF hG => ⟨hG, hF⟩
      obtain ⟨j', id', b', c', q1, q2, q3, q4⟩ := lentHeld _ hM
      by_cases e : id' = id
      · subst e; exact hread _ (memMs q1) hid
      · exact h.heap.sep id' b' c' id m c q2 hb e q3 hc0 q4
    · rw [e3] at hrep
      rw [e2] at hm
      have e5 : ιf j = ι id := by simp only [ιf, hm]
      simp only [Arg.av, RepA, Nat.zero_add] at hrep ⊢
      rw [e5]; exact hrep
    · rw [e3] at hrep
      rw [e2] at hm
      have e5 : ιf j = ι id := by simp only [ιf, hm]
      simp only [Arg.av, RepA, Nat.zero_add] at hrep ⊢
      rw [e5]; exact hrep
  have hnew : ∀ B, w.heap.size ≤ B → G' B := fun B hB => ⟨h.new B (Nat.le_trans h.keep.size hB), fun hh => by have := held_lt h.heap hh; omega⟩
  intro Kc Qc next
  unfold Oper.wp
  rw [hrun, Oper.upon_enter]
  refine (hcall w G' ιf vals hnew ok0 hvals).mono ?_
  rintro e w' ⟨v, ι', rfl, hι, keep, ok, hres⟩
  refine next _ v w' (fun id => if k ≤ id ∧ id < k + 256 then ι' (as.length + (id - k)) else ι id) hk ?_
  generalize hn : as.length = n at *
  let ι2 : Nat → Loc := fun id => if k ≤ id ∧ id < k + 256 then ι' (n + (id - k)) else ι id
  let h2 : Nat → Blk := hwsH S.h (outWs S.h outs 0 ms ++ impWs tk k res)
  have eι : ∀ x, x < 256 → ι2 (k + x) = ι' (n + x) := fun x hx => by
    have e1 : (k ≤ k + x ∧ k + x < k + 256) := ⟨by omega, by omega⟩
    simp only [ι2, e1, and_self, if_true]
    congr 1; omega
  have eιo : ∀ id, ¬ (k ≤ id ∧ id < k + 256) → ι2 id = ι id := fun id hid => by simp only [ι2, hid, if_false]
  have eιA : ∀ id, A id → ι2 id = ι id := fun id hid => eιo id fun hr => by
    have := hA (id - k) (by omega)
    rw [show k + (id - k) = id from by omega] at this
    exact this hid
  have H1 : ∀ x, x < 256 → h2 (k + x) = postH tk as outs res (n + x) := by
    intro x hx
    show hwsH S.h (outWs S.h outs 0 ms ++ impWs tk k res) (k + x) = hwsH (outH as outs) (impWs tk as.length res) (n + x)
    rw [hwsH_append, impWs_shift tk res k, impWs_shift tk res as.length, hn]
    refine hwsH_shift ?_
    have hnm : k + x ∉ ms.filterMap _root_.id := fun hm => by
      obtain ⟨j, hj⟩ := ofMs hm
      exact hA x hx (msA hj).1
    rw [outWs_other hnm, h.alloc _ (hA x hx)]
    unfold outH
    have : as[n + x]? = none := List.getElem?_eq_none (by omega)
    rw [this]
  have H2 : ∀ id, ¬ (k ≤ id ∧ id < k + 256) → h2 id = hwsH S.h (outWs S.h outs 0 ms) id := by
    intro id hid
    show hwsH S.h (outWs S.h outs 0 ms ++ impWs tk k res) id = _
    rw [hwsH_append]
    refine hwsH_other fun p hp e => ?_
    rw [impWs_shift] at hp
    simp only [shift, List.mem_map] at hp
    obtain ⟨q, hq, rfl⟩ := hp
    have := impWs_256 hro q hq
    exact hid ⟨by simp at e; omega, by simp at e; omega⟩
  have P1 : ∀ j, j < n → postH tk as outs res j = outH as outs j := by
    intro j hj
    unfold postH
    refine hwsH_other fun p hp e => ?_
    rw [impWs_shift] at hp
    simp only [shift, List.mem_map] at hp
    obtain ⟨q, hq, rfl⟩ := hp
    simp at e; omega
  have liveRes : ∀ x m c, x < 256 → postH tk as outs res (n + x) = .live m c → noRoL c = true := by
    intro x m c hx hl
    unfold postH at hl
    rcases hwsH_cases (h := outH as outs) (l := impWs tk as.length res) (i := n + x) with e | ⟨b, hb, e⟩
    · rw [e] at hl
      unfold outH at hl
      have : as[n + x]? = none := List.getElem?_eq_none (by omega)
      rw [this] at hl
      cases hl
    · obtain ⟨c', e', hc'⟩ := impWs_live _ hb
      rw [e] at hl
      simp at e'
      rw [hl] at e'
      cases e'
      exact hc' hnr
  -- what is live behind the call
  have cls : ∀ id m c, h2 id = .live m c →
      (∃ x, x < 256 ∧ id = k + x ∧ postH tk as outs res (n + x) = .live m c ∧ noRoL c = true) ∨
      (∃ (j : Nat) (b : Bool) (c0 : List PV), ¬ (k ≤ id ∧ id < k + 256) ∧ ms[j]? = some (some id) ∧ S.h id = .live b c0 ∧ m = b ∧ postH tk as outs res j = .live true c ∧ noRoL c = true ∧ ι' j = ι id) ∨
      (¬ (k ≤ id ∧ id < k + 256) ∧ id ∉ ms.filterMap _root_.id ∧ S.h id = .live m c) := by
    intro id m c hl
    by_cases hr : k ≤ id ∧ id < k + 256
    · left
      have e : id = k + (id - k) := by omega
      rw [e, H1 _ (by omega)] at hl
      exact ⟨id - k, by omega, e, hl, liveRes _ m c (by omega) hl⟩
    · right
      rw [H2 id hr] at hl
      by_cases hm : id ∈ ms.filterMap _root_.id
      · left
        obtain ⟨j, hj⟩ := ofMs hm
        obtain ⟨_, b, c0, e1, e2, hlt⟩ := msA hj
        rw [outWs_at hnodup hj, Nat.zero_add, e1] at hl
        unfold outB at hl
        split at hl
        · rename_i c1 m1 c2 e3 e4
          cases hl
          cases e4
          refine ⟨j, m, c0, hr, hj, e1, rfl, ?_, ?_, ?_⟩
          · rw [P1 j (by omega)]
            unfold argH at e2
            unfold outH
            split at e2
            · rename_i p c3 ha; simp only [e3]
            · cases e2
          · have := List.all_eq_true.1 houts _ (List.mem_of_getElem? e3)
            simpa using this
          · rw [hι j (by omega)]; simp only [ιf, hj]
        · cases hl
      · right
        rw [outWs_other hm] at hl
        exact ⟨hr, hm, hl⟩
  have nd : ∀ B, Held (postH tk as outs res) ι' B → w.heap.size ≤ B ∨ argM as ιf B := by
    rintro B ⟨id, m, c, hl, hc0, rfl⟩
    obtain ⟨_, _, g3⟩ := ok.live id m c hl
    rcases g3 with g3 | ⟨_, _, g⟩
    · exact absurd g3 hc0
    · rcases g with ⟨g, _⟩ | ⟨_, g⟩
      · exact .inl g
      · exact .inr g
  have nc : ∀ {id m c}, id ∉ ms.filterMap _root_.id → S.h id = .live m c → (ι id).cap ≠ 0 → ¬ argM as ιf (ι id).B ∧ (ι id).B < w.heap.size := by
    intro id m c hm hl hc0
    refine ⟨fun hM => ?_, held_lt h.heap ⟨id, m, c, hl, hc0, rfl⟩⟩
    obtain ⟨j, id', b', c', q1, q2, q3, q4⟩ := lentHeld _ hM
    by_cases e : id' = id
    · subst e; exact hm (memMs q1)
    · exact h.heap.sep id' b' c' id m c q2 hl e q3 hc0 q4
  have heldCases : ∀ B, Held h2 ι2 B → Held (postH tk as outs res) ι' B ∨ ∃ id m c, id ∉ ms.filterMap _root_.id ∧ S.h id = .live m c ∧ (ι id).cap ≠ 0 ∧ (ι id).B = B := by
    rintro B ⟨id, m, c, hl, hc0, hB⟩
    rcases cls id m c hl with ⟨x, hx, rfl, hp, _⟩ | ⟨j, b, c0, hr, hj, _, _, hp, _, e⟩ | ⟨hr, hm, hl'⟩
    · rw [eι x hx] at hc0 hB; exact .inl ⟨_, m, c, hp, hc0, hB⟩
    · rw [eιo id hr] at hc0 hB; rw [← e] at hc0 hB; exact .inl ⟨_, true, c, hp, hc0, hB⟩
    · rw [eιo id hr] at hc0 hB; exact .inr ⟨id, m, c, hm, hl', hc0, hB⟩
  have st : Stays w w' (Held S.h ι) (Held h2 ι2) := by
    intro B o v hF hv
    have hlt := cell?_lt hv
    have hnM : ¬ argM as ιf B := fun hM => hF (mHeld B hM)
    refine ⟨?_, fun hh => ?_⟩
    · rw [cell?_eq, keep.block B hlt hnM, ← cell?_eq]; exact hv
    · rcases heldCases B hh with hp | ⟨id, m, c, _, e1, e2, e3⟩
      · rcases nd B hp with hp | hp
        · omega
        · exact hnM hp
      · exact hF ⟨id, m, c, e1, e2, e3⟩
  have HH : ∀ B, ¬ Held (postH tk as outs res) ι' B → G' B → ¬ Held h2 ι2 B ∧ G B := by
    intro B hF hG
    refine ⟨fun hh => ?_, hG.1⟩
    rcases heldCases B hh with hp | ⟨id, m, c, _, e1, e2, e3⟩
    · exact hF hp
    · exact hG.2 ⟨id, m, c, e1, e2, e3⟩
  have fromLent : ∀ B, argM as ιf B → (w0.heap.size ≤ B ∧ G B) ∨ M B := by
    intro B hM
    obtain ⟨j, id, b, c, _, e2, e3, e4⟩ := lentHeld B hM
    obtain ⟨_, _, g3⟩ := h.heap.live id b c e2
    rcases g3 with g3 | ⟨_, _, g⟩
    · exact absurd g3 e3
    · rw [e4] at g
      rcases g with g | ⟨_, g⟩
      · exact .inl g
      · exact .inr g
  have ok2 : HeapOk w' w0.heap.size M G h2 ι2 := by
    refine ⟨fun id m c hl => ?_, fun id m c hf => ?_, fun id m1 c1 id' m2 c2 hl hl' hne z1 z2 => ?_⟩
    · rcases cls id m c hl with ⟨x, hx, rfl, hp, hnr'⟩ | ⟨j, b, c0, hr, hj, e1, rfl, hp, hnr', e⟩ | ⟨hr, hm, hl'⟩
      · obtain ⟨g1, g2, g3⟩ := ok.live _ m c hp
        rw [eι x hx]
        refine ⟨g1, g2, g3.imp _root_.id fun ⟨r1, r2, r3⟩ => ⟨r1, RepC.noRo HH _ _ _ hnr' r2, ?_⟩⟩
        rcases r3 with ⟨q1, q2⟩ | ⟨q1, q2⟩
        · exact .inl ⟨Nat.le_trans h.keep.size q1, q2.1⟩
        · rcases fromLent _ q2 with q | q
          · exact .inl q
          · exact .inr ⟨q1, q⟩
      · obtain ⟨g1, g2, g3⟩ := ok.live _ true c hp
        rw [eιo id hr, ← e]
        refine ⟨g1, g2, ?_⟩
        by_cases hc0 : (ι' j).cap = 0
        · exact .inl hc0
        · rcases g3 with g3 | ⟨r1, r2, _⟩
          · exact absurd g3 hc0
          · refine .inr ⟨r1, RepC.noRo HH _ _ _ hnr' r2, ?_⟩
            obtain ⟨_, _, q3⟩ := h.heap.live id m c0 e1
            rw [e]
            rw [e] at hc0
            rcases q3 with q3 | ⟨_, _, q⟩
            · exact absurd q3 hc0
            · exact q
      · obtain ⟨g1, g2, g3⟩ := h.heap.live id m c hl'
        rw [eιo id hr]
        refine ⟨g1, g2, ?_⟩
        by_cases hc0 : (ι id).cap = 0
        · exact .inl hc0
        · rcases g3 with g3 | ⟨r1, r2, r3⟩
          · exact absurd g3 hc0
          · obtain ⟨n1, n2⟩ := nc hm hl' hc0
            refine .inr ⟨r1.same (keep.block _ n2 n1), RepC.tr st (fun _ _ _ h => h) _ _ _ (fun o v hv => ?_) r2, r3⟩
            rw [cell?_eq, keep.block _ n2 n1, ← cell?_eq]; exact hv
    · have hr : ¬ (k ≤ id ∧ id < k + 256) := by
        intro hr
        have e : id = k + (id - k) := by omega
        rw [e, H1 _ (by omega)] at hf
        unfold postH at hf
        rcases hwsH_cases (h := outH as outs) (l := impWs tk as.length res) (i := n + (id - k)) with e' | ⟨b, hb, e'⟩
        · rw [e'] at hf
          unfold outH at hf
          have : as[n + (id - k)]? = none := List.getElem?_eq_none (by omega)
          rw [this] at hf
          cases hf
        · obtain ⟨c', e2, _⟩ := impWs_live _ hb
          rw [e'] at hf
          simp at e2
          rw [hf] at e2
          cases e2
      rw [H2 id hr] at hf
      have hm : id ∉ ms.filterMap _root_.id := by
        intro hm
        obtain ⟨j, hj⟩ := ofMs hm
        rw [outWs_at hnodup hj] at hf
        unfold outB at hf
        split at hf <;> cases hf
      rw [outWs_other hm] at hf
      obtain ⟨g1, g2, g3⟩ := h.heap.froz id m c hf
      rw [eιo id hr]
      refine ⟨g1, g2, ?_⟩
      rcases g3 with g3 | ⟨hF, hG, hc⟩
      · exact .inl g3
      · cases c with
        | nil => exact .inl rfl
        | cons y ys =>
          obtain ⟨u, hu⟩ := RepC_ne hc
          refine .inr ⟨(st _ _ u hF hu).2, hG, RepC.tr st (fun _ _ _ h => h) _ _ _ (fun o v hv => (st _ o v hF hv).1) hc⟩
    · -- apart
      have apart : ∀ {id m c}, id ∉ ms.filterMap _root_.id → S.h id = .live m c → (ι id).cap ≠ 0 → ∀ {B}, Held (postH tk as outs res) ι' B → (ι id).B ≠ B := by
        intro id m c hm hl hc0 B hB e
        obtain ⟨n1, n2⟩ := nc hm hl hc0
        rcases nd B hB with q | q
        · omega
        · exact n1 (e ▸ q)
      rcases cls id m1 c1 hl with ⟨x, hx, rfl, hp, _⟩ | ⟨j, b, c0, hr, hj, e1, _, hp, _, e⟩ | ⟨hr, hm, q⟩ <;>
        rcases cls id' m2 c2 hl' with ⟨x', hx', rfl, hp', _⟩ | ⟨j', b', c0', hr', hj', e1', _, hp', _, e'⟩ | ⟨hr', hm', q'⟩
      · rw [eι x hx] at z1 ⊢; rw [eι x' hx'] at z2 ⊢
        exact ok.sep _ _ _ _ _ _ hp hp' (by omega) z1 z2
      · rw [eι x hx] at z1 ⊢; rw [eιo id' hr', ← e'] at z2 ⊢
        exact ok.sep _ _ _ _ _ _ hp hp' (by have := (msA hj').2; obtain ⟨_, _, _, _, q⟩ := this; omega) z1 z2
      · rw [eι x hx] at z1 ⊢; rw [eιo id' hr'] at z2 ⊢
        exact fun e => apart hm' q' z2 ⟨_, _, _, hp, z1, rfl⟩ e.symm
      · rw [eιo id hr, ← e] at z1 ⊢
        rw [eι x' hx'] at z2 ⊢
        exact ok.sep _ _ _ _ _ _ hp hp' (by have := (msA hj).2; obtain ⟨_, _, _, _, q⟩ := this; omega) z1 z2
      · rw [eιo id hr, ← e] at z1 ⊢; rw [eιo id' hr', ← e'] at z2 ⊢
        exact ok.sep _ _ _ _ _ _ hp hp' (by rintro rfl; rw [hj] at hj'; cases hj'; exact hne rfl) z1 z2
      · rw [eιo id hr, ← e] at z1 ⊢; rw [eιo id' hr'] at z2 ⊢
        exact fun e => apart hm' q' z2 ⟨_, _, _, hp, z1, rfl⟩ e.symm
      · rw [eιo id hr] at z1 ⊢; rw [eι x' hx'] at z2 ⊢
        exact apart hm q z1 ⟨_, _, _, hp', z2, rfl⟩
      · rw [eιo id hr] at z1 ⊢; rw [eιo id' hr', ← e'] at z2 ⊢
        exact apart hm q z1 ⟨_, _, _, hp', z2, rfl⟩
      · rw [eιo id hr] at z1 ⊢; rw [eιo id' hr'] at z2 ⊢
        exact h.heap.sep _ _ _ _ _ _ q q' hne z1 z2
  have keep2 : Keep w0 w' M := ⟨keep.os.trans h.keep.os, keep.tape.trans h.keep.tape, keep.output.trans h.keep.output, Nat.le_trans h.keep.size keep.size, fun B hB hM => by
    rw [keep.block B (Nat.lt_of_lt_of_le hB h.keep.size) (fun hm => ?_), h.keep.block B hB hM]
    rcases fromLent B hm with ⟨q, _⟩ | q
    · omega
    · exact hM q⟩
  have rel := h.stepK (A' := plus A k) (fun i hi => .inl hi) keep2 ok2 st eιA (fun i hi => by
    have hr : ¬ (k ≤ i ∧ i < k + 256) := fun hr => hi (.inr hr)
    have hnA : ¬ A i := fun hA => hi (.inl hA)
    show h2 i = .dead
    rw [H2 i hr, outWs_other fun hm => by
      obtain ⟨j, hj⟩ := ofMs hm
      exact hnA (msA hj).1]
    exact h.alloc i hnA)
  rw [app_eq]
  exact rel.put o.dst hd (impAll_rep HH eι hnr hro hres) fun i hi => .inr (impAll_has hro hi)
  where
  filterMap_inj {ms : List (Option Nat)} (hn : (ms.filterMap _root_.id).Nodup) {i j id : Nat} (hi : ms[i]? = some (some id)) (hj : ms[j]? = some (some id)) : i = j := by
    induction ms generalizing i j with
    | nil => simp at hi
    | cons m ms ih =>
      cases m with
      | none =>
        cases i with
        | zero => simp at hi
        | succ i => cases j with
          | zero => simp at hj
          | succ j => exact congrArg Nat.succ (ih (i := i) (j := j) (by simpa using hn) (by simpa using hi) (by simpa using hj))
      | some x =>
        have hn' : x ∉ ms.filterMap _root_.id ∧ (ms.filterMap _root_.id).Nodup := by simpa using hn
        have mem : ∀ {j}, ms[j]? = some (some id) → id ∈ ms.filterMap _root_.id := fun hj => List.mem_filterMap.2 ⟨_, List.mem_of_getElem? hj, rfl⟩
        cases i with
        | zero =>
          simp only [List.getElem?_cons_zero, Option.some.injEq] at hi
          subst hi
          cases j with
          | zero => rfl
          | succ j => exact absurd (mem (by simpa using hj)) hn'.1
        | succ i => cases j with
          | zero =>
            simp only [List.getElem?_cons_zero, Option.some.injEq] at hj
            subst hj
            exact absurd (mem (by simpa using hi)) hn'.1
          | succ j => exact congrArg Nat.succ (ih (i := i) (j := j) hn'.2 (by simpa using hi) (by simpa using hj))

end
end Go.Gl

namespace Go.Gl
open Go

section
variable {P : Program} {sg : FuncId → List Bool} {w0 : World} {nA nt : Nat} {M G : Nat → Prop} {ι0 : Nat → Loc} {A : Nat → Prop} {w : World} {S : St} {ι : Nat → Loc} {a : Act}

theorem exec_call {o : Oper} {f : Operand} {args : List Operand} {ts : Array TypeId} (ho : o.op = .call { callee := .value f, args := ⟨args⟩, argTypes := ts }) {g : FuncId} {first caps : List Value} (hf : a.eval f = .func (.func g) ⟨first⟩ ⟨caps⟩) :
    ∀ fn, P.funcs[g]? = some fn → fn.body.isSome = true → (fn.name == "runtime.NumGoroutine") = false → (execOp a.eval o).run P w = .ok (.enter g ⟨first ++ args.map a.eval ++ caps⟩) w := by
  intro fn h1 h2 h3
  have h3' : ¬ fn.name = "runtime.NumGoroutine" := by simpa using h3
  have h4 : ¬ fn.body = none := by intro e; simp [e] at h2
  simp [execOp, ho, resolve, hf, Deferred.ofValue, invoke, callFunc, h1, h3', h4]

theorem opB_does {o : Oper} {k : Nat} {K : R → Prop} (h : Rel w0 nA nt M G ι0 A w S ι a) (hd : ∀ d, o.dst = some d → d < nt) (hA : ∀ x, x < 256 → ¬ A (k + x))
    (hK : opB P sg (Gl.opd S) S.h k o.op K) : Does P w0 nA nt M G ι0 A k o w S a K := by
  unfold opB at hK
  split at hK
  · rename_i ho; exact does_move h hd hA (.inl ho) hK
  · rename_i ho; exact does_move h hd hA (.inr ho) hK
  · rename_i ho; exact does_pick h hd hA ho hK
  · rename_i ho; exact does_bin h hd ho hK
  · rename_i ho; exact does_un h hd ho hK
  · rename_i ho; exact does_convert h hd hA ho hK
  · rename_i ho; exact does_makeSlice h hd hA ho hK
  · rename_i ho; exact does_buildSlice h hd hA ho hK
  · rename_i ho; exact does_slice h hd hA ho hK
  · rename_i ho; exact does_indexAddr h hd ho hK
  · rename_i ho; exact does_index h hd ho hK
  · rename_i ho; exact does_load h hd ho hK
  · rename_i ho; exact does_store h hd ho hK
  · rename_i ho; exact does_alloc h hd hA ho hK
  · rename_i ho; exact does_box h hd hA ho hK
  · rename_i ho; exact does_build h hd ho hK
  · rename_i ho; exact does_field h hd hA ho hK
  · rename_i ho; exact does_fieldAddr h hd ho hK
  · rename_i ho; exact does_extract h hd hA ho hK
  · rename_i ho; exact does_nilCheck h hd ho hK
  · rename_i ho; exact does_makeFunc h hd ho hK
  · rename_i ho; exact does_len h hd ho hK
  · rename_i ho; exact does_append h hd hA ho hK
  · rename_i ho; exact does_mm (b := true) h hd ho hK
  · rename_i ho; exact does_mm (b := false) h hd ho hK
  · rename_i f args ts ho
    have hf := h.opd f
    have nf := h.opd_named f
    split at hK
    · rename_i g first caps e
      rw [e] at hf
      simp only [RepA, RepP] at hf
      obtain ⟨b, c, hv, h1, h2⟩ := hf
      refine does_callf h hd hA (exec_call ho hv) ?_ ?_ hK
      · exact RepAL_append (RepAL_append (RepAL_p.2 h1) (h.opds args)) (RepAL_p.2 h2)
      · intro i hi
        rw [hasL_append, hasL_append] at hi
        simp only [Bool.or_eq_true] at hi
        rcases hi with (hi | hi) | hi
        · simp [hasL_p] at hi
        · exact h.opds_named args i hi
        · simp [hasL_p] at hi
    · rename_i g first caps e
      rw [e] at hf nf
      simp only [RepA] at hf
      obtain ⟨b, c, hv, h1, h2⟩ := hf
      refine does_callf h hd hA (exec_call ho hv) ?_ ?_ hK
      · exact RepAL_append (RepAL_append h1 (h.opds args)) h2
      · intro i hi
        rw [hasL_append, hasL_append] at hi
        simp only [Bool.or_eq_true] at hi
        rcases hi with (hi | hi) | hi
        · exact nf i (by simp [AV.has, hi])
        · exact h.opds_named args i hi
        · exact nf i (by simp [AV.has, hi])
    · exact hK.elim
  · exact hK.elim
  where
  hasL_append : ∀ {xs ys : List AV} {i : Nat}, AV.hasL (xs ++ ys) i = (AV.hasL xs i || AV.hasL ys i)
    | [], _, _ => by simp [AV.hasL]
    | x :: xs, ys, i => by simp [AV.hasL, hasL_append (xs := xs), Bool.or_assoc]
  hasL_p : ∀ {xs : List PV} {i : Nat}, AV.hasL (xs.map .p) i = false
    | [], _ => by simp [AV.hasL]
    | x :: xs, i => by simp [AV.hasL, AV.has, hasL_p (xs := xs)]

theorem opW_does {o : Oper} {k : Nat} {K : R → Prop} (h : Rel w0 nA nt M G ι0 A w S ι a) (hd : ∀ d, o.dst = some d → d < nt) (hA : ∀ x, x < 256 → ¬ A (k + x))
    (hK : opW P sg (Gl.opd S) S.h k o.op K) : Does P w0 nA nt M G ι0 A k o w S a K := by
  unfold opW at hK
  split at hK
  · unfold opE at hK
    split at hK
    · rename_i ho; exact does_binX h hd ho hK
    · rename_i ho; exact does_sliceX h hd ho hK
    · rename_i ho; exact does_clear h hd ho hK
    · exact hK.elim
  · exact opB_does h hd hA hK

theorem guard_spec {ops : Array Oper} {o : Oper} {yes no : Prop} (h : Rel w0 nA nt M G ι0 A w S ι a) (hg : guardW ops S o yes no) :
    (Region.wanted o (yielded ops a.tmps) = true ∧ yes) ∨ (Region.wanted o (yielded ops a.tmps) = false ∧ no) := by
  unfold guardW at hg
  unfold Region.wanted
  split at hg
  · rename_i e; rw [e]; exact .inl ⟨rfl, hg⟩
  · rename_i j want e
    rw [e]
    split at hg
    · rename_i d hd
      unfold gdW at hg
      split at hg
      · rename_i b hb
        have hs := h.slots d
        rw [hb] at hs
        have hs := rep_bool hs
        have ht : a.tmps[d]? = some (.bool b) := by
          rw [Array.getD_eq_getD_getElem?] at hs
          cases hq : a.tmps[d]? with
          | none => rw [hq] at hs; simp [undef] at hs
          | some v => rw [hq] at hs; simp at hs; rw [hs]
        have hy : yielded ops a.tmps j = some b := by
          unfold yielded
          rw [hd]
          simp [ht]
        by_cases hw : b = want
        · exact .inl ⟨by simp [hy, hw], hg.1 hw⟩
        · exact .inr ⟨by simp [hy, hw], hg.2 hw⟩
      · rename_i hb
        have hs := h.slots d
        rw [hb] at hs
        simp only [RepA, RepAL] at hs
        obtain ⟨cs, hs, rfl⟩ := hs
        have hy : yielded ops a.tmps j = none := by
          unfold yielded
          rw [hd]
          rw [Array.getD_eq_getD_getElem?] at hs
          cases hq : a.tmps[d]? with
          | none => simp [hq]
          | some v => rw [hq] at hs; simp at hs; simp [hq, hs]
        exact .inr ⟨by simp [hy], hg⟩
      · exact hg.elim
    · exact hg.elim

/-- The numbers given when the first i operations of a region are done. -/
def given (n0 i : Nat) : Nat → Prop := fun id => id < num n0 i

theorem regOk_spec {ops : Array Oper} (h : regOk nt ops = true) {i : Nat} {o : Oper} (ho : ops[i]? = some o) : (∀ d, o.dst = some d → d < nt) ∧ ∀ e ∈ o.after, Region.binds .any e = true → e.on < i := by
  unfold regOk at h
  have hm : (o, i) ∈ ops.toList.zipIdx := by
    rw [List.mem_iff_getElem?]
    exact ⟨i, by simp [List.getElem?_zipIdx, ho]⟩
  have := List.all_eq_true.1 h _ hm
  simp only [Bool.and_eq_true] at this
  refine ⟨fun d hd => ?_, fun e he hb => ?_⟩
  · have h1 := this.1; rw [hd] at h1; simpa using h1
  · have h2 := this.2
    rw [Array.all_eq_true'] at h2
    have := h2 e he
    simpa [hb] using this

theorem Rel.nx (h : Rel w0 nA nt M G ι0 A w S ι a) (k : Nat) : Rel w0 nA nt M G ι0 A w (S.nx k) ι a := ⟨h.keep, h.heap, h.slots, h.alloc, h.named, h.loc, h.args, h.new, h.size, h.defers⟩

theorem Rel.skip (h : Rel w0 nA nt M G ι0 A w S ι a) (d : Option Nat) (hd : ∀ x, d = some x → x < nt) : Rel w0 nA nt M G ι0 A w (S.puto d (.tup [])) ι (a.put d undef) :=
  h.put d hd (by simp only [RepA, RepAL]; exact ⟨[], rfl, rfl⟩) (by simp [AV.has, AV.hasL])

theorem opsW_sound {ops : Array Oper} (hreg : regOk nt ops = true) (n0 : Nat) {Q : Exit → Act → World → Prop} {K : St → Prop} : ∀ (os : List Oper) (i : Nat) (S : St) (a : Act) (w : World) (ι : Nat → Loc), ops.toList.drop i = os → i ≤ ops.size →
    Rel w0 nA nt M G ι0 (given n0 i) w S ι a → opsW P sg ops n0 os i S K → (∀ S' a' w' ι', K S' → Rel w0 nA nt M G ι0 (given n0 ops.size) w' S' ι' a' → Q .normal a' w') →
    wpOps P ops Q (List.range' i os.length) a w := by
  intro os
  induction os with
  | nil =>
    intro i S a w ι hd hle h hK hQ
    have hi : ops.size ≤ i := by simpa using hd
    simp only [List.length_nil, List.range'_zero, wpOps]
    obtain rfl : i = ops.size := by omega
    exact hQ S a w ι hK h
  | cons o os ih =>
    intro i S a w ι hd hle h hK hQ
    have ho : ops[i]? = some o := by
      have := congrArg (·[0]?) hd
      simp only [List.getElem?_drop, List.getElem?_cons_zero, Nat.add_zero] at this
      simpa using this
    have hd' : ops.toList.drop (i + 1) = os := by
      have := congrArg (List.drop 1) hd
      simpa [List.drop_drop, Nat.add_comm] using this
    obtain ⟨hdst, _⟩ := regOk_spec hreg ho
    have hle' : i + 1 ≤ ops.size := (Array.getElem?_eq_some_iff.1 ho).1
    have hgi : ∀ id, given n0 i id → given n0 (i + 1) id := fun id hid => by simp only [given, num] at hid ⊢; omega
    have hA : ∀ x, x < 256 → ¬ given n0 i (num n0 i + x) := fun x _ => by simp only [given, num]; omega
    have hpl : ∀ id, plus (given n0 i) (num n0 i) id → given n0 (i + 1) id := fun id hid => by
      simp only [plus, given, num] at hid ⊢; omega
    simp only [List.length_cons, List.range'_succ, wpOps, ho]
    rcases guard_spec h hK with ⟨hw, hK⟩ | ⟨hw, hK⟩
    · rw [hw]
      simp only [if_true]
      refine .inl (opW_does h hdst hA hK _ _ fun r val w' ι' hk hrel => ?_)
      exact ih (i + 1) _ _ _ ι' hd' hle' (hrel.mono hpl) hk hQ
    · rw [hw]
      simp only [Bool.false_eq_true, if_false]
      exact ih (i + 1) _ _ _ ι hd' hle' ((h.skip o.dst hdst).mono hgi) hK hQ

end
end Go.Gl

namespace Go.Gl
open Go

/-- One result; the same wherever the blocks looked at are the same. -/
def Fixes (C : (Nat → Blk) → (R → Prop) → Prop) (h : Nat → Blk) : Prop :=
  ∀ K, C h K → ∃ r, K r ∧ ∀ h', (∀ id ∈ r.rd, h' id = h id) → ∀ K' : R → Prop, K' r → C h' K'

theorem fix_arr {k : Nat} {v : AV} {h : Nat → Blk} : Fixes (fun _ K => arr k v K) h := by
  intro K hK
  unfold arr at hK
  split at hK
  · exact ⟨_, hK, fun h' _ K' hk => hk⟩
  · rename_i hv
    refine ⟨_, hK, fun h' _ K' hk => ?_⟩
    unfold arr
    split
    · exact absurd rfl (hv _)
    · exact hk

theorem fix_pick {k : Nat} {c a b : AV} {h : Nat → Blk} : Fixes (fun _ K => pickW c a b fun v => arr k v K) h := by
  intro K hK
  unfold pickW at hK
  split at hK
  · rename_i t
    split at hK
    · obtain ⟨r, hr, hf⟩ := fix_arr (h := h) K hK
      exact ⟨r, hr, fun h' hh K' hk => by unfold pickW; exact hf h' hh K' hk⟩
    · rename_i hv
      obtain ⟨r, hr, hf⟩ := fix_arr (h := h) K hK
      refine ⟨r, hr, fun h' hh K' hk => ?_⟩
      unfold pickW
      simp only
      first
        | exact hf h' hh K' hk
        | (split
           · exact absurd rfl (hv _ _ rfl)
           · exact hf h' hh K' hk)
  · exact hK.elim

theorem fix_bin {P : Program} {op : BinOp} {t : TypeId} {x y : AV} {h : Nat → Blk} : Fixes (fun _ K => binW P op t x y fun v => K ⟨.p v, [], []⟩) h := by
  intro K hK
  unfold binW at hK
  split at hK
  · split at hK
    all_goals first
      | exact hK.elim
      | exact ⟨_, hK.2.2, fun h' _ K' hk => ⟨hK.1, hK.2.1, hk⟩⟩
      | exact ⟨_, hK.2.2.2, fun h' _ K' hk => ⟨hK.1, hK.2.1, hK.2.2.1, hk⟩⟩
      | exact ⟨_, hK.2, fun h' _ K' hk => ⟨hK.1, hk⟩⟩
      | exact ⟨_, hK.2.2.2.2.2, fun h' _ K' hk => ⟨hK.1, hK.2.1, hK.2.2.1, hK.2.2.2.1, hK.2.2.2.2.1, hk⟩⟩
  · split at hK
    all_goals first
      | exact hK.elim
      | exact ⟨_, hK.2, fun h' _ K' hk => ⟨hK.1, hk⟩⟩
      | exact ⟨_, hK, fun h' _ K' hk => hk⟩
  · split at hK
    all_goals first
      | exact hK.elim
      | exact ⟨_, hK.2, fun h' _ K' hk => ⟨hK.1, hk⟩⟩
  · exact hK.elim

theorem fix_un {op : UnOp} {x : AV} {h : Nat → Blk} : Fixes (fun _ K => unW op x fun v => K ⟨.p v, [], []⟩) h := by
  intro K hK
  unfold unW at hK
  split at hK
  · exact ⟨_, hK, fun h' _ K' hk => hk⟩
  · exact ⟨_, hK.2, fun h' _ K' hk => ⟨hK.1, hk⟩⟩
  · exact hK.elim

/-- The like for a list of plain values. -/
theorem fix_cont {h : Nat → Blk} {v : AV} {K : List PV → List Nat → Prop} (hK : cont h v K) : ∃ xs rd, K xs rd ∧ ∀ h', (∀ id ∈ rd, h' id = h id) → ∀ K' : List PV → List Nat → Prop, K' xs rd → cont h' v K' := by
  unfold cont at hK
  split at hK
  · exact ⟨_, _, hK, fun h' _ K' hk => hk⟩
  · exact ⟨_, _, hK, fun h' _ K' hk => hk⟩
  · split at hK
    · rename_i e; exact ⟨_, _, hK.2, fun h' hh K' hk => by unfold cont; simp only [hh _ (List.mem_singleton.2 rfl), e]; exact ⟨hK.1, hk⟩⟩
    · rename_i e; exact ⟨_, _, hK.2, fun h' hh K' hk => by unfold cont; simp only [hh _ (List.mem_singleton.2 rfl), e]; exact ⟨hK.1, hk⟩⟩
    · exact hK.elim
  · exact hK.elim

theorem fix_pub {h : Nat → Blk} {v : AV} {K : PV → List (Nat × Blk) → List Nat → Prop} (hK : pub h v K) : ∃ x ws rd, K x ws rd ∧ ∀ h', (∀ id ∈ rd, h' id = h id) → ∀ K' : PV → List (Nat × Blk) → List Nat → Prop, K' x ws rd → pub h' v K' := by
  unfold pub at hK
  split at hK
  · exact ⟨_, _, _, hK.2, fun h' _ K' hk => ⟨hK.1, hk⟩⟩
  · split at hK
    · rename_i e; exact ⟨_, _, _, hK.2, fun h' hh K' hk => by unfold pub; simp only [hh _ (List.mem_singleton.2 rfl), e]; exact ⟨hK.1, hk⟩⟩
    · rename_i e; exact ⟨_, _, _, hK.2, fun h' hh K' hk => by unfold pub; simp only [hh _ (List.mem_singleton.2 rfl), e]; exact ⟨hK.1, hk⟩⟩
    · exact hK.elim
  · exact hK.elim

theorem fix_pubs {h : Nat → Blk} : ∀ {vs : List AV} {K : List PV → List (Nat × Blk) → List Nat → Prop}, pubs h vs K → ∃ xs ws rd, K xs ws rd ∧ ∀ h', (∀ id ∈ rd, h' id = h id) → ∀ K' : List PV → List (Nat × Blk) → List Nat → Prop, K' xs ws rd → pubs h' vs K'
  | [], K, hK => ⟨_, _, _, hK, fun h' _ K' hk => hk⟩
  | v :: vs, K, hK => by
    simp only [pubs] at hK
    obtain ⟨x, ws, rd, hK, f1⟩ := fix_pub hK
    obtain ⟨xs, ws', rd', hK, f2⟩ := fix_pubs hK
    refine ⟨_, _, _, hK, fun h' hh K' hk => ?_⟩
    simp only [pubs]
    exact f1 h' (fun id hid => hh id (by simp [hid])) _ (f2 h' (fun id hid => hh id (by simp [hid])) _ hk)

theorem fix_pur1 {h : Nat → Blk} {v : AV} {K : PV → List Nat → Prop} (hK : pur1 h v K) : ∃ x rd, K x rd ∧ ∀ h', (∀ id ∈ rd, h' id = h id) → ∀ K' : PV → List Nat → Prop, K' x rd → pur1 h' v K' := by
  unfold pur1 at hK
  split at hK
  · exact ⟨_, _, hK, fun h' _ K' hk => hk⟩
  · split at hK
    · rename_i e; exact ⟨_, _, hK.2, fun h' hh K' hk => by unfold pur1; simp only [hh _ (List.mem_singleton.2 rfl), e]; exact ⟨hK.1, hk⟩⟩
    · rename_i e; exact ⟨_, _, hK.2, fun h' hh K' hk => by unfold pur1; simp only [hh _ (List.mem_singleton.2 rfl), e]; exact ⟨hK.1, hk⟩⟩
    · exact hK.elim
  · split at hK
    · rename_i e; exact ⟨_, _, hK, fun h' hh K' hk => by unfold pur1; simp only [hh _ (List.mem_singleton.2 rfl), e]; exact hk⟩
    · rename_i e; exact ⟨_, _, hK, fun h' hh K' hk => by unfold pur1; simp only [hh _ (List.mem_singleton.2 rfl), e]; exact hk⟩
    · exact hK.elim
  · exact hK.elim

theorem fix_purs1 {h : Nat → Blk} : ∀ {vs : List AV} {K : List PV → List Nat → Prop}, purs1 h vs K → ∃ xs rd, K xs rd ∧ ∀ h', (∀ id ∈ rd, h' id = h id) → ∀ K' : List PV → List Nat → Prop, K' xs rd → purs1 h' vs K'
  | [], K, hK => ⟨_, _, hK, fun h' _ K' hk => hk⟩
  | v :: vs, K, hK => by
    simp only [purs1] at hK
    obtain ⟨x, rd, hK, f1⟩ := fix_pur1 hK
    obtain ⟨xs, rd', hK, f2⟩ := fix_purs1 hK
    refine ⟨_, _, hK, fun h' hh K' hk => ?_⟩
    simp only [purs1]
    exact f1 h' (fun id hid => hh id (by simp [hid])) _ (f2 h' (fun id hid => hh id (by simp [hid])) _ hk)

theorem fix_pur {h : Nat → Blk} {v : AV} {K : PV → List Nat → Prop} (hK : pur h v K) : ∃ x rd, K x rd ∧ ∀ h', (∀ id ∈ rd, h' id = h id) → ∀ K' : PV → List Nat → Prop, K' x rd → pur h' v K' := by
  unfold pur at hK
  split at hK
  · obtain ⟨xs, rd, hK, f⟩ := fix_purs1 hK
    exact ⟨_, _, hK, fun h' hh K' hk => by unfold pur; exact f h' hh _ hk⟩
  · obtain ⟨xs, rd, hK, f⟩ := fix_purs1 hK
    obtain ⟨ys, rd', hK, f'⟩ := fix_purs1 hK
    exact ⟨_, _, hK, fun h' hh K' hk => by unfold pur; exact f h' (fun id hid => hh id (by simp [hid])) _ (f' h' (fun id hid => hh id (by simp [hid])) _ hk)⟩
  · rename_i h1 h2
    obtain ⟨x, rd, hK, f⟩ := fix_pur1 hK
    refine ⟨_, _, hK, fun h' hh K' hk => ?_⟩
    unfold pur
    split
    · exact absurd rfl (h1 _)
    · exact absurd rfl (h2 _ _ _)
    · exact f h' hh _ hk

theorem fix_pass {h : Nat → Blk} : ∀ {vs : List AV} {sg : List Bool} {K : List Arg → List Nat → List (Option Nat) → Prop}, pass h sg vs K →
    ∃ as rd ms, K as rd ms ∧ ∀ h', (∀ i ∈ ms.filterMap id ++ rd, h' i = h i) → ∀ K' : List Arg → List Nat → List (Option Nat) → Prop, K' as rd ms → pass h' sg vs K' := by
  intro vs
  induction vs with
  | nil =>
    intro sg K hK
    have e : ∀ (h : Nat → Blk) (K : List Arg → List Nat → List (Option Nat) → Prop), pass h sg [] K = K [] [] [] := by
      intro h K; cases sg with
      | nil => rfl
      | cons b sg => cases b <;> rfl
    rw [e] at hK
    exact ⟨_, _, _, hK, fun h' _ K' hk => by rw [e]; exact hk⟩
  | cons v vs ih =>
    intro sg K hK
    have plain : ∀ (sg' : List Bool), (∀ (h : Nat → Blk) (K : List Arg → List Nat → List (Option Nat) → Prop), pass h sg (v :: vs) K = pur h v fun x rd => pass h sg' vs fun as rd' ms => K (.pv x :: as) (rd ++ rd') (none :: ms)) →
        ∃ as rd ms, K as rd ms ∧ ∀ h', (∀ i ∈ ms.filterMap id ++ rd, h' i = h i) → ∀ K' : List Arg → List Nat → List (Option Nat) → Prop, K' as rd ms → pass h' sg (v :: vs) K' := by
      intro sg' e
      rw [e] at hK
      obtain ⟨x, rd, hK, f1⟩ := fix_pur hK
      obtain ⟨as, rd', ms, hK, f2⟩ := ih hK
      refine ⟨_, _, _, hK, fun h' hh K' hk => ?_⟩
      rw [e]
      refine f1 h' (fun id hid => hh id (by simp [hid])) _ (f2 h' (fun id hid => hh id ?_) _ hk)
      rcases List.mem_append.1 hid with hid | hid
      · exact List.mem_append.2 (.inl (by simpa using hid))
      · exact List.mem_append.2 (.inr (List.mem_append.2 (.inr hid)))
    cases sg with
    | nil => exact plain [] fun _ _ => rfl
    | cons b sg =>
      cases b with
      | false => exact plain sg fun _ _ => rfl
      | true =>
        simp only [pass] at hK
        split at hK
        · rename_i id len
          split at hK
          · rename_i e
            obtain ⟨hl, hK⟩ := hK
            obtain ⟨as, rd, ms, hK, f⟩ := ih hK
            refine ⟨_, _, _, hK, fun h' hh K' hk => ?_⟩
            simp only [pass, hh id (by simp), e]
            exact ⟨hl, f h' (fun i hi => hh i (by
              rcases List.mem_append.1 hi with hi | hi
              · exact List.mem_append.2 (.inl (by simp at hi; simp [hi]))
              · exact List.mem_append.2 (.inr hi))) _ hk⟩
          · exact hK.elim
        · rename_i id
          split at hK
          · rename_i e
            obtain ⟨as, rd, ms, hK, f⟩ := ih hK
            refine ⟨_, _, _, hK, fun h' hh K' hk => ?_⟩
            simp only [pass, hh id (by simp), e]
            exact f h' (fun i hi => hh i (by
              rcases List.mem_append.1 hi with hi | hi
              · exact List.mem_append.2 (.inl (by simp at hi; simp [hi]))
              · exact List.mem_append.2 (.inr hi))) _ hk
          · exact hK.elim
        · exact hK.elim

theorem fix_conv {P : Program} {src dst : TypeId} {k : Nat} {x : AV} {h : Nat → Blk} : Fixes (fun h K => convW P src dst k h x K) h := by
  intro K hK
  unfold convW at hK
  split at hK
  · split at hK
    · rename_i e
      exact ⟨_, hK.2.2, fun h' _ K' hk => by unfold convW; simp only [e]; exact ⟨hK.1, hK.2.1, hk⟩⟩
    · exact hK.elim
  · obtain ⟨h1, hK⟩ := hK
    split at hK
    · rename_i e
      exact ⟨_, hK, fun h' _ K' hk => by unfold convW; simp only [e, if_true]; exact ⟨h1, hk⟩⟩
    · rename_i e
      exact ⟨_, hK.2.2.2, fun h' _ K' hk => by unfold convW; simp only [e]; exact ⟨h1, hK.1, hK.2.1, hK.2.2.1, hk⟩⟩
  · rename_i e1 e2
    obtain ⟨h1, h2, h3, hK⟩ := hK
    obtain ⟨xs, rd, ⟨s, hs, hK⟩, f⟩ := fix_cont hK
    refine ⟨_, hK, fun h' hh K' hk => ?_⟩
    unfold convW
    split
    · exact absurd rfl (e1 _ _)
    · exact absurd rfl (e2 _)
    · exact ⟨h1, h2, h3, f h' hh _ ⟨s, hs, hk⟩⟩

theorem fix_make {P : Program} {t : TypeId} {k : Nat} {l c : AV} {h : Nat → Blk} : Fixes (fun _ K => makeW P t k l c K) h := by
  intro K hK
  unfold makeW at hK
  split at hK
  · obtain ⟨h1, h2, h3, hK⟩ := hK
    split at hK
    · rename_i e
      exact ⟨_, hK.2, fun h' _ K' hk => by unfold makeW; simp only [e]; exact ⟨h1, h2, h3, hK.1, hk⟩⟩
    · exact hK.elim
  · exact hK.elim

theorem fix_buildSlice {P : Program} {t : TypeId} {n : Nat} {parts : Array (Nat × Operand)} {k : Nat} {ρ : Operand → AV} {h : Nat → Blk} : Fixes (fun h K => buildSliceW P t n parts k ρ h K) h := by
  rintro K ⟨h1, h2, h3, hK⟩
  obtain ⟨xs, ws, rd, hK, f⟩ := fix_pubs hK
  exact ⟨_, hK, fun h' hh K' hk => ⟨h1, h2, h3, f h' hh _ hk⟩⟩

theorem fix_bnd {ρ : Operand → AV} {x : Option Operand} {d : Nat} {K : Int → Prop} (hK : bnd ρ x d K) : ∃ i, K i ∧ ∀ K' : Int → Prop, K' i → bnd ρ x d K' := by
  unfold bnd at hK
  split at hK
  · exact ⟨_, hK, fun K' hk => hk⟩
  · split at hK
    · rename_i e; exact ⟨_, hK, fun K' hk => by unfold bnd; simp only [e]; exact hk⟩
    · exact hK.elim

theorem fix_slice {P : Program} {t : TypeId} {x : AV} {lo hi mx : Option Operand} {k : Nat} {ρ : Operand → AV} {h : Nat → Blk} : Fixes (fun _ K => sliceW P t x lo hi mx k ρ K) h := by
  intro K hK
  unfold sliceW at hK
  split at hK
  · obtain ⟨h1, h2, hK⟩ := hK
    obtain ⟨i, hK, f1⟩ := fix_bnd hK
    obtain ⟨j, hK, f2⟩ := fix_bnd hK
    exact ⟨_, hK.2.2.2, fun h' _ K' hk => by unfold sliceW; exact ⟨h1, h2, f1 _ (f2 _ ⟨hK.1, hK.2.1, hK.2.2.1, hk⟩)⟩⟩
  · obtain ⟨h1, hK⟩ := hK
    split at hK
    · obtain ⟨i, hK, f1⟩ := fix_bnd hK
      obtain ⟨j, hK, f2⟩ := fix_bnd hK
      exact ⟨_, hK.2.2.2, fun h' _ K' hk => by unfold sliceW; exact ⟨h1, f1 _ (f2 _ ⟨hK.1, hK.2.1, hK.2.2.1, hk⟩)⟩⟩
    · obtain ⟨h2, hK⟩ := hK
      obtain ⟨i, hK, f1⟩ := fix_bnd hK
      obtain ⟨j, hK, f2⟩ := fix_bnd hK
      obtain ⟨l, hK, f3⟩ := fix_bnd hK
      exact ⟨_, hK.2.2.2, fun h' _ K' hk => by unfold sliceW; exact ⟨h1, h2, f1 _ (f2 _ (f3 _ ⟨hK.1, hK.2.1, hK.2.2.1, hk⟩))⟩⟩
  · obtain ⟨h1, hK⟩ := hK
    split at hK
    · obtain ⟨i, hK, f1⟩ := fix_bnd hK
      obtain ⟨j, hK, f2⟩ := fix_bnd hK
      exact ⟨_, hK.2.2.2, fun h' _ K' hk => by unfold sliceW; exact ⟨h1, f1 _ (f2 _ ⟨hK.1, hK.2.1, hK.2.2.1, hk⟩)⟩⟩
    · obtain ⟨h2, hK⟩ := hK
      obtain ⟨i, hK, f1⟩ := fix_bnd hK
      obtain ⟨j, hK, f2⟩ := fix_bnd hK
      obtain ⟨l, hK, f3⟩ := fix_bnd hK
      exact ⟨_, hK.2.2.2, fun h' _ K' hk => by unfold sliceW; exact ⟨h1, h2, f1 _ (f2 _ (f3 _ ⟨hK.1, hK.2.1, hK.2.2.1, hk⟩))⟩⟩
  · exact hK.elim

theorem fix_gt {α : Type} {xs : List α} {i : Int} {K : α → Prop} (hK : gt xs i K) : ∃ x, K x ∧ ∀ K' : α → Prop, K' x → gt xs i K' := by
  obtain ⟨h0, hK⟩ := hK
  split at hK
  · rename_i x e
    exact ⟨x, hK, fun K' hk => ⟨h0, by simp only [e]; exact hk⟩⟩
  · exact hK.elim

theorem fix_indexAddr {P : Program} {t : TypeId} {x i : AV} {h : Nat → Blk} : Fixes (fun _ K => indexAddrW P t x i fun v => K ⟨v, [], []⟩) h := by
  intro K hK
  unfold indexAddrW at hK
  split at hK
  · split at hK
    · obtain ⟨h1, hK⟩ := hK
      obtain ⟨y, hK, f⟩ := fix_gt hK
      exact ⟨_, hK, fun h' _ K' hk => by unfold indexAddrW; exact ⟨h1, f _ hk⟩⟩
    · exact ⟨_, hK.2.2.2, fun h' _ K' hk => by unfold indexAddrW; exact ⟨hK.1, hK.2.1, hK.2.2.1, hk⟩⟩
    · split at hK
      · rename_i e
        exact ⟨_, hK.2.2, fun h' _ K' hk => by unfold indexAddrW; simp only [e]; exact ⟨hK.1, hK.2.1, hk⟩⟩
      · exact hK.elim
    · exact hK.elim
  · exact hK.elim

theorem fix_index {P : Program} {t : TypeId} {x i : AV} {h : Nat → Blk} : Fixes (fun _ K => indexW P t x i fun v => K ⟨v, [], []⟩) h := by
  intro K hK
  unfold indexW at hK
  split at hK
  · split at hK
    · obtain ⟨h1, hK⟩ := hK
      obtain ⟨y, hK, f⟩ := fix_gt hK
      exact ⟨_, hK, fun h' _ K' hk => by unfold indexW; exact ⟨h1, f _ hk⟩⟩
    · exact hK.elim
  · exact hK.elim

theorem fix_load {P : Program} {t : TypeId} {a : AV} {h : Nat → Blk} : Fixes (fun h K => loadW P t h a K) h := by
  intro K hK
  unfold loadW at hK
  split at hK
  · rename_i et
    obtain ⟨h1, hK⟩ := hK
    split at hK
    · exact ⟨_, hK, fun h' _ K' hk => by unfold loadW; simp only [et]; exact ⟨h1, hk⟩⟩
    · split at hK
      · rename_i e
        obtain ⟨y, hK, f⟩ := fix_gt hK
        exact ⟨_, hK, fun h' hh K' hk => by unfold loadW; simp only [et, hh _ (List.mem_singleton.2 rfl), e]; exact ⟨h1, f _ hk⟩⟩
      · rename_i e
        obtain ⟨y, hK, f⟩ := fix_gt hK
        exact ⟨_, hK, fun h' hh K' hk => by unfold loadW; simp only [et, hh _ (List.mem_singleton.2 rfl), e]; exact ⟨h1, f _ hk⟩⟩
      · exact hK.elim
    · exact hK.elim
  · rename_i et
    split at hK
    · exact ⟨_, hK.2, fun h' _ K' hk => by unfold loadW; simp only [et]; exact ⟨hK.1, hk⟩⟩
    · split at hK
      · rename_i e
        exact ⟨_, hK.2, fun h' hh K' hk => by unfold loadW; simp only [et, hh _ (List.mem_singleton.2 rfl), e]; exact ⟨hK.1, hk⟩⟩
      · rename_i e
        exact ⟨_, hK.2, fun h' hh K' hk => by unfold loadW; simp only [et, hh _ (List.mem_singleton.2 rfl), e]; exact ⟨hK.1, hk⟩⟩
      · exact hK.elim
    · exact hK.elim
  · exact hK.elim

theorem fix_cells {h : Nat → Blk} {v : AV} {K : List PV → List (Nat × Blk) → List Nat → Prop} (hK : cellsW h v K) : ∃ xs ws rd, K xs ws rd ∧ ∀ h', (∀ id ∈ rd, h' id = h id) → ∀ K' : List PV → List (Nat × Blk) → List Nat → Prop, K' xs ws rd → cellsW h' v K' := by
  unfold cellsW at hK
  split at hK
  · exact ⟨_, _, _, hK.2, fun h' _ K' hk => ⟨hK.1, hk⟩⟩
  · obtain ⟨xs, ws, rd, hK, f⟩ := fix_pubs hK
    exact ⟨_, _, _, hK, fun h' hh K' hk => by unfold cellsW; exact f h' hh _ hk⟩
  · rename_i e1 e2
    obtain ⟨x, ws, rd, hK, f⟩ := fix_pub hK
    refine ⟨_, _, _, hK, fun h' hh K' hk => ?_⟩
    unfold cellsW
    split
    · exact absurd rfl (e1 _)
    · exact absurd rfl (e2 _)
    · exact f h' hh _ hk

theorem fix_store {P : Program} {t : TypeId} {a v : AV} {h : Nat → Blk} : Fixes (fun h K => storeW P t h a v K) h := by
  intro K hK
  unfold storeW at hK
  split at hK
  · rename_i et
    split at hK
    · split at hK
      · rename_i e
        obtain ⟨xs, ws, rd, ⟨h1, h2, h3, hK⟩, f⟩ := fix_cells hK
        refine ⟨_, hK, fun h' hh K' hk => ?_⟩
        unfold storeW
        simp only [et, hh _ (List.mem_cons_self ..), e]
        exact f h' (fun id hid => hh id (List.mem_cons_of_mem _ hid)) _ ⟨h1, h2, h3, hk⟩
      · exact hK.elim
    · exact hK.elim
  · exact hK.elim

theorem fix_alloc {P : Program} {t : TypeId} {k : Nat} {h : Nat → Blk} : Fixes (fun _ K => allocW P t k K) h := by
  intro K hK
  unfold allocW at hK
  split at hK
  · rename_i e
    exact ⟨_, hK.2.2.2, fun h' _ K' hk => by unfold allocW; simp only [e]; exact ⟨hK.1, hK.2.1, hK.2.2.1, hk⟩⟩
  · exact hK.elim

theorem fix_box {k : Nat} {v : AV} {h : Nat → Blk} : Fixes (fun h K => boxW h k v K) h := by
  intro K hK
  obtain ⟨xs, ws, rd, ⟨h1, h2, hK⟩, f⟩ := fix_cells hK
  exact ⟨_, hK, fun h' hh K' hk => f h' hh _ ⟨h1, h2, hk⟩⟩

theorem fix_nth {xs : List AV} {i : Nat} {K : AV → Prop} (hK : AV.nth xs i K) : ∃ x, K x ∧ ∀ K' : AV → Prop, K' x → AV.nth xs i K' := by
  unfold AV.nth at hK
  split at hK
  · rename_i x e
    exact ⟨x, hK, fun K' hk => by unfold AV.nth; simp only [e]; exact hk⟩
  · exact hK.elim

theorem fix_field {P : Program} {t : TypeId} {f : Nat} {v : AV} {k : Nat} {h : Nat → Blk} : Fixes (fun _ K => fieldW P t f v fun v => arr k v K) h := by
  intro K hK
  unfold fieldW at hK
  split at hK
  · rename_i et
    split at hK
    · obtain ⟨y, hK, g⟩ := fix_gt hK
      obtain ⟨r, hr, f⟩ := fix_arr (h := h) K hK
      exact ⟨r, hr, fun h' hh K' hk => by unfold fieldW; simp only [et]; exact g _ (f h' hh K' hk)⟩
    · obtain ⟨y, hK, g⟩ := fix_nth hK
      obtain ⟨r, hr, f⟩ := fix_arr (h := h) K hK
      exact ⟨r, hr, fun h' hh K' hk => by unfold fieldW; simp only [et]; exact g _ (f h' hh K' hk)⟩
    · exact hK.elim
  · exact hK.elim

theorem fix_fieldAddr {P : Program} {t : TypeId} {f : Nat} {a : AV} {h : Nat → Blk} : Fixes (fun _ K => fieldAddrW P t f a fun v => K ⟨v, [], []⟩) h := by
  intro K hK
  unfold fieldAddrW at hK
  split at hK
  · rename_i et
    obtain ⟨h1, hK⟩ := hK
    split at hK
    · exact ⟨_, hK, fun h' _ K' hk => by unfold fieldAddrW; simp only [et]; exact ⟨h1, hk⟩⟩
    · exact ⟨_, hK, fun h' _ K' hk => by unfold fieldAddrW; simp only [et]; exact ⟨h1, hk⟩⟩
    · exact hK.elim
  · exact hK.elim

theorem fix_fill {places : List Nat} : ∀ {parts : List (Nat × AV)} {cells : List AV} {K : List AV → Prop}, fillW places cells parts K → ∃ cs, K cs ∧ ∀ K' : List AV → Prop, K' cs → fillW places cells parts K'
  | [], cells, K, hK => ⟨cells, hK, fun K' hk => hk⟩
  | (i, v) :: rest, cells, K, hK => by
    simp only [fillW] at hK
    split at hK
    · rename_i o e
      obtain ⟨h1, h2, hK⟩ := hK
      obtain ⟨cs, hK, f⟩ := fix_fill hK
      exact ⟨cs, hK, fun K' hk => by simp only [fillW, e]; exact ⟨h1, h2, f _ hk⟩⟩
    · exact hK.elim

theorem fix_build {P : Program} {t : TypeId} {parts : List (Nat × AV)} {h : Nat → Blk} : Fixes (fun _ K => buildW P t parts fun v => K ⟨v, [], []⟩) h := by
  intro K hK
  unfold buildW at hK
  split at hK
  · rename_i e1 e2
    obtain ⟨cs, hK, f⟩ := fix_fill hK
    exact ⟨_, hK, fun h' _ K' hk => by unfold buildW; simp only [e1, e2]; exact f _ hk⟩
  · exact hK.elim

theorem fix_append {P : Program} {t t' : TypeId} {k : Nat} {s x : AV} {h : Nat → Blk} : Fixes (fun h K => appendW P t t' h k s x K) h := by
  rintro K ⟨h1, h2, hK⟩
  obtain ⟨ys, rd, hK, f⟩ := fix_cont hK
  split at hK
  · rename_i id off len _
    split at hK
    · rename_i m c e
      obtain ⟨h3, h4, hK⟩ := hK
      have done : ∀ r : R, id ∈ r.rd → (∀ i ∈ rd, i ∈ r.rd) → K r → (∀ K' : R → Prop, K' r → (if off + len = c.length then K' ⟨.ref k 0 (len + ys.length), [(id, .dead), (k, .live m (c.drop off ++ ys))], id :: rd⟩
          else if off + len + ys.length ≤ c.length then K' ⟨.ref k off (len + ys.length), [(id, .dead), (k, .live m (c.take (off + len) ++ ys ++ c.drop (off + len + ys.length)))], id :: rd⟩
          else K' ⟨.ref k 0 (len + ys.length), [(id, .dead), (k, .live m ((c.drop off).take len ++ ys))], id :: rd⟩)) →
          ∃ r, K r ∧ ∀ h', (∀ i ∈ r.rd, h' i = h i) → ∀ K' : R → Prop, K' r → appendW P t t' h' k (.ref id off len) x K' := by
        intro r hi hrd hr hk
        refine ⟨r, hr, fun h' hh K' hk' => ⟨h1, h2, f h' (fun i hi => hh i (hrd i hi)) _ ?_⟩⟩
        simp only [hh id hi, e]
        exact ⟨h3, h4, hk K' hk'⟩
      by_cases c1 : off + len = c.length
      · rw [if_pos c1] at hK
        exact done _ (by simp) (fun i hi => by simp [hi]) hK fun K' hk => by rw [if_pos c1]; exact hk
      · rw [if_neg c1] at hK
        by_cases c2 : off + len + ys.length ≤ c.length
        · rw [if_pos c2] at hK
          exact done _ (by simp) (fun i hi => by simp [hi]) hK fun K' hk => by rw [if_neg c1, if_pos c2]; exact hk
        · rw [if_neg c2] at hK
          exact done _ (by simp) (fun i hi => by simp [hi]) hK fun K' hk => by rw [if_neg c1, if_neg c2]; exact hk
    · exact hK.elim
  · exact ⟨_, hK.2, fun h' hh K' hk => ⟨h1, h2, f h' hh _ ⟨hK.1, hk⟩⟩⟩
  · exact hK.elim

theorem fix_mm {b : Bool} {x y : AV} {h : Nat → Blk} : Fixes (fun _ K => mmW b x y fun v => K ⟨v, [], []⟩) h := by
  intro K hK
  unfold mmW at hK
  split at hK
  · exact ⟨_, hK.2, fun h' _ K' hk => ⟨hK.1, hk⟩⟩
  · exact hK.elim

theorem fix_len {P : Program} {t : TypeId} {x : AV} {h : Nat → Blk} : Fixes (fun _ K => lenW P t x fun v => K ⟨v, [], []⟩) h := by
  intro K hK
  unfold lenW at hK
  split at hK
  · exact ⟨_, hK.2, fun h' _ K' hk => ⟨hK.1, hk⟩⟩
  · exact ⟨_, hK.2, fun h' _ K' hk => ⟨hK.1, hk⟩⟩
  · exact ⟨_, hK.2, fun h' _ K' hk => ⟨hK.1, hk⟩⟩
  · exact hK.elim

theorem outWs_congr {h h' : Nat → Blk} {outs : List (Option (List PV))} : ∀ {ms : List (Option Nat)} {j : Nat}, (∀ i ∈ ms.filterMap id, h' i = h i) → outWs h' outs j ms = outWs h outs j ms
  | [], _, _ => rfl
  | none :: ms, j, hh => by simp only [outWs]; exact outWs_congr (by simpa using hh)
  | some i :: ms, j, hh => by
    simp only [outWs]
    rw [hh i (by simp), outWs_congr fun j hid => hh j (by simp at hid ⊢; exact .inr hid)]

theorem fix_call {P : Program} {sg : FuncId → List Bool} {k : Nat} {f : FuncId} {vs : List AV} {h : Nat → Blk} : Fixes (fun h K => callW P sg h k f vs K) h := by
  intro K hK
  obtain ⟨as, rd, ms, ⟨h1, tk, outs, res, h2, hK⟩, g⟩ := fix_pass hK
  refine ⟨_, hK, fun h' hh K' hk => g h' hh _ ⟨h1, tk, outs, res, h2, ?_⟩⟩
  rw [outWs_congr fun i hid => hh i (List.mem_append.2 (.inl hid))]
  exact hk

theorem opB_fix {P : Program} {sg : FuncId → List Bool} {ρ : Operand → AV} {k : Nat} {op : Op} {h : Nat → Blk} : Fixes (fun h K => opB P sg ρ h k op K) h := by
  intro K hK
  unfold opB at hK
  split at hK
  · obtain ⟨r, hr, f⟩ := fix_arr (h := h) K hK; exact ⟨r, hr, f⟩
  · obtain ⟨r, hr, f⟩ := fix_arr (h := h) K hK; exact ⟨r, hr, f⟩
  · obtain ⟨r, hr, f⟩ := fix_pick (h := h) K hK; exact ⟨r, hr, f⟩
  · obtain ⟨r, hr, f⟩ := fix_bin (h := h) K hK; exact ⟨r, hr, f⟩
  · obtain ⟨r, hr, f⟩ := fix_un (h := h) K hK; exact ⟨r, hr, f⟩
  · obtain ⟨r, hr, f⟩ := fix_conv (h := h) K hK; exact ⟨r, hr, f⟩
  · obtain ⟨r, hr, f⟩ := fix_make (h := h) K hK; exact ⟨r, hr, f⟩
  · obtain ⟨r, hr, f⟩ := fix_buildSlice (h := h) K hK; exact ⟨r, hr, f⟩
  · obtain ⟨r, hr, f⟩ := fix_slice (h := h) K hK; exact ⟨r, hr, f⟩
  · obtain ⟨r, hr, f⟩ := fix_indexAddr (h := h) K hK; exact ⟨r, hr, f⟩
  · obtain ⟨r, hr, f⟩ := fix_index (h := h) K hK; exact ⟨r, hr, f⟩
  · obtain ⟨r, hr, f⟩ := fix_load (h := h) K hK; exact ⟨r, hr, f⟩
  · obtain ⟨r, hr, f⟩ := fix_store (h := h) K hK; exact ⟨r, hr, f⟩
  · obtain ⟨r, hr, f⟩ := fix_alloc (h := h) K hK; exact ⟨r, hr, f⟩
  · obtain ⟨r, hr, f⟩ := fix_box (h := h) K hK; exact ⟨r, hr, f⟩
  · obtain ⟨r, hr, f⟩ := fix_build (h := h) K hK; exact ⟨r, hr, f⟩
  · obtain ⟨r, hr, f⟩ := fix_field (h := h) K hK; exact ⟨r, hr, f⟩
  · obtain ⟨r, hr, f⟩ := fix_fieldAddr (h := h) K hK; exact ⟨r, hr, f⟩
  · split at hK
    · rename_i e
      obtain ⟨y, hK, g⟩ := fix_nth hK
      obtain ⟨r, hr, f⟩ := fix_arr (h := h) K hK
      exact ⟨r, hr, fun h' hh K' hk => by simp only [opB, e]; exact g _ (f h' hh K' hk)⟩
    · exact hK.elim
  · split at hK
    · rename_i e; exact ⟨_, hK, fun h' _ K' hk => by simp only [opB, e]; exact hk⟩
    · rename_i e; exact ⟨_, hK, fun h' _ K' hk => by simp only [opB, e]; exact hk⟩
    · rename_i e; exact ⟨_, hK, fun h' _ K' hk => by simp only [opB, e]; exact hk⟩
    · rename_i e; exact ⟨_, hK, fun h' _ K' hk => by simp only [opB, e]; exact hk⟩
    · exact hK.elim
  · exact ⟨_, hK, fun h' _ K' hk => hk⟩
  · obtain ⟨r, hr, f⟩ := fix_len (h := h) K hK; exact ⟨r, hr, f⟩
  · obtain ⟨r, hr, f⟩ := fix_append (h := h) K hK; exact ⟨r, hr, f⟩
  · obtain ⟨r, hr, f⟩ := fix_mm (h := h) K hK; exact ⟨r, hr, f⟩
  · obtain ⟨r, hr, f⟩ := fix_mm (h := h) K hK; exact ⟨r, hr, f⟩
  · split at hK
    · rename_i e
      obtain ⟨r, hr, f⟩ := fix_call (h := h) K hK
      exact ⟨r, hr, fun h' hh K' hk => by simp only [opB, e]; exact f h' hh K' hk⟩
    · rename_i e
      obtain ⟨r, hr, f⟩ := fix_call (h := h) K hK
      exact ⟨r, hr, fun h' hh K' hk => by simp only [opB, e]; exact f h' hh K' hk⟩
    · exact hK.elim
  · exact hK.elim

theorem fix_binX {op : BinOp} {x y : AV} {h : Nat → Blk} : Fixes (fun _ K => binX op x y fun v => K ⟨.p v, [], []⟩) h := by
  intro K hK
  unfold binX at hK
  split at hK
  · split at hK
    · exact ⟨_, hK.2, fun h' _ K' hk => by unfold binX; exact ⟨hK.1, hk⟩⟩
    · exact ⟨_, hK.2, fun h' _ K' hk => by unfold binX; exact ⟨hK.1, hk⟩⟩
    · exact ⟨_, hK.2, fun h' _ K' hk => by unfold binX; exact ⟨hK.1, hk⟩⟩
    · exact hK.elim
  · exact hK.elim
theorem fix_sliceX {P : Program} {t : TypeId} {x : AV} {lo hi mx : Option Operand} {ρ : Operand → AV} {h : Nat → Blk} : Fixes (fun h K => sliceX P t x lo hi mx h ρ K) h := by
  intro K hK
  simp only [sliceX] at hK
  split at hK
  · rename_i id off len
    split at hK
    · rename_i m c e
      obtain ⟨h1, h2, hK⟩ := hK
      split at hK
      · obtain ⟨i, hK, f1⟩ := fix_bnd hK
        obtain ⟨j, hK, f2⟩ := fix_bnd hK
        refine ⟨_, hK.2.2.2, fun h' hh K' hk => ?_⟩
        have e' : h' id = .live m c := by rw [hh id (by simp)]; exact e
        simp only [sliceX, e']
        exact ⟨h1, h2, f1 _ (f2 _ ⟨hK.1, hK.2.1, hK.2.2.1, hk⟩)⟩
      · obtain ⟨h3, hK⟩ := hK
        obtain ⟨i, hK, f1⟩ := fix_bnd hK
        obtain ⟨j, hK, f2⟩ := fix_bnd hK
        obtain ⟨l, hK, f3⟩ := fix_bnd hK
        refine ⟨_, hK.2.2.2.2, fun h' hh K' hk => ?_⟩
        have e' : h' id = .live m c := by rw [hh id (by simp)]; exact e
        simp only [sliceX, e']
        exact ⟨h1, h2, h3, f1 _ (f2 _ (f3 _ ⟨hK.1, hK.2.1, hK.2.2.1, hK.2.2.2.1, hk⟩))⟩
    · exact hK.elim
  · exact hK.elim
theorem fix_clear {P : Program} {t : TypeId} {x : AV} {h : Nat → Blk} : Fixes (fun h K => clearW P t h x K) h := by
  intro K hK
  simp only [clearW] at hK
  split at hK
  · rename_i id off len
    split at hK
    · rename_i n z m c e1 e
      refine ⟨_, hK.2.2, fun h' hh K' hk => ?_⟩
      have e' : h' id = .live m c := by rw [hh id (by simp)]; exact e
      simp only [clearW, e1, e']
      exact ⟨hK.1, hK.2.1, hk⟩
    · exact hK.elim
  · exact hK.elim
theorem opW_fix {P : Program} {sg : FuncId → List Bool} {ρ : Operand → AV} {k : Nat} {op : Op} {h : Nat → Blk} : Fixes (fun h K => opW P sg ρ h k op K) h := by
  intro K hK
  unfold opW at hK
  split at hK
  · rename_i hx
    have back : ∀ h' K', opE P ρ h' op K' → opW P sg ρ h' k op K' := fun h' K' hk => by unfold opW; rw [if_pos hx]; exact hk
    unfold opE at hK
    split at hK
    · obtain ⟨r, hr, f⟩ := fix_binX (h := h) K hK; exact ⟨r, hr, fun h' hh K' hk => back h' K' (f h' hh K' hk)⟩
    · obtain ⟨r, hr, f⟩ := fix_sliceX (h := h) K hK; exact ⟨r, hr, fun h' hh K' hk => back h' K' (f h' hh K' hk)⟩
    · obtain ⟨r, hr, f⟩ := fix_clear (h := h) K hK; exact ⟨r, hr, fun h' hh K' hk => back h' K' (f h' hh K' hk)⟩
    · exact hK.elim
  · rename_i hx
    obtain ⟨r, hr, f⟩ := opB_fix (h := h) K hK
    exact ⟨r, hr, fun h' hh K' hk => by show opW P sg ρ h' k op K'; unfold opW; rw [if_neg hx]; exact f h' hh K' hk⟩

theorem opW_mono {P : Program} {sg : FuncId → List Bool} {ρ : Operand → AV} {k : Nat} {op : Op} {h : Nat → Blk} {K K' : R → Prop} (hK : opW P sg ρ h k op K) (hh : ∀ r, K r → K' r) : opW P sg ρ h k op K' := by
  obtain ⟨r, hr, f⟩ := opW_fix K hK
  exact f h (fun _ _ => rfl) K' (hh r hr)

end Go.Gl

namespace Go.Gl
open Go

theorem fillW_congr {places : List Nat} : ∀ {l : List (Nat × Operand)} {cells : List AV} {ρ ρ' : Operand → AV} {K : List AV → Prop}, (∀ x ∈ l.map (·.2), ρ x = ρ' x) → fillW places cells (l.map fun p => (p.1, ρ p.2)) K → fillW places cells (l.map fun p => (p.1, ρ' p.2)) K := by
  intro l cells ρ ρ' K h hK
  have e : (l.map fun p => (p.1, ρ p.2)) = l.map fun p => (p.1, ρ' p.2) := List.map_congr_left fun p hp => by rw [h p.2 (List.mem_map.2 ⟨p, hp, rfl⟩)]
  rw [← e]; exact hK

theorem bnd_congr {ρ ρ' : Operand → AV} {x : Option Operand} {d : Nat} (h : ∀ y, x = some y → ρ y = ρ' y) : bnd ρ x d = bnd ρ' x d := by
  funext K
  cases x with
  | none => rfl
  | some y => simp only [bnd, h y rfl]

theorem map_congr_ops {l : List Operand} {ρ ρ' : Operand → AV} (h : ∀ x ∈ l, ρ x = ρ' x) : l.map ρ = l.map ρ' := List.map_congr_left h

theorem opB_congr {P : Program} {sg : FuncId → List Bool} {ρ ρ' : Operand → AV} {k : Nat} {op : Op} {h : Nat → Blk} {K : R → Prop} (hρ : ∀ x ∈ op.operands, ρ x = ρ' x) (hK : opB P sg ρ h k op K) : opB P sg ρ' h k op K := by
  unfold opB at hK ⊢
  split at hK <;> simp only [Op.operands] at hρ
  case h_8 t n parts =>
    have e : (parts.toList.map fun p => ρ p.2) = parts.toList.map fun p => ρ' p.2 := List.map_congr_left fun p hp => hρ p.2 (by simp; exact ⟨p.1, by simpa using hp⟩)
    unfold buildSliceW at hK ⊢
    rw [← e]; exact hK
  case h_9 t x lo hi mx =>
    have ex : ρ x = ρ' x := hρ x (by simp)
    have elo : ∀ d, bnd ρ lo d = bnd ρ' lo d := fun d => bnd_congr fun y hy => hρ y (by subst hy; simp)
    have ehi : ∀ d, bnd ρ hi d = bnd ρ' hi d := fun d => bnd_congr fun y hy => hρ y (by subst hy; simp)
    have emx : ∀ d, bnd ρ mx d = bnd ρ' mx d := fun d => bnd_congr fun y hy => hρ y (by subst hy; simp)
    rw [← ex]
    unfold sliceW at hK ⊢
    simp only [← elo, ← ehi, ← emx]
    exact hK
  case h_16 t parts =>
    have e : (parts.toList.map fun p => (p.1, ρ p.2)) = parts.toList.map fun p => (p.1, ρ' p.2) := List.map_congr_left fun p hp => by rw [hρ p.2 (by simp; exact ⟨p.1, by simpa using hp⟩)]
    rw [← e]; exact hK
  case h_21 f first caps =>
    have e1 : first.toList.map ρ = first.toList.map ρ' := List.map_congr_left fun x hx => hρ x (by simp at hx ⊢; exact .inl hx)
    have e2 : caps.toList.map ρ = caps.toList.map ρ' := List.map_congr_left fun x hx => hρ x (by simp at hx ⊢; exact .inr hx)
    rw [← e1, ← e2]; exact hK
  case h_26 f args ts =>
    have ef : ρ f = ρ' f := hρ f (by simp [Call.operands])
    have ea : args.map ρ = args.map ρ' := List.map_congr_left fun x hx => hρ x (by simp [Call.operands, hx])
    rw [← ef, ← ea]; exact hK
  all_goals first
    | exact hK
    | exact hK.elim
    | (simp [Call.operands] at hρ; simp only [← hρ]; exact hK)
    | (simp [Call.operands] at hρ; obtain ⟨e1, e2⟩ := hρ; simp only [← e1, ← e2]; exact hK)
    | (simp at hρ; obtain ⟨e1, e2, e3⟩ := hρ; simp only [← e1, ← e2, ← e3]; exact hK)

theorem opW_congr {P : Program} {sg : FuncId → List Bool} {ρ ρ' : Operand → AV} {k : Nat} {op : Op} {h : Nat → Blk} {K : R → Prop} (hρ : ∀ x ∈ op.operands, ρ x = ρ' x) (hK : opW P sg ρ h k op K) : opW P sg ρ' h k op K := by
  unfold opW at hK ⊢
  split at hK
  · rename_i hx
    rw [if_pos hx]
    unfold opE at hK ⊢
    split at hK <;> simp only [Op.operands] at hρ
    · simp at hρ; obtain ⟨e1, e2⟩ := hρ; simp only [← e1, ← e2]; exact hK
    · rename_i t x lo hi mx
      have ex : ρ x = ρ' x := hρ x (by simp)
      have elo : ∀ d, bnd ρ lo d = bnd ρ' lo d := fun d => bnd_congr fun y hy => hρ y (by subst hy; simp)
      have ehi : ∀ d, bnd ρ hi d = bnd ρ' hi d := fun d => bnd_congr fun y hy => hρ y (by subst hy; simp)
      have emx : ∀ d, bnd ρ mx d = bnd ρ' mx d := fun d => bnd_congr fun y hy => hρ y (by subst hy; simp)
      rw [← ex]
      unfold sliceX at hK ⊢
      simp only [← elo, ← ehi, ← emx]
      exact hK
    · simp [Call.operands] at hρ; simp only [← hρ]; exact hK
    · exact hK.elim
  · rename_i hx
    rw [if_neg hx]
    exact opB_congr hρ hK

end Go.Gl

namespace Go.Gl
open Go

section
variable {P : Program} {sg : FuncId → List Bool} {ops : Array Oper} {n0 : Nat}

/-- What the i-th operation comes to in a state: a result, or nothing since its guard is shut. -/
def OutOk (P : Program) (sg : FuncId → List Bool) (ops : Array Oper) (n0 i : Nat) (o : Oper) (S : St) : Option R → Prop
  | some r => guardW ops S o True False ∧ ∀ K : R → Prop, K r → opW P sg (opd S) S.h (num n0 i) o.op K
  | none => guardW ops S o False True

def eff (o : Oper) : Option R → St → St
  | some r, S => S.app o.dst r
  | none, S => S.puto o.dst (.tup [])

def lab : Option R → List (Nat × Blk) × List Nat
  | some r => (r.ws, r.rd)
  | none => ([], [])

def RunL (P : Program) (sg : FuncId → List Bool) (ops : Array Oper) (n0 : Nat) (out : Nat → Option R) : List Nat → St → St → Prop
  | [], S, S' => S' = S
  | i :: is, S, S' => ∃ o, ops[i]? = some o ∧ OutOk P sg ops n0 i o S (out i) ∧ RunL P sg ops n0 out is (eff o (out i) S) S'

theorem guardW_or {S : St} {o : Oper} {yes no : Prop} (h : guardW ops S o yes no) : (guardW ops S o True False ∧ yes) ∨ (guardW ops S o False True ∧ no) := by
  unfold guardW at h ⊢
  cases hg : o.guard with
  | none => simp only [hg] at h; exact .inl ⟨trivial, h⟩
  | some p =>
    obtain ⟨j, want⟩ := p
    simp only [hg] at h ⊢
    cases hd : (ops[j]?).bind (·.dst) with
    | none => simp only [hd] at h
    | some d =>
      simp only [hd] at h ⊢
      unfold gdW at h ⊢
      split at h
      · rename_i b e
        by_cases hb : b = want
        · exact .inl ⟨⟨fun _ => trivial, fun hn => hn hb⟩, h.1 hb⟩
        · exact .inr ⟨⟨fun hn => hb hn, fun _ => trivial⟩, h.2 hb⟩
      · exact .inr ⟨trivial, h⟩
      · exact h.elim

theorem guardW_mono {S : St} {o : Oper} {yes no yes' no' : Prop} (hy : yes → yes') (hn : no → no') (h : guardW ops S o yes no) : guardW ops S o yes' no' := by
  unfold guardW at h ⊢
  split
  · rename_i e; simp only [e] at h; exact hy h
  · rename_i j want e
    simp only [e] at h
    split
    · rename_i d hd
      simp only [hd] at h
      unfold gdW at h ⊢
      split at h
      · exact ⟨fun e => hy (h.1 e), fun e => hn (h.2 e)⟩
      · exact hn h
      · exact h
    · rename_i hd; simp only [hd] at h

theorem guardW_congr {S S' : St} {o : Oper} {yes no : Prop} (he : ∀ t ∈ o.looksAt ops, S'.e t = S.e t) (h : guardW ops S o yes no) : guardW ops S' o yes no := by
  unfold guardW at h ⊢
  cases hg : o.guard with
  | none => simp only [hg] at h; exact h
  | some p =>
    obtain ⟨j, want⟩ := p
    simp only [hg] at h ⊢
    cases hd : (ops[j]?).bind (·.dst) with
    | none => simp only [hd] at h
    | some d =>
      simp only [hd] at h ⊢
      rw [he d (by simp [Oper.looksAt, hg, hd])]
      exact h

theorem OutOk.congr {i : Nat} {o : Oper} {S S' : St} {x : Option R} (he : ∀ t ∈ o.looksAt ops, S'.e t = S.e t) (hh : ∀ id ∈ (lab x).2, S'.h id = S.h id) (h : OutOk P sg ops n0 i o S x) : OutOk P sg ops n0 i o S' x := by
  cases x with
  | none => exact guardW_congr he h
  | some r =>
    refine ⟨guardW_congr he h.1, fun K hK => ?_⟩
    obtain ⟨r', hr', hf⟩ := opW_fix (fun x => x = r) (h.2 (fun x => x = r) rfl)
    subst hr'
    refine opW_congr (fun x hx => ?_) (hf S'.h hh K hK)
    cases x with
    | tmp t =>
      simp only [opd]
      exact (he t (List.mem_append_left _ (List.mem_filterMap.2 ⟨.tmp t, by simpa using hx, rfl⟩))).symm
    | _ => rfl

theorem eff_e {o : Oper} {x : Option R} {S : St} {t : Nat} (h : ∀ d, o.dst = some d → t ≠ d) : (eff o x S).e t = S.e t := by
  cases x <;> simp only [eff, St.app, St.hws, St.puto] <;> cases hd : o.dst <;> simp only [St.put]
  · simp [h _ hd]
  · simp [h _ hd]

theorem eff_h {o : Oper} {x : Option R} {S : St} : (eff o x S).h = hwsH S.h (lab x).1 := by
  cases x <;> simp only [eff, lab, St.app, St.hws, St.puto, hwsH] <;> cases o.dst <;> rfl

theorem eff_n {o : Oper} {x : Option R} {S : St} : (eff o x S).n = S.n := by
  cases x <;> simp only [eff, St.app, St.hws, St.puto] <;> cases o.dst <;> rfl

def Oval : Option R → AV
  | some r => r.v
  | none => .tup []

theorem eff_eq {o : Oper} {x : Option R} {S : St} : eff o x S = ⟨(S.puto o.dst (Oval x)).e, hwsH S.h (lab x).1, S.n⟩ := by
  cases x <;> simp only [eff, lab, St.app, St.hws, St.puto, hwsH, Oval] <;> cases o.dst <;> rfl

theorem hwsH_not {h : Nat → Blk} : ∀ {ws : List (Nat × Blk)} {i : Nat}, (∀ p ∈ ws, p.1 ≠ i) → hwsH h ws i = h i
  | [], _, _ => rfl
  | (k, b) :: l, i, hn => by
    simp only [hwsH]
    rw [hwsH_not (ws := l) fun p hp => hn p (by simp [hp])]
    have : i ≠ k := fun e => hn (k, b) (by simp) e.symm
    simp [this]

theorem hwsH_in {h h' : Nat → Blk} : ∀ {ws : List (Nat × Blk)} {i : Nat}, (∃ p ∈ ws, p.1 = i) → hwsH h ws i = hwsH h' ws i
  | [], _, hp => by obtain ⟨p, hp, _⟩ := hp; cases hp
  | (k, b) :: l, i, hp => by
    simp only [hwsH]
    by_cases hl : ∃ p ∈ l, p.1 = i
    · exact hwsH_in hl
    · have hn : ∀ p ∈ l, p.1 ≠ i := fun p hp e => hl ⟨p, hp, e⟩
      rw [hwsH_not hn, hwsH_not hn]
      obtain ⟨p, hp, e⟩ := hp
      rcases List.mem_cons.1 hp with rfl | hp
      · simp [← e]
      · exact absurd e (hn p hp)

theorem hwsH_comm {h : Nat → Blk} {l m : List (Nat × Blk)} (hd : ∀ p ∈ l, ∀ q ∈ m, p.1 ≠ q.1) : hwsH (hwsH h l) m = hwsH (hwsH h m) l := by
  funext i
  by_cases hl : ∃ p ∈ l, p.1 = i
  · obtain ⟨p, hp, e⟩ := hl
    rw [hwsH_not (ws := m) fun q hq e' => hd p hp q hq (e.trans e'.symm)]
    exact hwsH_in ⟨p, hp, e⟩
  · have hn : ∀ p ∈ l, p.1 ≠ i := fun p hp e => hl ⟨p, hp, e⟩
    rw [hwsH_not (ws := l) hn]
    by_cases hm : ∃ p ∈ m, p.1 = i
    · exact hwsH_in hm
    · have hn' : ∀ p ∈ m, p.1 ≠ i := fun p hp e => hm ⟨p, hp, e⟩
      rw [hwsH_not hn', hwsH_not hn', hwsH_not hn]

/-- May they change places? -/
def Free (ops : Array Oper) (out : Nat → Option R) (i j : Nat) : Prop :=
  (∀ x y, ops[i]? = some x → ops[j]? = some y → x.apart ops y = true) ∧ clear (lab (out i)) (lab (out j)) ∧ clear (lab (out j)) (lab (out i))

theorem swap {out : Nat → Option R} {i j : Nat} {x y : Oper} {S : St} (hx : ops[i]? = some x) (hy : ops[j]? = some y) (hf : Free ops out i j)
    (h1 : OutOk P sg ops n0 i x S (out i)) (h2 : OutOk P sg ops n0 j y (eff x (out i) S) (out j)) :
    OutOk P sg ops n0 j y S (out j) ∧ OutOk P sg ops n0 i x (eff y (out j) S) (out i) ∧ eff y (out j) (eff x (out i) S) = eff x (out i) (eff y (out j) S) := by
  obtain ⟨hap, c1, c2⟩ := hf
  obtain ⟨a1, a2, a3⟩ := Oper.apart_spec (hap x y hx hy)
  refine ⟨h2.congr (fun t ht => ?_) fun id hid => ?_, h1.congr (fun t ht => ?_) fun id hid => ?_, ?_⟩
  · exact (eff_e fun d hd e => a1 d hd (e ▸ ht)).symm
  · rw [eff_h, hwsH_not fun p hp e => (c1 p hp).1 (e ▸ hid)]
  · exact eff_e fun d hd e => a3 d hd (e ▸ ht)
  · rw [eff_h, hwsH_not fun p hp e => (c2 p hp).1 (e ▸ hid)]
  · have ehh : hwsH (hwsH S.h (lab (out i)).1) (lab (out j)).1 = hwsH (hwsH S.h (lab (out j)).1) (lab (out i)).1 := hwsH_comm fun p hp q hq => (c1 p hp).2 q hq
    simp only [eff_eq, ehh]
    congr 1
    funext t
    cases hxd : x.dst with
    | none => simp only [St.puto]; cases y.dst <;> rfl
    | some d =>
      cases hyd : y.dst with
      | none => rfl
      | some d' =>
        have hne : d' ≠ d := fun e => a2 d hxd (e ▸ hyd)
        simp only [St.puto, St.put]
        by_cases h : t = d
        · subst h; simp [hne.symm]
        · by_cases h' : t = d'
          · subst h'; simp [hne]
          · simp [h, h']

theorem RunL.front {out : Nat → Option R} {i : Nat} {post : List Nat} : ∀ (pre : List Nat) (S S' : St), (∀ j ∈ pre, Free ops out j i) → RunL P sg ops n0 out (pre ++ i :: post) S S' → RunL P sg ops n0 out (i :: (pre ++ post)) S S' := by
  intro pre
  induction pre with
  | nil => intro S S' _ h; exact h
  | cons j pre ih =>
    intro S S' hf h
    obtain ⟨x, hx, ox, h⟩ := h
    obtain ⟨y, hy, oy, h⟩ := ih _ _ (fun k hk => hf k (by simp [hk])) h
    obtain ⟨s1, s2, e⟩ := swap hx hy (hf j (by simp)) ox oy
    exact ⟨y, hy, s1, x, hx, s2, by rw [← e]; exact h⟩

theorem RunL.n {out : Nat → Option R} : ∀ (is : List Nat) (S S' : St), RunL P sg ops n0 out is S S' → S'.n = S.n
  | [], _, _, h => by rw [h]
  | _ :: is, _, _, ⟨_, _, _, h⟩ => (RunL.n is _ _ h).trans eff_n

theorem RunL.congr {out out' : Nat → Option R} : ∀ (is : List Nat) (S S' : St), (∀ i ∈ is, out' i = out i) → RunL P sg ops n0 out is S S' → RunL P sg ops n0 out' is S S'
  | [], _, _, _, h => h
  | i :: is, S, S', he, ⟨o, ho, h1, h2⟩ => ⟨o, ho, by rw [he i (by simp)]; exact h1, by rw [he i (by simp)]; exact RunL.congr is _ _ (fun j hj => he j (by simp [hj])) h2⟩

theorem opsD_run {K : St → List (List (Nat × Blk) × List Nat) → Prop} : ∀ (os : List Oper) (i : Nat) (S : St) (L : List (List (Nat × Blk) × List Nat)), ops.toList.drop i = os → opsD P sg ops n0 os i S L K →
    ∃ (outs : List (Option R)) (S' : St), outs.length = os.length ∧ RunL P sg ops n0 (fun j => outs.getD (j - i) none) (List.range' i os.length) S S' ∧ K S' (L ++ outs.map lab) := by
  intro os
  induction os with
  | nil => intro i S L _ h; exact ⟨[], S, rfl, rfl, by simpa [opsD] using h⟩
  | cons o os ih =>
    intro i S L hd h
    have ho : ops[i]? = some o := by
      have := congrArg (·[0]?) hd
      simp only [List.getElem?_drop, List.getElem?_cons_zero, Nat.add_zero] at this
      simpa using this
    have hd' : ops.toList.drop (i + 1) = os := by
      have := congrArg (List.drop 1) hd
      simpa [List.drop_drop, Nat.add_comm] using this
    simp only [opsD] at h
    have fin : ∀ x : Option R, OutOk P sg ops n0 i o S x → opsD P sg ops n0 os (i + 1) (eff o x S) (L ++ [lab x]) K →
        ∃ (outs : List (Option R)) (S' : St), outs.length = (o :: os).length ∧ RunL P sg ops n0 (fun j => outs.getD (j - i) none) (List.range' i (o :: os).length) S S' ∧ K S' (L ++ outs.map lab) := by
      intro x hx hrest
      obtain ⟨outs, S', hl, hrun, hK⟩ := ih (i + 1) _ _ hd' hrest
      refine ⟨x :: outs, S', by simp [hl], ⟨o, ho, by simpa using hx, ?_⟩, by simpa using hK⟩
      simp only [Nat.sub_self, List.getD_cons_zero]
      refine RunL.congr _ _ _ (fun j hj => ?_) hrun
      have hj := List.mem_range'_1.1 hj
      obtain ⟨m, rfl⟩ : ∃ m, j = i + 1 + m := ⟨j - (i + 1), by omega⟩
      have e1 : i + 1 + m - i = m + 1 := by omega
      have e2 : i + 1 + m - (i + 1) = m := by omega
      simp only [e1, e2, List.getD_cons_succ]
    rcases guardW_or h with ⟨hg, h⟩ | ⟨hg, h⟩
    · obtain ⟨r, hr, hf⟩ := opW_fix _ h
      exact fin (some r) ⟨hg, fun K' hK' => hf S.h (fun _ _ => rfl) K' hK'⟩ hr
    · exact fin none hg h

/-- Every edge of what is listed leads to what is listed. -/
def Shut (ops : Array Oper) (listed : Array Bool) : Prop :=
  ∀ k, listed.getD k false = true → ∀ o, ops[k]? = some o → ∀ e ∈ o.after, Region.binds .any e = true → listed.getD e.on false = true

theorem behind_listed {listed : Array Bool} (hc : Shut ops listed) {i : Nat} : ∀ (n j : Nat), behind ops n i j = true → (∀ o, ops[j]? = some o → ∀ e ∈ o.after, Region.binds .any e = true → listed.getD e.on false = true) → listed.getD i false = true := by
  intro n
  induction n with
  | zero => intro j h; simp [behind] at h
  | succ n ih =>
    intro j h hj
    simp only [behind] at h
    cases ho : ops[j]? with
    | none => simp [ho] at h
    | some o =>
      simp only [ho] at h
      obtain ⟨e, he, hb⟩ := Array.any_eq_true'.1 h
      simp only [Bool.and_eq_true, Bool.or_eq_true, beq_iff_eq, decide_eq_true_eq] at hb
      obtain ⟨⟨hb, _⟩, hb2⟩ := hb
      have hl := hj o ho e he hb
      rcases hb2 with rfl | hb2
      · exact hl
      · exact ih e.on hb2 fun o' ho' => hc e.on hl o' ho'

end

section
variable {P : Program} {sg : FuncId → List Bool} {w0 : World} {nA nt : Nat} {M G : Nat → Prop} {ι0 : Nat → Loc} {w : World} {S : St} {ι : Nat → Loc} {a : Act}

theorem Rel.drawn {A : Nat → Prop} (h : Rel w0 nA nt M G ι0 A w S ι a) (d : Nat) : Rel w0 nA nt M G ι0 A { w with drawn := d } S ι a := by
  have st : Stays w { w with drawn := d } (Held S.h ι) (Held S.h ι) := fun _ _ _ h hv => ⟨hv, h⟩
  have tr : ∀ {B o xs}, RepC w (Held S.h ι) G B o xs → RepC { w with drawn := d } (Held S.h ι) G B o xs := fun hc => RepC.tr st (fun _ _ _ h => h) _ _ _ (fun _ _ hv => hv) hc
  refine h.step (fun _ h => h) ⟨rfl, rfl, rfl, Nat.le_refl _, fun _ _ _ => rfl⟩ ⟨fun id m c hl => ?_, fun id m c hf => ?_, h.heap.sep⟩ st (fun _ _ => rfl) h.alloc
  · obtain ⟨h1, h2, h3⟩ := h.heap.live id m c hl
    exact ⟨h1, h2, h3.imp _root_.id fun ⟨hr, hc, hx⟩ => ⟨hr, tr hc, hx⟩⟩
  · obtain ⟨h1, h2, h3⟩ := h.heap.froz id m c hf
    exact ⟨h1, h2, h3.imp _root_.id fun ⟨hF, hG, hc⟩ => ⟨hF, hG, tr hc⟩⟩

def givenL (n0 : Nat) (listed : Array Bool) : Nat → Prop := fun id => id < n0 ∨ ∃ i, listed.getD i false = true ∧ num n0 i ≤ id ∧ id < num n0 i + 256

theorem getD_lt {listed : Array Bool} {i : Nat} (h : listed.getD i false = true) : i < listed.size := by
  rcases Nat.lt_or_ge i listed.size with h' | h'
  · exact h'
  · simp [Array.getElem?_eq_none h'] at h

theorem any_sound {ops : Array Oper} (hreg : regOk nt ops = true) {n0 : Nat} {Q : Exit → Act → World → Prop} {out : Nat → Option R}
    (hfree : ∀ j i, j < i → i < ops.size → behind ops ops.size j i = true ∨ Free ops out j i) {Sf : St}
    (hQ : ∀ a' w' ι', Rel w0 nA nt M G ι0 (given n0 ops.size) w' Sf ι' a' → Q .normal a' w') :
    ∀ (is : List Nat) (listed : Array Bool) (S : St) (a : Act) (w : World) (ι : Nat → Loc), listed.size = ops.size → is.Pairwise (· < ·) → (∀ j, j < ops.size → (listed.getD j true = false ↔ j ∈ is)) → (∀ j ∈ is, j < ops.size) →
      Shut ops listed → RunL P sg ops n0 out is S Sf → Rel w0 nA nt M G ι0 (givenL n0 listed) w S ι a → wpAny P .any ops Q is.length listed a w := by
  intro is
  induction hn : is.length generalizing is with
  | zero =>
    intro listed S a w ι hsz hs hun hin hc hrun h
    obtain rfl := List.eq_nil_of_length_eq_zero hn
    refine ⟨?_, ?_⟩
    · rw [List.eq_nil_iff_forall_not_mem]
      intro j hj
      obtain ⟨h0, o, ho, _⟩ := mem_ready.1 hj
      have := (hun j (Array.getElem?_eq_some_iff.1 ho).1).1 h0
      cases this
    · have e : Sf = S := hrun
      subst e
      refine hQ a w ι (h.mono fun id hid => ?_)
      simp only [given, num]
      rcases hid with h1 | ⟨i, hi, h1, h2⟩
      · omega
      · have := getD_lt hi
        simp only [num] at h1 h2
        omega
  | succ n ih =>
    intro listed S a w ι hsz hs hun hin hc hrun h
    have lf : ∀ j, j < ops.size → (listed.getD j false = true ↔ j ∉ is) := fun j hj => by
      rw [← hun j hj]
      have hj' : j < listed.size := by omega
      simp [hj']
    refine ⟨fun h0 => ?_, fun i hi => ?_⟩
    · exfalso
      cases is with
      | nil => cases hn
      | cons j is =>
        have hj := hin j (by simp)
        have : j ∈ Region.ready .any ops listed := by
          refine mem_ready.2 ⟨(hun j hj).2 (by simp), ops[j], Array.getElem?_eq_getElem hj, fun e he hb => ?_⟩
          have hlt := (regOk_spec hreg (Array.getElem?_eq_getElem hj)).2 e he hb
          refine (lf e.on (by omega)).2 fun hm => ?_
          rcases List.mem_cons.1 hm with rfl | hm
          · omega
          · have := (List.pairwise_cons.1 hs).1 e.on hm
            omega
        rw [h0] at this
        cases this
    · obtain ⟨h0, o, ho, hall⟩ := mem_ready.1 hi
      have hilt : i < ops.size := (Array.getElem?_eq_some_iff.1 ho).1
      have him : i ∈ is := (hun i hilt).1 h0
      obtain ⟨pre, post, rfl⟩ := List.append_of_mem him
      have hpw := List.pairwise_append.1 hs
      have hfr : ∀ j ∈ pre, Free ops out j i := fun j hj => by
        have hji : j < i := hpw.2.2 j hj i (by simp)
        rcases hfree j i hji hilt with hb | hf
        · exfalso
          have := behind_listed hc ops.size i hb fun o' ho' e he hb' => hall e (by rw [ho] at ho'; cases ho'; exact he) hb'
          exact (lf j (by omega)).1 this (by simp [hj])
        · exact hf
      obtain ⟨o', ho', hok, hrun'⟩ := RunL.front pre S Sf hfr hrun
      obtain rfl : o' = o := by rw [ho] at ho'; cases ho'; rfl
      have hi' : i < listed.size := by omega
      have hA : ∀ x, x < 256 → ¬ givenL n0 listed (num n0 i + x) := by
        rintro x hx (h1 | ⟨j, hj, h1, h2⟩)
        · simp only [num] at h1; omega
        · have hne : j ≠ i := by rintro rfl; exact (lf j hilt).1 hj him
          simp only [num] at h1 h2; omega
      have hset : ∀ j, (listed.setIfInBounds i true).getD j false = true ↔ j = i ∨ listed.getD j false = true := fun j => by
        by_cases e : i = j
        · subst e; simp [hi']
        · rw [getD_set_ne false e]; simp [Ne.symm e]
      have hnext : ∀ (S1 : St) a1 w1 ι1, S1 = eff o' (out i) S → Rel w0 nA nt M G ι0 (plus (givenL n0 listed) (num n0 i)) w1 S1 ι1 a1 → wpAny P .any ops Q n (listed.setIfInBounds i true) a1 w1 := by
        intro S1 a1 w1 ι1 e1 h1
        subst e1
        refine ih (pre ++ post) (by simp at hn ⊢; omega) (listed.setIfInBounds i true) _ a1 w1 ι1 (by simp [hsz]) ?_ ?_ (fun j hj => hin j (by simp at hj ⊢; rcases hj with h | h <;> simp [h])) ?_ hrun' (h1.mono fun id hid => ?_)
        · refine List.pairwise_append.2 ⟨hpw.1, (List.pairwise_cons.1 hpw.2.1).2, fun x hx y hy => hpw.2.2 x hx y (by simp [hy])⟩
        · intro j hj
          by_cases e : i = j
          · subst e
            have n1 : i ∉ pre := fun hm => absurd (hpw.2.2 i hm i (by simp)) (Nat.lt_irrefl _)
            have n2 : i ∉ post := fun hm => absurd ((List.pairwise_cons.1 hpw.2.1).1 i hm) (Nat.lt_irrefl _)
            simp [hi', n1, n2]
          · rw [getD_set_ne true e, hun j hj]
            simp [Ne.symm e]
        · intro k hk o1 ho1 e he hb
          rw [hset] at hk ⊢
          right
          rcases hk with rfl | hk
          · rw [ho] at ho1; cases ho1; exact hall e he hb
          · exact hc k hk o1 ho1 e he hb
        · rcases hid with hid | hid
          · rcases hid with h2 | ⟨j, hj, h2⟩
            · exact .inl h2
            · exact .inr ⟨j, (hset j).2 (.inr hj), h2⟩
          · exact .inr ⟨i, (hset i).2 (.inl rfl), hid⟩
      obtain ⟨hdst, _⟩ := regOk_spec hreg ho
      unfold wpOp
      simp only [ho]
      cases hout : out i with
      | some r =>
        rw [hout] at hok hnext
        rcases guard_spec h hok.1 with ⟨hw, _⟩ | ⟨_, hf⟩
        · rw [if_pos hw]
          refine .inl (opW_does h hdst hA (hok.2 (fun x => x = r) rfl) _ _ fun r' val w' ι' hk hrel => ?_)
          subst hk
          exact hnext _ _ _ ι' rfl hrel
        · exact hf.elim
      | none =>
        rw [hout] at hok hnext
        rcases guard_spec h hok with ⟨_, hf⟩ | ⟨hw, _⟩
        · exact hf.elim
        · rw [if_neg (by rw [hw]; simp)]
          exact hnext _ _ _ ι rfl ((h.skip o'.dst hdst).mono fun _ hid => .inl hid)

theorem region_sound (hm : P.follows .mixedOrders = true) {id : Nat} {ops : Array Oper} (hreg : regOk nt ops = true) (hap : apartAll ops = true) {Q : Exit → Act → World → Prop} {K : St → Prop}
    (h : Rel w0 nA nt M G ι0 (fun id => id < S.n) w S ι a) (hK : opsD P sg ops S.n ops.toList 0 S [] fun S' L => clearAll ops L ∧ K S')
    (hQ : ∀ S' a' w' ι', K S' → S'.n = S.n → Rel w0 nA nt M G ι0 (given S.n ops.size) w' S' ι' a' → Q .normal a' w') : (Code.region id ops true).wp P Q a w := by
  obtain ⟨outs, S', hl, hrun, hcl, hKS⟩ := opsD_run ops.toList 0 S [] (by simp) hK
  refine wp_region_any hm ?_
  simp only [Array.length_toList, List.nil_append] at hl hrun hcl
  have e : (List.range ops.size).length = ops.size := by simp
  have := any_sound (P := P) (sg := sg) (w0 := w0) (nA := nA) (M := M) (G := G) (ι0 := ι0) (Q := Q) hreg (n0 := S.n) (out := fun j => outs.getD j none) (Sf := S') ?_ (fun a' w' ι' hr => hQ S' a' w' ι' hKS (RunL.n _ _ _ hrun) hr)
    (List.range ops.size) (Array.replicate ops.size false) S a { w with drawn := w.drawn + 1 } ι (by simp) List.pairwise_lt_range ?_ (fun j hj => List.mem_range.1 hj) ?_ ?_ ((h.drawn _).mono fun id hid => .inl hid)
  · rw [e] at this; exact this
  · intro j i hji hi
    rcases hcl i hi j hji with hb | ⟨c1, c2⟩
    · exact .inl hb
    · cases hb : behind ops ops.size j i with
      | true => exact .inl rfl
      | false =>
        right
        have hL : ∀ x, x < ops.size → (outs.map lab).getD x ([], []) = lab (outs.getD x none) := fun x hx => by
          have hx' : x < outs.length := by omega
          simp [hx']
        rw [hL j (by omega), hL i hi] at c1
        rw [hL j (by omega), hL i hi] at c2
        refine ⟨fun x y hx hy => ?_, c1, c2⟩
        have h1 := List.all_eq_true.1 hap i (List.mem_range.2 hi)
        have h2 := List.all_eq_true.1 h1 j (List.mem_range.2 hji)
        simpa [hb, hx, hy] using h2
  · intro j hj
    simp [hj]
  · intro k hk
    have := getD_lt hk
    simp at this
    simp [this] at hk
  · rw [List.range_eq_range']
    simpa using hrun

end
end Go.Gl

namespace Go.Gl
open Go

section
variable {P : Program} {sg : FuncId → List Bool} {w0 : World} {nA nt : Nat} {M G : Nat → Prop} {ι0 : Nat → Loc} {w : World} {S : St} {ι : Nat → Loc} {a : Act}

theorem puto_n {S : St} {d : Option Nat} {v : AV} : (S.puto d v).n = S.n := by cases d <;> rfl

theorem opsW_n {ops : Array Oper} {n0 : Nat} {K : St → Prop} : ∀ (os : List Oper) (i : Nat) (S : St), opsW P sg ops n0 os i S K → opsW P sg ops n0 os i S fun S' => K S' ∧ S'.n = S.n := by
  intro os
  induction os with
  | nil => intro i S h; exact ⟨h, rfl⟩
  | cons o os ih =>
    intro i S h
    simp only [opsW] at h ⊢
    have key : ∀ S1 : St, S1.n = S.n → opsW P sg ops n0 os (i + 1) S1 K → opsW P sg ops n0 os (i + 1) S1 fun S' => K S' ∧ S'.n = S.n := fun S1 e h1 => by
      have := ih (i + 1) S1 h1
      rw [e] at this
      exact this
    refine guardW_mono (fun hy => opW_mono hy fun r hr => key _ ?_ hr) (fun hn => key _ ?_ hn) h
    · simp only [St.app, St.hws, puto_n]
    · simp only [puto_n]

def exOf : Ex → Exit
  | .normal => .normal
  | .exit id => .exit id
  | .ret => .ret

theorem wp_sound (hm : P.follows .mixedOrders = true) : ∀ (c : Code) (Q : Ex → St → Prop) (S : St) (a : Act) (w : World) (ι : Nat → Loc), Gl.wp P sg nt c Q S → Rel w0 nA nt M G ι0 (fun id => id < S.n) w S ι a →
    c.wp P (fun e a' w' => ∃ ex S' ι', e = exOf ex ∧ Q ex S' ∧ Rel w0 nA nt M G ι0 (fun id => id < S'.n) w' S' ι' a') a w := by
  intro c
  induction c with
  | skip => intro Q S a w ι hw h; exact wp_skip ⟨.normal, S, ι, rfl, hw, h⟩
  | exit id => intro Q S a w ι hw h; exact wp_exit ⟨.exit id, S, ι, rfl, hw, h⟩
  | ret => intro Q S a w ι hw h; exact wp_ret ⟨.ret, S, ι, rfl, hw, h⟩
  | seq x y ihx ihy =>
    intro Q S a w ι hw h
    simp only [Gl.wp] at hw
    refine wp_seq (wp_mono (ihx _ S a w ι hw h) ?_)
    rintro e a' w' ⟨ex, S', ι', rfl, hq, h'⟩
    cases ex with
    | normal => exact ihy Q S' a' w' ι' hq h'
    | exit id => exact ⟨_, S', ι', rfl, hq, h'⟩
    | ret => exact ⟨_, S', ι', rfl, hq, h'⟩
  | cond c x y ihx ihy =>
    intro Q S a w ι hw h
    simp only [Gl.wp] at hw
    split at hw
    · rename_i t e
      have hc := h.opd c
      rw [e] at hc
      have hc := rep_bool hc
      cases t
      · exact wp_cond_false hc (ihy Q S a w ι (hw.2 rfl) h)
      · exact wp_cond_true hc (ihx Q S a w ι (hw.1 rfl) h)
    · exact hw.elim
  | block id c ih =>
    intro Q S a w ι hw h
    simp only [Gl.wp] at hw
    refine wp_block (wp_mono (ih _ S a w ι hw h) ?_)
    rintro e a' w' ⟨ex, S', ι', rfl, hq, h'⟩
    cases ex with
    | normal => exact ⟨.normal, S', ι', rfl, hq, h'⟩
    | exit j =>
      simp only at hq
      simp only [exOf, Exit.inBlock]
      by_cases hj : j = id
      · simp only [hj, if_true] at hq ⊢
        exact ⟨.normal, S', ι', rfl, hq, h'⟩
      · simp only [hj, if_false] at hq ⊢
        exact ⟨.exit j, S', ι', rfl, hq, h'⟩
    | ret => exact ⟨.ret, S', ι', rfl, hq, h'⟩
  | loop c ih =>
    intro Q S a w ι hw h
    simp only [Gl.wp] at hw
    obtain ⟨I, ⟨n, hn⟩, hstep⟩ := hw
    -- the measure is carried in the invariant
    have key : ∀ n, ∀ S a w ι, I n S → Rel w0 nA nt M G ι0 (fun id => id < S.n) w S ι a → ∀ (b : Frame) (k : List Item) (cs : List Frame),
        ∃ e a' w', (∃ ex S' ι', e = exOf ex ∧ Q ex S' ∧ Rel w0 nA nt M G ι0 (fun id => id < S'.n) w' S' ι' a') ∧ Arrives P (lone (b.at a (.code c :: .inLoop c :: k)) cs w) b k cs e a' w' := by
      intro n
      induction n using Nat.strongRecOn with
      | _ n ihn =>
        intro S a w ι hI h b k cs
        obtain ⟨e, a₁, w₁, ⟨ex, S1, ι1, rfl, hq, h1⟩, harr⟩ := ih _ S a w ι (hstep n S hI) h b (.inLoop c :: k) cs
        cases ex with
        | normal =>
          obtain ⟨m, hmn, hI'⟩ := hq
          obtain ⟨e₂, a₂, w₂, hq₂, harr₂⟩ := ihn m hmn S1 a₁ w₁ ι1 hI' h1 b k cs
          exact ⟨e₂, a₂, w₂, hq₂, .of_steps (Steps.trans harr (.one step_inLoop)) harr₂⟩
        | exit id => exact ⟨_, a₁, w₁, ⟨.exit id, S1, ι1, rfl, hq, h1⟩, .pass (x := .inLoop c) rfl (fun _ _ => .inl (by simp [exOf])) harr⟩
        | ret => exact ⟨_, a₁, w₁, ⟨.ret, S1, ι1, rfl, hq, h1⟩, .pass (x := .inLoop c) rfl (fun _ _ => .inl (by simp [exOf])) harr⟩
    intro b k cs
    obtain ⟨e, a', w', hq, harr⟩ := key n S a w ι hn h b k cs
    exact ⟨e, a', w', hq, .of_steps (.one step_loop) harr⟩
  | region id ops d =>
    intro Q S a w ι hw h
    cases d with
    | false =>
      simp only [Gl.wp] at hw
      obtain ⟨hreg, hw⟩ := hw
      have hw2 := opsW_n ops.toList 0 S hw
      refine wp_region ?_
      have hs := opsW_sound (P := P) (sg := sg) (w0 := w0) (nA := nA) (M := M) (G := G) (ι0 := ι0) hreg S.n ops.toList 0 S a w ι rfl (Nat.zero_le _) (h.mono fun i hi => by simp only [given, num]; omega) hw2
        (Q := fun e a' w' => ∃ ex S' ι', e = exOf ex ∧ Q ex S' ∧ Rel w0 nA nt M G ι0 (fun id => id < S'.n) w' S' ι' a') (fun S' a' w' ι' hk h' => by
          obtain ⟨hk1, hk2⟩ := hk
          refine ⟨.normal, _, ι', rfl, hk1, ?_⟩
          have h2 := h'.nx (256 * ops.size)
          refine h2.mono fun i hi => ?_
          simp only [given, num] at hi
          simp only [St.nx, hk2]; omega)
      rw [List.range_eq_range']
      simpa using hs
    | true =>
      simp only [Gl.wp] at hw
      obtain ⟨hreg, hap, hw⟩ := hw
      refine region_sound hm hreg hap h hw fun S' a' w' ι' hk hn h' => ⟨.normal, _, ι', rfl, hk, ?_⟩
      refine (h'.nx (256 * ops.size)).mono fun i hi => ?_
      simp only [given, num] at hi
      simp only [St.nx, hn]; omega
  | rangeFunc => intro Q S a w ι hw; simp only [Gl.wp] at hw
  | scope => intro Q S a w ι hw; simp only [Gl.wp] at hw
  | label => intro Q S a w ι hw; simp only [Gl.wp] at hw
  | goto => intro Q S a w ι hw; simp only [Gl.wp] at hw
  | refuse => intro Q S a w ι hw; simp only [Gl.wp] at hw

end
end Go.Gl

namespace Go.Gl
open Go

/-- The state at a call's beginning. -/
def entry (as : List Arg) : St := { e := fun t => (argAVs 0 as).getD t (.p .any), h := argH as, n := as.length }

/-- The value v, handed back as the result x (its own block from here on: number k); L: which block of the call's it is. -/
def fin1 (tk : Bool) (h : Nat → Blk) (k : Nat) (v : AV) (x : PV) (K : List (Nat × Nat × Nat) → Prop) : Prop :=
  match x with
  | .sl .own xs => match v with
    | .ref id off len => match h id with
      | .live m c => off + len ≤ c.length ∧ (m = true → tk = true) ∧ (c.drop off).take len = xs ∧ K [(k, id, off)]
      | _ => False
    | .p (.sl .own _) => xs = [] ∧ K []
    | _ => False
  | .sl .fr xs => match v with
    | .p (.sl .fr ys) => ys = xs ∧ K []
    | .p (.sl .own _) => xs = [] ∧ K []
    | .ref id off len => match h id with
      | .froz false c => off + len ≤ c.length ∧ (c.drop off).take len = xs ∧ K []
      | _ => False
    | _ => False
  | .agg _ => False
  | x => v = .p x ∧ K []
def finL (tk : Bool) (h : Nat → Blk) : Nat → List AV → List PV → (List (Nat × Nat × Nat) → Prop) → Prop
  | _, [], [], K => K []
  | k, v :: vs, x :: xs, K => fin1 tk h k v x fun L => finL tk h (k + 1) vs xs fun L' => K (L ++ L')
  | _, _, _, _ => False
def fin (tk : Bool) (h : Nat → Blk) (k : Nat) (v : AV) (x : PV) (K : List (Nat × Nat × Nat) → Prop) : Prop :=
  match x with
  | .agg xs => match v with
    | .agg vs => finL tk h (k + 1) vs xs K
    | .p (.agg ys) => finL tk h (k + 1) (ys.map .p) xs K
    | _ => False
  | x => fin1 tk h k v x K
def fins (tk : Bool) (h : Nat → Blk) : Nat → List AV → List PV → (List (Nat × Nat × Nat) → Prop) → Prop
  | _, [], [], K => K []
  | k, v :: vs, x :: xs, K => fin tk h k v x fun L => fins tk h (k + 16) vs xs fun L' => K (L ++ L')
  | _, _, _, _ => False

/-- The end of a call: its results, and the memory that was lent. -/
def Fin (tk : Bool) (S : St) (as : List Arg) (outs : List (Option (List PV))) (vs : List AV) (res : List PV) : Prop :=
  fins tk S.h as.length vs res fun L => (L.map fun p => p.2.1).Nodup ∧ ∀ j, j < as.length → match as[j]?, outs[j]? with
    | some (.mu _ _), some (some c) => S.h j = .live true c ∧ j ∉ L.map fun p => p.2.1
    | _, _ => True

/-- Where the results lie. -/
def locOf (ι : Nat → Loc) (n : Nat) (L : List (Nat × Nat × Nat)) (i : Nat) : Loc :=
  if i < n then ι i else match L.find? (fun p => p.1 == i) with
    | some (_, id, off) => ⟨(ι id).B, (ι id).off + off, (ι id).cap - off⟩
    | none => ⟨0, 0, 0⟩

/-- A setting of a result, and the block that it comes from. -/
def From (tk : Bool) (h : Nat → Blk) (L : List (Nat × Nat × Nat)) (p : Nat × Blk) : Prop :=
  (∃ id off len m c, (p.1, id, off) ∈ L ∧ h id = .live m c ∧ off + len ≤ c.length ∧ (m = true → tk = true) ∧ p.2 = .live tk ((c.drop off).take len)) ∨ (p.2 = .live tk [] ∧ ∀ q ∈ L, q.1 ≠ p.1)

section
variable {P : Program} {sg : FuncId → List Bool} {w0 : World} {nA nt : Nat} {M G : Nat → Prop} {ι0 : Nat → Loc} {A : Nat → Prop} {w : World} {S : St} {ι : Nat → Loc} {a : Act}

/-- What is told of a value, told again where fewer blocks are held. -/
def TellsA (w : World) (h : Nat → Blk) (ι : Nat → Loc) (z : Nat) (M G : Nat → Prop) : Prop := HeapOk w z M G h ι

theorem fin1_sound {tk : Bool} {h : Nat → Blk} {k : Nat} {v : AV} {x : PV} {K : List (Nat × Nat × Nat) → Prop} (hK : fin1 tk h k v x K) :
    ∃ L, K L ∧ (∀ p ∈ L, p.1 = k) ∧ L.length ≤ 1 ∧ (∀ p ∈ impW1 tk k x, From tk h L p) ∧
      ∀ {w : World} {z : Nat} {M G F' : Nat → Prop} {ι ι' : Nat → Loc} {val : Value}, HeapOk w z M G h ι → (∀ B, F' B → Held h ι B) → (∀ p ∈ L, ι' p.1 = ⟨(ι p.2.1).B, (ι p.2.1).off + p.2.2, (ι p.2.1).cap - p.2.2⟩) → (L = [] → (ι' k).cap = 0) → RepA w (Held h ι) G ι v val → RepA w F' G ι' (imp1 k x) val := by
  have down : ∀ {w : World} {z : Nat} {M G F' : Nat → Prop} {ι : Nat → Loc} {y : PV} {val : Value}, HeapOk w z M G h ι → (∀ B, F' B → Held h ι B) → RepP w (Held h ι) G y val → RepP w F' G y val := fun _ hF hy =>
    RepP.tr (fun _ _ _ hN hv => ⟨hv, fun h' => hN (hF _ h')⟩) (fun _ _ _ h => h) _ _ hy
  have scalar : ∀ {y : PV}, v = .p y → K [] → (∀ k, imp1 k y = .p y) → (∀ m k, impW1 m k y = []) → ∃ L, K L ∧ (∀ p ∈ L, p.1 = k) ∧ L.length ≤ 1 ∧ (∀ p ∈ impW1 tk k y, From tk h L p) ∧
      ∀ {w : World} {z : Nat} {M G F' : Nat → Prop} {ι ι' : Nat → Loc} {val : Value}, HeapOk w z M G h ι → (∀ B, F' B → Held h ι B) → (∀ p ∈ L, ι' p.1 = ⟨(ι p.2.1).B, (ι p.2.1).off + p.2.2, (ι p.2.1).cap - p.2.2⟩) → (L = [] → (ι' k).cap = 0) → RepA w (Held h ι) G ι v val → RepA w F' G ι' (imp1 k y) val := by
    intro y hv hk e1 e2
    subst hv
    refine ⟨[], hk, fun p hp => by simp at hp, by simp, fun p hp => by rw [e2] at hp; simp at hp, ?_⟩
    intro w z M G F' ι ι' val ok hF _ _ hr
    rw [e1]
    simp only [RepA] at hr ⊢
    exact down ok hF hr
  cases x with
  | sl o xs =>
    cases o with
    | ro => exact scalar hK.1 hK.2 (fun _ => rfl) fun _ _ => rfl
    | fr =>
      simp only [fin1] at hK
      split at hK
      · rename_i ys
        obtain ⟨rfl, hk⟩ := hK
        exact scalar rfl hk (fun _ => rfl) fun _ _ => rfl
      · rename_i ys
        obtain ⟨rfl, hk⟩ := hK
        refine ⟨[], hk, fun p hp => by simp at hp, by simp, fun p hp => by simp [impW1] at hp, ?_⟩
        intro w z M G F' ι ι' val ok hF _ _ hr
        obtain ⟨ad, cap, rfl, _, _, ho, _⟩ := rep_sl hr
        obtain ⟨rfl, rfl, rfl⟩ := ho rfl
        simp only [imp1, RepA, RepP]
        exact ⟨none, 0, rfl, by simp, by simp, by simp, .inl trivial⟩
      · rename_i id off len
        split at hK
        · rename_i c hb
          obtain ⟨hle, rfl, hk⟩ := hK
          refine ⟨[], hk, fun p hp => by simp at hp, by simp, fun p hp => by simp [impW1] at hp, ?_⟩
          intro w z M G F' ι ι' val ok hF _ _ hr
          simp only [imp1]
          have := ref_told (h' := h) ok (Frz.refl h) hb hle hr
          simp only [RepA]
          exact down ok hF this
        · exact hK.elim
      · exact hK.elim
    | own =>
      simp only [fin1] at hK
      split at hK
      · rename_i id off len
        split at hK
        · rename_i m c hb
          obtain ⟨hle, htk, rfl, hk⟩ := hK
          refine ⟨[(k, id, off)], hk, fun p hp => by simp at hp; rw [hp], by simp, fun p hp => ?_, ?_⟩
          · simp [impW1] at hp
            subst hp
            exact .inl ⟨id, off, len, m, c, by simp, hb, hle, htk, rfl⟩
          · intro w z M G F' ι ι' val ok hF hι _ hr
            obtain ⟨ad, cap, rfl, h1, h2, h3, h4⟩ := rep_ref hr
            have e := hι (k, id, off) (by simp)
            have hlen : ((c.drop off).take len).length = len := by simp; omega
            simp only [imp1, RepA]
            simp only at e
            rw [e, hlen]
            refine ⟨ad, cap, rfl, h1, by simp; omega, by simp; omega, ?_⟩
            rcases h4 with h4 | h4
            · exact .inl h4
            · exact .inr (by simpa using h4)
        · exact hK.elim
      · rename_i ys
        obtain ⟨rfl, hk⟩ := hK
        refine ⟨[], hk, fun p hp => by simp at hp, by simp, fun p hp => ?_, ?_⟩
        · simp [impW1] at hp
          subst hp
          exact .inr ⟨rfl, fun q hq => by simp at hq⟩
        · intro w z M G F' ι ι' val ok hF _ h0 hr
          obtain ⟨ad, cap, rfl, _, _, ho, _⟩ := rep_sl hr
          obtain ⟨rfl, rfl, rfl⟩ := ho rfl
          have := h0 rfl
          simp only [imp1, RepA]
          exact ⟨none, 0, rfl, by simp, by simp [this], by omega, .inl rfl⟩
      · exact hK.elim
  | agg xs => exact hK.elim
  | int _ _ => exact scalar hK.1 hK.2 (fun _ => rfl) fun _ _ => rfl
  | bool _ => exact scalar hK.1 hK.2 (fun _ => rfl) fun _ _ => rfl
  | str _ => exact scalar hK.1 hK.2 (fun _ => rfl) fun _ _ => rfl
  | nilf => exact scalar hK.1 hK.2 (fun _ => rfl) fun _ _ => rfl
  | any => exact scalar hK.1 hK.2 (fun _ => rfl) fun _ _ => rfl
  | pc _ => exact scalar hK.1 hK.2 (fun _ => rfl) fun _ _ => rfl
  | fn _ _ _ => exact scalar hK.1 hK.2 (fun _ => rfl) fun _ _ => rfl

theorem From.left {tk : Bool} {h : Nat → Blk} {L L' : List (Nat × Nat × Nat)} {p : Nat × Blk} (f : From tk h L p) (hn : ∀ q ∈ L', q.1 ≠ p.1) : From tk h (L ++ L') p := by
  rcases f with ⟨id, off, len, m, c, h1, h2⟩ | ⟨h1, h2⟩
  · exact .inl ⟨id, off, len, m, c, List.mem_append.2 (.inl h1), h2⟩
  · refine .inr ⟨h1, fun q hq => ?_⟩
    rcases List.mem_append.1 hq with hq | hq
    · exact h2 q hq
    · exact hn q hq
theorem From.right {tk : Bool} {h : Nat → Blk} {L L' : List (Nat × Nat × Nat)} {p : Nat × Blk} (f : From tk h L' p) (hn : ∀ q ∈ L, q.1 ≠ p.1) : From tk h (L ++ L') p := by
  rcases f with ⟨id, off, len, m, c, h1, h2⟩ | ⟨h1, h2⟩
  · exact .inl ⟨id, off, len, m, c, List.mem_append.2 (.inr h1), h2⟩
  · refine .inr ⟨h1, fun q hq => ?_⟩
    rcases List.mem_append.1 hq with hq | hq
    · exact hn q hq
    · exact h2 q hq

theorem impW1_at {m : Bool} {k : Nat} {x : PV} : ∀ p ∈ impW1 m k x, p.1 = k := by
  unfold impW1; split <;> simp
theorem impWL_at {m : Bool} : ∀ {xs : List PV} {k : Nat}, ∀ p ∈ impWL m k xs, k ≤ p.1 ∧ p.1 < k + xs.length
  | [], k, p, hp => by simp [impWL] at hp
  | x :: xs, k, p, hp => by
    simp only [impWL, List.mem_append] at hp
    rcases hp with hp | hp
    · have := impW1_at p hp; simp; omega
    · have := impWL_at p hp; simp; omega

/-- What the settings and the places owe each other, for numbers from k up to k'. -/
structure Placed (tk : Bool) (h : Nat → Blk) (k k' : Nat) (ws : List (Nat × Blk)) (L : List (Nat × Nat × Nat)) : Prop where
  lo : ∀ p ∈ L, k ≤ p.1 ∧ p.1 < k'
  nums : (L.map (·.1)).Nodup
  wsl : ∀ p ∈ ws, k ≤ p.1 ∧ p.1 < k'
  src : ∀ p ∈ ws, From tk h L p

theorem Placed.append {tk : Bool} {h : Nat → Blk} {k k' k'' : Nat} {ws ws' : List (Nat × Blk)} {L L' : List (Nat × Nat × Nat)} (p : Placed tk h k k' ws L) (q : Placed tk h k' k'' ws' L') (h1 : k ≤ k') (h2 : k' ≤ k'') : Placed tk h k k'' (ws ++ ws') (L ++ L') := by
  refine ⟨fun x hx => ?_, ?_, fun x hx => ?_, fun x hx => ?_⟩
  · rcases List.mem_append.1 hx with hx | hx
    · have := p.lo x hx; omega
    · have := q.lo x hx; omega
  · rw [List.map_append, List.nodup_append]
    refine ⟨p.nums, q.nums, fun x hx y hy e => ?_⟩
    obtain ⟨x', hx', rfl⟩ := List.mem_map.1 hx
    obtain ⟨y', hy', rfl⟩ := List.mem_map.1 hy
    have := p.lo x' hx'; have := q.lo y' hy'; omega
  · rcases List.mem_append.1 hx with hx | hx
    · have := p.wsl x hx; omega
    · have := q.wsl x hx; omega
  · rcases List.mem_append.1 hx with hx | hx
    · exact (p.src x hx).left fun y hy e => by have := q.lo y hy; have := p.wsl x hx; omega
    · exact (q.src x hx).right fun y hy e => by have := p.lo y hy; have := q.wsl x hx; omega

theorem fin1_placed {tk : Bool} {h : Nat → Blk} {k : Nat} {x : PV} {L : List (Nat × Nat × Nat)} (h1 : ∀ p ∈ L, p.1 = k) (h2 : L.length ≤ 1) (h3 : ∀ p ∈ impW1 tk k x, From tk h L p) : Placed tk h k (k + 1) (impW1 tk k x) L := by
  refine ⟨fun p hp => by have := h1 p hp; omega, ?_, fun p hp => by have := impW1_at p hp; omega, h3⟩
  match L, h2 with
  | [], _ => simp
  | [p], _ => simp

/-- The places fit the settings, where they are asked. -/
def Fits (ι ι' : Nat → Loc) (k k' : Nat) (L : List (Nat × Nat × Nat)) : Prop :=
  (∀ p ∈ L, ι' p.1 = ⟨(ι p.2.1).B, (ι p.2.1).off + p.2.2, (ι p.2.1).cap - p.2.2⟩) ∧ ∀ i, k ≤ i → i < k' → (∀ p ∈ L, p.1 ≠ i) → (ι' i).cap = 0

theorem Fits.left {ι ι' : Nat → Loc} {k k1 k' : Nat} {L L' : List (Nat × Nat × Nat)} (h : Fits ι ι' k k' (L ++ L')) (hk : k1 ≤ k') (hL : ∀ p ∈ L', k1 ≤ p.1) : Fits ι ι' k k1 L :=
  ⟨fun p hp => h.1 p (List.mem_append.2 (.inl hp)), fun i h1 h2 h3 => h.2 i h1 (by omega) fun p hp => by
    rcases List.mem_append.1 hp with hp | hp
    · exact h3 p hp
    · have := hL p hp; omega⟩
theorem Fits.right {ι ι' : Nat → Loc} {k k1 k' : Nat} {L L' : List (Nat × Nat × Nat)} (h : Fits ι ι' k k' (L ++ L')) (hk : k ≤ k1) (hL : ∀ p ∈ L, p.1 < k1) : Fits ι ι' k1 k' L' :=
  ⟨fun p hp => h.1 p (List.mem_append.2 (.inr hp)), fun i h1 h2 h3 => h.2 i (by omega) h2 fun p hp => by
    rcases List.mem_append.1 hp with hp | hp
    · have := hL p hp; omega
    · exact h3 p hp⟩

theorem finL_sound {tk : Bool} {h : Nat → Blk} : ∀ {xs : List PV} {vs : List AV} {k : Nat} {K : List (Nat × Nat × Nat) → Prop}, finL tk h k vs xs K →
    ∃ L, K L ∧ Placed tk h k (k + xs.length) (impWL tk k xs) L ∧
      ∀ {w : World} {z : Nat} {M G F' : Nat → Prop} {ι ι' : Nat → Loc} {vals : List Value}, HeapOk w z M G h ι → (∀ B, F' B → Held h ι B) → Fits ι ι' k (k + xs.length) L → RepAL w (Held h ι) G ι vs vals → RepAL w F' G ι' (impL k xs) vals
  | [], [], k, K, hK => ⟨[], hK, ⟨fun p hp => by simp at hp, by simp, fun p hp => by simp [impWL] at hp, fun p hp => by simp [impWL] at hp⟩, fun _ _ _ hr => by simpa only [impL, RepAL] using hr⟩
  | x :: xs, v :: vs, k, K, hK => by
    simp only [finL] at hK
    obtain ⟨L, hK, a1, a2, a3, a4⟩ := fin1_sound hK
    obtain ⟨L', hK, b1, b2⟩ := finL_sound hK
    have p1 := fin1_placed a1 a2 a3
    refine ⟨L ++ L', hK, ?_, ?_⟩
    · have := p1.append b1 (by omega) (by omega)
      rw [show k + 1 + xs.length = k + (x :: xs).length from by simp; omega] at this
      exact this
    · intro w z M G F' ι ι' vals ok hF hf hr
      rw [show k + (x :: xs).length = k + 1 + xs.length from by simp; omega] at hf
      simp only [RepAL] at hr
      obtain ⟨u, us, rfl, h1, h2⟩ := hr
      simp only [impL, RepAL]
      refine ⟨u, us, rfl, a4 ok hF (fun p hp => hf.1 p (List.mem_append.2 (.inl hp))) (fun e => ?_) h1, b2 ok hF (hf.right (by omega) fun p hp => by have := a1 p hp; omega) h2⟩
      refine hf.2 k (Nat.le_refl _) (by omega) fun p hp => ?_
      rcases List.mem_append.1 hp with hp | hp
      · rw [e] at hp; simp at hp
      · have := b1.lo p hp; omega
  | [], _ :: _, _, _, hK => by simp only [finL] at hK
  | _ :: _, [], _, _, hK => by simp only [finL] at hK

theorem fin_sound {tk : Bool} {h : Nat → Blk} {k : Nat} {v : AV} {x : PV} {K : List (Nat × Nat × Nat) → Prop} (hs : smallP x = true) (hK : fin tk h k v x K) :
    ∃ L, K L ∧ Placed tk h k (k + 16) (impW tk k x) L ∧
      ∀ {w : World} {z : Nat} {M G F' : Nat → Prop} {ι ι' : Nat → Loc} {val : Value}, HeapOk w z M G h ι → (∀ B, F' B → Held h ι B) → Fits ι ι' k (k + 16) L → RepA w (Held h ι) G ι v val → RepA w F' G ι' (imp k x) val := by
  have wide : ∀ {k1 k2 k3 : Nat} {ws L}, Placed tk h k1 k2 ws L → k ≤ k1 → k2 ≤ k3 → Placed tk h k k3 ws L := fun p h1 h2 =>
    ⟨fun q hq => by have := p.lo q hq; omega, p.nums, fun q hq => by have := p.wsl q hq; omega, p.src⟩
  have one : fin1 tk h k v x K → (∀ k, imp k x = imp1 k x) → (∀ m k, impW m k x = impW1 m k x) → ∃ L, K L ∧ Placed tk h k (k + 16) (impW tk k x) L ∧
      ∀ {w : World} {z : Nat} {M G F' : Nat → Prop} {ι ι' : Nat → Loc} {val : Value}, HeapOk w z M G h ι → (∀ B, F' B → Held h ι B) → Fits ι ι' k (k + 16) L → RepA w (Held h ι) G ι v val → RepA w F' G ι' (imp k x) val := by
    intro hK e1 e2
    obtain ⟨L, hk, a1, a2, a3, a4⟩ := fin1_sound hK
    refine ⟨L, hk, by rw [e2]; exact wide (fin1_placed a1 a2 a3) (Nat.le_refl _) (by omega), ?_⟩
    intro w z M G F' ι ι' val ok hF hf hr
    rw [e1]
    refine a4 ok hF (fun p hp => hf.1 p hp) (fun e => hf.2 k (Nat.le_refl _) (by omega) fun p hp => by rw [e] at hp; simp at hp) hr
  cases x with
  | agg xs =>
    simp [smallP] at hs
    have lists : ∀ vs, finL tk h (k + 1) vs xs K → ∃ L, K L ∧ Placed tk h k (k + 16) (impW tk k (.agg xs)) L ∧
        ∀ {w : World} {z : Nat} {M G F' : Nat → Prop} {ι ι' : Nat → Loc} {vals : List Value}, HeapOk w z M G h ι → (∀ B, F' B → Held h ι B) → Fits ι ι' k (k + 16) L → RepAL w (Held h ι) G ι vs vals → RepA w F' G ι' (imp k (.agg xs)) (.agg ⟨vals⟩) := by
      intro vs hK
      obtain ⟨L, hk, a1, a2⟩ := finL_sound hK
      refine ⟨L, hk, wide a1 (by omega) (by omega), ?_⟩
      intro w z M G F' ι ι' vals ok hF hf hr
      simp only [imp, RepA]
      refine ⟨vals, rfl, a2 ok hF ⟨hf.1, fun i h1 h2 h3 => hf.2 i (by omega) (by omega) h3⟩ hr⟩
    simp only [fin] at hK
    split at hK
    · rename_i vs
      obtain ⟨L, hk, a1, a2⟩ := lists vs hK
      refine ⟨L, hk, a1, ?_⟩
      intro w z M G F' ι ι' val ok hF hf hr
      simp only [RepA] at hr
      obtain ⟨cs, rfl, hl⟩ := hr
      exact a2 ok hF hf hl
    · rename_i ys
      obtain ⟨L, hk, a1, a2⟩ := lists _ hK
      refine ⟨L, hk, a1, ?_⟩
      intro w z M G F' ι ι' val ok hF hf hr
      simp only [RepA, RepP] at hr
      obtain ⟨cs, rfl, hl⟩ := hr
      exact a2 ok hF hf (RepAL_p.2 hl)
    · exact hK.elim
  | _ => exact one (by simpa only [fin] using hK) (fun _ => rfl) fun _ _ => rfl

theorem fins_sound {tk : Bool} {h : Nat → Blk} : ∀ {xs : List PV} {vs : List AV} {k : Nat} {K : List (Nat × Nat × Nat) → Prop}, xs.all smallP = true → fins tk h k vs xs K →
    ∃ L, K L ∧ Placed tk h k (k + 16 * xs.length) (impWs tk k xs) L ∧
      ∀ {w : World} {z : Nat} {M G F' : Nat → Prop} {ι ι' : Nat → Loc} {vals : List Value}, HeapOk w z M G h ι → (∀ B, F' B → Held h ι B) → Fits ι ι' k (k + 16 * xs.length) L → RepAL w (Held h ι) G ι vs vals → RepAL w F' G ι' (imps k xs) vals
  | [], [], k, K, _, hK => ⟨[], hK, ⟨fun p hp => by simp at hp, by simp, fun p hp => by simp [impWs] at hp, fun p hp => by simp [impWs] at hp⟩, fun _ _ _ hr => by simpa only [imps, RepAL] using hr⟩
  | x :: xs, v :: vs, k, K, hs, hK => by
    simp only [List.all_cons, Bool.and_eq_true] at hs
    simp only [fins] at hK
    obtain ⟨L, hK, a1, a2⟩ := fin_sound hs.1 hK
    obtain ⟨L', hK, b1, b2⟩ := fins_sound hs.2 hK
    refine ⟨L ++ L', hK, ?_, ?_⟩
    · have := a1.append b1 (by omega) (by omega)
      rw [show k + 16 + 16 * xs.length = k + 16 * (x :: xs).length from by simp; omega] at this
      exact this
    · intro w z M G F' ι ι' vals ok hF hf hr
      rw [show k + 16 * (x :: xs).length = k + 16 + 16 * xs.length from by simp; omega] at hf
      simp only [RepAL] at hr
      obtain ⟨u, us, rfl, h1, h2⟩ := hr
      simp only [imps, RepAL]
      exact ⟨u, us, rfl, a2 ok hF (hf.left (by omega) fun p hp => (b1.lo p hp).1) h1, b2 ok hF (hf.right (by omega) fun p hp => (a1.lo p hp).2) h2⟩
  | [], _ :: _, _, _, _, hK => by simp only [fins] at hK
  | _ :: _, [], _, _, _, hK => by simp only [fins] at hK

end
end Go.Gl

set_option linter.unusedSimpArgs false
set_option linter.unusedVariables false
namespace Go.Gl
open Go

section
variable {P : Program} {sg : FuncId → List Bool} {w0 : World} {nA nt : Nat} {M G : Nat → Prop} {ι0 : Nat → Loc} {A : Nat → Prop} {w : World} {S : St} {ι : Nat → Loc} {a : Act}

/-- What is told of a load, with the load itself. -/
theorem load_run (h : Rel w0 nA nt M G ι0 A w S ι a) {t : TypeId} {x : AV} {val : Value} {K : R → Prop} (hx : RepA w (Held S.h ι) G ι x val) (hK : loadW P t S.h x K) :
    ∃ y ad, val = .pointer (some ad) ∧ (∃ rd, K ⟨.p y, [], rd⟩) ∧ ∃ lv, RepP w (Held S.h ι) G y lv ∧ (Instr.loadAt t val).run P w = .ok lv w := by
  unfold loadW at hK
  split at hK
  · rename_i n ht
    obtain ⟨_, hK⟩ := hK
    split at hK
    · rename_i y ys
      simp only [RepA, RepP] at hx
      obtain ⟨B, off, hv, hF, hc⟩ := hx
      simp only [RepC] at hc
      obtain ⟨⟨v, hcell, _, hy⟩, _⟩ := hc
      exact ⟨y, _, hv, ⟨_, hK⟩, v, hy, by rw [hv]; exact run_loadAt_one ht hcell⟩
    · rename_i id off
      simp only [RepA] at hx
      have key : ∀ c, ((∃ m, S.h id = .live m c) ∨ ∃ m, S.h id = .froz m c) → gt c off (fun x => K ⟨.p x, [], [id]⟩) → ∃ y ad, val = .pointer (some ad) ∧ (∃ rd, K ⟨.p y, [], rd⟩) ∧ ∃ lv, RepP w (Held S.h ι) G y lv ∧ (Instr.loadAt t val).run P w = .ok lv w := by
        intro c hb hg
        obtain ⟨_, y, hy, hlt, hk⟩ := gt_spec hg
        simp only [Int.toNat_natCast] at hy hlt
        have hc := h.heap.cells hb (by intro e; subst e; simp at hlt)
        rw [RepC_iff] at hc
        obtain ⟨v, hcell, _, hy'⟩ := hc off y hy
        exact ⟨y, _, hx, ⟨_, hk⟩, v, hy', by rw [hx]; exact run_loadAt_one ht hcell⟩
      split at hK
      · rename_i m c hb; exact key c (.inl ⟨m, hb⟩) hK
      · rename_i m c hb; exact key c (.inr ⟨m, hb⟩) hK
      · exact hK.elim
    · exact hK.elim
  · rename_i n ht
    split at hK
    · rename_i xs
      simp only [RepA, RepP] at hx
      obtain ⟨B, off, hv, hF, hc⟩ := hx
      obtain ⟨hle, hk⟩ := hK
      obtain ⟨cs, hl, hlen, hcells, _⟩ := RepC_list (RepC_take hc n)
      exact ⟨.agg (xs.take n), _, hv, ⟨_, hk⟩, .agg ⟨cs⟩, by simp only [RepP]; exact ⟨cs, rfl, hl⟩, by rw [hv]; exact run_loadAt_agg ht (cs := cs) (by rw [hlen]; simp; omega) hcells⟩
    · rename_i id off
      simp only [RepA] at hx
      have key : ∀ c, ((∃ m, S.h id = .live m c) ∨ ∃ m, S.h id = .froz m c) → off + n ≤ c.length → K ⟨.p (.agg ((c.drop off).take n)), [], [id]⟩ → ∃ y ad, val = .pointer (some ad) ∧ (∃ rd, K ⟨.p y, [], rd⟩) ∧ ∃ lv, RepP w (Held S.h ι) G y lv ∧ (Instr.loadAt t val).run P w = .ok lv w := by
        intro c hb hle hk
        have hcs : ∃ cs : List Value, RepL w (Held S.h ι) G ((c.drop off).take n) cs ∧ cs.length = ((c.drop off).take n).length ∧ (∀ (j : Nat) (v : Value), cs[j]? = some v → w.cell? ⟨(ι id).B, (ι id).off + off + j, none⟩ = some v) := by
          by_cases hn : c = []
          · subst hn
            refine ⟨[], by simp [RepL], by simp, fun j v hj => by simp at hj⟩
          · have hc := h.heap.cells hb hn
            obtain ⟨cs, h1, h2, h3, _⟩ := RepC_list (RepC_take (RepC_drop hc off) n)
            exact ⟨cs, h1, h2, h3⟩
        obtain ⟨cs, hl, hlen, hcells⟩ := hcs
        exact ⟨.agg ((c.drop off).take n), _, hx, ⟨_, hk⟩, .agg ⟨cs⟩, by simp only [RepP]; exact ⟨cs, rfl, hl⟩, by rw [hx]; exact run_loadAt_agg ht (cs := cs) (by rw [hlen]; simp; omega) hcells⟩
      split at hK
      · rename_i m c hb; exact key c (.inl ⟨m, hb⟩) hK.1 hK.2
      · rename_i m c hb; exact key c (.inr ⟨m, hb⟩) hK.1 hK.2
      · exact hK.elim
    · exact hK.elim
  · exact hK.elim

/-- The results of a body: its temporaries, or what they point to. -/
def resW (P : Program) (S : St) : List ResultVar → (List AV → Prop) → Prop
  | [], K => K []
  | .tmp t :: rs, K => resW P S rs fun vs => K (S.e t :: vs)
  | .cell t ty :: rs, K => loadW P ty S.h (S.e t) fun r => resW P S rs fun vs => K (r.v :: vs)
theorem resW_tmp : ∀ {ts : List Nat} {K : List AV → Prop}, resW P S (ts.map .tmp) K = K (ts.map S.e)
  | [], _ => rfl
  | t :: ts, K => by simp only [List.map_cons, resW]; exact resW_tmp (ts := ts)

def resF (tmps : Array Value) : ResultVar → Sem Value
  | .tmp t => pure (tmps.getD t undef)
  | .cell a t => do loadVar t (← asAddr (tmps.getD a undef))

theorem resW_sound (h : Rel w0 nA nt M G ι0 A w S ι a) : ∀ (rs : List ResultVar) {K : List AV → Prop}, resW P S rs K →
    ∃ vs vals, K vs ∧ RepAL w (Held S.h ι) G ι vs vals ∧ (rs.mapM (resF a.tmps)).run P w = .ok vals w
  | [], K, hK => ⟨[], [], hK, by simp only [RepAL], rfl⟩
  | .tmp t :: rs, K, hK => by
    obtain ⟨vs, vals, hk, hr, hrun⟩ := resW_sound h rs hK
    refine ⟨_, a.tmps.getD t undef :: vals, hk, ?_, ?_⟩
    · simp only [RepAL]; exact ⟨_, _, rfl, h.slots t, hr⟩
    · simp only [List.mapM_cons, resF, Sem.run_bind, Sem.run_pure, Result.andThen_ok, hrun]
  | .cell t ty :: rs, K, hK => by
    simp only [resW] at hK
    obtain ⟨y, ad, hv, ⟨rd, hk⟩, lv, hlv, hl⟩ := load_run h (h.slots t) hK
    obtain ⟨vs, vals, hk, hr, hrun⟩ := resW_sound h rs hk
    refine ⟨_, lv :: vals, hk, ?_, ?_⟩
    · simp only [RepAL, RepA]; exact ⟨_, _, rfl, hlv, hr⟩
    · have hl2 : (loadVar ty ad).run P w = .ok lv w := by
        rw [hv] at hl
        simpa [Instr.loadAt, Instr.sureAddr] using hl
      simp only [List.mapM_cons, resF, hv, asAddr, Sem.run_bind, Sem.run_pure, Result.andThen_ok, hl2, hrun]
end
end Go.Gl

namespace Go.Gl
open Go

theorem argH_live {as : List Arg} {j : Nat} {m : Bool} {c : List PV} (h : argH as j = .live m c) : m = true ∧ j < as.length ∧ ∃ p, as[j]? = some (.mu p c) := by
  unfold argH at h
  split at h
  · rename_i p c' e
    cases h
    exact ⟨rfl, (List.getElem?_eq_some_iff.1 e).1, p, e⟩
  · cases h

def resV : List Value → Value
  | [v] => v
  | vs => .tuple ⟨vs⟩

theorem results_run {P : Program} {w : World} {fn : Func} {rs : List ResultVar} (hr : fn.results = ⟨rs⟩) {tmps : Array Value} {vals : List Value} (hrun : (rs.mapM (resF tmps)).run P w = .ok vals w) : (results fn tmps).run P w = .ok (resV vals) w := by
  have key : ∀ f : ResultVar → Sem Value, (∀ x, f x = resF tmps x) → rs.mapM f = rs.mapM (resF tmps) := fun f hf => by rw [show f = resF tmps from funext hf]
  unfold results
  rw [hr, Array.mapM_eq_mapM_toList]
  simp only []
  rw [key _ (fun x => by cases x <;> rfl)]
  simp only [Sem.run_bind, Sem.run_map, hrun]
  match vals with
  | [] => rfl
  | [v] => rfl
  | v :: v' :: vs => simp [resV]

section
variable {P : Program} {sg : FuncId → List Bool}

theorem CallT.of_wp (hm : P.follows .mixedOrders = true) {tk : Bool} {f : FuncId} {as : List Arg} {outs : List (Option (List PV))} {res : List PV} {fn : Func} {code : Code} {rs : List ResultVar}
    (hf : P.funcs[f]? = some fn) (hb : fn.body = some code) (hname : (fn.name == "runtime.NumGoroutine") = false) (hres : fn.results = ⟨rs⟩) (hargs : as.length ≤ fn.ntmps)
    (hnr : noRoL res = true) (hro : resOk res = true) (houts : (outs.all fun o => o.all noRoL) = true)
    (hw : Gl.wp P sg fn.ntmps code (fun ex S => (match ex with | .exit _ => False | _ => resW P S rs fun vs => Fin tk S as outs vs res)) (entry as)) : CallT P tk f as outs res := by
  refine ⟨⟨fn, hf, by rw [hb]; rfl, hname⟩, hnr, hro, houts, ?_⟩
  intro w G ι vs hnew hok hvs
  have hlen := RepAL_length hvs
  rw [argAVs_length] at hlen
  have hsize : (⟨vs⟩ : Array Value).size = as.length := hlen
  refine calls_of_wp hf hb ?_
  have rel0 : Rel w as.length fn.ntmps (argM as ι) G ι (fun id => id < (entry as).n) w (entry as) ι { tmps := ⟨vs⟩ ++ Array.replicate (fn.ntmps - (⟨vs⟩ : Array Value).size) undef, defers := [] } := by
    have dead : ∀ id, ¬ id < as.length → argH as id = .dead := fun id hid => by
      unfold argH
      rw [List.getElem?_eq_none (by omega)]
    refine ⟨Keep.refl w _, hok, fun t => ?_, fun id hid => dead id hid, fun t i hi => ?_, fun _ _ => rfl, fun j hj => hj, hnew, by simp [hsize]; omega, rfl⟩
    · by_cases ht : t < as.length
      · obtain ⟨v, hv, hr⟩ := RepAL_get hvs t _ (List.getElem?_eq_getElem (by rw [argAVs_length]; exact ht))
        have e1 : (entry as).e t = (argAVs 0 as)[t]'(by rw [argAVs_length]; exact ht) := by
          simp [entry, List.getD_eq_getElem?_getD, List.getElem?_eq_getElem (show t < (argAVs 0 as).length by rw [argAVs_length]; exact ht)]
        have e2 : ((⟨vs⟩ : Array Value) ++ Array.replicate (fn.ntmps - (⟨vs⟩ : Array Value).size) undef).getD t undef = v := by
          rw [Array.getD_eq_getD_getElem?, Array.getElem?_append_left (by rw [hsize]; exact ht)]
          simp only [List.getElem?_toArray, hv, Option.getD_some]
        rw [e1, e2]
        exact hr
      · have e1 : (entry as).e t = .p .any := by
          simp [entry, List.getD_eq_getElem?_getD, List.getElem?_eq_none (show (argAVs 0 as).length ≤ t by rw [argAVs_length]; omega)]
        rw [e1]
        simp only [RepA, RepP]
    · by_cases ht : t < as.length
      · have e1 : (entry as).e t = ((as[t]'ht).av t) := by
          have := argAVs_get as 0 t
          rw [List.getElem?_eq_getElem ht, Option.map_some, Nat.zero_add] at this
          simp [entry, List.getD_eq_getElem?_getD, this]
        rw [e1] at hi
        show i < as.length
        cases hq : as[t]'ht with
        | pv x => rw [hq] at hi; simp [Arg.av, AV.has] at hi
        | mu p c => rw [hq] at hi; cases p <;> (simp [Arg.av, AV.has] at hi; omega)
      · have e1 : (entry as).e t = .p .any := by
          simp [entry, List.getD_eq_getElem?_getD, List.getElem?_eq_none (show (argAVs 0 as).length ≤ t by rw [argAVs_length]; omega)]
        rw [e1] at hi
        simp [AV.has] at hi
  refine wp_mono (wp_sound hm code _ (entry as) _ w ι hw rel0) ?_
  rintro e a' w' ⟨ex, S, ι1, rfl, hq, h1⟩
  have main : (resW P S rs fun vs => Fin tk S as outs vs res) → ∃ v ι', (results fn a'.tmps).run P w' = .ok v w' ∧ (∀ j, j < as.length → ι' j = ι j) ∧ Keep w w' (argM as ι) ∧
      HeapOk w' w.heap.size (argM as ι) G (postH tk as outs res) ι' ∧ RepA w' (Held (postH tk as outs res) ι') G ι' (impAll as.length res) v := by
    intro hfin
    obtain ⟨vs, vals, hfin, hvals, hrun⟩ := resW_sound h1 rs hfin
    have hsmall : res.all smallP = true := by simp only [resOk, Bool.and_eq_true] at hro; exact hro.2
    have h15 : res.length ≤ 15 := by simp only [resOk, Bool.and_eq_true, decide_eq_true_eq] at hro; exact hro.1
    obtain ⟨L, ⟨hids, hout⟩, pl, hrep⟩ := fins_sound hsmall hfin
    have hι' : ∀ j, j < as.length → locOf ι1 as.length L j = ι j := fun j hj => by
      simp only [locOf, hj, if_true]; exact h1.loc j hj
    have eL : ∀ p ∈ L, locOf ι1 as.length L p.1 = ⟨(ι1 p.2.1).B, (ι1 p.2.1).off + p.2.2, (ι1 p.2.1).cap - p.2.2⟩ := by
      intro p hp
      have hlo := pl.lo p hp
      have hfind : L.find? (fun q => q.1 == p.1) = some p := find_nodup pl.nums hp
      simp only [locOf, show ¬ p.1 < as.length from by omega, if_false, hfind]
    have e0 : ∀ i, as.length ≤ i → (∀ p ∈ L, p.1 ≠ i) → (locOf ι1 as.length L i).cap = 0 := by
      intro i hi hn
      have hfind : L.find? (fun q => q.1 == i) = none := by
        rw [List.find?_eq_none]; intro q hq; simpa using hn q hq
      simp only [locOf, show ¬ i < as.length from by omega, if_false, hfind]
    have fits : Fits ι1 (locOf ι1 as.length L) as.length (as.length + 16 * res.length) L := ⟨eL, fun i h1 _ h3 => e0 i h1 h3⟩
    -- what is live in the end
    have cls : ∀ i m c, postH tk as outs res i = .live m c → (i < as.length ∧ m = true ∧ S.h i = .live true c ∧ i ∉ L.map fun p => p.2.1) ∨
        (as.length ≤ i ∧ m = tk ∧ ((∃ id off len m' c', (i, id, off) ∈ L ∧ S.h id = .live m' c' ∧ off + len ≤ c'.length ∧ (m' = true → tk = true) ∧ c = (c'.drop off).take len) ∨ (c = [] ∧ ∀ q ∈ L, q.1 ≠ i))) := by
      intro i m c hl
      unfold postH at hl
      rcases hwsH_cases (h := outH as outs) (l := impWs tk as.length res) (i := i) with e | ⟨b, hb, e⟩
      · rw [e] at hl
        unfold outH at hl
        split at hl
        · rename_i p c1 e1
          have hi := (List.getElem?_eq_some_iff.1 e1).1
          split at hl
          · rename_i c2 e2
            cases hl
            have := hout i hi
            rw [e1, e2] at this
            exact .inl ⟨hi, rfl, this.1, this.2⟩
          · cases hl
        · cases hl
      · rw [e] at hl
        subst hl
        have hlo := (pl.wsl _ hb).1
        rcases pl.src _ hb with ⟨id, off, len, m', c', q1, q2, q3, q4, q5⟩ | ⟨q1, q2⟩
        · simp only [Blk.live.injEq] at q5
          exact .inr ⟨hlo, q5.1, .inl ⟨id, off, len, m', c', q1, q2, q3, q4, q5.2⟩⟩
        · simp only [Blk.live.injEq] at q1
          exact .inr ⟨hlo, q1.1, .inr ⟨q1.2, q2⟩⟩
    have held : ∀ B, Held (postH tk as outs res) (locOf ι1 as.length L) B → Held S.h ι1 B := by
      rintro B ⟨i, m, c, hl, hc0, hB⟩
      rcases cls i m c hl with ⟨hi, rfl, hS, _⟩ | ⟨hi, rfl, ⟨id, off, len, m', c', q1, q2, q3, q4, q5⟩ | ⟨q1, q2⟩⟩
      · rw [hι' i hi, ← h1.loc i hi] at hc0 hB
        exact ⟨i, true, c, hS, hc0, hB⟩
      · rw [eL _ q1] at hc0 hB
        exact ⟨id, m', c', q2, by simp at hc0; omega, hB⟩
      · exact absurd (e0 i hi q2) hc0
    have st : Stays w' w' (Held S.h ι1) (Held (postH tk as outs res) (locOf ι1 as.length L)) := fun B o v hF hv => ⟨hv, fun hh => hF (held B hh)⟩
    have tr : ∀ {B o xs}, RepC w' (Held S.h ι1) G B o xs → RepC w' (Held (postH tk as outs res) (locOf ι1 as.length L)) G B o xs := fun hc => RepC.tr st (fun _ _ _ h => h) _ _ _ (fun _ _ hv => hv) hc
    have ok : HeapOk w' w.heap.size (argM as ι) G (postH tk as outs res) (locOf ι1 as.length L) := by
      refine ⟨fun i m c hl => ?_, fun i m c hl => ?_, fun i m1 c1 i' m2 c2 hl hl' hne z1 z2 => ?_⟩
      · rcases cls i m c hl with ⟨hi, rfl, hS, _⟩ | ⟨hi, rfl, ⟨id, off, len, m', c', q1, q2, q3, q4, rfl⟩ | ⟨rfl, q2⟩⟩
        · obtain ⟨g1, g2, g3⟩ := h1.heap.live i true c hS
          rw [hι' i hi, ← h1.loc i hi]
          exact ⟨g1, g2, g3.imp _root_.id fun ⟨r1, r2, r3⟩ => ⟨r1, tr r2, r3⟩⟩
        · obtain ⟨g1, g2, g3⟩ := h1.heap.live id m' c' q2
          rw [eL _ q1]
          have hlen' : ((c'.drop off).take len).length = len := by simp; omega
          refine ⟨by rw [hlen']; simp only; omega, by simp only; omega, ?_⟩
          by_cases hc0 : (ι1 id).cap - off = 0
          · exact .inl hc0
          · rcases g3 with g3 | ⟨⟨cs, E, lo, hi', hcell, hroom, hfr⟩, r2, r3⟩
            · omega
            · refine .inr ⟨⟨cs, E, lo, hi', hcell, by simp only; omega, hfr⟩, RepC_take (RepC_drop (tr r2) off) len, ?_⟩
              rcases r3 with r3 | ⟨r3, r4⟩
              · exact .inl r3
              · exact .inr ⟨q4 r3, r4⟩
        · exact ⟨by simp, by have := e0 i hi q2; omega, .inl (e0 i hi q2)⟩
      · exfalso
        unfold postH at hl
        rcases hwsH_cases (h := outH as outs) (l := impWs tk as.length res) (i := i) with e | ⟨b, hb, e⟩
        · rw [e] at hl
          unfold outH at hl
          split at hl
          · split at hl <;> cases hl
          · cases hl
        · obtain ⟨c', e', _⟩ := impWs_live _ hb
          rw [e] at hl
          simp only at e'
          rw [hl] at e'
          cases e'
      · rcases cls i m1 c1 hl with ⟨hi, rfl, hS, hn⟩ | ⟨hi, rfl, ⟨id, off, len, m', c', q1, q2, q3, q4, rfl⟩ | ⟨rfl, q2⟩⟩
        · rw [hι' i hi, ← h1.loc i hi] at z1 ⊢
          rcases cls i' m2 c2 hl' with ⟨hi2, rfl, hS2, hn2⟩ | ⟨hi2, rfl, ⟨id2, off2, len2, m2', c2', p1, p2, p3, p4, rfl⟩ | ⟨rfl, p2⟩⟩
          · rw [hι' i' hi2, ← h1.loc i' hi2] at z2 ⊢
            exact h1.heap.sep _ _ _ _ _ _ hS hS2 hne z1 z2
          · rw [eL _ p1] at z2 ⊢
            simp only at z2
            have z2' : (ι1 id2).cap ≠ 0 := by omega
            exact h1.heap.sep _ _ _ _ _ _ hS p2 (fun e => hn (List.mem_map.2 ⟨_, p1, e.symm⟩)) z1 z2'
          · exact absurd (e0 i' hi2 p2) z2
        · rw [eL _ q1] at z1 ⊢
          simp only at z1
          have z1' : (ι1 id).cap ≠ 0 := by omega
          rcases cls i' m2 c2 hl' with ⟨hi2, rfl, hS2, hn2⟩ | ⟨hi2, _, ⟨id2, off2, len2, m2', c2', p1, p2, p3, p4, rfl⟩ | ⟨rfl, p2⟩⟩
          · rw [hι' i' hi2, ← h1.loc i' hi2] at z2 ⊢
            exact h1.heap.sep _ _ _ _ _ _ q2 hS2 (fun e => hn2 (List.mem_map.2 ⟨_, q1, e⟩)) z1' z2
          · rw [eL _ p1] at z2 ⊢
            simp only at z2
            have z2' : (ι1 id2).cap ≠ 0 := by omega
            refine h1.heap.sep _ _ _ _ _ _ q2 p2 (fun e => hne ?_) z1' z2'
            subst e
            have := inj_nodup hids q1 p1 rfl
            exact congrArg Prod.fst this
          · exact absurd (e0 i' hi2 p2) z2
        · exact absurd (e0 i hi q2) z1
    refine ⟨_, locOf ι1 as.length L, results_run hres hrun, hι', h1.keep, ok, ?_⟩
    have := hrep h1.heap held fits hvals
    have hl : vals.length = res.length := by have := RepAL_length this; rw [this]; exact imps_length _ _
    match vals, res, hl, this with
    | [], [], _, this => simp only [impAll, RepA]; exact ⟨_, rfl, this⟩
    | [t], [x], _, this =>
      simp only [imps, RepAL] at this
      obtain ⟨v, vs', e, hx, rfl⟩ := this
      simp only [List.cons.injEq, and_true] at e
      simp only [impAll, resV]
      rw [e]; exact hx
    | t :: t' :: ts, x :: x' :: xs, _, this => simp only [impAll, RepA]; exact ⟨_, rfl, this⟩
  cases ex with
  | exit id => exact hq.elim
  | normal =>
    obtain ⟨v, ι', hr, r⟩ := main hq
    exact ⟨h1.defers, v, hr, v, ι', rfl, r⟩
  | ret =>
    obtain ⟨v, ι', hr, r⟩ := main hq
    exact ⟨h1.defers, v, hr, v, ι', rfl, r⟩
  where
  find_nodup {L : List (Nat × Nat × Nat)} (hn : (L.map (·.1)).Nodup) {p : Nat × Nat × Nat} (hp : p ∈ L) : L.find? (fun q => q.1 == p.1) = some p := by
    induction L with
    | nil => simp at hp
    | cons q L ih =>
      simp only [List.map_cons, List.nodup_cons] at hn
      rcases List.mem_cons.1 hp with rfl | hp
      · simp
      · have hne : ¬ q.1 = p.1 := fun e => hn.1 (List.mem_map.2 ⟨p, hp, e.symm⟩)
        rw [List.find?_cons_of_neg (by simpa using hne)]
        exact ih hn.2 hp
  inj_nodup {L : List (Nat × Nat × Nat)} (hn : (L.map fun p => p.2.1).Nodup) {p q : Nat × Nat × Nat} (hp : p ∈ L) (hq : q ∈ L) (e : p.2.1 = q.2.1) : p = q := by
    induction L with
    | nil => simp at hp
    | cons r L ih =>
      simp only [List.map_cons, List.nodup_cons] at hn
      rcases List.mem_cons.1 hp with e1 | hp <;> rcases List.mem_cons.1 hq with e2 | hq
      · rw [e1, e2]
      · rw [← e1] at hn; exact absurd (List.mem_map.2 ⟨q, hq, e.symm⟩) hn.1
      · rw [← e2] at hn; exact absurd (List.mem_map.2 ⟨p, hp, e⟩) hn.1
      · exact ih hn.2 hp hq
  imps_length : ∀ (xs : List PV) (k : Nat), (imps k xs).length = xs.length
    | [], _ => rfl
    | x :: xs, k => by simp [imps, imps_length xs]

end
end Go.Gl
