/-
 A program logic over the walk's rules, joined: calls, regions, pieces of code. Conditions: those that each lemma names.
-/
import Derived.Test.YtfjfobbniglaeaaGlD
set_option linter.unusedSimpArgs false
set_option linter.unusedVariables false
set_option linter.unusedSectionVars false
namespace Go.Gl
open Go
variable [Amb]
mutual
theorem RepP.noRo {w : World} {F G F2 G2 : Nat → Prop} (H : ∀ B, ¬ F B → G B → ¬ F2 B ∧ G2 B) : ∀ (x : PV) (v : Value), Gl.noRo x = true → RepP w F G x v → RepP w F2 G2 x v
 | .int _ _, _, _, h => h
 | .bool _, _, _, h => h
 | .str _, _, _, h => h
 | .nilf, _, _, h => h
 | .nl, _, _, h => h
 | .any, _, hn, _ => by simp [Gl.noRo] at hn
 | .dl _, _, _, h => by simp only [RepP] at h
 | .bx _, _, _, h => by simp only [RepP] at h
 | .fn _ _ _, _, hn, _ => by simp [Gl.noRo] at hn
 | .pc _, _, hn, _ => by simp [Gl.noRo] at hn
 | .sl o xs, v, hn, h => by
  simp only [RepP] at h ⊢
  obtain ⟨a, cap, hv, hl, hm, ho, hx⟩ := h
  refine ⟨a, cap, hv, hl, hm, ho, ?_⟩
  cases o with
  | ro => simp [Gl.noRo] at hn
  | own => exact .inl (ho rfl).1
  | fr =>
   simp only [Gl.noRo] at hn
   rcases hx with hx | ⟨B, off, ha, hF, hG, hc⟩
   ·exact .inl hx
   ·obtain ⟨h1, h2⟩ := H B hF (hG rfl)
    exact .inr ⟨B, off, ha, h1, fun _ => h2, RepC.noRo H xs B off hn hc⟩
 | .agg xs, v, hn, h => by
  simp only [RepP] at h ⊢
  simp only [Gl.noRo] at hn
  obtain ⟨cs, hv, hx⟩ := h
  exact ⟨cs, hv, RepL.noRo H xs cs hn hx⟩
theorem RepC.noRo {w : World} {F G F2 G2 : Nat → Prop} (H : ∀ B, ¬ F B → G B → ¬ F2 B ∧ G2 B) : ∀ (xs : List PV) (B o : Nat), noRoL xs = true → RepC w F G B o xs → RepC w F2 G2 B o xs
 | [], _, _, _, _ => by simp only [RepC]
 | x :: xs, B, o, hn, h => by
  simp only [noRoL, Bool.and_eq_true] at hn
  simp only [RepC] at h ⊢
  obtain ⟨⟨v, hv, h1, hx⟩, hr⟩ := h
  exact ⟨⟨v, hv, h1, RepP.noRo H x v hn.1 hx⟩, RepC.noRo H xs B (o + 1) hn.2 hr⟩
theorem RepL.noRo {w : World} {F G F2 G2 : Nat → Prop} (H : ∀ B, ¬ F B → G B → ¬ F2 B ∧ G2 B) : ∀ (xs : List PV) (vs : List Value), noRoL xs = true → RepL w F G xs vs → RepL w F2 G2 xs vs
 | [], _, _, h => by simpa only [RepL] using h
 | x :: xs, vs, hn, h => by
  simp only [noRoL, Bool.and_eq_true] at hn
  simp only [RepL] at h ⊢
  obtain ⟨v, vs', rfl, hx, hr⟩ := h
  exact ⟨v, vs', rfl, RepP.noRo H x v hn.1 hx, RepL.noRo H xs vs' hn.2 hr⟩
end
/-- 'x' tells the value v to a callee that may write the blocks of F' and no other. -/
def Pur (h : Nat → Blk) (v : AV) (x : PV) (rd : List Nat) : Prop :=
 ∀ {w : World} {z : Nat} {M G : Nat → Prop} {ι : Nat → Loc} {val : Value} {F' G' : Nat → Prop}, HeapOk w z M G h ι → RepA w (Held h ι) G ι v val → (∀ B, F' B → Held h ι B) →
  (∀ id ∈ rd, ∀ B, owns (h id) (ι id) B → ¬ F' B) → (∀ B, ¬ Held h ι B → G B → G' B) → RepP w F' G' x val
theorem Pur.mono {h : Nat → Blk} {v : AV} {x : PV} {rd rd' : List Nat} (p : Pur h v x rd) (hr : ∀ i ∈ rd, i ∈ rd') : Pur h v x rd' :=
 fun ok hv h1 h2 h3 => p ok hv h1 (fun id hid => h2 id (hr id hid)) h3
theorem pur_cells {w : World} {G : Nat → Prop} {h : Nat → Blk} {ι : Nat → Loc} {F' G' : Nat → Prop} (h1 : ∀ B, F' B → Held h ι B) (h3 : ∀ B, ¬ Held h ι B → G B → G' B) {B o : Nat} {xs : List PV}
  (hc : RepC w (Held h ι) G B o xs) : RepC w F' G' B o xs :=
 RepC.tr (fun _ _ _ hF hv => ⟨hv, fun h' => hF (h1 _ h')⟩) (fun B _ hF hG => h3 B hF hG) _ _ _ (fun _ _ hv => hv) hc
/-- A block whose rows are the call's own, as a reader sees it. -/
theorem pur_deep {w : World} {z : Nat} {M G : Nat → Prop} {h : Nat → Blk} {ι : Nat → Loc} {F' G' : Nat → Prop} (ok : HeapOk w z M G h ι) (h1 : ∀ B, F' B → Held h ι B) (h3 : ∀ B, ¬ Held h ι B → G B → G' B) {id : Nat} {m : Bool} {cs : List DC} {rs : List (Option (List PV))}
  (hb : h id = .deep m cs rs) (h2 : ∀ B, owns (h id) (ι id) B → ¬ F' B) : RepC w F' G' (ι id).B (ι id).off (cs.map (DC.rd rs)) := by
 rw [RepC_iff]
 intro j x hj
 rw [List.getElem?_map, Option.map_eq_some_iff] at hj
 obtain ⟨y, hy, rfl⟩ := hj
 obtain ⟨hn, ⟨l1, l2, l3⟩, r1, _⟩ := ok.deep hb
 have hlt := (List.getElem?_eq_some_iff.1 hy).1
 rcases l3 with l3 | ⟨_, _, l3⟩
 ·omega
 ·obtain ⟨v, hv, hv1, hd⟩ := l3 j y hy
  refine ⟨v, hv, hv1, ?_⟩
  cases y with
  | v x => exact RepP.tr (fun _ _ _ hF hv => ⟨hv, fun h' => hF (h1 _ h')⟩) (fun B _ hF hG => h3 B hF hG) _ _ hd
  | row r =>
   simp only [DC.rd]
   split
   ·rename_i c hr
    obtain ⟨a, rfl, ha⟩ := hd.2 c hr
    have hrow := r1 r c hr
    simp only [RepP]
    refine ⟨a, _, rfl, hrow.1, hrow.2.1, (by intro e; cases e), ?_⟩
    by_cases hc : c = []
    ·exact .inl hc
    ·obtain ⟨hrc, hcap⟩ := hrow.cells hc
     right
     rcases ha with ha | ha
     ·exact absurd ha hcap
     ·exact ⟨_, _, ha, h2 _ (by rw [hb]; exact .inr ⟨r, c, hr, hcap, rfl⟩), (by intro e; cases e), pur_cells h1 h3 hrc⟩
   ·simp only [RepP]
  | self o => simp only [DC.rd, RepP]
theorem pur1_sound {h : Nat → Blk} {v : AV} {K : PV → List Nat → Prop} (hK : pur1 h v K) : ∃ x rd, K x rd ∧ Pur h v x rd := by
 unfold pur1 at hK
 split at hK
 ·rename_i x
  refine ⟨_, _, hK, ?_⟩
  intro w z M G ι val F' G' ok hv h1 h2 h3
  exact RepP.tr (fun _ _ _ hF hv => ⟨hv, fun h' => hF (h1 _ h')⟩) (fun B _ hF hG => h3 B hF hG) _ _ (RepP_cell hv)
 ·rename_i id off len
  have key : ∀ (o : Fl) c, ((∃ m, h id = .live m c) ∨ ∃ m, h id = .froz m c) → off + len ≤ c.length → (o = .ro ∨ ∃ m, o = .lent m ∧ h id = .froz m c) → Pur h (.ref id off len) (.sl o ((c.drop off).take len)) [id] := by
   intro o c hb hle ho
   intro w z M G ι val F' G' ok hv h1 h2 h3
   obtain ⟨ad, cap, rfl, hl, hcap, hm, hc⟩ := rep_ref hv
   have hlen : ((c.drop off).take len).length = len := by simp; omega
   simp only [RepP]
   refine ⟨ad, cap, by rw [hlen], by omega, by omega, ?_, ?_⟩
   ·intro e
    rcases ho with rfl | ⟨m, rfl, _⟩
    ·cases e
    ·cases m <;> simp [Fl.lent] at e
   ·by_cases h0 : len = 0
    ·left; exact List.eq_nil_of_length_eq_zero (by omega)
    ·right
     rcases hc with hc | rfl
     ·omega
     ·have hcne : c ≠ [] := by intro e; subst e; simp at hle; omega
      have hcells := ok.cells hb hcne
      refine ⟨_, _, rfl, ?_, ?_, RepC_take (RepC_drop (pur_cells h1 h3 hcells) off) len⟩
      ·rcases hb with ⟨m, hb⟩ | ⟨m, hb⟩
       ·exact h2 id (by simp) _ (owns_live hb (by omega))
       ·obtain ⟨_, _, g3⟩ := ok.froz id m c hb
        rcases g3 with g3 | ⟨g, _, _⟩
        ·exact absurd g3 hcne
        ·exact fun h' => g (h1 _ h')
      ·intro e
       rcases ho with rfl | ⟨m, rfl, hb'⟩
       ·cases e
       ·obtain ⟨_, _, g3⟩ := ok.froz id m c hb'
        rcases g3 with g3 | ⟨g, gg, _⟩
        ·exact absurd g3 hcne
        ·refine h3 _ g (gg ?_)
         cases m
         ·rfl
         ·simp [Fl.lent] at e
  split at hK
  ·rename_i m c hb; exact ⟨_, _, hK.2, key _ c (.inl ⟨m, hb⟩) hK.1 (.inl rfl)⟩
  ·rename_i m c hb; exact ⟨_, _, hK.2, key _ c (.inr ⟨m, hb⟩) hK.1 (.inr ⟨m, rfl, hb⟩)⟩
  ·rename_i m cs rs hb
   obtain ⟨hle, hk⟩ := hK
   refine ⟨_, _, hk, ?_⟩
   intro w z M G ι val F' G' ok hv h1 h2 h3
   obtain ⟨ad, cap, rfl, hl, hcap, hm, hc⟩ := rep_ref hv
   have hlen : (((cs.map (DC.rd rs)).drop off).take len).length = len := by simp; omega
   simp only [RepP]
   refine ⟨ad, cap, by rw [hlen], by omega, by omega, (by intro e; cases e), ?_⟩
   by_cases h0 : len = 0
   ·left; exact List.eq_nil_of_length_eq_zero (by omega)
   ·right
    rcases hc with hc | rfl
    ·omega
    ·exact ⟨_, _, rfl, h2 id (by simp) _ (by rw [hb]; exact .inl ⟨by omega, rfl⟩), (by intro e; cases e), RepC_take (RepC_drop (pur_deep ok h1 h3 hb (h2 id (by simp))) off) len⟩
  ·exact hK.elim
 ·rename_i id off
  have key : ∀ c, ((∃ m, h id = .live m c) ∨ ∃ m, h id = .froz m c) → Pur h (.ptr id off) (.pc (c.drop off)) [id] := by
   intro c hb
   intro w z M G ι val F' G' ok hv h1 h2 h3
   simp only [RepA] at hv
   simp only [RepP]
   refine ⟨_, _, hv, ?_, ?_⟩
   ·by_cases hcne : c = []
    ·left; subst hcne; simp
    ·right
     rcases hb with ⟨m, hb⟩ | ⟨m, hb⟩
     ·obtain ⟨g1, _, _⟩ := ok.live id m c hb
      exact h2 id (by simp) _ (owns_live hb (by have := List.length_pos_iff.2 hcne; omega))
     ·obtain ⟨_, _, g3⟩ := ok.froz id m c hb
      rcases g3 with g3 | ⟨g, _, _⟩
      ·exact absurd g3 hcne
      ·exact fun h' => g (h1 _ h')
   ·by_cases hcne : c = []
    ·subst hcne; simp [RepC]
    ·exact RepC_drop (pur_cells h1 h3 (ok.cells hb hcne)) off
  split at hK
  ·rename_i m c hb; exact ⟨_, _, hK, key c (.inl ⟨m, hb⟩)⟩
  ·rename_i m c hb; exact ⟨_, _, hK, key c (.inr ⟨m, hb⟩)⟩
  ·rename_i m cs rs hb
   refine ⟨_, _, hK, ?_⟩
   intro w z M G ι val F' G' ok hv h1 h2 h3
   simp only [RepA] at hv
   simp only [RepP]
   refine ⟨_, _, hv, ?_, RepC_drop (pur_deep ok h1 h3 hb (h2 id (by simp))) off⟩
   by_cases hcne : cs = []
   ·left; subst hcne; simp
   ·right
    have hp := List.length_pos_iff.2 hcne
    obtain ⟨_, ⟨l1, _⟩, _⟩ := ok.deep hb
    exact h2 id (by simp) _ (by rw [hb]; exact .inl ⟨by omega, rfl⟩)
  ·exact hK.elim
 ·rename_i id r off len
  split at hK
  ·rename_i m cs rs hb
   split at hK
   ·rename_i c hr
    obtain ⟨hle, hk⟩ := hK
    refine ⟨_, _, hk, ?_⟩
    intro w z M G ι val F' G' ok hv h1 h2 h3
    obtain ⟨_, ad, cap, rfl, hl, hcap, hm, hc⟩ := rep_inn hv
    have hlen : ((c.drop off).take len).length = len := by simp; omega
    simp only [RepP]
    refine ⟨ad, cap, by rw [hlen], by omega, by omega, (by intro e; cases e), ?_⟩
    by_cases h0 : len = 0
    ·left; exact List.eq_nil_of_length_eq_zero (by omega)
    ·right
     rcases hc with hc | rfl
     ·omega
     ·obtain ⟨_, hrow⟩ := ok.deepRow hb hr
      obtain ⟨hrc, hcap0⟩ := hrow.cells (by intro e; subst e; simp at hle; omega)
      exact ⟨_, _, rfl, h2 id (by simp) _ (by rw [hb]; exact .inr ⟨r, c, hr, hcap0, rfl⟩), (by intro e; cases e), RepC_take (RepC_drop (pur_cells h1 h3 hrc) off) len⟩
   ·exact hK.elim
  ·exact hK.elim
 ·exact hK.elim
theorem purs1_sound {h : Nat → Blk} : ∀ {vs : List AV} {K : List PV → List Nat → Prop}, purs1 h vs K → ∃ xs rd, K xs rd ∧
  ∀ {w : World} {z : Nat} {M G : Nat → Prop} {ι : Nat → Loc} {vals : List Value} {F' G' : Nat → Prop}, HeapOk w z M G h ι → RepAL w (Held h ι) G ι vs vals → (∀ B, F' B → Held h ι B) →
  (∀ id ∈ rd, ∀ B, owns (h id) (ι id) B → ¬ F' B) → (∀ B, ¬ Held h ι B → G B → G' B) → RepL w F' G' xs vals
 | [], K, hK => ⟨[], [], hK, fun _ hv _ _ _ => by simpa only [RepAL, RepL] using hv⟩
 | v :: vs, K, hK => by
  simp only [purs1] at hK
  obtain ⟨x, rd, hK, hp⟩ := pur1_sound hK
  obtain ⟨xs, rd', hK, hps⟩ := purs1_sound hK
  refine ⟨x :: xs, rd ++ rd', hK, ?_⟩
  intro w z M G ι vals F' G' ok hv h1 h2 h3
  simp only [RepAL] at hv
  obtain ⟨u, us, rfl, hu, hus⟩ := hv
  simp only [RepL]
  exact ⟨u, us, rfl, hp ok hu h1 (fun id hid => h2 id (by simp [hid])) h3, hps ok hus h1 (fun id hid => h2 id (by simp [hid])) h3⟩
theorem pur_sound {h : Nat → Blk} {v : AV} {K : PV → List Nat → Prop} (hK : pur h v K) : ∃ x rd, K x rd ∧ Pur h v x rd := by
 unfold pur at hK
 split at hK
 ·rename_i xs
  obtain ⟨ys, rd, hk, hp⟩ := purs1_sound hK
  refine ⟨_, _, hk, ?_⟩
  intro w z M G ι val F' G' ok hv h1 h2 h3
  simp only [RepA] at hv
  obtain ⟨cs, rfl, hl⟩ := hv
  simp only [RepP]
  exact ⟨cs, rfl, hp ok hl h1 h2 h3⟩
 ·rename_i f first caps
  obtain ⟨ys, rd, hk, hp⟩ := purs1_sound hK
  obtain ⟨zs, rd', hk, hp'⟩ := purs1_sound hk
  refine ⟨_, _, hk, ?_⟩
  intro w z M G ι val F' G' ok hv h1 h2 h3
  simp only [RepA] at hv
  obtain ⟨b, c, rfl, hl, hl'⟩ := hv
  simp only [RepP]
  exact ⟨b, c, rfl, hp ok hl h1 (fun id hid => h2 id (by simp [hid])) h3, hp' ok hl' h1 (fun id hid => h2 id (by simp [hid])) h3⟩
 ·exact pur1_sound hK
/-- How an argument is handed over. -/
def Handed (h : Nat → Blk) (v : AV) (a : Arg) (m : Option (Nat × Option Nat)) (rd : List Nat) : Prop :=
 (∃ x, a = .pv x ∧ m = none ∧ Pur h v x rd) ∨ (∃ c id b, a = .mu false c ∧ m = some (id, none) ∧ v = .ref id 0 c.length ∧ h id = .live b c) ∨ (∃ c id b, a = .mu true c ∧ m = some (id, none) ∧ v = .ptr id 0 ∧ h id = .live b c) ∨
 (∃ rows id b, a = .mu false [.dl rows] ∧ m = some (id, none) ∧ v = .ref id 0 rows.length ∧ h id = .deep b (canon rows.length) (rows.map some)) ∨
 (∃ c id r b cs rs, a = .mu false c ∧ m = some (id, some r) ∧ v = .inn id r 0 c.length ∧ h id = .deep b cs rs ∧ rs[r]? = some (some c)) ∨
 (∃ rows id b, a = .mu false [.dl rows] ∧ m = some (id, some (rows.length + rows.length)) ∧ v = .ref id 0 rows.length ∧ 0 < rows.length ∧ h id = .deep b (canonS rows.length) (List.replicate rows.length none ++ rows.map some))
theorem pass_sound {h : Nat → Blk} : ∀ {vs : List AV} {sg : List Bool} {K : List Arg → List Nat → List (Option (Nat × Option Nat)) → Prop}, pass h sg vs K →
  ∃ as rd ms, K as rd ms ∧ as.length = vs.length ∧ ms.length = vs.length ∧ ∀ (j : Nat) (v : AV) (a : Arg) (m : Option (Nat × Option Nat)), vs[j]? = some v → as[j]? = some a → ms[j]? = some m → Handed h v a m rd := by
 intro vs
 induction vs with
 | nil =>
  intro sg K hK
  have : pass h sg [] K = K [] [] [] := by cases sg with
   | nil => rfl
   | cons b sg => cases b <;> rfl
  rw [this] at hK
  exact ⟨[], [], [], hK, rfl, rfl, fun j v a m hv => by simp at hv⟩
 | cons v vs ih =>
  intro sg K hK
  have mono : ∀ {v : AV} {a : Arg} {m : Option (Nat × Option Nat)} {rd rd' : List Nat}, Handed h v a m rd → (∀ i ∈ rd, i ∈ rd') → Handed h v a m rd' := by
   intro v a m rd rd' h0 hr
   rcases h0 with ⟨x, e1, e2, p⟩ | h0
   ·exact .inl ⟨x, e1, e2, p.mono hr⟩
   ·exact .inr h0
  have step : ∀ {v : AV} {a : Arg} {m : Option (Nat × Option Nat)} {as rd rd' ms}, Handed h v a m rd → (∀ i ∈ rd, i ∈ rd') → (∀ (j : Nat) (v : AV) (a : Arg) (m : Option (Nat × Option Nat)), vs[j]? = some v → as[j]? = some a → ms[j]? = some m → Handed h v a m rd') →
    ∀ (j : Nat) (v' : AV) (a' : Arg) (m' : Option (Nat × Option Nat)), (v :: vs)[j]? = some v' → (a :: as)[j]? = some a' → (m :: ms)[j]? = some m' → Handed h v' a' m' rd' := by
   intro v a m as rd rd' ms h0 hr hs j v' a' m' h1 h2 h3
   cases j with
   | zero =>
    simp only [List.getElem?_cons_zero, Option.some.injEq] at h1 h2 h3
    subst h1 h2 h3
    exact mono h0 hr
   | succ j => exact hs j v' a' m' (by simpa using h1) (by simpa using h2) (by simpa using h3)
  have plain : ∀ sg' : List Bool, pur h v (fun x rd => pass h sg' vs fun as rd' ms => K (.pv x :: as) (rd ++ rd') (none :: ms)) →
    ∃ as rd ms, K as rd ms ∧ as.length = (v :: vs).length ∧ ms.length = (v :: vs).length ∧ ∀ (j : Nat) (v' : AV) (a : Arg) (m : Option (Nat × Option Nat)), (v :: vs)[j]? = some v' → as[j]? = some a → ms[j]? = some m → Handed h v' a m rd := by
   intro sg' hp
   obtain ⟨x, rd, hp, hx⟩ := pur_sound hp
   obtain ⟨as, rd', ms, hk, l1, l2, hs⟩ := ih hp
   refine ⟨_, _, _, hk, by simp [l1], by simp [l2], step (.inl ⟨x, rfl, rfl, hx⟩) (fun i hi => List.mem_append.2 (.inl hi)) fun j v a m h1 h2 h3 => ?_⟩
   exact mono (hs j v a m h1 h2 h3) fun i hi => List.mem_append.2 (.inr hi)
  cases sg with
  | nil => exact plain [] (by simpa only [pass, List.tail_nil] using hK)
  | cons b sg =>
   cases b with
   | false => exact plain sg (by simpa only [pass, List.tail_cons] using hK)
   | true =>
    simp only [pass] at hK
    split at hK
    ·rename_i id len
     split at hK
     ·rename_i b c hb
      obtain ⟨hlen, hK⟩ := hK
      obtain ⟨as, rd, ms, hk, l1, l2, hs⟩ := ih hK
      exact ⟨_, _, _, hk, by simp [l1], by simp [l2], step (.inr (.inl ⟨c, id, b, rfl, rfl, by rw [hlen], hb⟩)) (fun i hi => hi) hs⟩
     ·rename_i b cs rs hb
      rcases hK with ⟨rows, e1, e2, hlen, hK⟩ | ⟨rows, h0, e1, e2, hlen, hK⟩
      ·obtain ⟨as, rd, ms, hk, l1, l2, hs⟩ := ih hK
       exact ⟨_, _, _, hk, by simp [l1], by simp [l2], step (.inr (.inr (.inr (.inl ⟨rows, id, b, rfl, rfl, by rw [hlen], by rw [hb, e1, e2]⟩)))) (fun i hi => hi) hs⟩
      ·obtain ⟨as, rd, ms, hk, l1, l2, hs⟩ := ih hK
       exact ⟨_, _, _, hk, by simp [l1], by simp [l2], step (.inr (.inr (.inr (.inr (.inr ⟨rows, id, b, rfl, rfl, by rw [hlen], h0, by rw [hb, e1, e2]⟩))))) (fun i hi => hi) hs⟩
     ·exact hK.elim
    ·rename_i id
     split at hK
     ·rename_i b c hb
      obtain ⟨as, rd, ms, hk, l1, l2, hs⟩ := ih hK
      exact ⟨_, _, _, hk, by simp [l1], by simp [l2], step (.inr (.inr (.inl ⟨c, id, b, rfl, rfl, rfl, hb⟩))) (fun i hi => hi) hs⟩
     ·exact hK.elim
    ·rename_i id r len
     split at hK
     ·rename_i b cs rs hb
      split at hK
      ·rename_i c hr
       obtain ⟨hlen, hK⟩ := hK
       obtain ⟨as, rd, ms, hk, l1, l2, hs⟩ := ih hK
       exact ⟨_, _, _, hk, by simp [l1], by simp [l2], step (.inr (.inr (.inr (.inr (.inl ⟨c, id, r, b, cs, rs, rfl, rfl, by rw [hlen], hb, hr⟩))))) (fun i hi => hi) hs⟩
      ·exact hK.elim
     ·exact hK.elim
    ·obtain ⟨as, rd, ms, hk, l1, l2, hs⟩ := ih hK
     have hp : Pur h (.p (.sl .own [])) (.sl .own []) [] := by
      intro w z M G ι val F' G' ok hv h1 h2 h3
      exact RepP.tr (fun _ _ _ hF hv => ⟨hv, fun h' => hF (h1 _ h')⟩) (fun B _ hF hG => h3 B hF hG) _ _ (by simpa only [RepA] using hv)
     exact ⟨_, _, _, hk, by simp [l1], by simp [l2], step (rd := []) (.inl ⟨_, rfl, rfl, hp⟩) (fun i hi => by simp at hi) hs⟩
    ·exact hK.elim
/-! ### numbers -/
theorem argAVs_get : ∀ (as : List Arg) (j i : Nat), (argAVs j as)[i]? = (as[i]?).map (Arg.av (j + i))
 | [], _, _ => by simp [argAVs]
 | a :: as, j, i => by
  cases i with
  | zero => simp [argAVs]
  | succ i => simp only [argAVs, List.getElem?_cons_succ]; rw [argAVs_get as (j + 1) i, show j + 1 + i = j + (i + 1) from by omega]
theorem argAVs_length : ∀ (as : List Arg) (j : Nat), (argAVs j as).length = as.length
 | [], _ => rfl
 | a :: as, j => by simp [argAVs, argAVs_length as (j + 1)]
def shift (k : Nat) (l : List (Nat × Blk)) : List (Nat × Blk) := l.map fun p => (k + p.1, p.2)
theorem shift_append (k : Nat) (l m : List (Nat × Blk)) : shift k (l ++ m) = shift k l ++ shift k m := by simp [shift]
theorem shift_shift (k i : Nat) (l : List (Nat × Blk)) : shift k (shift i l) = shift (k + i) l := by simp [shift, Nat.add_assoc]
theorem impW1_shift (m : Bool) (k : Nat) (x : PV) : impW1 m k x = shift k (impW1 m 0 x) := by
 unfold impW1; split <;> simp [shift]
theorem impWL_shift (m : Bool) : ∀ (xs : List PV) (k : Nat), impWL m k xs = shift k (impWL m 0 xs)
 | [], k => by simp [impWL, shift]
 | x :: xs, k => by
  simp only [impWL]
  rw [shift_append, ← impW1_shift, impWL_shift m xs (k + 1), impWL_shift m xs (0 + 1), shift_shift]
  try simp
theorem impW_shift (m : Bool) (k : Nat) (x : PV) : impW m k x = shift k (impW m 0 x) := by
 cases x <;> simp only [impW] <;> first | exact impW1_shift m k _ | (rw [impWL_shift m _ (k + 1), impWL_shift m _ (0 + 1), shift_shift]; try simp)
theorem impWs_shift (m : Bool) : ∀ (xs : List PV) (k : Nat), impWs m k xs = shift k (impWs m 0 xs)
 | [], k => by simp [impWs, shift]
 | x :: xs, k => by
  simp only [impWs]
  rw [shift_append, ← impW_shift, impWs_shift m xs (k + 16), impWs_shift m xs (0 + 16), shift_shift]
  try simp
theorem impW1_lt {m : Bool} {x : PV} : ∀ p ∈ impW1 m 0 x, p.1 = 0 := by
 unfold impW1; split <;> simp
theorem impWL_lt {m : Bool} : ∀ {xs : List PV}, ∀ p ∈ impWL m 0 xs, p.1 < xs.length
 | [], p, hp => by simp [impWL] at hp
 | x :: xs, p, hp => by
  simp only [impWL, List.mem_append] at hp
  rcases hp with hp | hp
  ·have := impW1_lt p hp; simp; omega
  ·rw [impWL_shift] at hp
   simp only [shift, List.mem_map] at hp
   obtain ⟨q, hq, rfl⟩ := hp
   have := impWL_lt q hq
   simp; omega
theorem impW_lt {m : Bool} {x : PV} (h : smallP x = true) : ∀ p ∈ impW m 0 x, p.1 < 16 := by
 intro p hp
 cases x with
 | agg xs =>
  simp only [impW] at hp
  simp [smallP] at h
  rw [impWL_shift] at hp
  simp only [shift, List.mem_map] at hp
  obtain ⟨q, hq, rfl⟩ := hp
  have := impWL_lt q hq
  simp; omega
 | _ => simp only [impW] at hp; have := impW1_lt p hp; omega
theorem impWs_lt {m : Bool} : ∀ {xs : List PV}, xs.all smallP = true → ∀ p ∈ impWs m 0 xs, p.1 < 16 * xs.length
 | [], _, p, hp => by simp [impWs] at hp
 | x :: xs, h, p, hp => by
  simp only [List.all_cons, Bool.and_eq_true] at h
  simp only [impWs, List.mem_append] at hp
  rcases hp with hp | hp
  ·have := impW_lt (x := x) (by simpa using h.1) p hp; simp; omega
  ·rw [impWs_shift] at hp
   simp only [shift, List.mem_map] at hp
   obtain ⟨q, hq, rfl⟩ := hp
   have := impWs_lt h.2 q hq
   simp; omega
theorem impWs_256 {m : Bool} {res : List PV} (h : resOk res = true) : ∀ p ∈ impWs m 0 res, p.1 < 256 := by
 unfold resOk at h
 simp only [Bool.and_eq_true, decide_eq_true_eq] at h
 intro p hp
 have := impWs_lt h.2 p hp
 omega
/-- It leads to no memory but new memory. -/
def DC.noRo : DC → Bool
 | .v x => Gl.noRo x
 | _ => true
def blkNoRo : Blk → Bool
 | .live _ c => noRoL c
 | .deep _ cs rs => cs.all DC.noRo && rs.all fun | some c => noRoL c | none => true
 | .map _ _ _ => false
 | _ => true
def Flag (m : Bool) (b : Blk) : Prop := (∃ c, b = .live m c) ∨ ∃ cs rs, b = .deep m cs rs
theorem canon_noRo (n : Nat) : (canon n).all DC.noRo = true := by
 rw [List.all_eq_true]; intro x hx
 simp only [canon, List.mem_map] at hx
 obtain ⟨r, _, rfl⟩ := hx
 rfl
theorem rows_noRo : ∀ {rows : List (List PV)}, noRoLL rows = true → (rows.map some).all (fun | some c => noRoL c | none => true) = true
 | [], _ => rfl
 | x :: rows, h => by
  simp only [noRoLL, Bool.and_eq_true] at h
  simp only [List.map_cons, List.all_cons, h.1, rows_noRo h.2, Bool.and_self]
theorem impWs_live {m : Bool} : ∀ {xs : List PV} {k : Nat}, ∀ p ∈ impWs m k xs, Flag m p.2 ∧ (noRoL xs = true → blkNoRo p.2 = true) := by
 have one : ∀ (x : PV) (k : Nat), ∀ p ∈ impW1 m k x, Flag m p.2 ∧ (noRo x = true → blkNoRo p.2 = true) := by
  intro x k p hp
  unfold impW1 at hp
  split at hp
  ·rename_i ys; simp at hp; subst hp; exact ⟨.inl ⟨ys, rfl⟩, fun h => by simpa [noRo, blkNoRo] using h⟩
  ·rename_i rows; simp at hp; subst hp
   exact ⟨.inr ⟨_, _, rfl⟩, fun h => by simp only [noRo] at h; simp only [blkNoRo, canon_noRo, rows_noRo h, Bool.and_self]⟩
  ·rename_i ys; simp at hp; subst hp; exact ⟨.inl ⟨ys, rfl⟩, fun h => by simpa [noRo, blkNoRo] using h⟩
  ·simp at hp
 have list : ∀ (xs : List PV) (k : Nat), ∀ p ∈ impWL m k xs, Flag m p.2 ∧ (noRoL xs = true → blkNoRo p.2 = true) := by
  intro xs
  induction xs with
  | nil => intro k p hp; simp [impWL] at hp
  | cons x xs ih =>
   intro k p hp
   simp only [impWL, List.mem_append] at hp
   rcases hp with hp | hp
   ·obtain ⟨e, hc⟩ := one x k p hp
    exact ⟨e, fun h => hc (by simp only [noRoL, Bool.and_eq_true] at h; exact h.1)⟩
   ·obtain ⟨e, hc⟩ := ih _ p hp
    exact ⟨e, fun h => hc (by simp only [noRoL, Bool.and_eq_true] at h; exact h.2)⟩
 intro xs
 induction xs with
 | nil => intro k p hp; simp [impWs] at hp
 | cons x xs ih =>
  intro k p hp
  simp only [impWs, List.mem_append] at hp
  rcases hp with hp | hp
  ·have : Flag m p.2 ∧ (noRo x = true → blkNoRo p.2 = true) := by
    cases x with
    | agg ys =>
     obtain ⟨e, hc⟩ := list ys _ p (by simpa only [impW] using hp)
     exact ⟨e, fun h => hc (by simpa [noRo] using h)⟩
    | _ => exact one _ k p (by simpa only [impW] using hp)
   obtain ⟨e, hc⟩ := this
   exact ⟨e, fun h => hc (by simp only [noRoL, Bool.and_eq_true] at h; exact h.1)⟩
  ·obtain ⟨e, hc⟩ := ih p hp
   exact ⟨e, fun h => hc (by simp only [noRoL, Bool.and_eq_true] at h; exact h.2)⟩
/-- What a list of settings sets, set elsewhere. -/
theorem hwsH_shift {h h' : Nat → Blk} {k k' x : Nat} : ∀ {l : List (Nat × Blk)}, h (k + x) = h' (k' + x) → hwsH h (shift k l) (k + x) = hwsH h' (shift k' l) (k' + x) := by
 intro l
 induction l generalizing h h' with
 | nil => intro e; exact e
 | cons p l ih =>
  intro e
  obtain ⟨i, b⟩ := p
  simp only [shift, List.map_cons, hwsH]
  refine ih ?_
  by_cases hi : x = i
  ·subst hi; simp
  ·have h1 : ¬ (k + x = k + i) := by omega
   have h2 : ¬ (k' + x = k' + i) := by omega
   simp only [h1, h2, if_false]
   exact e
/-- What is set is one of the settings, or what stood there. -/
theorem hwsH_cases {h : Nat → Blk} : ∀ {l : List (Nat × Blk)} {i : Nat}, hwsH h l i = h i ∨ ∃ b, (i, b) ∈ l ∧ hwsH h l i = b := by
 intro l
 induction l generalizing h with
 | nil => intro i; exact .inl rfl
 | cons p l ih =>
  intro i
  obtain ⟨j, b⟩ := p
  simp only [hwsH]
  rcases ih (h := fun j' => if j' = j then b else h j') (i := i) with e | ⟨b', hb, e⟩
  ·by_cases hi : i = j
   ·subst hi
    right
    exact ⟨b, by simp, by rw [e]; simp⟩
   ·left; rw [e]; simp [hi]
  ·exact .inr ⟨b', by simp [hb], e⟩
theorem lids_none {ms : List (Option (Nat × Option Nat))} : lids (none :: ms) = lids ms := by simp [lids]
theorem lids_some {ms : List (Option (Nat × Option Nat))} {p : Nat × Option Nat} : lids (some p :: ms) = p.1 :: lids ms := by simp [lids]
theorem outWs_other {h g : Nat → Blk} {outs : List (Option (List PV))} : ∀ {ms : List (Option (Nat × Option Nat))} {j0 id : Nat}, id ∉ lids ms → hwsH g (outWs h outs j0 ms) id = g id
 | [], _, _, _ => rfl
 | none :: ms, j0, id, hn => by
  simp only [outWs]
  exact outWs_other (by rwa [lids_none] at hn)
 | some (i, q) :: ms, j0, id, hn => by
  simp only [outWs, hwsH]
  have hn' : id ≠ i ∧ id ∉ lids ms := by simpa [lids_some] using hn
  rw [outWs_other hn'.2]
  simp [hn'.1]
theorem outWs_at {h : Nat → Blk} {outs : List (Option (List PV))} : ∀ {ms : List (Option (Nat × Option Nat))} {g : Nat → Blk} {j0 j id : Nat} {q : Option Nat}, (lids ms).Nodup → ms[j]? = some (some (id, q)) →
  hwsH g (outWs h outs j0 ms) id = outB q outs[j0 + j]? (h id)
 | [], g, j0, j, id, q, _, hj => by simp at hj
 | none :: ms, g, j0, j, id, q, hn, hj => by
  simp only [outWs]
  cases j with
  | zero => simp at hj
  | succ j =>
   rw [outWs_at (j := j) (by rwa [lids_none] at hn) (by simpa using hj), show j0 + 1 + j = j0 + (j + 1) from by omega]
 | some (i, q') :: ms, g, j0, j, id, q, hn, hj => by
  simp only [outWs, hwsH]
  have hn' : i ∉ lids ms ∧ (lids ms).Nodup := by simpa [lids_some] using hn
  cases j with
  | zero =>
   simp only [List.getElem?_cons_zero, Option.some.injEq, Prod.mk.injEq] at hj
   obtain ⟨rfl, rfl⟩ := hj
   rw [outWs_other hn'.1]
   simp
  | succ j =>
   rw [outWs_at (j := j) hn'.2 (by simpa using hj), show j0 + 1 + j = j0 + (j + 1) from by omega]
/-- A block carried over to another reckoning, where it leads to no memory but new memory. -/
theorem okB.noRo {w : World} {F G F2 G2 : Nat → Prop} {O O2 : Bool → Nat → Prop} (H : ∀ B, ¬ F B → G B → ¬ F2 B ∧ G2 B) {b : Blk} {l : Loc} (hn : blkNoRo b = true) (hf : ∀ m c, b ≠ .froz m c) (hO : ∀ m B, Flag m b → owns b l B → O m B → O2 m B) (h : okB w F G O b l) : okB w F2 G2 O2 b l := by
 cases b with
 | live m c =>
  obtain ⟨h1, h2, h3⟩ := h
  refine ⟨h1, h2, ?_⟩
  by_cases h0 : l.cap = 0
  ·exact .inl h0
  ·rcases h3 with h3 | ⟨q1, q2, q3⟩
   ·exact absurd h3 h0
   ·exact .inr ⟨q1, RepC.noRo H _ _ _ hn q2, hO m _ (.inl ⟨c, rfl⟩) ⟨h0, rfl⟩ q3⟩
 | froz m c => exact absurd rfl (hf m c)
 | deep m cs rs =>
  simp only [blkNoRo, Bool.and_eq_true, List.all_eq_true] at hn
  obtain ⟨n1, ⟨l1, l2, l3⟩, r1, d1, b1⟩ := h
  refine ⟨n1, ⟨l1, l2, ?_⟩, fun r c hr => ?_, d1, b1⟩
  ·by_cases h0 : l.cap = 0
   ·exact .inl h0
   ·rcases l3 with l3 | ⟨q1, q2, q3⟩
    ·exact absurd l3 h0
    ·refine .inr ⟨q1, hO m _ (.inr ⟨_, _, rfl⟩) (.inl ⟨h0, rfl⟩) q2, fun j x hj => ?_⟩
     obtain ⟨v, v1, v2, v3⟩ := q3 j x hj
     refine ⟨v, v1, v2, ?_⟩
     cases x with
     | v x => exact RepP.noRo H x v (hn.1 _ (List.mem_of_getElem? hj)) v3
     | row r => exact v3
     | self o => exact v3
  ·obtain ⟨g1, g2, g3⟩ := r1 r c hr
   refine ⟨g1, g2, ?_⟩
   by_cases h0 : (l.sub r).cap = 0
   ·exact .inl h0
   ·rcases g3 with g3 | ⟨q1, q2, q3⟩
    ·exact absurd g3 h0
    ·exact .inr ⟨q1, RepC.noRo H _ _ _ (hn.2 _ (List.mem_of_getElem? hr)) q2, hO m _ (.inr ⟨_, _, rfl⟩) (.inr ⟨r, c, hr, h0, rfl⟩) q3⟩
 | map m kt es => simp [blkNoRo] at hn
 | dead => trivial
/-- The same block, its flag aside. -/
def RF (b b' : Blk) : Prop := b = b' ∨ (∃ m m' c, b = .live m c ∧ b' = .live m' c) ∨ ∃ m m' cs rs, b = .deep m cs rs ∧ b' = .deep m' cs rs
theorem RF.owns {b b' : Blk} (h : RF b b') {l : Loc} {B : Nat} : owns b l B ↔ Gl.owns b' l B := by
 rcases h with rfl | ⟨m, m', c, rfl, rfl⟩ | ⟨m, m', cs, rs, rfl, rfl⟩
 ·exact Iff.rfl
 ·exact Iff.rfl
 ·exact Iff.rfl
theorem RF.ok {b b' : Blk} (h : RF b b') {t' : Bool} (hb : Flag t' b') {w : World} {F G X : Nat → Prop} {O : Bool → Nat → Prop} (hX : ∀ B, X B → O t' B) {l : Loc} (ok : okB w F G (fun _ => X) b l) : okB w F G O b' l := by
 have key : ∀ b1 : Blk, Flag t' b1 → okB w F G (fun _ => X) b1 l → okB w F G O b1 l := by
  intro b1 hf ok1
  cases b1 with
  | live m c =>
   obtain rfl : m = t' := by rcases hf with ⟨_, e⟩ | ⟨_, _, e⟩ <;> cases e; rfl
   obtain ⟨h1, h2, h3⟩ := ok1
   exact ⟨h1, h2, h3.imp_right fun ⟨q1, q2, q3⟩ => ⟨q1, q2, hX _ q3⟩⟩
  | froz m c => rcases hf with ⟨_, e⟩ | ⟨_, _, e⟩ <;> cases e
  | deep m cs rs =>
   obtain rfl : m = t' := by rcases hf with ⟨_, e⟩ | ⟨_, _, e⟩ <;> cases e; rfl
   obtain ⟨n1, ⟨l1, l2, l3⟩, r1, d1, b1⟩ := ok1
   refine ⟨n1, ⟨l1, l2, l3.imp_right fun ⟨q1, q2, q3⟩ => ⟨q1, hX _ q2, q3⟩⟩, fun r c hr => ?_, d1, b1⟩
   obtain ⟨g1, g2, g3⟩ := r1 r c hr
   exact ⟨g1, g2, g3.imp_right fun ⟨q1, q2, q3⟩ => ⟨q1, q2, hX _ q3⟩⟩
  | map m kt es => rcases hf with ⟨_, e⟩ | ⟨_, _, e⟩ <;> cases e
  | dead => trivial
 refine key b' hb ?_
 rcases h with rfl | ⟨m, m', c, rfl, rfl⟩ | ⟨m, m', cs, rs, rfl, rfl⟩
 ·exact ok
 ·exact ok
 ·exact ok
def RFL : List (Nat × Blk) → List (Nat × Blk) → Prop
 | [], [] => True
 | p :: l, q :: l' => p.1 = q.1 ∧ RF p.2 q.2 ∧ RFL l l'
 | _, _ => False
theorem RFL.app : ∀ {a a' b b' : List (Nat × Blk)}, RFL a a' → RFL b b' → RFL (a ++ b) (a' ++ b')
 | [], [], _, _, _, h => h
 | _ :: _, _ :: _, _, _, ⟨h1, h2, h3⟩, h => ⟨h1, h2, RFL.app h3 h⟩
 | [], _ :: _, _, _, h, _ => h.elim
 | _ :: _, [], _, _, h, _ => h.elim
theorem RFL.hws : ∀ {l l' : List (Nat × Blk)} {h h' : Nat → Blk}, RFL l l' → (∀ j, RF (h j) (h' j)) → ∀ j, RF (hwsH h l j) (hwsH h' l' j)
 | [], [], _, _, _, hh, j => hh j
 | (i, b) :: l, (i', b') :: l', h, h', ⟨h1, h2, h3⟩, hh, j => by
  simp only at h1 h2
  subst h1
  refine RFL.hws h3 (fun j => ?_) j
  by_cases e : j = i
  ·rw [if_pos e, if_pos e]; exact h2
  ·rw [if_neg e, if_neg e]; exact hh j
 | [], _ :: _, _, _, h, _, _ => h.elim
 | _ :: _, [], _, _, h, _, _ => h.elim
theorem impWs_rf {m m' : Bool} : ∀ {xs : List PV} {k : Nat}, RFL (impWs m k xs) (impWs m' k xs) := by
 have one : ∀ (x : PV) (k : Nat), RFL (impW1 m k x) (impW1 m' k x) := by
  intro x k
  unfold impW1
  split
  ·exact ⟨rfl, .inr (.inl ⟨_, _, _, rfl, rfl⟩), trivial⟩
  ·exact ⟨rfl, .inr (.inr ⟨_, _, _, _, rfl, rfl⟩), trivial⟩
  ·exact ⟨rfl, .inr (.inl ⟨_, _, _, rfl, rfl⟩), trivial⟩
  ·trivial
 have list : ∀ (xs : List PV) (k : Nat), RFL (impWL m k xs) (impWL m' k xs) := by
  intro xs
  induction xs with
  | nil => intro k; trivial
  | cons x xs ih => intro k; exact (one x k).app (ih _)
 intro xs
 induction xs with
 | nil => intro k; trivial
 | cons x xs ih =>
  intro k
  simp only [impWs]
  refine RFL.app ?_ ih
  cases x with
  | agg ys => simpa only [impW] using list ys _
  | _ => simpa only [impW] using one _ k
theorem postH_rf {t t' : Bool} {as : List Arg} {outs : List (Option (List PV))} {res : List PV} (j : Nat) : RF (postH t as outs res j) (postH t' as outs res j) :=
 impWs_rf.hws (fun _ => .inl rfl) j
/-- What lies in memory of the call's own is no list of rows. -/
theorem mkB_plain {m : Bool} {c : List PV} (h : ∀ rows, c ≠ [.dl rows]) : mkB m c = .live m c := by
 unfold mkB
 split
 ·rename_i rows; exact absurd rfl (h rows)
 ·rfl
theorem lenC_plain {c : List PV} (h : ∀ rows, c ≠ [.dl rows]) : lenC c = c.length := by
 unfold lenC
 split
 ·rename_i rows; exact absurd rfl (h rows)
 ·rfl
theorem rowOk.plain {w : World} {F G O : Nat → Prop} {l : Loc} {c : List PV} (h : rowOk w F G O l c) : ∀ rows, c ≠ [.dl rows] := by
 rintro rows rfl
 obtain ⟨hc, _⟩ := h.cells (by simp)
 simp only [RepC, RepP] at hc
 obtain ⟨⟨_, _, _, hf⟩, _⟩ := hc
 exact hf
end Go.Gl
namespace Go.Gl
open Go
variable [Amb]
section imports
variable {w : World} {F F2 G G2 : Nat → Prop} {ι ι2 : Nat → Loc}
theorem imp1_rep (H : ∀ B, ¬ F B → G B → ¬ F2 B ∧ G2 B) {n k : Nat} (hι : ι2 k = ι n) {x : PV} (hn : noRo x = true) {v : Value} (h : RepA w F G ι (imp1 n x) v) : RepA w F2 G2 ι2 (imp1 k x) v := by
 have plain : RepA w F G ι (.p x) v → RepA w F2 G2 ι2 (.p x) v := fun h => by
  simp only [RepA] at h ⊢
  exact RepP.noRo H _ _ hn h
 cases x with
 | sl o xs =>
  cases o with
  | own =>
   simp only [imp1, RepA] at h ⊢
   rw [hι]; exact h
  | ro => exact plain h
  | fr => exact plain h
 | dl rows => simp only [imp1, RepA] at h ⊢; rw [hι]; exact h
 | bx xs => simp only [imp1, RepA] at h ⊢; rw [hι]; exact h
 | _ => exact plain h
theorem impL_rep (H : ∀ B, ¬ F B → G B → ¬ F2 B ∧ G2 B) : ∀ {xs : List PV} {n k : Nat}, (∀ x, x < xs.length → ι2 (k + x) = ι (n + x)) → noRoL xs = true → ∀ {vs : List Value}, RepAL w F G ι (impL n xs) vs → RepAL w F2 G2 ι2 (impL k xs) vs
 | [], _, _, _, _, _, h => by simpa only [impL, RepAL] using h
 | x :: xs, n, k, hι, hn, vs, h => by
  simp only [noRoL, Bool.and_eq_true] at hn
  simp only [impL, RepAL] at h ⊢
  obtain ⟨v, vs', rfl, h1, h2⟩ := h
  refine ⟨v, vs', rfl, imp1_rep H (by simpa using hι 0 (by simp)) hn.1 h1, impL_rep H (fun y hy => ?_) hn.2 h2⟩
  rw [show k + 1 + y = k + (y + 1) from by omega, show n + 1 + y = n + (y + 1) from by omega]
  exact hι (y + 1) (by simpa using hy)
theorem imp_rep (H : ∀ B, ¬ F B → G B → ¬ F2 B ∧ G2 B) {n k : Nat} (hι : ∀ x, x < 16 → ι2 (k + x) = ι (n + x)) {x : PV} (hn : noRo x = true) (hs : smallP x = true) {v : Value} (h : RepA w F G ι (imp n x) v) : RepA w F2 G2 ι2 (imp k x) v := by
 cases x with
 | agg xs =>
  simp only [imp, RepA] at h ⊢
  simp [smallP] at hs
  obtain ⟨cs, hv, hl⟩ := h
  refine ⟨cs, hv, impL_rep H (fun y hy => ?_) (by simpa [noRo] using hn) hl⟩
  rw [show k + 1 + y = k + (y + 1) from by omega, show n + 1 + y = n + (y + 1) from by omega]
  exact hι (y + 1) (by omega)
 | _ => simp only [imp] at h ⊢; exact imp1_rep H (by simpa using hι 0 (by omega)) hn h
theorem imps_rep (H : ∀ B, ¬ F B → G B → ¬ F2 B ∧ G2 B) : ∀ {xs : List PV} {n k : Nat}, (∀ x, x < 16 * xs.length → ι2 (k + x) = ι (n + x)) → noRoL xs = true → xs.all smallP = true →
  ∀ {vs : List Value}, RepAL w F G ι (imps n xs) vs → RepAL w F2 G2 ι2 (imps k xs) vs
 | [], _, _, _, _, _, _, h => by simpa only [imps, RepAL] using h
 | x :: xs, n, k, hι, hn, hs, vs, h => by
  simp only [noRoL, Bool.and_eq_true] at hn
  simp only [List.all_cons, Bool.and_eq_true] at hs
  simp only [imps, RepAL] at h ⊢
  obtain ⟨v, vs', rfl, h1, h2⟩ := h
  refine ⟨v, vs', rfl, imp_rep H (fun y hy => hι y (by simp; omega)) hn.1 (by simpa using hs.1) h1, imps_rep H (fun y hy => ?_) hn.2 hs.2 h2⟩
  rw [show k + 16 + y = k + (y + 16) from by omega, show n + 16 + y = n + (y + 16) from by omega]
  exact hι (y + 16) (by simp; omega)
theorem impAll_rep (H : ∀ B, ¬ F B → G B → ¬ F2 B ∧ G2 B) {res : List PV} {n k : Nat} (hι : ∀ x, x < 256 → ι2 (k + x) = ι (n + x)) (hn : noRoL res = true) (hs : resOk res = true) {v : Value} (h : RepA w F G ι (impAll n res) v) : RepA w F2 G2 ι2 (impAll k res) v := by
 simp only [resOk, Bool.and_eq_true, decide_eq_true_eq] at hs
 have tup : RepA w F G ι (.tup (imps n res)) v → RepA w F2 G2 ι2 (.tup (imps k res)) v := by
  intro h
  simp only [RepA] at h ⊢
  obtain ⟨cs, hv, hl⟩ := h
  exact ⟨cs, hv, imps_rep H (fun x hx => hι x (by omega)) hn hs.2 hl⟩
 match res, hn, hs, h, tup with
 | [], _, _, h, tup => exact tup h
 | [x], hn, hs, h, _ =>
  simp only [noRoL, Bool.and_true] at hn
  simp only [List.all_cons, List.all_nil, Bool.and_true] at hs
  exact imp_rep H (fun y hy => hι y (by omega)) hn (by simpa using hs.2) h
 | x :: y :: zs, _, _, h, tup => exact tup h
theorem imp1_has {k i : Nat} {x : PV} (h : (imp1 k x).has i = true) : i = k := by
 unfold imp1 at h
 split at h <;> simp [AV.has] at h <;> exact h.symm
theorem impL_has : ∀ {xs : List PV} {k i : Nat}, AV.hasL (impL k xs) i = true → k ≤ i ∧ i < k + xs.length
 | [], _, _, h => by simp [impL, AV.hasL] at h
 | x :: xs, k, i, h => by
  simp only [impL, AV.hasL, Bool.or_eq_true] at h
  rcases h with h | h
  ·have := imp1_has h; simp; omega
  ·have := impL_has h; simp; omega
theorem imp_has {k i : Nat} {x : PV} (hs : smallP x = true) (h : (imp k x).has i = true) : k ≤ i ∧ i < k + 16 := by
 cases x with
 | agg xs => simp only [imp, AV.has] at h; simp [smallP] at hs; have := impL_has h; omega
 | _ => simp only [imp] at h; have := imp1_has h; omega
theorem imps_has : ∀ {xs : List PV} {k i : Nat}, xs.all smallP = true → AV.hasL (imps k xs) i = true → k ≤ i ∧ i < k + 16 * xs.length
 | [], _, _, _, h => by simp [imps, AV.hasL] at h
 | x :: xs, k, i, hs, h => by
  simp only [List.all_cons, Bool.and_eq_true] at hs
  simp only [imps, AV.hasL, Bool.or_eq_true] at h
  rcases h with h | h
  ·have := imp_has (x := x) (by simpa using hs.1) h; simp; omega
  ·have := imps_has hs.2 h; simp; omega
theorem impAll_has {res : List PV} {k i : Nat} (hs : resOk res = true) (h : (impAll k res).has i = true) : k ≤ i ∧ i < k + 256 := by
 simp only [resOk, Bool.and_eq_true, decide_eq_true_eq] at hs
 match res, hs, h with
 | [], _, h => simp [impAll, imps, AV.has, AV.hasL] at h
 | [x], hs, h =>
  simp only [List.all_cons, List.all_nil, Bool.and_true] at hs
  have := imp_has (x := x) (by simpa using hs.2) h; omega
 | x :: y :: zs, hs, h =>
  simp only [impAll, AV.has] at h
  have := imps_has hs.2 h; omega
end imports
section
variable {P : Program} {sg : FuncId → List Bool} {w0 : World} {nA nt : Nat} {M G : Nat → Prop} {ι0 : Nat → Loc} {A : Nat → Prop} {w : World} {S : St} {ι : Nat → Loc} {a : Act}
variable [AmbOk w0 M]
/-- What is lent, by its number. -/
theorem lids_mem {ms : List (Option (Nat × Option Nat))} {i : Nat} : i ∈ lids ms ↔ ∃ (j : Nat) (q : Option Nat), ms[j]? = some (some (i, q)) := by
 simp only [lids, List.mem_filterMap]
 constructor
 ·rintro ⟨m, hm, he⟩
  obtain ⟨j, hj⟩ := List.getElem?_of_mem hm
  cases m with
  | none => simp at he
  | some p => simp at he; subst he; exact ⟨j, p.2, hj⟩
 ·rintro ⟨j, q, hj⟩
  exact ⟨_, List.mem_of_getElem? hj, rfl⟩
theorem lids_inj {ms : List (Option (Nat × Option Nat))} (hn : (lids ms).Nodup) {i j id : Nat} {q q' : Option Nat} (hi : ms[i]? = some (some (id, q))) (hj : ms[j]? = some (some (id, q'))) : i = j := by
 induction ms generalizing i j with
 | nil => simp at hi
 | cons m ms ih =>
  cases m with
  | none =>
   rw [lids_none] at hn
   cases i with
   | zero => simp at hi
   | succ i => cases j with
    | zero => simp at hj
    | succ j => exact congrArg Nat.succ (ih hn (by simpa using hi) (by simpa using hj))
  | some p =>
   rw [lids_some, List.nodup_cons] at hn
   cases i with
   | zero =>
    simp only [List.getElem?_cons_zero, Option.some.injEq] at hi
    subst hi
    cases j with
    | zero => rfl
    | succ j => exact absurd (lids_mem.2 ⟨j, q', by simpa using hj⟩) hn.1
   | succ i => cases j with
    | zero =>
     simp only [List.getElem?_cons_zero, Option.some.injEq] at hj
     subst hj
     exact absurd (lids_mem.2 ⟨i, q, by simpa using hi⟩) hn.1
    | succ j => exact congrArg Nat.succ (ih hn.2 (by simpa using hi) (by simpa using hj))
/-- What a place says of the block lent from there. -/
inductive Lent (h : Nat → Blk) (ι : Nat → Loc) (id : Nat) : Option Nat → Arg → Loc → Prop
 | whole {b : Bool} {c : List PV} {p : Bool} (hb : h id = .live b c) (hp : ∀ rows, c ≠ [.dl rows]) : Lent h ι id none (.mu p c) (ι id)
 | rows {b : Bool} {rows : List (List PV)} (hb : h id = .deep b (canon rows.length) (rows.map some)) : Lent h ι id none (.mu false [.dl rows]) (ι id)
 | inner {b : Bool} {cs : List DC} {rs : List (Option (List PV))} {r : Nat} {c : List PV} (hb : h id = .deep b cs rs) (hr : rs[r]? = some (some c)) (hp : ∀ rows, c ≠ [.dl rows]) : Lent h ι id (some r) (.mu false c) ((ι id).sub r)
 | shift {b : Bool} {rows : List (List PV)} (h0 : 0 < rows.length) (hb : h id = .deep b (canonS rows.length) (List.replicate rows.length none ++ rows.map some)) : Lent h ι id (some (rows.length + rows.length)) (.mu false [.dl rows]) ((ι id).shL rows.length)
theorem shift_get {rows : List (List PV)} {r : Nat} {c : List PV} (h : (rows.map some)[r]? = some (some c)) : (List.replicate rows.length none ++ rows.map some)[rows.length + r]? = some (some c) := by
 rw [List.getElem?_append_right (by simp), List.length_replicate, Nat.add_sub_cancel_left]; exact h
theorem canonS_get {n j : Nat} : (canonS n)[j]? = if j < n then some (.row (n + j)) else none := by
 simp only [canonS, List.getElem?_map]
 by_cases hj : j < n
 ·rw [if_pos hj, List.getElem?_range hj]; rfl
 ·rw [if_neg hj, List.getElem?_eq_none (by simpa using hj)]; rfl
theorem outB_shift {r : Nat} {b : Bool} {cs : List DC} {rs : List (Option (List PV))} (h : ¬ r < rs.length) : ∀ {o : Option (Option (List PV))}, outB (some r) o (.deep b cs rs) = .dead
 | none => if_neg h
 | some none => if_neg h
 | some (some []) => if_neg h
 | some (some [x]) => by cases x <;> exact if_neg h
 | some (some (x :: _ :: _)) => by cases x <;> exact if_neg h
theorem outB_in {r : Nat} {b : Bool} {cs : List DC} {rs : List (Option (List PV))} (h : r < rs.length) : outB (some r) none (.deep b cs rs) = .deep b cs (rs.set r none) ∧ outB (some r) (some none) (.deep b cs rs) = .deep b cs (rs.set r none) ∧ ∀ rows, outB (some r) (some (some [.dl rows])) (.deep b cs rs) = .deep b cs (rs.set r none) :=
 ⟨by simp only [outB]; rw [if_pos h], by simp only [outB]; rw [if_pos h], fun rows => by simp only [outB]; rw [if_pos h]⟩
theorem Lent.owns {h : Nat → Blk} {ι : Nat → Loc} {id : Nat} {q : Option Nat} {arg : Arg} {l : Loc} (L : Lent h ι id q arg l) {as : List Arg} {j : Nat} (hj : as[j]? = some arg) {B : Nat} (ho : Gl.owns (argH as j) l B) : Gl.owns (h id) (ι id) B := by
 cases L with
 | whole hb hp =>
  rename_i b c p
  have : argH as j = .live true c := by unfold argH; rw [hj]; exact mkB_plain hp
  rw [this] at ho; rw [hb]; exact ho
 | rows hb =>
  rename_i b rows
  have : argH as j = .deep true (canon rows.length) (rows.map some) := by unfold argH; rw [hj]; rfl
  rw [this] at ho; rw [hb]; exact ho
 | inner hb hr hp =>
  rename_i b cs rs r c
  have : argH as j = .live true c := by unfold argH; rw [hj]; exact mkB_plain hp
  rw [this] at ho; rw [hb]; exact .inr ⟨_, _, hr, ho⟩
 | shift h0 hb =>
  rename_i b rows
  have : argH as j = .deep true (canon rows.length) (rows.map some) := by unfold argH; rw [hj]; rfl
  rw [this] at ho; rw [hb]
  rcases ho with ho | ⟨r, c, hr, ho⟩
  ·exact .inl ho
  ·exact .inr ⟨rows.length + r, c, shift_get hr, ho⟩
theorem Lent.ok {h : Nat → Blk} {ι : Nat → Loc} {id : Nat} {q : Option Nat} {arg : Arg} {l : Loc} (L : Lent h ι id q arg l) {as : List Arg} {j : Nat} (hj : as[j]? = some arg) {F' G' : Nat → Prop} {z : Nat} {M' : Nat → Prop} (ok : HeapOk w z M G h ι)
  (st : Stays w w (Held h ι) F') (HG : ∀ B, (∃ o v, w.cell? ⟨B, o, none⟩ = some v) → ¬ Held h ι B → G B → G' B) {z' : Nat} (hO : ∀ B, Gl.owns (argH as j) l B → M' B) : okB w F' G' (Org z' M' G') (argH as j) l := by
 have okid := okB.tr (O' := Org z M G) st HG (fun _ _ => rfl) (fun _ _ _ h => h) (ok.ok id)
 have up : ∀ {O : Nat → Prop} {l' : Loc} {c : List PV}, rowOk w F' G' O l' c → (l'.cap ≠ 0 → M' l'.B) → rowOk w F' G' (Org z' M' G' true) l' c := fun {O l' c} hr hm => by
  obtain ⟨h1, h2, h3⟩ := hr
  refine ⟨h1, h2, ?_⟩
  by_cases h0 : l'.cap = 0
  ·exact .inl h0
  ·exact h3.imp _root_.id fun ⟨q1, q2, _⟩ => ⟨q1, q2, .inr ⟨rfl, hm h0⟩⟩
 cases L with
 | whole hb hp =>
  rename_i b c p
  have e : argH as j = .live true c := by unfold argH; rw [hj]; exact mkB_plain hp
  rw [e] at hO ⊢; rw [hb] at okid
  exact up okid fun h0 => hO _ ⟨h0, rfl⟩
 | rows hb =>
  rename_i b rows
  have e : argH as j = .deep true (canon rows.length) (rows.map some) := by unfold argH; rw [hj]; rfl
  rw [e] at hO ⊢; rw [hb] at okid
  obtain ⟨n1, ⟨l1, l2, l3⟩, r1, d1, b1⟩ := okid
  refine ⟨n1, ⟨l1, l2, ?_⟩, fun r c hr => up (r1 r c hr) fun h0 => hO _ (.inr ⟨r, c, hr, h0, rfl⟩), d1, b1⟩
  by_cases h0 : (ι id).cap = 0
  ·exact .inl h0
  ·exact l3.imp _root_.id fun ⟨q1, _, q3⟩ => ⟨q1, .inr ⟨rfl, hO _ (.inl ⟨h0, rfl⟩)⟩, q3⟩
 | inner hb hr hp =>
  rename_i b cs rs r c
  have e : argH as j = .live true c := by unfold argH; rw [hj]; exact mkB_plain hp
  rw [e] at hO ⊢; rw [hb] at okid
  exact up (okid.2.2.1 _ _ hr) fun h0 => hO _ ⟨h0, rfl⟩
 | shift hz hb =>
  rename_i b rows
  have e : argH as j = .deep true (canon rows.length) (rows.map some) := by unfold argH; rw [hj]; rfl
  rw [e] at hO ⊢; rw [hb] at okid
  obtain ⟨n1, ⟨l1, l2, l3⟩, r1, d1, b1⟩ := okid
  refine ⟨by simp [Loc.shL], ⟨by simpa [canon, canonS, Loc.shL] using l1, l2, ?_⟩, fun r c hr => up (r1 _ c (shift_get hr)) fun h0 => hO _ (.inr ⟨r, c, hr, h0, rfl⟩), fun r c r' c' hr hr' hne => d1 _ c _ c' (shift_get hr) (shift_get hr') (by omega), fun r c hr => b1 _ c (shift_get hr)⟩
  by_cases h0 : (ι id).cap = 0
  ·exact .inl h0
  ·refine l3.imp _root_.id fun ⟨q1, _, q3⟩ => ⟨q1, .inr ⟨rfl, hO _ (.inl ⟨h0, rfl⟩)⟩, fun i x hx => ?_⟩
   have hi : i < rows.length := by have := (List.getElem?_eq_some_iff.1 hx).1; simpa [canon] using this
   have hx2 : x = .row i := by rw [canon, List.getElem?_map, List.getElem?_range hi] at hx; simpa using hx.symm
   subst hx2
   obtain ⟨v, v1, v2, v3⟩ := q3 i (.row (rows.length + i)) (by rw [canonS_get, if_pos hi])
   exact ⟨v, v1, v2, by simpa using hi, fun c hc => v3.2 c (shift_get hc)⟩
theorem outB_row {r : Nat} {b : Bool} {cs : List DC} {rs : List (Option (List PV))} (hlt : r < rs.length) : ∀ {c : List PV}, (∀ rows, c ≠ [.dl rows]) → outB (some r) (some (some c)) (.deep b cs rs) = if (rs.getD r none).map List.length = some c.length then .deep b cs (rs.set r (some c)) else .deep b cs (rs.set r none)
 | [], _ => if_pos hlt
 | [x], hp => by cases x <;> first | exact if_pos hlt | exact absurd rfl (hp _)
 | x :: _ :: _, _ => by cases x <;> exact if_pos hlt
theorem outB_live {b : Bool} {c0 : List PV} : ∀ {c : List PV}, (∀ rows, c ≠ [.dl rows]) → outB none (some (some c)) (.live b c0) = .live b c
 | [], _ => rfl
 | [x], hp => by cases x <;> first | rfl | exact absurd rfl (hp _)
 | x :: _ :: _, _ => by cases x <;> rfl
theorem outB_deep0 {b : Bool} {cs : List DC} {rs : List (Option (List PV))} : ∀ {c : List PV}, (∀ rows, c ≠ [.dl rows]) → outB none (some (some c)) (.deep b cs rs) = .dead
 | [], _ => rfl
 | [x], hp => by cases x <;> first | rfl | exact absurd rfl (hp _)
 | x :: _ :: _, _ => by cases x <;> rfl
theorem postH_arg {tk : Bool} {as : List Arg} {outs : List (Option (List PV))} {res : List PV} {j : Nat} (hj : j < as.length) : postH tk as outs res j = outH as outs j := by
 unfold postH
 rcases hwsH_cases (h := outH as outs) (l := impWs tk as.length res) (i := j) with e | ⟨b, hb, _⟩
 ·exact e
 ·rw [impWs_shift] at hb
  simp only [shift, List.mem_map] at hb
  obtain ⟨q, _, e⟩ := hb
  simp only [Prod.mk.injEq] at e
  omega
/-- What becomes of a block that was lent. -/
theorem Lent.back {h : Nat → Blk} {ι : Nat → Loc} {id : Nat} {q : Option Nat} {arg : Arg} {l l' : Loc} (L : Lent h ι id q arg l) (le : LocEq l l') {as : List Arg} {outs : List (Option (List PV))} {j : Nat} (hj : as[j]? = some arg) {l2 : Loc} (hl2 : l2 = q.elim l' fun _ => ι id)
  {w' : World} {z : Nat} {M G' F' F2 : Nat → Prop} {z' : Nat} {M' : Nat → Prop} (ok : HeapOk w z M G h ι) (houts : ∀ o ∈ outs, o.all noRoL = true)
  (okp : okB w' F' G' (Org z' M' G') (outH as outs j) l') (H : ∀ B, ¬ F' B → G' B → ¬ F2 B ∧ G B) (st : Stays w w' (Held h ι) F2)
  (keep : ∀ B, Gl.owns (h id) (ι id) B → ¬ M' B → w'.heap[B]? = w.heap[B]?) (hM : ∀ B, M' B → Gl.owns (h id) (ι id) B → Gl.owns (argH as j) l B) :
  okB w' F2 G (Org z M G) (outB q outs[j]? (h id)) l2 ∧ ∀ B, Gl.owns (outB q outs[j]? (h id)) l2 B → Gl.owns (outH as outs j) l' B ∨ (Gl.owns (h id) (ι id) B ∧ ¬ M' B) := by
 obtain ⟨eB, eo, ec, en, einn⟩ := le
 have nr : ∀ {c}, outs[j]? = some (some c) → noRoL c = true := fun {c} hc => by
  have := houts _ (List.mem_of_getElem? hc); simpa using this
 have okid := ok.ok id
 cases L with
 | whole hb hp =>
  rename_i b c p
  simp only [Option.elim] at hl2
  subst hl2
  have eo' : outH as outs j = match outs[j]? with | some (some c) => mkB true c | _ => .dead := by unfold outH; rw [hj]; rfl
  rw [hb] at okid ⊢
  cases ho : outs[j]? with
  | none => exact ⟨trivial, fun B q => q.elim⟩
  | some oc =>
   cases oc with
   | none => exact ⟨trivial, fun B q => q.elim⟩
   | some c' =>
    by_cases hdl : ∃ rows, c' = [.dl rows]
    ·obtain ⟨rows, rfl⟩ := hdl
     exact ⟨trivial, fun B q => q.elim⟩
    ·have hp' : ∀ rows, c' ≠ [.dl rows] := fun rows e => hdl ⟨rows, e⟩
     have e1 : outB none (some (some c')) (.live b c) = .live b c' := outB_live hp'
     rw [ho] at eo'
     simp only [mkB_plain hp'] at eo'
     rw [e1]
     rw [eo'] at okp ⊢
     refine ⟨?_, fun B ho => .inl ho⟩
     obtain ⟨h1, h2, h3⟩ := okp
     refine ⟨h1, h2, ?_⟩
     by_cases h0 : l2.cap = 0
     ·exact .inl h0
     ·rcases h3 with h3 | ⟨q1, q2, _⟩
      ·exact absurd h3 h0
      ·refine .inr ⟨q1, RepC.noRo H _ _ _ (nr ho) q2, ?_⟩
       obtain ⟨_, _, g3⟩ := okid
       rcases g3 with g3 | ⟨_, _, g3⟩
       ·rw [ec] at h0; exact absurd g3 h0
       ·rw [eB]; exact g3
 | rows hb =>
  rename_i b rows
  simp only [Option.elim] at hl2
  subst hl2
  have eo' : outH as outs j = match outs[j]? with | some (some c) => mkB true c | _ => .dead := by unfold outH; rw [hj]; rfl
  rw [hb] at okid ⊢
  have deadC : okB w' F2 G (Org z M G) .dead l2 ∧ ∀ B, Gl.owns .dead l2 B → Gl.owns (outH as outs j) l2 B ∨ (Gl.owns (.deep b (canon rows.length) (rows.map some)) (ι id) B ∧ ¬ M' B) := ⟨trivial, fun B q => q.elim⟩
  cases ho : outs[j]? with
  | none => exact deadC
  | some oc =>
   cases oc with
   | none => exact deadC
   | some c' =>
    by_cases hdl : ∃ rows', c' = [.dl rows']
    ·obtain ⟨rows', rfl⟩ := hdl
     by_cases hlen : rows'.length = (rows.map some).length
     ·have e1 : outB none (some (some [.dl rows'])) (.deep b (canon rows.length) (rows.map some)) = .deep b (canon rows'.length) (rows'.map some) := by simp only [outB]; rw [if_pos hlen]
      rw [ho] at eo'
      simp only [mkB] at eo'
      rw [e1]
      rw [eo'] at okp ⊢
      refine ⟨?_, fun B ho => .inl ho⟩
      have hnr := nr ho
      simp only [noRoL, noRo, Bool.and_true] at hnr
      have bn : blkNoRo (.deep true (canon rows'.length) (rows'.map some)) = true := by simp only [blkNoRo, canon_noRo, rows_noRo hnr, Bool.and_self]
      obtain ⟨n1, ⟨l1, l2', l3⟩, r1, d1, b1⟩ := okB.noRo (O2 := fun _ _ => True) H bn (fun _ _ e => by cases e) (fun _ _ _ _ _ => trivial) okp
      obtain ⟨n0, ⟨_, _, l30⟩, r10, _⟩ := okid
      refine ⟨n1, ⟨l1, l2', ?_⟩, fun r c hr => ?_, d1, b1⟩
      ·by_cases h0 : l2.cap = 0
       ·exact .inl h0
       ·rcases l3 with l3 | ⟨q1, _, q3⟩
        ·exact absurd l3 h0
        ·rcases l30 with l30 | ⟨_, q2, _⟩
         ·rw [ec] at h0; exact absurd l30 h0
         ·exact .inr ⟨q1, by rw [eB]; exact q2, q3⟩
      ·have hlt := (List.getElem?_eq_some_iff.1 hr).1
       have hlt0 : r < (ι id).n := by rw [← n0, ← hlen]; simpa using hlt
       have es : l2.sub r = (ι id).sub r := by simp only [Loc.sub, einn r hlt0]
       obtain ⟨g1, g2, g3⟩ := r1 r c hr
       refine ⟨g1, g2, ?_⟩
       by_cases h0 : (l2.sub r).cap = 0
       ·exact .inl h0
       ·rcases g3 with g3 | ⟨q1, q2, _⟩
        ·exact absurd g3 h0
        ·refine .inr ⟨q1, q2, ?_⟩
         have hlt' : r < rows.length := by rw [← n0] at hlt0; simpa using hlt0
         have hr0 : (rows.map some)[r]? = some (some rows[r]) := by simp [hlt']
         obtain ⟨_, _, g3⟩ := r10 r _ hr0
         rw [es] at h0 ⊢
         rcases g3 with g3 | ⟨_, _, g3⟩
         ·exact absurd g3 h0
         ·exact g3
     ·have e1 : outB none (some (some [.dl rows'])) (.deep b (canon rows.length) (rows.map some)) = .dead := by simp only [outB]; rw [if_neg hlen]
      rw [e1]; exact deadC
    ·have e1 : outB none (some (some c')) (.deep b (canon rows.length) (rows.map some)) = .dead := outB_deep0 fun rows e => hdl ⟨rows, e⟩
     rw [e1]; exact deadC
 | inner hb hr hp =>
  rename_i b cs rs r c
  simp only [Option.elim] at hl2
  subst hl2
  have hlt := (List.getElem?_eq_some_iff.1 hr).1
  have eo' : outH as outs j = match outs[j]? with | some (some c) => mkB true c | _ => .dead := by unfold outH; rw [hj]; rfl
  have ea : argH as j = .live true c := by unfold argH; rw [hj]; exact mkB_plain hp
  have hb0 := hb
  rw [hb] at okid keep hM ⊢
  obtain ⟨n1, ⟨l1, l2', l3⟩, r1, d1, b1⟩ := okid
  have rne : ∀ {q c'}, q ≠ r → rs[q]? = some (some c') → ((ι id).sub q).cap ≠ 0 → ¬ M' ((ι id).sub q).B := fun {q c'} hne hq h0 hm => by
   have := hM _ hm (.inr ⟨q, c', hq, h0, rfl⟩)
   rw [ea] at this
   exact d1 q c' r c hq hr hne h0 this.1 this.2.symm
  have one : (ι id).cap ≠ 0 → ¬ M' (ι id).B := fun h0 hm => by
   have := hM _ hm (.inl ⟨h0, rfl⟩)
   rw [ea] at this
   exact b1 r c hr h0 this.1 this.2
  have rest : ∀ (rs2 : List (Option (List PV))), rs2.length = rs.length → (∀ {q c'}, q ≠ r → rs2[q]? = some (some c') → rs[q]? = some (some c')) →
    (∀ c', rs2[r]? = some (some c') → c'.length = c.length ∧ rowOk w' F2 G (Org z M G b) ((ι id).sub r) c') → okB w' F2 G (Org z M G) (.deep b cs rs2) (ι id) := by
   intro rs2 e1 e2 e3
   have old : ∀ {q c'}, rs2[q]? = some (some c') → ∃ c0, rs[q]? = some (some c0) := fun {q c'} hq => by
    by_cases e : q = r
    ·subst e; exact ⟨c, hr⟩
    ·exact ⟨c', e2 e hq⟩
   refine ⟨by rw [e1]; exact n1, ⟨l1, l2', ?_⟩, fun q c' hq => ?_, fun q c' q' c'' hq hq' => ?_, fun q c' hq => ?_⟩
   ·by_cases h0 : (ι id).cap = 0
    ·exact .inl h0
    ·rcases l3 with l3 | ⟨q1, q2, q3⟩
     ·exact absurd l3 h0
     ·have ek := keep _ (.inl ⟨h0, rfl⟩) (one h0)
      refine .inr ⟨q1.same ek, q2, fun jj x hjj => ?_⟩
      obtain ⟨v, v1, v2, v3⟩ := q3 jj x hjj
      refine ⟨v, by rw [cell?_same ek]; exact v1, v2, ?_⟩
      cases x with
      | v x => exact RepP.tr st (fun _ _ _ h => h) _ _ v3
      | row q =>
       refine ⟨by rw [e1]; exact v3.1, fun c' hc' => ?_⟩
       by_cases e : q = r
       ·subst e
        rw [(e3 c' hc').1]; exact v3.2 c hr
       ·exact v3.2 c' (e2 e hc')
      | self o => exact v3
   ·by_cases e : q = r
    ·subst e; exact (e3 c' hq).2
    ·have hq0 := e2 e hq
     exact rowOk.tr st (fun _ _ _ h => h) (fun h0 => keep _ (.inr ⟨q, c', hq0, h0, rfl⟩) (rne e hq0 h0)) (fun _ h => h) (r1 q c' hq0)
   ·obtain ⟨c0, h0⟩ := old hq
    obtain ⟨c0', h0'⟩ := old hq'
    exact d1 q c0 q' c0' h0 h0'
   ·obtain ⟨c0, h0⟩ := old hq
    exact b1 q c0 h0
  have noneC : okB w' F2 G (Org z M G) (.deep b cs (rs.set r none)) (ι id) ∧ ∀ B, Gl.owns (.deep b cs (rs.set r none)) (ι id) B → Gl.owns (outH as outs j) l' B ∨ (Gl.owns (.deep b cs rs) (ι id) B ∧ ¬ M' B) := by
   have hset : ∀ {q c'}, (rs.set r none)[q]? = some (some c') → q ≠ r ∧ rs[q]? = some (some c') := by
    intro q c' hq
    rw [List.getElem?_set] at hq
    by_cases e : r = q
    ·rw [if_pos e, if_pos hlt] at hq; simp at hq
    ·rw [if_neg e] at hq; exact ⟨Ne.symm e, hq⟩
   refine ⟨rest _ (by simp) (fun _ hq => (hset hq).2) (fun c' hc' => absurd rfl (hset hc').1), fun B ho => .inr ?_⟩
   rcases ho with ⟨h0, rfl⟩ | ⟨q, c', hq, h0, rfl⟩
   ·exact ⟨.inl ⟨h0, rfl⟩, one h0⟩
   ·obtain ⟨hne, hq⟩ := hset hq
    exact ⟨.inr ⟨q, c', hq, h0, rfl⟩, rne hne hq h0⟩
  have oin := outB_in (b := b) (cs := cs) hlt
  cases ho : outs[j]? with
  | none => rw [oin.1]; exact noneC
  | some oc =>
   cases oc with
   | none => rw [oin.2.1]; exact noneC
   | some c' =>
    by_cases hdl : ∃ rows', c' = [.dl rows']
    ·obtain ⟨rows', rfl⟩ := hdl; rw [oin.2.2]; exact noneC
    ·have hp' : ∀ rows, c' ≠ [.dl rows] := fun rows e => hdl ⟨rows, e⟩
     by_cases hlen : c'.length = c.length
     ·have hgd : (rs.getD r none).map List.length = some c'.length := by rw [List.getD_eq_getElem?_getD, hr]; simp [hlen]
      have e1 : outB (some r) (some (some c')) (.deep b cs rs) = .deep b cs (rs.set r (some c')) := by rw [outB_row hlt hp', if_pos hgd]
      rw [ho] at eo'
      simp only [mkB_plain hp'] at eo'
      rw [e1]
      rw [eo'] at okp ⊢
      have hget : ∀ {q c''}, (rs.set r (some c'))[q]? = some (some c'') → (q = r ∧ c'' = c') ∨ (q ≠ r ∧ rs[q]? = some (some c'')) := by
       intro q c'' hq
       rw [List.getElem?_set] at hq
       by_cases e : r = q
       ·rw [if_pos e, if_pos hlt] at hq; simp at hq; exact .inl ⟨e.symm, hq.symm⟩
       ·rw [if_neg e] at hq; exact .inr ⟨Ne.symm e, hq⟩
      refine ⟨rest _ (by simp) (fun hne hq => ?_) (fun c'' hc'' => ?_), fun B ho => ?_⟩
      ·rcases hget hq with ⟨e, _⟩ | ⟨_, hq⟩
       ·exact absurd e hne
       ·exact hq
      ·rcases hget hc'' with ⟨_, rfl⟩ | ⟨e, _⟩
       ·refine ⟨hlen, ?_⟩
        obtain ⟨h1, h2, h3⟩ := rowOk.loc okp eB.symm eo.symm ec.symm
        refine ⟨h1, h2, ?_⟩
        by_cases h0 : ((ι id).sub r).cap = 0
        ·exact .inl h0
        ·rcases h3 with h3 | ⟨q1, q2, _⟩
         ·exact absurd h3 h0
         ·refine .inr ⟨q1, RepC.noRo H _ _ _ (nr ho) q2, ?_⟩
          obtain ⟨_, _, g3⟩ := r1 r c hr
          rcases g3 with g3 | ⟨_, _, g3⟩
          ·exact absurd g3 h0
          ·exact g3
       ·exact absurd rfl e
      ·rcases ho with ⟨h0, rfl⟩ | ⟨q, c'', hq, h0, rfl⟩
       ·exact .inr ⟨.inl ⟨h0, rfl⟩, one h0⟩
       ·rcases hget hq with ⟨e, _⟩ | ⟨hne, hq⟩
        ·subst e
         left
         exact ⟨by rw [ec]; exact h0, eB⟩
        ·exact .inr ⟨.inr ⟨q, c'', hq, h0, rfl⟩, rne hne hq h0⟩
     ·have hgd : ¬ ((rs.getD r none).map List.length = some c'.length) := by rw [List.getD_eq_getElem?_getD, hr]; simpa using Ne.symm hlen
      have e1 : outB (some r) (some (some c')) (.deep b cs rs) = .deep b cs (rs.set r none) := by rw [outB_row hlt hp', if_neg hgd]
      rw [e1]; exact noneC
 | shift h0 hb =>
  rename_i b rows
  rw [hb, outB_shift (by simp)]
  exact ⟨trivial, fun B q => q.elim⟩
/-- Whose the memory is behind the call. -/
theorem Lent.backOwn {h : Nat → Blk} {ι : Nat → Loc} {id : Nat} {q : Option Nat} {arg : Arg} {l l' : Loc} (L : Lent h ι id q arg l) (le : LocEq l l') {as : List Arg} {outs : List (Option (List PV))} {j : Nat} (hj : as[j]? = some arg) {l2 : Loc} (hl2 : l2 = q.elim l' fun _ => ι id)
  {z : Nat} {M' : Nat → Prop} (ok : HeapOk w z M G h ι) (hM : ∀ B, M' B → Gl.owns (h id) (ι id) B → Gl.owns (argH as j) l B) :
  ∀ B, Gl.owns (outB q outs[j]? (h id)) l2 B → Gl.owns (outH as outs j) l' B ∨ (Gl.owns (h id) (ι id) B ∧ ¬ M' B) := by
 obtain ⟨eB, eo, ec, en, einn⟩ := le
 have okid := ok.ok id
 have eo' : ∀ {p c}, arg = .mu p c → outH as outs j = match outs[j]? with | some (some c) => mkB true c | _ => .dead := fun {p c} e => by unfold outH; rw [hj, e]; rfl
 cases L with
 | whole hb hp =>
  rename_i b c p
  simp only [Option.elim] at hl2
  subst hl2
  rw [hb]
  cases ho : outs[j]? with
  | none => exact fun B q => q.elim
  | some oc =>
   cases oc with
   | none => exact fun B q => q.elim
   | some c' =>
    by_cases hdl : ∃ rows, c' = [.dl rows]
    ·obtain ⟨rows, rfl⟩ := hdl; exact fun B q => q.elim
    ·have hp' : ∀ rows, c' ≠ [.dl rows] := fun rows e => hdl ⟨rows, e⟩
     have e0 := eo' rfl
     rw [ho] at e0
     simp only [mkB_plain hp'] at e0
     rw [outB_live hp', e0]
     exact fun B ho => .inl ho
 | rows hb =>
  rename_i b rows
  simp only [Option.elim] at hl2
  subst hl2
  rw [hb]
  cases ho : outs[j]? with
  | none => exact fun B q => q.elim
  | some oc =>
   cases oc with
   | none => exact fun B q => q.elim
   | some c' =>
    by_cases hdl : ∃ rows', c' = [.dl rows']
    ·obtain ⟨rows', rfl⟩ := hdl
     have e0 := eo' rfl
     rw [ho] at e0
     simp only [mkB] at e0
     by_cases hlen : rows'.length = (rows.map some).length
     ·simp only [outB]; rw [if_pos hlen, e0]; exact fun B ho => .inl ho
     ·simp only [outB]; rw [if_neg hlen]; exact fun B q => q.elim
    ·rw [outB_deep0 fun rows e => hdl ⟨rows, e⟩]; exact fun B q => q.elim
 | inner hb hr hp =>
  rename_i b cs rs r c
  simp only [Option.elim] at hl2
  subst hl2
  have hlt := (List.getElem?_eq_some_iff.1 hr).1
  have ea : argH as j = .live true c := by unfold argH; rw [hj]; exact mkB_plain hp
  rw [hb] at okid hM ⊢
  obtain ⟨n1, _, r1, d1, b1⟩ := okid
  have rne : ∀ {q c'}, q ≠ r → rs[q]? = some (some c') → ((ι id).sub q).cap ≠ 0 → ¬ M' ((ι id).sub q).B := fun {q c'} hne hq h0 hm => by
   have := hM _ hm (.inr ⟨q, c', hq, h0, rfl⟩)
   rw [ea] at this
   exact d1 q c' r c hq hr hne h0 this.1 this.2.symm
  have one : (ι id).cap ≠ 0 → ¬ M' (ι id).B := fun h0 hm => by
   have := hM _ hm (.inl ⟨h0, rfl⟩)
   rw [ea] at this
   exact b1 r c hr h0 this.1 this.2
  have noneC : ∀ B, Gl.owns (.deep b cs (rs.set r none)) (ι id) B → Gl.owns (outH as outs j) l' B ∨ (Gl.owns (.deep b cs rs) (ι id) B ∧ ¬ M' B) := by
   intro B ho
   right
   rcases ho with ⟨h0, rfl⟩ | ⟨q, c', hq, h0, rfl⟩
   ·exact ⟨.inl ⟨h0, rfl⟩, one h0⟩
   ·rw [List.getElem?_set] at hq
    by_cases e : r = q
    ·rw [if_pos e, if_pos hlt] at hq; simp at hq
    ·rw [if_neg e] at hq; exact ⟨.inr ⟨q, c', hq, h0, rfl⟩, rne (Ne.symm e) hq h0⟩
  have oin := outB_in (b := b) (cs := cs) hlt
  cases ho : outs[j]? with
  | none => rw [oin.1]; exact noneC
  | some oc =>
   cases oc with
   | none => rw [oin.2.1]; exact noneC
   | some c' =>
    by_cases hdl : ∃ rows', c' = [.dl rows']
    ·obtain ⟨rows', rfl⟩ := hdl; rw [oin.2.2]; exact noneC
    ·have hp' : ∀ rows, c' ≠ [.dl rows] := fun rows e => hdl ⟨rows, e⟩
     rw [outB_row hlt hp']
     split
     ·have e0 := eo' rfl
      rw [ho] at e0
      simp only [mkB_plain hp'] at e0
      intro B ho
      rcases ho with ⟨h0, rfl⟩ | ⟨q, c'', hq, h0, rfl⟩
      ·exact .inr ⟨.inl ⟨h0, rfl⟩, one h0⟩
      ·rw [List.getElem?_set] at hq
       by_cases e : r = q
       ·subst e; left; rw [e0]; exact ⟨by rw [ec]; exact h0, eB⟩
       ·rw [if_neg e] at hq; exact .inr ⟨.inr ⟨q, c'', hq, h0, rfl⟩, rne (Ne.symm e) hq h0⟩
     ·exact noneC
 | shift h0 hb =>
  rename_i b rows
  rw [hb, outB_shift (by simp)]
  exact fun B q => q.elim
/-- Where a row that is lent lies; or the whole, its rows told anew. -/
def subL (b : Blk) (l : Loc) (r : Nat) : Loc :=
 match b with
 | .deep _ _ rs => if r < rs.length then l.sub r else l.shL (r / 2)
 | _ => l.sub r
theorem does_callv {o : Oper} {k : Nat} {K : R → Prop} (h : Rel w0 nA nt M G ι0 A w S ι a) (hd : ∀ d, o.dst = some d → d < nt) (hA : ∀ x, x < 256 → ¬ A (k + x)) {f : FuncId} {vs : List AV} {vals : List Value}
  (hrun : ∀ fn, P.funcs[f]? = some fn → fn.body.isSome = true → (fn.name == "runtime.NumGoroutine") = false → (execOp a.eval o).run P w = .ok (.enter f ⟨vals⟩) w)
  (hvs : RepAL w (Held S.h ι) G ι vs vals) (hnamed : ∀ i, AV.hasL vs i = true → A i) (hK : callV P sg S.h k f vs K) : Does P w0 nA nt M G ι0 A k o w S a K := by
 obtain ⟨as, rd, ms, ⟨hlent, tk, outs, res, hc, t, ht, hk⟩, l1, l2, hh⟩ := pass_sound hK
 obtain ⟨⟨fn, hf1, hf2, hf3⟩, hnr, hro, houts, hcall⟩ := hc
 obtain ⟨hnodup, hread⟩ := hlent
 have hrun := hrun fn hf1 hf2 hf3
 -- the places lent
 let ιf : Nat → Loc := fun j => match ms[j]? with | some (some (id, none)) => ι id | some (some (id, some r)) => subL (S.h id) (ι id) r | _ => ⟨0, 0, 0, 0, noInn⟩
 let G' : Nat → Prop := fun B => G B ∧ ¬ Held S.h ι B
 have lent : ∀ {j id : Nat} {q : Option Nat}, ms[j]? = some (some (id, q)) → A id ∧ j < as.length ∧ ∃ arg, as[j]? = some arg ∧ Lent S.h ι id q arg (ιf j) := by
  intro j id q hj
  have hlt := (List.getElem?_eq_some_iff.1 hj).1
  have hv := List.getElem?_eq_getElem (l := vs) (i := j) (by omega)
  have ha := List.getElem?_eq_getElem (l := as) (i := j) (by omega)
  rcases hh j _ _ _ hv ha hj with ⟨x, _, e, _⟩ | ⟨c1, id', b, e1, e2, e3, e4⟩ | ⟨c1, id', b, e1, e2, e3, e4⟩ | ⟨rows, id', b, e1, e2, e3, e4⟩ | ⟨c1, id', r, b, cs, rs, e1, e2, e3, e4, e5⟩ | ⟨rows, id', b, e1, e2, e3, e0, e4⟩
  ·cases e
  ·cases e2
   refine ⟨hnamed id (hasL_mem hv (by rw [e3]; simp [AV.has])), by omega, _, ha, ?_⟩
   rw [e1, show ιf j = ι id by simp only [ιf, hj]]
   exact .whole e4 (rowOk.plain (by have := h.heap.ok id; rwa [e4] at this))
  ·cases e2
   refine ⟨hnamed id (hasL_mem hv (by rw [e3]; simp [AV.has])), by omega, _, ha, ?_⟩
   rw [e1, show ιf j = ι id by simp only [ιf, hj]]
   exact .whole e4 (rowOk.plain (by have := h.heap.ok id; rwa [e4] at this))
  ·cases e2
   refine ⟨hnamed id (hasL_mem hv (by rw [e3]; simp [AV.has])), by omega, _, ha, ?_⟩
   rw [e1, show ιf j = ι id by simp only [ιf, hj]]
   exact .rows e4
  ·cases e2
   refine ⟨hnamed id (hasL_mem hv (by rw [e3]; simp [AV.has])), by omega, _, ha, ?_⟩
   have hlt2 := (List.getElem?_eq_some_iff.1 e5).1
   rw [e1, show ιf j = (ι id).sub r by simp only [ιf, hj, subL, e4, hlt2, if_true]]
   exact .inner e4 e5 (rowOk.plain (h.heap.deepRow e4 e5).2)
  ·cases e2
   refine ⟨hnamed id (hasL_mem hv (by rw [e3]; simp [AV.has])), by omega, _, ha, ?_⟩
   have hlt2 : ¬ rows.length + rows.length < (List.replicate rows.length (none : Option (List PV)) ++ rows.map some).length := by simp
   rw [e1, show ιf j = (ι id).shL rows.length by simp only [ιf, hj, subL, e4, hlt2, if_false]; congr 1; omega]
   exact .shift e0 e4
 have argDead : ∀ j, (¬ ∃ id q, ms[j]? = some (some (id, q))) → argH as j = .dead := by
  intro j hno
  unfold argH
  split
  ·rename_i p c haj
   exfalso
   have hlt := (List.getElem?_eq_some_iff.1 haj).1
   have hv := List.getElem?_eq_getElem (l := vs) (i := j) (by omega)
   have hm := List.getElem?_eq_getElem (l := ms) (i := j) (by omega)
   rcases hh j _ _ _ hv haj hm with ⟨x, e, _⟩ | ⟨c1, id, b, _, e2, _⟩ | ⟨c1, id, b, _, e2, _⟩ | ⟨rows, id, b, _, e2, _⟩ | ⟨c1, id, r, b, cs, rs, _, e2, _⟩ | ⟨rows, id, b, _, e2, _⟩
   ·cases e
   all_goals exact hno ⟨_, _, by rw [hm, e2]⟩
  ·rfl
 have lentOwn : ∀ {j B : Nat}, owns (argH as j) (ιf j) B → ∃ (id : Nat) (q : Option Nat), ms[j]? = some (some (id, q)) ∧ owns (S.h id) (ι id) B := by
  intro j B ho
  by_cases hex : ∃ id q, ms[j]? = some (some (id, q))
  ·obtain ⟨id, q, hj⟩ := hex
   obtain ⟨_, _, arg, ha, L⟩ := lent hj
   exact ⟨id, q, hj, L.owns ha ho⟩
  ·rw [argDead j hex] at ho; exact ho.elim
 have mHeld : ∀ B, argM as ιf B → Held S.h ι B := by
  rintro B ⟨j, ho⟩
  obtain ⟨id, q, _, ho⟩ := lentOwn ho
  exact ⟨id, ho⟩
 have gg : ∀ B, (∃ o v, w.cell? ⟨B, o, none⟩ = some v) → ¬ Held S.h ι B → G B → G' B := fun _ _ hF hG => ⟨hG, hF⟩
 have ok0 : HeapOk w w.heap.size (argM as ιf) G' (argH as) ιf := by
  refine ⟨fun j => ?_, fun j j' B ho ho' => ?_⟩
  ·by_cases hex : ∃ id q, ms[j]? = some (some (id, q))
   ·obtain ⟨id, q, hj⟩ := hex
    obtain ⟨_, _, arg, ha, L⟩ := lent hj
    exact L.ok ha h.heap (fun B o v hF hv => ⟨hv, fun h' => hF (mHeld B h')⟩) gg fun B ho => ⟨j, ho⟩
   ·rw [argDead j hex]; trivial
  ·obtain ⟨id, q, hj, ho⟩ := lentOwn ho
   obtain ⟨id', q', hj', ho'⟩ := lentOwn ho'
   have := h.heap.apart id id' B ho ho'
   subst this
   exact lids_inj hnodup hj hj'
 have hvals : RepAL w (Held (argH as) ιf) G' ιf (argAVs 0 as) vals := by
  refine RepAL_of (by rw [argAVs_length, l1]; exact RepAL_length hvs) fun j x val hx hval => ?_
  rw [argAVs_get] at hx
  simp only [Option.map_eq_some_iff] at hx
  obtain ⟨arg, harg, rfl⟩ := hx
  have hlt := (List.getElem?_eq_some_iff.1 harg).1
  have hv := List.getElem?_eq_getElem (l := vs) (i := j) (by omega)
  have hm := List.getElem?_eq_getElem (l := ms) (i := j) (by omega)
  obtain ⟨val', hval', hrep⟩ := RepAL_get hvs j _ hv
  rw [hval] at hval'
  cases hval'
  rcases hh j _ _ _ hv harg hm with ⟨x, rfl, _, p⟩ | ⟨c1, id, b, rfl, e2, e3, e4⟩ | ⟨c1, id, b, rfl, e2, e3, e4⟩ | ⟨rows, id, b, rfl, e2, e3, e4⟩ | ⟨c1, id, r, b, cs, rs, rfl, e2, e3, e4, e5⟩ | ⟨rows, id, b, rfl, e2, e3, e0, e4⟩
  ·simp only [Arg.av, RepA]
   refine p h.heap hrep mHeld (fun id hid B ho hM => ?_) fun B hF hG => ⟨hG, hF⟩
   obtain ⟨j', ho'⟩ := hM
   obtain ⟨id', q', hj', ho'⟩ := lentOwn ho'
   have := h.heap.apart id id' B ho ho'
   subst this
   exact hread _ (lids_mem.2 ⟨j', q', hj'⟩) hid
  ·rw [e3] at hrep
   rw [e2] at hm
   have e5 : ιf j = ι id := by simp only [ιf, hm]
   have hp := rowOk.plain (by have := h.heap.ok id; rwa [e4] at this)
   simp only [Arg.av, RepA, Nat.zero_add, lenC_plain hp] at hrep ⊢
   rw [e5]; exact hrep
  ·rw [e3] at hrep
   rw [e2] at hm
   have e5 : ιf j = ι id := by simp only [ιf, hm]
   simp only [Arg.av, RepA, Nat.zero_add] at hrep ⊢
   rw [e5]; exact hrep
  ·rw [e3] at hrep
   rw [e2] at hm
   have e5 : ιf j = ι id := by simp only [ιf, hm]
   simp only [Arg.av, RepA, Nat.zero_add, lenC] at hrep ⊢
   rw [e5]; exact hrep
  ·rw [e3] at hrep
   rw [e2] at hm
   have hlt2 := (List.getElem?_eq_some_iff.1 e5).1
   have e6 : ιf j = (ι id).sub r := by simp only [ιf, hm, subL, e4, hlt2, if_true]
   have hp := rowOk.plain (h.heap.deepRow e4 e5).2
   simp only [Arg.av, RepA, Nat.zero_add, lenC_plain hp] at hrep ⊢
   rw [e6]; exact hrep.2
  ·rw [e3] at hrep
   rw [e2] at hm
   have hlt2 : ¬ rows.length + rows.length < (List.replicate rows.length (none : Option (List PV)) ++ rows.map some).length := by simp
   have e6 : ιf j = (ι id).shL rows.length := by simp only [ιf, hm, subL, e4, hlt2, if_false]; congr 1; omega
   simp only [Arg.av, RepA, Nat.zero_add, lenC] at hrep ⊢
   rw [e6]; exact hrep
 have hnew : ∀ B, w.heap.size ≤ B → G' B := fun B hB => ⟨h.new B (Nat.le_trans h.keep.size hB), fun hh => by have := held_lt h.heap hh; omega⟩
 have hamb : AmbOk w (argM as ιf) := by
  have h0 : ∀ B o, Amb.tb B = some o → w0.heap[B]? = some o := AmbOk.ok (w := w0) (M := M)
  have h1 : ∀ B o, Amb.tb B = some o → ¬ M B := AmbOk.off (w := w0) (M := M)
  have h2 : ∀ B o, Amb.tb B = some o → B < w0.heap.size := fun B o hv => (Array.getElem?_eq_some_iff.1 (h0 B o hv)).1
  refine ⟨fun B o hv => ?_, fun B o hv hB => ?_⟩
  ·rw [h.keep.block B (h2 B o hv) (h1 B o hv)]; exact h0 B o hv
  ·obtain ⟨j, ho⟩ := hB
   obtain ⟨id, q, _, ho⟩ := lentOwn ho
   obtain ⟨m, g⟩ := (h.heap.ok id).org ho
   rcases g with ⟨g, _⟩ | ⟨_, g⟩
   ·have := h2 B o hv; omega
   ·exact h1 B o hv g
 intro Kc Qc next
 unfold Oper.wp
 rw [hrun, Oper.upon_enter]
 refine (hcall w G' ιf vals hamb hnew ok0 hvals).mono ?_
 rintro e w' ⟨v, ι', rfl, hι, keep, ok, hres⟩
 have wholeDec : ∀ id : Nat, Decidable (∃ j : Nat, ms[j]? = some (some (id, none))) := fun _ => Classical.propDecidable _
 refine next _ v w' (fun id => if k ≤ id ∧ id < k + 256 then ι' (as.length + (id - k)) else @dite _ (∃ j : Nat, ms[j]? = some (some (id, none))) (wholeDec id) (fun hx => ι' (Classical.choose hx)) (fun _ => ι id)) hk ?_
 generalize hn : as.length = n at *
 let ι2 : Nat → Loc := fun id => if k ≤ id ∧ id < k + 256 then ι' (n + (id - k)) else @dite _ (∃ j : Nat, ms[j]? = some (some (id, none))) (wholeDec id) (fun hx => ι' (Classical.choose hx)) (fun _ => ι id)
 let h2 : Nat → Blk := hwsH S.h (outWs S.h outs 0 ms ++ impWs t k res)
 have eι : ∀ x, x < 256 → ι2 (k + x) = ι' (n + x) := fun x hx => by
  have e1 : (k ≤ k + x ∧ k + x < k + 256) := ⟨by omega, by omega⟩
  simp only [ι2, e1, and_self, if_true]
  congr 1; omega
 have eιw : ∀ {id j : Nat}, ¬ (k ≤ id ∧ id < k + 256) → ms[j]? = some (some (id, none)) → ι2 id = ι' j := fun {id j} hr hj => by
  have hx : ∃ j : Nat, ms[j]? = some (some (id, none)) := ⟨j, hj⟩
  have e : Classical.choose hx = j := lids_inj hnodup (Classical.choose_spec hx) hj
  simp only [ι2, hr, if_false]
  rw [dif_pos hx, e]
 have eιo : ∀ {id : Nat}, ¬ (k ≤ id ∧ id < k + 256) → (¬ ∃ j : Nat, ms[j]? = some (some (id, none))) → ι2 id = ι id := fun {id} hr hx => by
  simp only [ι2, hr, if_false]
  rw [dif_neg hx]
 have notFresh : ∀ {id}, A id → ¬ (k ≤ id ∧ id < k + 256) := fun {id} hid hr => by
  have := hA (id - k) (by omega)
  rw [show k + (id - k) = id from by omega] at this
  exact this hid
 have eιA : ∀ id, A id → LocEq (ι id) (ι2 id) := fun id hid => by
  by_cases hx : ∃ j : Nat, ms[j]? = some (some (id, none))
  ·obtain ⟨j, hj⟩ := hx
   rw [eιw (notFresh hid) hj]
   have := hι j (lent hj).2.1
   rwa [show ιf j = ι id by simp only [ιf, hj]] at this
  ·rw [eιo (notFresh hid) hx]; exact LocEq.refl _
 have H1 : ∀ x, x < 256 → h2 (k + x) = postH t as outs res (n + x) := by
  intro x hx
  show hwsH S.h (outWs S.h outs 0 ms ++ impWs t k res) (k + x) = hwsH (outH as outs) (impWs t as.length res) (n + x)
  rw [hwsH_append, impWs_shift t res k, impWs_shift t res as.length, hn]
  refine hwsH_shift ?_
  have hnm : k + x ∉ lids ms := fun hm => by
   obtain ⟨j, q, hj⟩ := lids_mem.1 hm
   exact hA x hx (lent hj).1
  rw [outWs_other hnm, h.alloc _ (hA x hx)]
  unfold outH
  have : as[n + x]? = none := List.getElem?_eq_none (by omega)
  rw [this]
 have H2 : ∀ id, ¬ (k ≤ id ∧ id < k + 256) → h2 id = hwsH S.h (outWs S.h outs 0 ms) id := by
  intro id hid
  show hwsH S.h (outWs S.h outs 0 ms ++ impWs t k res) id = _
  rw [hwsH_append]
  refine hwsH_other fun p hp e => ?_
  rw [impWs_shift] at hp
  simp only [shift, List.mem_map] at hp
  obtain ⟨q, hq, rfl⟩ := hp
  have := impWs_256 hro q hq
  exact hid ⟨by simp at e; omega, by simp at e; omega⟩
 have P1 : ∀ j, j < n → postH tk as outs res j = outH as outs j := fun j hj => postH_arg (by omega)
 have freshFlag : ∀ t x, x < 256 → postH t as outs res (n + x) ≠ .dead → Flag t (postH t as outs res (n + x)) ∧ blkNoRo (postH t as outs res (n + x)) = true := by
  intro t x hx hne
  unfold postH at hne ⊢
  rcases hwsH_cases (h := outH as outs) (l := impWs t as.length res) (i := n + x) with e | ⟨b, hb, e⟩
  ·exfalso; apply hne; rw [e]
   unfold outH
   have : as[n + x]? = none := List.getElem?_eq_none (by omega)
   rw [this]
  ·obtain ⟨q1, q2⟩ := impWs_live _ hb
   rw [e]; exact ⟨q1, q2 hnr⟩
 have nd : ∀ B, Held (postH tk as outs res) ι' B → w.heap.size ≤ B ∨ argM as ιf B := by
  rintro B ⟨id, ho⟩
  obtain ⟨m, g⟩ := (ok.ok id).org ho
  rcases g with ⟨g, _⟩ | ⟨_, g⟩
  ·exact .inl g
  ·exact .inr g
 have hM : ∀ {j id : Nat} {q : Option Nat}, ms[j]? = some (some (id, q)) → ∀ B, argM as ιf B → owns (S.h id) (ι id) B → owns (argH as j) (ιf j) B := by
  rintro j id q hj B ⟨j', ho'⟩ ho
  obtain ⟨id', q', hj', ho2⟩ := lentOwn ho'
  have := h.heap.apart id id' B ho ho2
  subst this
  rw [lids_inj hnodup hj hj']; exact ho'
 have notM : ∀ {id B}, id ∉ lids ms → owns (S.h id) (ι id) B → ¬ argM as ιf B := by
  rintro id B hm ho ⟨j', ho'⟩
  obtain ⟨id', q', hj', ho2⟩ := lentOwn ho'
  have := h.heap.apart id id' B ho ho2
  subst this
  exact hm (lids_mem.2 ⟨j', q', hj'⟩)
 have keepO : ∀ {id B}, owns (S.h id) (ι id) B → ¬ argM as ιf B → w'.heap[B]? = w.heap[B]? := fun {id B} ho hm => keep.block B ((h.heap.ok id).lt ho) hm
 have l2of : ∀ {id j : Nat} {q : Option Nat}, ms[j]? = some (some (id, q)) → ι2 id = q.elim (ι' j) fun _ => ι id := fun {id j q} hj => by
  have hr := notFresh (lent hj).1
  cases q with
  | none => exact eιw hr hj
  | some r =>
   refine eιo hr fun ⟨j', hj'⟩ => ?_
   have := lids_inj hnodup hj hj'
   subst this; rw [hj] at hj'; cases hj'
 have atLent : ∀ {id j : Nat} {q : Option Nat}, ms[j]? = some (some (id, q)) → h2 id = outB q outs[j]? (S.h id) := fun {id j q} hj => by
  rw [H2 id (notFresh (lent hj).1), outWs_at hnodup hj, Nat.zero_add]
 have atOld : ∀ {id : Nat}, ¬ (k ≤ id ∧ id < k + 256) → id ∉ lids ms → h2 id = S.h id ∧ ι2 id = ι id := fun {id} hr hm =>
  ⟨by rw [H2 id hr, outWs_other hm], eιo hr fun ⟨j, hj⟩ => hm (lids_mem.2 ⟨j, none, hj⟩)⟩
 have cls : ∀ id B, owns (h2 id) (ι2 id) B →
   (∃ x, x < 256 ∧ id = k + x ∧ owns (postH tk as outs res (n + x)) (ι' (n + x)) B) ∨
   (∃ (j : Nat) (q : Option Nat), ms[j]? = some (some (id, q)) ∧ owns (postH tk as outs res j) (ι' j) B) ∨
   (owns (S.h id) (ι id) B ∧ ¬ argM as ιf B ∧ ¬ (k ≤ id ∧ id < k + 256)) := by
  intro id B ho
  by_cases hr : k ≤ id ∧ id < k + 256
  ·have e : id = k + (id - k) := by omega
   rw [e, H1 _ (by omega), eι _ (by omega)] at ho
   exact .inl ⟨id - k, by omega, e, (postH_rf _).owns.1 ho⟩
  ·right
   by_cases hm : id ∈ lids ms
   ·obtain ⟨j, q, hj⟩ := lids_mem.1 hm
    obtain ⟨hAid, hjl, arg, ha, L⟩ := lent hj
    rw [atLent hj] at ho
    rcases L.backOwn (hι j hjl) ha (l2of hj) h.heap (fun B => hM hj B) B ho with q1 | ⟨q1, q2⟩
    ·left; exact ⟨j, q, hj, by rw [P1 j hjl]; exact q1⟩
    ·right; exact ⟨q1, q2, hr⟩
   ·obtain ⟨e1, e2⟩ := atOld hr hm
    rw [e1, e2] at ho
    exact .inr ⟨ho, notM hm ho, hr⟩
 have heldCases : ∀ B, Held h2 ι2 B → Held (postH tk as outs res) ι' B ∨ (Held S.h ι B ∧ ¬ argM as ιf B) := by
  rintro B ⟨id, ho⟩
  rcases cls id B ho with ⟨x, _, _, ho⟩ | ⟨j, q, _, ho⟩ | ⟨ho, hm, _⟩
  ·exact .inl ⟨_, ho⟩
  ·exact .inl ⟨_, ho⟩
  ·exact .inr ⟨⟨id, ho⟩, hm⟩
 have st : Stays w w' (Held S.h ι) (Held h2 ι2) := by
  intro B o v hF hv
  have hlt := cell?_lt hv
  have hnM : ¬ argM as ιf B := fun hM => hF (mHeld B hM)
  refine ⟨by rw [cell?_same (keep.block B hlt hnM)]; exact hv, fun hh => ?_⟩
  rcases heldCases B hh with hp | ⟨hp, _⟩
  ·rcases nd B hp with hp | hp
   ·omega
   ·exact hnM hp
  ·exact hF hp
 have HH : ∀ B, ¬ Held (postH tk as outs res) ι' B → G' B → ¬ Held h2 ι2 B ∧ G B := by
  intro B hF hG
  refine ⟨fun hh => ?_, hG.1⟩
  rcases heldCases B hh with hp | ⟨hp, _⟩
  ·exact hF hp
  ·exact hG.2 hp
 have fromLent : ∀ B, argM as ιf B → (w0.heap.size ≤ B ∧ G B) ∨ M B := by
  rintro B ⟨j, ho⟩
  obtain ⟨id, q, _, ho⟩ := lentOwn ho
  obtain ⟨m, g⟩ := (h.heap.ok id).org ho
  rcases g with g | ⟨_, g⟩
  ·exact .inl g
  ·exact .inr g
 have fromLentF : lentF S.h ms → ∀ B, argM as ιf B → w0.heap.size ≤ B ∧ G B := by
  rintro hf B ⟨j, ho⟩
  obtain ⟨id, q, hj, ho⟩ := lentOwn ho
  have g := (h.heap.ok id).orgF ho
  rw [hf id (lids_mem.2 ⟨j, q, hj⟩)] at g
  rcases g with g | ⟨g, _⟩
  ·exact g
  ·cases g
 have ok2 : HeapOk w' w0.heap.size M G h2 ι2 := by
  refine ⟨fun id => ?_, fun id id' B ho ho' => ?_⟩
  ·by_cases hr : k ≤ id ∧ id < k + 256
   ·have e : id = k + (id - k) := by omega
    rw [e, H1 _ (by omega), eι _ (by omega)]
    have rf : RF (postH tk as outs res (n + (id - k))) (postH t as outs res (n + (id - k))) := postH_rf _
    by_cases hdd : postH t as outs res (n + (id - k)) = .dead
    ·rw [hdd]; trivial
    ·have hdd' : postH tk as outs res (n + (id - k)) ≠ .dead := by
      intro e
      rw [e] at rf
      rcases rf with e | ⟨_, _, _, e, _⟩ | ⟨_, _, _, _, e, _⟩
      ·exact hdd e.symm
      ·cases e
      ·cases e
     obtain ⟨hfl, hnr'⟩ := freshFlag tk _ (by omega) hdd'
     refine rf.ok (freshFlag t _ (by omega) hdd).1 (X := Org w0.heap.size M G t) (fun B hB => hB) ?_
     refine okB.noRo HH hnr' (fun m c e => ?_) (fun m B hf ho hO => ?_) (ok.ok _)
     ·rcases hfl with ⟨_, q⟩ | ⟨_, _, q⟩ <;> rw [e] at q <;> cases q
     ·have em : m = tk := by
       rcases hfl with ⟨_, q1⟩ | ⟨_, _, q1⟩ <;> rcases hf with ⟨_, q2⟩ | ⟨_, _, q2⟩ <;> rw [q1] at q2 <;> cases q2 <;> rfl
      rcases hO with ⟨q1, q2⟩ | ⟨q1, q2⟩
      ·exact .inl ⟨Nat.le_trans h.keep.size q1, q2.1⟩
      ·cases t with
       | false => exact .inl (fromLentF (ht rfl (em ▸ q1)) _ q2)
       | true =>
        rcases fromLent _ q2 with q | q
        ·exact .inl q
        ·exact .inr ⟨rfl, q⟩
   ·by_cases hm : id ∈ lids ms
    ·obtain ⟨j, q, hj⟩ := lids_mem.1 hm
     obtain ⟨hAid, hjl, arg, ha, L⟩ := lent hj
     rw [atLent hj]
     have okp := ok.ok j
     rw [P1 j hjl] at okp
     exact (L.back (hι j hjl) ha (l2of hj) h.heap (fun o ho => List.all_eq_true.1 houts o ho) okp HH st (fun B ho hm => keepO ho hm) (fun B => hM hj B)).1
    ·obtain ⟨e1, e2⟩ := atOld hr hm
     rw [e1, e2]
     exact (h.heap.ok id).tr st (fun _ _ _ h => h) (fun B ho => keepO ho (notM hm ho)) (fun _ _ _ h => h)
  ·have apart : ∀ {id B}, owns (S.h id) (ι id) B → ¬ argM as ιf B → ∀ {j}, ¬ owns (postH tk as outs res j) (ι' j) B := by
    intro id B ho hm j hp
    rcases nd B ⟨j, hp⟩ with q | q
    ·have := (h.heap.ok id).lt ho; omega
    ·exact hm q
   rcases cls id B ho with ⟨x, hx, rfl, hp⟩ | ⟨j, q, hj, hp⟩ | ⟨hp, hm, hr⟩ <;> rcases cls id' B ho' with ⟨x', hx', rfl, hp'⟩ | ⟨j', q', hj', hp'⟩ | ⟨hp', hm', hr'⟩
   ·have := ok.apart _ _ B hp hp'; omega
   ·have := ok.apart _ _ B hp hp'
    have := (lent hj').2.1; omega
   ·exact (apart hp' hm' hp).elim
   ·have := ok.apart _ _ B hp hp'
    have := (lent hj).2.1; omega
   ·have := ok.apart _ _ B hp hp'
    subst this
    rw [hj] at hj'; cases hj'; rfl
   ·exact (apart hp' hm' hp).elim
   ·exact (apart hp hm hp').elim
   ·exact (apart hp hm hp').elim
   ·exact h.heap.apart _ _ B hp hp'
 have keep2 : Keep w0 w' M := ⟨keep.os.trans h.keep.os, keep.tape.trans h.keep.tape, keep.output.trans h.keep.output, Nat.le_trans h.keep.size keep.size, fun B hB hM => by
  rw [keep.block B (Nat.lt_of_lt_of_le hB h.keep.size) (fun hm => ?_), h.keep.block B hB hM]
  rcases fromLent B hm with ⟨q, _⟩ | q
  ·omega
  ·exact hM q, fun q => Nat.le_trans (h.keep.drawn q) (keep.drawn q)⟩
 have rel := h.stepK (A' := plus A k) (fun i hi => .inl hi) keep2 ok2 st eιA (fun i hi => by
  have hr : ¬ (k ≤ i ∧ i < k + 256) := fun hr => hi (.inr hr)
  have hnA : ¬ A i := fun hA => hi (.inl hA)
  show h2 i = .dead
  rw [H2 i hr, outWs_other fun hm => by
   obtain ⟨j, q, hj⟩ := lids_mem.1 hm
   exact hnA (lent hj).1]
  exact h.alloc i hnA)
 rw [app_eq]
 exact rel.put o.dst hd (impAll_rep HH eι hnr hro hres) fun i hi => .inr (impAll_has hro hi)
theorem frzW_L {h : Nat → Blk} : ∀ {l : List Nat}, FrzL h (frzW h l)
 | [] => fun p hp => by simp [frzW] at hp
 | id :: l => fun p hp => by
  simp only [frzW, frzB] at hp
  split at hp
  ·rename_i m c e
   rcases List.mem_cons.1 hp with rfl | hp
   ·exact ⟨m, c, e, rfl⟩
   ·exact frzW_L p hp
  ·exact frzW_L p hp
theorem does_callf {o : Oper} {k : Nat} {K : R → Prop} (h : Rel w0 nA nt M G ι0 A w S ι a) (hd : ∀ d, o.dst = some d → d < nt) (hA : ∀ x, x < 256 → ¬ A (k + x)) {f : FuncId} {vs : List AV} {vals : List Value}
  (hrun : ∀ fn, P.funcs[f]? = some fn → fn.body.isSome = true → (fn.name == "runtime.NumGoroutine") = false → (execOp a.eval o).run P w = .ok (.enter f ⟨vals⟩) w)
  (hvs : RepAL w (Held S.h ι) G ι vs vals) (hnamed : ∀ i, AV.hasL vs i = true → A i) (hK : callU P sg S.h k f vs K) : Does P w0 nA nt M G ι0 A k o w S a K := by
 have fz := (frzW_L (h := S.h) (l := frzR (sg (f + 8589934592)) vs)).frz
 have h1 := h.frz fz
 have hvs1 := RepAL.tr (Stays.frz fz w ι) (fun _ _ _ h => h) _ _ (fun _ _ => LocEq.refl _) hvs
 have key := does_callv (S := { S with h := hwsH S.h (frzW S.h (frzR (sg (f + 8589934592)) vs)) }) h1 hd hA hrun hvs1 hnamed hK
 intro Kc Qc next
 refine key Kc Qc fun r val w' ι' hr hrel => next _ val w' ι' hr ?_
 rw [app_eq] at hrel ⊢
 simpa only [hwsH_append] using hrel
end
end Go.Gl
set_option linter.unusedSimpArgs false
set_option linter.unusedVariables false
namespace Go.Gl
open Go
variable [Amb]
section
variable {P : Program} {sg : FuncId → List Bool} {w0 : World} {nA nt : Nat} {M G : Nat → Prop} {ι0 : Nat → Loc} {w : World} {S : St} {ι : Nat → Loc} {a : Act}
variable [AmbOk w0 M]
theorem Rel.drawn {A : Nat → Prop} (h : Rel w0 nA nt M G ι0 A w S ι a) (d : Nat) (hd : w.drawn ≤ d) : Rel w0 nA nt M G ι0 A { w with drawn := d } S ι a := by
 have st : Stays w { w with drawn := d } (Held S.h ι) (Held S.h ι) := fun _ _ _ h hv => ⟨hv, h⟩
 exact h.step (fun _ h => h) ⟨rfl, rfl, rfl, Nat.le_refl _, fun _ _ _ => rfl, fun _ => hd⟩ ⟨fun id => (h.heap.ok id).tr st (fun _ _ _ h => h) (fun _ _ => rfl) (fun _ _ _ h => h), h.heap.apart⟩ st (fun _ _ => LocEq.refl _) h.alloc
theorem ints_rep {w : World} {F F' G G' : Nat → Prop} {B o : Nat} {l : List Int} (h : RepC w F G B o (l.map (PV.int .i64))) : RepC w F' G' B o (l.map (PV.int .i64)) := by
 rw [RepC_iff] at h ⊢
 intro j x hj
 obtain ⟨v, h1, h2, h3⟩ := h j x hj
 rw [List.getElem?_map] at hj
 cases e : l[j]? with
 | none => rw [e] at hj; cases hj
 | some n => rw [e] at hj; cases hj; exact ⟨v, h1, h2, by simpa only [RepP] using h3⟩
/-- The rows of a slice are put in order. -/
theorem does_srt {A : Nat → Prop} {o : Oper} {k : Nat} {K : R → Prop} (h : Rel w0 nA nt M G ι0 A w S ι a) (hd : ∀ d, o.dst = some d → d < nt) {f g : FuncId} {vals : List Value} {id : Nat} {m : Bool} {L : List (List Int)} {srt : List (List Int) → List (List Int)}
  (hrun : (execOp a.eval o).run P w = .ok (.enter f ⟨vals⟩) w) (hvs : RepAL w (Held S.h ι) G ι [.ref id 0 L.length, .p (.fn g [] [])] vals) (hid : A id)
  (hblk : S.h id = .deep m (canon L.length) (L.map fun l => some (l.map (PV.int .i64)))) (h0 : 0 < L.length) (hL1 : L.length ≤ 1048576) (hL2 : ∀ l ∈ L, l.length ≤ 1048576)
  (hS : ∀ (w : World) (B off cap : Nat) (L : List (List Int)) (hd : Nat → Value) (cs : Array Value) (E : TypeId) (lo hi : Nat), w.heap[B]? = some (.cells cs E (lo, hi)) → off + L.length ≤ cs.size → (hi ≤ lo ∨ cs.size ≤ lo) → 0 < L.length → L.length ≤ 1048576 → (∀ l ∈ L, l.length ≤ 1048576) →
   (∀ j, j < L.length → cs[off + j]? = some (hd j) ∧ (hd j).oneCell' = true ∧ RepP w (fun B' => B' = B) (fun _ => True) (.sl .ro ((L.getD j []).map (PV.int .i64))) (hd j)) →
   Calls P f #[.slice (some ⟨B, off, none⟩) L.length cap, .func (.func g) #[] #[]] w fun e w' => e = .returned (.tuple #[]) ∧ ∃ s : List Nat, s.Perm (List.range L.length) ∧ srt L = s.map (fun i => L.getD i []) ∧ w'.os = w.os ∧ w'.tape = w.tape ∧ w'.output = w.output ∧
    w.heap.size ≤ w'.heap.size ∧ w.drawn ≤ w'.drawn ∧ (∀ k, k < w.heap.size → k ≠ B → w'.heap[k]? = w.heap[k]?) ∧ ∃ cs', w'.heap[B]? = some (.cells cs' E (lo, hi)) ∧ cs'.size = cs.size ∧ ∀ j, j < L.length → cs'[off + j]? = some (hd (s.getD j 0)))
  (hk : K ⟨.p .any, [(id, .deep m (canonS L.length) (List.replicate L.length none ++ (srt L).map fun l => some (l.map (PV.int .i64))))], [id]⟩) : Does P w0 nA nt M G ι0 A k o w S a K := by
 simp only [RepAL] at hvs
 obtain ⟨v, vs', rfl, hx, v2, vs2, rfl, hx2, rfl⟩ := hvs
 obtain ⟨ad, cap, hv, hl, hcap, hm, hc⟩ := rep_ref hx
 simp only [RepA, RepP, RepL] at hx2
 obtain ⟨_, _, rfl, rfl, rfl⟩ := hx2
 have okid := h.heap.ok id
 rw [hblk] at okid
 obtain ⟨n1, ⟨l1, l2, l3⟩, r1, d1, b1⟩ := okid
 have n1 : L.length = (ι id).n := by simpa using n1
 have hcl : L.length ≤ (ι id).cap := by simpa [canon] using l1
 have hc0 : (ι id).cap ≠ 0 := by omega
 have had : ad = some ⟨(ι id).B, (ι id).off, none⟩ := by
  rcases hc with hc | hc
  ·omega
  ·simpa using hc
 rcases l3 with l3 | ⟨⟨cs, E, lo, hi, hcell, hfit, hfr⟩, horg, hcells⟩
 ·exact absurd l3 hc0
 have hrow : ∀ j, j < L.length → (L.map fun l => some (l.map (PV.int .i64)))[j]? = some (some ((L.getD j []).map (PV.int .i64))) := fun j hj => by
  rw [List.getElem?_map, List.getElem?_eq_getElem hj, List.getD_eq_getElem?_getD, List.getElem?_eq_getElem hj]; rfl
 have hel : ∀ j : Nat, ∃ v, j < L.length → w.cell? ⟨(ι id).B, (ι id).off + j, none⟩ = some v ∧ v.oneCell' = true ∧ hdrAt ((ι id).sub j) (L.getD j []).length v := fun j => by
  by_cases hj : j < L.length
  ·obtain ⟨v, v1, v2, v3⟩ := hcells j (.row j) (by rw [canon, List.getElem?_map, List.getElem?_range hj]; rfl)
   refine ⟨v, fun _ => ⟨v1, v2, ?_⟩⟩
   have := v3.2 _ (hrow j hj)
   rwa [List.length_map] at this
  ·exact ⟨.bool true, fun h => absurd h hj⟩
 obtain ⟨hdr, hh⟩ : ∃ hdr : Nat → Value, ∀ j, j < L.length → w.cell? ⟨(ι id).B, (ι id).off + j, none⟩ = some (hdr j) ∧ (hdr j).oneCell' = true ∧ hdrAt ((ι id).sub j) (L.getD j []).length (hdr j) := ⟨fun j => Classical.choose (hel j), fun j => Classical.choose_spec (hel j)⟩
 have key := hS w (ι id).B (ι id).off cap L hdr cs E lo hi hcell (by omega) (hfr.imp_right And.right) h0 hL1 hL2 (fun j hj => by
  obtain ⟨e1, e2, a', e3, e4⟩ := hh j hj
  rw [cell?_eq, hcell] at e1
  refine ⟨e1, e2, ?_⟩
  obtain ⟨q1, q2, q3⟩ := r1 j _ (hrow j hj)
  rw [List.length_map] at q1
  simp only [RepP]
  refine ⟨a', ((ι id).sub j).cap, by rw [e3, List.length_map], by rw [List.length_map]; exact q1, q2, (by intro e; cases e), ?_⟩
  by_cases hz : L.getD j [] = []
  ·exact .inl (by rw [hz]; rfl)
  ·have hpos := List.length_pos_iff.2 hz
   have hcj : ((ι id).sub j).cap ≠ 0 := by omega
   rcases q3 with q3 | ⟨_, q3, _⟩
   ·exact absurd q3 hcj
   ·refine .inr ⟨((ι id).sub j).B, ((ι id).sub j).off, ?_, b1 j _ (hrow j hj) hc0 hcj, (by intro e; cases e), ints_rep q3⟩
    rcases e4 with e4 | e4
    ·exact absurd e4 hcj
    ·exact e4)
 intro Kc Qc next
 unfold Oper.wp
 rw [hrun, Oper.upon_enter, hv, had]
 rw [show (⟨[Value.slice (some ⟨(ι id).B, (ι id).off, none⟩) L.length cap, Value.func (.func g) ⟨[]⟩ ⟨[]⟩]⟩ : Array Value) = #[Value.slice (some ⟨(ι id).B, (ι id).off, none⟩) L.length cap, Value.func (.func g) #[] #[]] from rfl]
 refine key.mono ?_
 rintro e w' ⟨rfl, s, hs, es, p1, p2, p3, p4, p5, p6, cs', hcell', hsz, hcs'⟩
 have sl : s.length = L.length := by rw [hs.length_eq, List.length_range]
 have slt : ∀ {j}, j < L.length → s.getD j 0 < L.length := fun {j} hj => by
  have : s.getD j 0 ∈ s := by rw [List.getD_eq_getElem?_getD, List.getElem?_eq_getElem (by omega)]; exact List.getElem_mem _
  simpa using hs.subset this
 have snd : s.Nodup := hs.nodup_iff.2 List.nodup_range
 have sinj : ∀ {i j}, i < L.length → j < L.length → i ≠ j → s.getD i 0 ≠ s.getD j 0 := fun {i j} hi hj hne e => by
  rw [List.getD_eq_getElem?_getD, List.getD_eq_getElem?_getD, List.getElem?_eq_getElem (by omega), List.getElem?_eq_getElem (by omega)] at e
  have snd2 := List.pairwise_iff_getElem.1 snd
  simp only [Option.getD_some] at e
  rcases Nat.lt_trichotomy i j with q | q | q
  ·exact snd2 i j (by omega) (by omega) q e
  ·exact hne q
  ·exact snd2 j i (by omega) (by omega) q e.symm
 let l' : Loc := ⟨(ι id).B, (ι id).off, (ι id).cap, L.length + L.length, fun r => if r < L.length then (ι id).inn r else (ι id).inn (s.getD (r - L.length) 0)⟩
 let b' : Blk := .deep m (canonS L.length) (List.replicate L.length none ++ (srt L).map fun l => some (l.map (PV.int .i64)))
 have esub : ∀ j, l'.sub (L.length + j) = (ι id).sub (s.getD j 0) := fun j => by
  have : ¬ L.length + j < L.length := by omega
  simp only [Loc.sub, l', this, if_false, Nat.add_sub_cancel_left]
 have hget : ∀ {r c}, (List.replicate L.length none ++ (srt L).map fun l => some (l.map (PV.int .i64)))[r]? = some (some c) → ∃ j, r = L.length + j ∧ j < L.length ∧ c = (L.getD (s.getD j 0) []).map (PV.int .i64) := fun {r c} hr => by
  rw [List.getElem?_append] at hr
  split at hr
  ·rename_i hlt
   rw [List.length_replicate] at hlt
   rw [List.getElem?_replicate, if_pos hlt] at hr; cases hr
  ·rename_i hge
   rw [List.length_replicate] at hge hr
   have hjl : r - L.length < L.length := by
    have := (List.getElem?_eq_some_iff.1 hr).1
    rw [List.length_map, es, List.length_map, sl] at this; exact this
   refine ⟨r - L.length, by omega, hjl, ?_⟩
   rw [es, List.map_map, List.getElem?_map, List.getElem?_eq_getElem (by omega)] at hr
   simp only [Option.map_some, Function.comp, Option.some.injEq] at hr
   rw [← hr, List.getD_eq_getElem?_getD (l := s), List.getElem?_eq_getElem (by omega)]; rfl
 have ownB : ∀ B, owns b' l' B → owns (S.h id) (ι id) B := fun B ho => by
  rw [hblk]
  rcases ho with ho | ⟨r, c, hr, hne, rfl⟩
  ·exact .inl ho
  ·obtain ⟨j, rfl, hj, rfl⟩ := hget hr
   rw [esub] at hne ⊢
   exact .inr ⟨_, _, hrow _ (slt hj), hne, rfl⟩
 have W := h.heap.writeS (w' := w') (h' := updH S.h id b') (ι' := updL ι id l') (k := id) (fun i => i = id) (fun i _ hne => by simp only [updH, updL, hne, if_false, and_self])
  (fun i hX hne => absurd hX hne) (fun B hB hno => p6 B hB fun e => hno id rfl (by rw [hblk, e]; exact .inl ⟨hc0, rfl⟩))
  (fun B ho => .inr ⟨id, rfl, ownB B (by simpa only [updH, updL, if_true] using ho), fun hne => absurd rfl hne⟩)
  (fun st i hid2 => by
   obtain rfl : i = id := by rcases hid2 with q | q <;> exact q
   simp only [updH, updL, if_true]
   have hold : ∀ B, owns (S.h i) (ι i) B → B ≠ (ι i).B → w'.heap[B]? = w.heap[B]? := fun B ho hne => p6 B ((h.heap.ok i).lt ho) hne
   refine ⟨by simp [l', es, sl], ⟨by simpa [canonS, l'] using hcl, l2, .inr ⟨⟨cs', E, lo, hi, hcell', by rw [hsz]; exact hfit, by rw [hsz]; exact hfr⟩, horg, fun j x hx => ?_⟩⟩, fun r c hr => ?_, fun r c r' c' hr hr' hne => ?_, fun r c hr => ?_⟩
   ·have hj : j < L.length := by have := (List.getElem?_eq_some_iff.1 hx).1; simpa [canonS] using this
    rw [canonS_get, if_pos hj] at hx
    cases hx
    have e9 := hh _ (slt hj)
    refine ⟨hdr (s.getD j 0), by rw [cell?_eq, hcell']; exact hcs' j hj, e9.2.1, by simp [es, sl]; omega, fun c hc => ?_⟩
    obtain ⟨j', hj', _, rfl⟩ := hget hc
    obtain rfl : j = j' := by omega
    rw [esub, List.length_map]; exact e9.2.2
   ·obtain ⟨j, rfl, hj, rfl⟩ := hget hr
    rw [esub]
    have q := r1 _ _ (hrow _ (slt hj))
    refine rowOk.tr st (fun _ _ _ h => h) (fun hne => hold _ (by rw [hblk]; exact .inr ⟨_, _, hrow _ (slt hj), hne, rfl⟩) ?_) (fun _ h => h) q
    exact b1 _ _ (hrow _ (slt hj)) hc0 hne
   ·obtain ⟨j, rfl, hj, rfl⟩ := hget hr
    obtain ⟨j', rfl, hj', rfl⟩ := hget hr'
    rw [esub, esub]
    exact d1 _ _ _ _ (hrow _ (slt hj)) (hrow _ (slt hj')) (sinj hj hj' (by omega))
   ·obtain ⟨j, rfl, hj, rfl⟩ := hget hr
    rw [esub]
    exact b1 _ _ (hrow _ (slt hj)))
 obtain ⟨ok, hh2, st⟩ := W
 refine next _ _ _ (updL ι id l') hk ?_
 rw [app_eq]
 have eh : updH S.h id b' = hwsH S.h [(id, b')] := by rw [hwsH_one]
 rw [eh] at ok st
 have hM : ∀ k, k < w0.heap.size → ¬ M k → k ≠ (ι id).B := fun k hk hMk e => by
  rcases horg with ⟨q, _⟩ | ⟨_, q⟩
  ·omega
  ·exact hMk (e ▸ q)
 have hBs : w0.heap.size ≤ w.heap.size := h.keep.size
 have keepW : Keep w0 w' M := ⟨p1.trans h.keep.os, p2.trans h.keep.tape, p3.trans h.keep.output, by omega, fun k hk hMk => (p6 k (by omega) (hM k hk hMk)).trans (h.keep.block k hk hMk), fun q => Nat.le_trans (h.keep.drawn q) p5⟩
 have h2 := h.stepK (A' := plus A k) (fun i hi => .inl hi) keepW ok st (fun i hi => by
  by_cases e : i = id
  ·subst e
   simp only [updL, if_true]
   refine ⟨rfl, rfl, rfl, by show (ι i).n ≤ L.length + L.length; omega, fun r hr => ?_⟩
   have : r < L.length := by omega
   simp only [l', this, if_true]
  ·simp only [updL, e, if_false]; exact LocEq.refl _) (fun i hi => by
  have hne2 : i ≠ id := fun e => hi (.inl (e ▸ hid))
  rw [hwsH_one]
  simp only [updH, hne2, if_false]
  exact h.alloc i fun hA => hi (.inl hA))
 exact h2.put o.dst hd (v := .p .any) (by simp only [RepA, RepP]) (by simp [AV.has])
theorem does_inpl {A : Nat → Prop} {o : Oper} {k : Nat} {K : R → Prop} (h : Rel w0 nA nt M G ι0 A w S ι a) (hd : ∀ d, o.dst = some d → d < nt) {f : FuncId} {vs : List AV} {vals : List Value}
  (hrun : ∀ fn, P.funcs[f]? = some fn → fn.body.isSome = true → (fn.name == "runtime.NumGoroutine") = false → (execOp a.eval o).run P w = .ok (.enter f ⟨vals⟩) w)
  (hvs : RepAL w (Held S.h ι) G ι vs vals) (hnamed : ∀ i, AV.hasL vs i = true → A i) (hK : inplW P S.h f vs K) : Does P w0 nA nt M G ι0 A k o w S a K := by
 unfold inplW at hK
 split at hK
 ·rename_i id off len
  simp only [RepAL] at hvs
  obtain ⟨v, vs', rfl, hx, rfl⟩ := hvs
  obtain ⟨ad, cap, hv, hl, hcap, hm, hc⟩ := rep_ref hx
  have hid : A id := hnamed id (by simp [AV.hasL, AV.has])
  split at hK
  ·rename_i m c hblk
   obtain ⟨hle, g, ⟨⟨fn, hf1, hf2, hf3⟩, hg, hE, hF⟩, l, hcl, hk⟩ := hK
   have hrun := hrun fn hf1 hf2 hf3
   obtain ⟨g1, g2, g3⟩ := h.heap.live id m c hblk
   have hll : l.length = len := by
    have := congrArg List.length hcl
    simp only [List.length_take, List.length_drop, List.length_map] at this; omega
   have hgl := hg l
   intro Kc Qc next
   unfold Oper.wp
   rw [hrun, Oper.upon_enter]
   by_cases hn0 : len = 0
   ·subst hn0
    have hg0 : g l = [] := List.eq_nil_of_length_eq_zero (by omega)
    rw [hv]
    refine (hE w ad cap).mono ?_
    rintro e w' ⟨rfl, d, hdr, rfl⟩
    refine next _ _ _ ι hk ?_
    rw [app_eq]
    have e1 : hwsH S.h [(id, .live m (c.take off ++ (g l).map (PV.int .i64) ++ c.drop (off + 0)))] = S.h := by
     rw [hwsH_one, hg0]
     simp only [List.map_nil, List.append_nil, Nat.add_zero, List.take_append_drop]
     funext j
     simp only [updH]
     split
     ·rename_i ej; rw [ej, hblk]
     ·rfl
    rw [e1]
    exact ((h.drawn d hdr).put o.dst hd (v := .p .any) (by simp only [RepA, RepP]) (by simp [AV.has])).mono fun i hi => .inl hi
   ·have hc1 : c ≠ [] := by intro e; subst e; simp at hle; omega
    have hcap1 : (ι id).cap ≠ 0 := by have := List.length_pos_iff.2 hc1; omega
    rcases hc with hc | rfl
    ·omega
    rcases g3 with g3 | ⟨⟨cs, E, lo, hi', hcell, hroom, hfr⟩, hrepc, gx⟩
    ·exact absurd g3 hcap1
    ·rw [RepC_iff] at hrepc
     have hcs : ∀ (j : Nat) (x : Int), l[j]? = some x → cs[(ι id).off + off + j]? = some (.int .i64 x) := fun j x hj => by
      have h1 : ((c.drop off).take len)[j]? = some (PV.int .i64 x) := by rw [hcl, List.getElem?_map, hj]; rfl
      rw [List.getElem?_take] at h1
      split at h1
      ·rw [List.getElem?_drop] at h1
       obtain ⟨u, u1, _, u3⟩ := hrepc _ _ h1
       simp only [RepP] at u3
       rw [cell?_eq, hcell] at u1
       rw [Nat.add_assoc, ← u3]; simpa using u1
      ·cases h1
     rw [hv, ← hll]
     refine (hF w (ι id).B ((ι id).off + off) cap l cs E lo hi' hcell (by omega) (hfr.imp_right And.right) (by omega) hcs).mono ?_
     rintro e w' ⟨rfl, d, hdr, rfl⟩
     refine next _ _ _ ι hk ?_
     rw [app_eq]
     have hwr : Wrote w (w.setRow (ι id).B (cs.toList.take ((ι id).off + off) ++ (g l).map (Value.int .i64) ++ cs.toList.drop ((ι id).off + off + l.length)).toArray) (ι id).B _ := Wrote.setRow hcell (by simp; omega)
     have hBk : w0.heap.size ≤ (ι id).B ∨ M (ι id).B := by
      rcases gx with ⟨g, _⟩ | ⟨_, g⟩
      ·exact .inl g
      ·exact .inr g
     have W := h.heap.write (k := id) (c' := c.take off ++ (g l).map (PV.int .i64) ++ c.drop (off + len)) hblk (.inl rfl) hcap1 hwr (ι id).off (ι id).cap (ι id).n (ι id).inn (Nat.le_refl _) rfl (by simp; omega) (by
      intro j y' hj
      have htk : (cs.toList.take ((ι id).off + off)).length = (ι id).off + off := by simp; omega
      have htc : (c.take off).length = off := by simp; omega
      rw [List.getElem?_toArray]
      rw [List.append_assoc, List.getElem?_append] at hj
      rw [List.append_assoc, List.getElem?_append]
      split at hj
      ·rename_i hlt
       rw [if_pos (by omega)]
       rw [List.getElem?_take] at hj ⊢
       split at hj
       ·rw [if_pos (by omega)]
        obtain ⟨v, hv1, hv2, hv3⟩ := hrepc j y' hj
        rw [cell?_eq, hcell] at hv1
        exact ⟨v, by simpa using hv1, hv2, hv3⟩
       ·cases hj
      ·rename_i hge
       rw [htc] at hj hge
       rw [if_neg (by omega), htk, show (ι id).off + j - ((ι id).off + off) = j - off from by omega]
       rw [List.getElem?_append] at hj ⊢
       split at hj
       ·rename_i hlt
        simp only [List.length_map] at hlt
        rw [if_pos (by rw [List.length_map]; exact hlt), List.getElem?_map]
        rw [List.getElem?_map] at hj
        cases hy : (g l)[j - off]? with
        | none => rw [hy] at hj; cases hj
        | some y =>
         rw [hy] at hj; cases hj
         exact ⟨.int .i64 y, rfl, rfl, by simp only [RepP]⟩
       ·rename_i hge2
        simp only [List.length_map] at hge2 hj
        rw [if_neg (by rw [List.length_map]; exact hge2), List.length_map, List.getElem?_drop]
        rw [List.getElem?_drop] at hj
        obtain ⟨v, hv1, hv2, hv3⟩ := hrepc _ y' hj
        rw [cell?_eq, hcell] at hv1
        refine ⟨v, ?_, hv2, hv3⟩
        rw [hgl, hll, show (ι id).off + off + len + (j - off - len) = (ι id).off + (off + len + (j - off - len)) from by omega]
        rw [hgl, hll] at hv1
        simpa using hv1)
     obtain ⟨ok, hh, st⟩ := W
     have eι : updL ι id ⟨(ι id).B, (ι id).off, (ι id).cap, (ι id).n, (ι id).inn⟩ = ι := updL_self
     have eh : updH (updH S.h id .dead) id (.live m (c.take off ++ (g l).map (PV.int .i64) ++ c.drop (off + len))) = hwsH S.h [(id, .live m (c.take off ++ (g l).map (PV.int .i64) ++ c.drop (off + len)))] := by
      rw [hwsH_one]
      funext j
      simp only [updH]
      split <;> rfl
     rw [eι, eh] at ok st
     have h2 := h.stepK (A' := plus A k) (fun i hi => .inl hi) (hwr.keep hBk h.keep) ok st (fun i hi => LocEq.refl _) (fun i hi => by
      have hne2 : i ≠ id := fun e => hi (.inl (e ▸ hid))
      rw [hwsH_one]
      simp only [updH, hne2, if_false]
      exact h.alloc i fun hA => hi (.inl hA))
     exact (h2.drawn d (by rw [hwr.drawn]; exact hdr)).put o.dst hd (v := .p .any) (by simp only [RepA, RepP]) (by simp [AV.has])
  ·exact hK.elim
 ·rename_i id len g
  split at hK
  ·rename_i m cs0 rs0 hblk
   obtain ⟨L, h0, hL1, hL2, rfl, rfl, rfl, srt, ⟨⟨fn, hf1, hf2, hf3⟩, hS⟩, hk⟩ := hK
   exact does_srt h hd (hrun fn hf1 hf2 hf3) hvs (hnamed id (by simp [AV.hasL, AV.has])) hblk h0 hL1 hL2 hS hk
  ·exact hK.elim
 ·exact hK.elim
theorem does_callw {A : Nat → Prop} {o : Oper} {k : Nat} {K : R → Prop} (h : Rel w0 nA nt M G ι0 A w S ι a) (hd : ∀ d, o.dst = some d → d < nt) (hA : ∀ x, x < 256 → ¬ A (k + x)) {f : FuncId} {vs : List AV} {vals : List Value}
  (hrun : ∀ fn, P.funcs[f]? = some fn → fn.body.isSome = true → (fn.name == "runtime.NumGoroutine") = false → (execOp a.eval o).run P w = .ok (.enter f ⟨vals⟩) w)
  (hvs : RepAL w (Held S.h ι) G ι vs vals) (hnamed : ∀ i, AV.hasL vs i = true → A i) (hK : callW P sg S.h k f vs K) : Does P w0 nA nt M G ι0 A k o w S a K := by
 unfold callW at hK
 split at hK
 ·exact does_callf h hd hA hrun hvs hnamed hK
 ·exact does_inpl h hd hrun hvs hnamed hK
end
end Go.Gl
namespace Go.Gl
open Go
variable [Amb]
section
variable {P : Program} {sg : FuncId → List Bool} {w0 : World} {nA nt : Nat} {M G : Nat → Prop} {ι0 : Nat → Loc} {A : Nat → Prop} {w : World} {S : St} {ι : Nat → Loc} {a : Act}
variable [AmbOk w0 M]
theorem exec_call {o : Oper} {f : Operand} {args : List Operand} {ts : Array TypeId} (ho : o.op = .call { callee := .value f, args := ⟨args⟩, argTypes := ts }) {g : FuncId} {first caps : List Value} (hf : a.eval f = .func (.func g) ⟨first⟩ ⟨caps⟩) :
  ∀ fn, P.funcs[g]? = some fn → fn.body.isSome = true → (fn.name == "runtime.NumGoroutine") = false → (execOp a.eval o).run P w = .ok (.enter g ⟨first ++ args.map a.eval ++ caps⟩) w := by
 intro fn h1 h2 h3
 have h3' : ¬ fn.name = "runtime.NumGoroutine" := by simpa using h3
 have h4 : ¬ fn.body = none := by intro e; simp [e] at h2
 simp [execOp, ho, resolve, hf, Deferred.ofValue, invoke, callFunc, h1, h3', h4]
theorem opB_does {o : Oper} {k : Nat} {K : R → Prop} (h : Rel w0 nA nt M G ι0 A w S ι a) (hd : ∀ d, o.dst = some d → d < nt) (hA : ∀ x, x < 256 → ¬ A (k + x))
  (hK : opB P sg (Gl.opd S) S.h k o.op K) : Does P w0 nA nt M G ι0 A k o w S a K := by
 unfold opB at hK
 split at hK
 ·rename_i ho; exact does_move h hd hA (.inl ho) hK
 ·rename_i ho; exact does_move h hd hA (.inr ho) hK
 ·rename_i ho; exact does_pick h hd hA ho hK
 ·rename_i ho; exact does_bin h hd ho hK
 ·rename_i ho; exact does_un h hd ho hK
 ·rename_i ho; exact does_convert h hd hA ho hK
 ·rename_i ho; exact does_makeSlice h hd hA ho hK
 ·rename_i ho; exact does_buildSlice h hd hA ho hK
 ·rename_i ho; exact does_slice h hd hA ho hK
 ·rename_i ho; exact does_indexAddr h hd ho hK
 ·rename_i ho; exact does_index h hd ho hK
 ·rename_i ho; exact does_load h hd ho hK
 ·rename_i ho; exact does_store h hd ho hK
 ·rename_i ho; exact does_alloc h hd hA ho hK
 ·rename_i ho; exact does_box h hd hA ho hK
 ·rename_i ho; exact does_build h hd ho hK
 ·rename_i ho; exact does_field h hd hA ho hK
 ·rename_i ho; exact does_fieldAddr h hd ho hK
 ·rename_i ho; exact does_extract h hd hA ho hK
 ·rename_i ho; exact does_nilCheck h hd ho hK
 ·rename_i ho; exact does_makeMap h hd hA ho hK
 ·rename_i ho; exact does_lookup h hd ho hK
 ·rename_i ho; exact does_update h hd (.inl ho) hK
 ·rename_i ho; exact does_update h hd (.inr ho) hK
 ·rename_i ho; exact does_makeFunc h hd ho hK
 ·rename_i ho; exact does_len h hd ho hK
 ·rename_i ho; exact does_append h hd hA ho hK
 ·rename_i ho; exact does_mm (b := true) h hd ho hK
 ·rename_i ho; exact does_mm (b := false) h hd ho hK
 ·rename_i ho; exact does_cap h hd ho hK
 ·rename_i ho; exact does_clear h hd ho hK
 ·rename_i f args ts ho
  have hf := h.opd f
  have nf := h.opd_named f
  split at hK
  ·rename_i g first caps e
   rw [e] at hf
   simp only [RepA, RepP] at hf
   obtain ⟨b, c, hv, h1, h2⟩ := hf
   refine does_callw h hd hA (exec_call ho hv) ?_ ?_ hK
   ·exact RepAL_append (RepAL_append (RepAL_p.2 h1) (h.opds args)) (RepAL_p.2 h2)
   ·intro i hi
    rw [hasL_append, hasL_append] at hi
    simp only [Bool.or_eq_true] at hi
    rcases hi with (hi | hi) | hi
    ·simp [hasL_p] at hi
    ·exact h.opds_named args i hi
    ·simp [hasL_p] at hi
  ·rename_i g first caps e
   rw [e] at hf nf
   simp only [RepA] at hf
   obtain ⟨b, c, hv, h1, h2⟩ := hf
   refine does_callw h hd hA (exec_call ho hv) ?_ ?_ hK
   ·exact RepAL_append (RepAL_append h1 (h.opds args)) h2
   ·intro i hi
    rw [hasL_append, hasL_append] at hi
    simp only [Bool.or_eq_true] at hi
    rcases hi with (hi | hi) | hi
    ·exact nf i (by simp [AV.has, hi])
    ·exact h.opds_named args i hi
    ·exact nf i (by simp [AV.has, hi])
  ·exact hK.elim
 ·exact hK.elim
 where
 hasL_append : ∀ {xs ys : List AV} {i : Nat}, AV.hasL (xs ++ ys) i = (AV.hasL xs i || AV.hasL ys i)
  | [], _, _ => by simp [AV.hasL]
  | x :: xs, ys, i => by simp [AV.hasL, hasL_append (xs := xs), Bool.or_assoc]
 hasL_p : ∀ {xs : List PV} {i : Nat}, AV.hasL (xs.map .p) i = false
  | [], _ => by simp [AV.hasL]
  | x :: xs, i => by simp [AV.hasL, AV.has, hasL_p (xs := xs)]
theorem opW_does {o : Oper} {k : Nat} {K : R → Prop} (h : Rel w0 nA nt M G ι0 A w S ι a) (hd : ∀ d, o.dst = some d → d < nt) (hA : ∀ x, x < 256 → ¬ A (k + x))
  (hK : opW P sg (Gl.opd S) S.h k o.op K) : Does P w0 nA nt M G ι0 A k o w S a K := by
 unfold opW at hK
 split at hK
 ·unfold opE at hK
  split at hK
  ·rename_i ho; exact does_binX h hd ho hK
  ·rename_i ho; exact does_sliceX h hd ho hK
  ·rename_i ho; exact does_clear h hd ho hK
  ·rename_i ho; exact does_nl h hd (.inl ho) hK
  ·rename_i ho; exact does_nl h hd (.inr ho) hK
  ·exact hK.elim
 ·split at hK
  ·exact opN_does h hd hA hK
  ·exact opB_does h hd hA hK
theorem guard_spec {ops : Array Oper} {o : Oper} {yes no : Prop} (h : Rel w0 nA nt M G ι0 A w S ι a) (hg : guardW ops S o yes no) :
  (Region.wanted o (yielded ops a.tmps) = true ∧ yes) ∨ (Region.wanted o (yielded ops a.tmps) = false ∧ no) := by
 unfold guardW at hg
 unfold Region.wanted
 split at hg
 ·rename_i e; rw [e]; exact .inl ⟨rfl, hg⟩
 ·rename_i j want e
  rw [e]
  split at hg
  ·rename_i d hd
   unfold gdW at hg
   split at hg
   ·rename_i b hb
    have hs := h.slots d
    rw [hb] at hs
    have hs := rep_bool hs
    have ht : a.tmps[d]? = some (.bool b) := by
     rw [Array.getD_eq_getD_getElem?] at hs
     cases hq : a.tmps[d]? with
     | none => rw [hq] at hs; simp [undef] at hs
     | some v => rw [hq] at hs; simp at hs; rw [hs]
    have hy : yielded ops a.tmps j = some b := by
     unfold yielded
     rw [hd]
     simp [ht]
    by_cases hw : b = want
    ·exact .inl ⟨by simp [hy, hw], hg.1 hw⟩
    ·exact .inr ⟨by simp [hy, hw], hg.2 hw⟩
   ·rename_i hb
    have hs := h.slots d
    rw [hb] at hs
    simp only [RepA, RepAL] at hs
    obtain ⟨cs, hs, rfl⟩ := hs
    have hy : yielded ops a.tmps j = none := by
     unfold yielded
     rw [hd]
     rw [Array.getD_eq_getD_getElem?] at hs
     cases hq : a.tmps[d]? with
     | none => simp [hq]
     | some v => rw [hq] at hs; simp at hs; simp [hq, hs]
    exact .inr ⟨by simp [hy], hg⟩
   ·exact hg.elim
  ·exact hg.elim
/-- The numbers given when the first i operations of a region are done. -/
def given (n0 i : Nat) : Nat → Prop := fun id => id < num n0 i
theorem regOk_spec {ops : Array Oper} (h : regOk nt ops = true) {i : Nat} {o : Oper} (ho : ops[i]? = some o) : (∀ d, o.dst = some d → d < nt) ∧ ∀ e ∈ o.after, Region.binds .any e = true → e.on < i := by
 unfold regOk at h
 have hm : (o, i) ∈ ops.toList.zipIdx := by
  rw [List.mem_iff_getElem?]
  exact ⟨i, by simp [List.getElem?_zipIdx, ho]⟩
 have := List.all_eq_true.1 h _ hm
 simp only [Bool.and_eq_true] at this
 refine ⟨fun d hd => ?_, fun e he hb => ?_⟩
 ·have h1 := this.1; rw [hd] at h1; simpa using h1
 ·have h2 := this.2
  rw [Array.all_eq_true'] at h2
  have := h2 e he
  simpa [hb] using this
theorem Rel.nx (h : Rel w0 nA nt M G ι0 A w S ι a) (k : Nat) : Rel w0 nA nt M G ι0 A w (S.nx k) ι a := ⟨h.keep, h.heap, h.slots, h.alloc, h.named, h.loc, h.args, h.new, h.size, h.defers⟩
theorem Rel.skip (h : Rel w0 nA nt M G ι0 A w S ι a) (d : Option Nat) (hd : ∀ x, d = some x → x < nt) : Rel w0 nA nt M G ι0 A w (S.puto d (.tup [])) ι (a.put d undef) :=
 h.put d hd (by simp only [RepA, RepAL]; exact ⟨[], rfl, rfl⟩) (by simp [AV.has, AV.hasL])
theorem opsW_sound {ops : Array Oper} (hreg : regOk nt ops = true) (n0 : Nat) {Q : Exit → Act → World → Prop} {K : St → Prop} : ∀ (os : List Oper) (i : Nat) (S : St) (a : Act) (w : World) (ι : Nat → Loc), ops.toList.drop i = os → i ≤ ops.size →
  Rel w0 nA nt M G ι0 (given n0 i) w S ι a → opsW P sg ops n0 os i S K → (∀ S' a' w' ι', K S' → Rel w0 nA nt M G ι0 (given n0 ops.size) w' S' ι' a' → Q .normal a' w') →
  wpOps P ops Q (List.range' i os.length) a w := by
 intro os
 induction os with
 | nil =>
  intro i S a w ι hd hle h hK hQ
  have hi : ops.size ≤ i := by simpa using hd
  simp only [List.length_nil, List.range'_zero, wpOps]
  obtain rfl : i = ops.size := by omega
  exact hQ S a w ι hK h
 | cons o os ih =>
  intro i S a w ι hd hle h hK hQ
  have ho : ops[i]? = some o := by
   have := congrArg (·[0]?) hd
   simp only [List.getElem?_drop, List.getElem?_cons_zero, Nat.add_zero] at this
   simpa using this
  have hd' : ops.toList.drop (i + 1) = os := by
   have := congrArg (List.drop 1) hd
   simpa [List.drop_drop, Nat.add_comm] using this
  obtain ⟨hdst, _⟩ := regOk_spec hreg ho
  have hle' : i + 1 ≤ ops.size := (Array.getElem?_eq_some_iff.1 ho).1
  have hgi : ∀ id, given n0 i id → given n0 (i + 1) id := fun id hid => by simp only [given, num] at hid ⊢; omega
  have hA : ∀ x, x < 256 → ¬ given n0 i (num n0 i + x) := fun x _ => by simp only [given, num]; omega
  have hpl : ∀ id, plus (given n0 i) (num n0 i) id → given n0 (i + 1) id := fun id hid => by
   simp only [plus, given, num] at hid ⊢; omega
  simp only [List.length_cons, List.range'_succ, wpOps, ho]
  rcases guard_spec h hK with ⟨hw, hK⟩ | ⟨hw, hK⟩
  ·rw [hw]
   simp only [if_true]
   refine .inl (opW_does h hdst hA hK _ _ fun r val w' ι' hk hrel => ?_)
   exact ih (i + 1) _ _ _ ι' hd' hle' (hrel.mono hpl) hk hQ
  ·rw [hw]
   simp only [Bool.false_eq_true, if_false]
   exact ih (i + 1) _ _ _ ι hd' hle' ((h.skip o.dst hdst).mono hgi) hK hQ
end
end Go.Gl
namespace Go.Gl
open Go
variable [Amb]
/-- One result; the same wherever the blocks looked at are the same. -/
def Fixes (C : (Nat → Blk) → (R → Prop) → Prop) (h : Nat → Blk) : Prop :=
 ∀ K, C h K → ∃ r, K r ∧ ∀ h', (∀ id ∈ r.rd, h' id = h id) → ∀ K' : R → Prop, K' r → C h' K'
theorem fix_arr {k : Nat} {v : AV} {h : Nat → Blk} : Fixes (fun _ K => arr k v K) h := by
 intro K hK
 unfold arr at hK
 split at hK
 ·exact ⟨_, hK, fun h' _ K' hk => hk⟩
 ·rename_i hv
  refine ⟨_, hK, fun h' _ K' hk => ?_⟩
  unfold arr
  split
  ·exact absurd rfl (hv _)
  ·exact hk
theorem fix_pick {k : Nat} {c a b : AV} {h : Nat → Blk} : Fixes (fun _ K => pickW c a b fun v => arr k v K) h := by
 intro K hK
 unfold pickW at hK
 split at hK
 ·rename_i t
  split at hK
  ·obtain ⟨r, hr, hf⟩ := fix_arr (h := h) K hK
   exact ⟨r, hr, fun h' hh K' hk => by unfold pickW; exact hf h' hh K' hk⟩
  ·rename_i hv
   obtain ⟨r, hr, hf⟩ := fix_arr (h := h) K hK
   refine ⟨r, hr, fun h' hh K' hk => ?_⟩
   unfold pickW
   simp only
   first
    | exact hf h' hh K' hk
    | (split <;> first | exact absurd rfl (hv _ _ rfl) | exact hf h' hh K' hk)
 ·exact hK.elim
theorem fix_nilW {x : AV} {K : Bool → Prop} (hK : nilW x K) : ∃ b, K b ∧ ∀ K' : Bool → Prop, K' b → nilW x K' := by
 cases x with
 | p v =>
  cases v with
  | nl => exact ⟨_, hK, fun K' hk => hk⟩
  | sl o xs =>
   cases o with
   | own => exact ⟨_, hK, fun K' hk => hk⟩
   | ro => exact ⟨_, hK.2, fun K' hk => ⟨hK.1, hk⟩⟩
   | fr => exact ⟨_, hK.2, fun K' hk => ⟨hK.1, hk⟩⟩
  | _ => exact hK.elim
 | ref _ _ _ => exact ⟨_, hK.2, fun K' hk => ⟨hK.1, hk⟩⟩
 | inn _ _ _ _ => exact ⟨_, hK.2, fun K' hk => ⟨hK.1, hk⟩⟩
 | _ => exact hK.elim
theorem bin_nile {P : Program} {t : TypeId} {x : AV} {ys : List PV} {K : PV → Prop} (h : slcT P t ∧ nilW x fun b => K (.bool b)) : binW P .eql t x (.p (.sl .own ys)) K := by
 cases x with
 | p v => cases v <;> exact h
 | _ => exact h
theorem bin_niln {P : Program} {t : TypeId} {x : AV} {ys : List PV} {K : PV → Prop} (h : slcT P t ∧ nilW x fun b => K (.bool (!b))) : binW P .neq t x (.p (.sl .own ys)) K := by
 cases x with
 | p v => cases v <;> exact h
 | _ => exact h
theorem fix_bin {P : Program} {op : BinOp} {t : TypeId} {x y : AV} {h : Nat → Blk} : Fixes (fun _ K => binW P op t x y fun v => K ⟨.p v, [], []⟩) h := by
 intro K hK
 unfold binW at hK
 split at hK
 ·split at hK
  all_goals first
   | exact hK.elim
   | exact ⟨_, hK.2.2, fun h' _ K' hk => ⟨hK.1, hK.2.1, hk⟩⟩
   | exact ⟨_, hK.2.2.2, fun h' _ K' hk => ⟨hK.1, hK.2.1, hK.2.2.1, hk⟩⟩
   | exact ⟨_, hK.2, fun h' _ K' hk => ⟨hK.1, hk⟩⟩
   | exact ⟨_, hK.2.2.2.2.2, fun h' _ K' hk => ⟨hK.1, hK.2.1, hK.2.2.1, hK.2.2.2.1, hK.2.2.2.2.1, hk⟩⟩
 ·split at hK
  all_goals first
   | exact hK.elim
   | exact ⟨_, hK.2, fun h' _ K' hk => ⟨hK.1, hk⟩⟩
   | exact ⟨_, hK, fun h' _ K' hk => hk⟩
 ·split at hK
  all_goals first
   | exact hK.elim
   | exact ⟨_, hK.2, fun h' _ K' hk => ⟨hK.1, hk⟩⟩
 ·split at hK
  ·obtain ⟨b, hb, f⟩ := fix_nilW hK.2
   exact ⟨_, hb, fun h' _ K' hk => bin_nile ⟨hK.1, f _ hk⟩⟩
  ·obtain ⟨b, hb, f⟩ := fix_nilW hK.2
   exact ⟨_, hb, fun h' _ K' hk => bin_niln ⟨hK.1, f _ hk⟩⟩
  ·exact hK.elim
 ·exact hK.elim
theorem fix_un {op : UnOp} {x : AV} {h : Nat → Blk} : Fixes (fun _ K => unW op x fun v => K ⟨.p v, [], []⟩) h := by
 intro K hK
 unfold unW at hK
 split at hK
 ·exact ⟨_, hK, fun h' _ K' hk => hk⟩
 ·exact ⟨_, hK.2, fun h' _ K' hk => ⟨hK.1, hk⟩⟩
 ·exact hK.elim
/-- The like for a list of plain values. -/
theorem fix_cont {h : Nat → Blk} {v : AV} {K : List PV → List Nat → Prop} (hK : cont h v K) : ∃ xs rd, K xs rd ∧ (∀ j off len, v = .ref j off len → j ∈ rd) ∧ ∀ h', (∀ id ∈ rd, h' id = h id) → ∀ K' : List PV → List Nat → Prop, K' xs rd → cont h' v K' := by
 unfold cont at hK
 split at hK
 ·exact ⟨_, _, hK, (fun _ _ _ e => by cases e), fun h' _ K' hk => hk⟩
 ·exact ⟨_, _, hK, (fun _ _ _ e => by cases e), fun h' _ K' hk => hk⟩
 ·split at hK
  ·rename_i e; exact ⟨_, _, hK.2, (fun _ _ _ e => by cases e; simp), fun h' hh K' hk => by unfold cont; simp only [hh _ (List.mem_singleton.2 rfl), e]; exact ⟨hK.1, hk⟩⟩
  ·rename_i e; exact ⟨_, _, hK.2, (fun _ _ _ e => by cases e; simp), fun h' hh K' hk => by unfold cont; simp only [hh _ (List.mem_singleton.2 rfl), e]; exact ⟨hK.1, hk⟩⟩
  ·exact hK.elim
 ·split at hK
  ·rename_i e
   split at hK
   ·rename_i er
    exact ⟨_, _, hK.2, (fun _ _ _ e => by cases e), fun h' hh K' hk => by unfold cont; simp only [hh _ (List.mem_singleton.2 rfl), e, er]; exact ⟨hK.1, hk⟩⟩
   ·exact hK.elim
  ·exact hK.elim
 ·exact hK.elim
theorem fix_pub {h : Nat → Blk} {v : AV} {K : PV → List (Nat × Blk) → List Nat → Prop} (hK : pub h v K) : ∃ x ws rd, K x ws rd ∧ ∀ h', (∀ id ∈ rd, h' id = h id) → ∀ K' : PV → List (Nat × Blk) → List Nat → Prop, K' x ws rd → pub h' v K' := by
 unfold pub at hK
 split at hK
 ·exact ⟨_, _, _, hK.2, fun h' _ K' hk => ⟨hK.1, hk⟩⟩
 ·split at hK
  ·rename_i e; exact ⟨_, _, _, hK.2, fun h' hh K' hk => by unfold pub; simp only [hh _ (List.mem_singleton.2 rfl), e]; exact ⟨hK.1, hk⟩⟩
  ·rename_i e; exact ⟨_, _, _, hK.2, fun h' hh K' hk => by unfold pub; simp only [hh _ (List.mem_singleton.2 rfl), e]; exact ⟨hK.1, hk⟩⟩
  ·exact hK.elim
 ·exact hK.elim
theorem fix_pubs {h : Nat → Blk} : ∀ {vs : List AV} {K : List PV → List (Nat × Blk) → List Nat → Prop}, pubs h vs K → ∃ xs ws rd, K xs ws rd ∧ ∀ h', (∀ id ∈ rd, h' id = h id) → ∀ K' : List PV → List (Nat × Blk) → List Nat → Prop, K' xs ws rd → pubs h' vs K'
 | [], K, hK => ⟨_, _, _, hK, fun h' _ K' hk => hk⟩
 | v :: vs, K, hK => by
  simp only [pubs] at hK
  obtain ⟨x, ws, rd, hK, f1⟩ := fix_pub hK
  obtain ⟨xs, ws', rd', hK, f2⟩ := fix_pubs hK
  refine ⟨_, _, _, hK, fun h' hh K' hk => ?_⟩
  simp only [pubs]
  exact f1 h' (fun id hid => hh id (by simp [hid])) _ (f2 h' (fun id hid => hh id (by simp [hid])) _ hk)
theorem fix_pur1 {h : Nat → Blk} {v : AV} {K : PV → List Nat → Prop} (hK : pur1 h v K) : ∃ x rd, K x rd ∧ ∀ h', (∀ id ∈ rd, h' id = h id) → ∀ K' : PV → List Nat → Prop, K' x rd → pur1 h' v K' := by
 unfold pur1 at hK
 split at hK
 ·exact ⟨_, _, hK, fun h' _ K' hk => hk⟩
 ·split at hK
  ·rename_i e; exact ⟨_, _, hK.2, fun h' hh K' hk => by unfold pur1; simp only [hh _ (List.mem_singleton.2 rfl), e]; exact ⟨hK.1, hk⟩⟩
  ·rename_i e; exact ⟨_, _, hK.2, fun h' hh K' hk => by unfold pur1; simp only [hh _ (List.mem_singleton.2 rfl), e]; exact ⟨hK.1, hk⟩⟩
  ·rename_i e; exact ⟨_, _, hK.2, fun h' hh K' hk => by unfold pur1; simp only [hh _ (List.mem_singleton.2 rfl), e]; exact ⟨hK.1, hk⟩⟩
  ·exact hK.elim
 ·split at hK
  ·rename_i e; exact ⟨_, _, hK, fun h' hh K' hk => by unfold pur1; simp only [hh _ (List.mem_singleton.2 rfl), e]; exact hk⟩
  ·rename_i e; exact ⟨_, _, hK, fun h' hh K' hk => by unfold pur1; simp only [hh _ (List.mem_singleton.2 rfl), e]; exact hk⟩
  ·rename_i e; exact ⟨_, _, hK, fun h' hh K' hk => by unfold pur1; simp only [hh _ (List.mem_singleton.2 rfl), e]; exact hk⟩
  ·exact hK.elim
 ·split at hK
  ·rename_i e
   split at hK
   ·rename_i er
    exact ⟨_, _, hK.2, fun h' hh K' hk => by unfold pur1; simp only [hh _ (List.mem_singleton.2 rfl), e, er]; exact ⟨hK.1, hk⟩⟩
   ·exact hK.elim
  ·exact hK.elim
 ·exact hK.elim
theorem fix_purs1 {h : Nat → Blk} : ∀ {vs : List AV} {K : List PV → List Nat → Prop}, purs1 h vs K → ∃ xs rd, K xs rd ∧ ∀ h', (∀ id ∈ rd, h' id = h id) → ∀ K' : List PV → List Nat → Prop, K' xs rd → purs1 h' vs K'
 | [], K, hK => ⟨_, _, hK, fun h' _ K' hk => hk⟩
 | v :: vs, K, hK => by
  simp only [purs1] at hK
  obtain ⟨x, rd, hK, f1⟩ := fix_pur1 hK
  obtain ⟨xs, rd', hK, f2⟩ := fix_purs1 hK
  refine ⟨_, _, hK, fun h' hh K' hk => ?_⟩
  simp only [purs1]
  exact f1 h' (fun id hid => hh id (by simp [hid])) _ (f2 h' (fun id hid => hh id (by simp [hid])) _ hk)
theorem fix_pur {h : Nat → Blk} {v : AV} {K : PV → List Nat → Prop} (hK : pur h v K) : ∃ x rd, K x rd ∧ ∀ h', (∀ id ∈ rd, h' id = h id) → ∀ K' : PV → List Nat → Prop, K' x rd → pur h' v K' := by
 unfold pur at hK
 split at hK
 ·obtain ⟨xs, rd, hK, f⟩ := fix_purs1 hK
  exact ⟨_, _, hK, fun h' hh K' hk => by unfold pur; exact f h' hh _ hk⟩
 ·obtain ⟨xs, rd, hK, f⟩ := fix_purs1 hK
  obtain ⟨ys, rd', hK, f'⟩ := fix_purs1 hK
  exact ⟨_, _, hK, fun h' hh K' hk => by unfold pur; exact f h' (fun id hid => hh id (by simp [hid])) _ (f' h' (fun id hid => hh id (by simp [hid])) _ hk)⟩
 ·rename_i h1 h2
  obtain ⟨x, rd, hK, f⟩ := fix_pur1 hK
  refine ⟨_, _, hK, fun h' hh K' hk => ?_⟩
  unfold pur
  split
  ·exact absurd rfl (h1 _)
  ·exact absurd rfl (h2 _ _ _)
  ·exact f h' hh _ hk
theorem fix_pass {h : Nat → Blk} : ∀ {vs : List AV} {sg : List Bool} {K : List Arg → List Nat → List (Option (Nat × Option Nat)) → Prop}, pass h sg vs K →
  ∃ as rd ms, K as rd ms ∧ ∀ h', (∀ i ∈ lids ms ++ rd, h' i = h i) → ∀ K' : List Arg → List Nat → List (Option (Nat × Option Nat)) → Prop, K' as rd ms → pass h' sg vs K' := by
 intro vs
 induction vs with
 | nil =>
  intro sg K hK
  have e : ∀ (h : Nat → Blk) (K : List Arg → List Nat → List (Option (Nat × Option Nat)) → Prop), pass h sg [] K = K [] [] [] := by
   intro h K; cases sg with
   | nil => rfl
   | cons b sg => cases b <;> rfl
  rw [e] at hK
  exact ⟨_, _, _, hK, fun h' _ K' hk => by rw [e]; exact hk⟩
 | cons v vs ih =>
  intro sg K hK
  have plain : ∀ (sg' : List Bool), (∀ (h : Nat → Blk) (K : List Arg → List Nat → List (Option (Nat × Option Nat)) → Prop), pass h sg (v :: vs) K = pur h v fun x rd => pass h sg' vs fun as rd' ms => K (.pv x :: as) (rd ++ rd') (none :: ms)) →
    ∃ as rd ms, K as rd ms ∧ ∀ h', (∀ i ∈ lids ms ++ rd, h' i = h i) → ∀ K' : List Arg → List Nat → List (Option (Nat × Option Nat)) → Prop, K' as rd ms → pass h' sg (v :: vs) K' := by
   intro sg' e
   rw [e] at hK
   obtain ⟨x, rd, hK, f1⟩ := fix_pur hK
   obtain ⟨as, rd', ms, hK, f2⟩ := ih hK
   refine ⟨_, _, _, hK, fun h' hh K' hk => ?_⟩
   rw [e]
   refine f1 h' (fun id hid => hh id (by simp [hid])) _ (f2 h' (fun id hid => hh id ?_) _ hk)
   rcases List.mem_append.1 hid with hid | hid
   ·exact List.mem_append.2 (.inl (by rw [lids_none]; exact hid))
   ·exact List.mem_append.2 (.inr (List.mem_append.2 (.inr hid)))
  cases sg with
  | nil => exact plain [] fun _ _ => rfl
  | cons b sg =>
   cases b with
   | false => exact plain sg fun _ _ => rfl
   | true =>
    simp only [pass] at hK
    have tail : ∀ {as : List Arg} {rd : List Nat} {ms : List (Option (Nat × Option Nat))} {p : Nat × Option Nat} {h' : Nat → Blk}, (∀ i ∈ lids (some p :: ms) ++ rd, h' i = h i) → ∀ i ∈ lids ms ++ rd, h' i = h i := by
     intro as rd ms p h' hh i hi
     refine hh i ?_
     rcases List.mem_append.1 hi with hi | hi
     ·exact List.mem_append.2 (.inl (by rw [lids_some]; exact List.mem_cons_of_mem _ hi))
     ·exact List.mem_append.2 (.inr hi)
    have head : ∀ {rd : List Nat} {ms : List (Option (Nat × Option Nat))} {p : Nat × Option Nat} {h' : Nat → Blk}, (∀ i ∈ lids (some p :: ms) ++ rd, h' i = h i) → h' p.1 = h p.1 := by
     intro rd ms p h' hh
     exact hh p.1 (List.mem_append.2 (.inl (by rw [lids_some]; exact List.mem_cons_self ..)))
    split at hK
    ·rename_i id len
     split at hK
     ·rename_i e
      obtain ⟨hl, hK⟩ := hK
      obtain ⟨as, rd, ms, hK, f⟩ := ih hK
      refine ⟨_, _, _, hK, fun h' hh K' hk => ?_⟩
      have e' := head hh
      simp only at e'
      simp only [pass, e', e]
      exact ⟨hl, f h' (tail (as := as) hh) _ hk⟩
     ·rename_i e
      rcases hK with ⟨rows, e1, e2, hl, hK⟩ | ⟨rows, h0, e1, e2, hl, hK⟩
      ·obtain ⟨as, rd, ms, hK, f⟩ := ih hK
       refine ⟨_, _, _, hK, fun h' hh K' hk => ?_⟩
       have e' := head hh
       simp only at e'
       simp only [pass, e', e]
       exact .inl ⟨rows, e1, e2, hl, f h' (tail (as := as) hh) _ hk⟩
      ·obtain ⟨as, rd, ms, hK, f⟩ := ih hK
       refine ⟨_, _, _, hK, fun h' hh K' hk => ?_⟩
       have e' := head hh
       simp only at e'
       simp only [pass, e', e]
       exact .inr ⟨rows, h0, e1, e2, hl, f h' (tail (as := as) hh) _ hk⟩
     ·exact hK.elim
    ·rename_i id
     split at hK
     ·rename_i e
      obtain ⟨as, rd, ms, hK, f⟩ := ih hK
      refine ⟨_, _, _, hK, fun h' hh K' hk => ?_⟩
      have e' := head hh
      simp only at e'
      simp only [pass, e', e]
      exact f h' (tail (as := as) hh) _ hk
     ·exact hK.elim
    ·rename_i id r len
     split at hK
     ·rename_i e
      split at hK
      ·rename_i er
       obtain ⟨hl, hK⟩ := hK
       obtain ⟨as, rd, ms, hK, f⟩ := ih hK
       refine ⟨_, _, _, hK, fun h' hh K' hk => ?_⟩
       have e' := head hh
       simp only at e'
       simp only [pass, e', e, er]
       exact ⟨hl, f h' (tail (as := as) hh) _ hk⟩
      ·exact hK.elim
     ·exact hK.elim
    ·obtain ⟨as, rd, ms, hK, f⟩ := ih hK
     refine ⟨_, _, _, hK, fun h' hh K' hk => ?_⟩
     simp only [pass]
     exact f h' (fun i hi => hh i (by rwa [lids_none])) _ hk
    ·exact hK.elim
theorem fix_conv {P : Program} {src dst : TypeId} {k : Nat} {x : AV} {h : Nat → Blk} : Fixes (fun h K => convW P src dst k h x K) h := by
 intro K hK
 unfold convW at hK
 split at hK
 ·split at hK
  ·rename_i e
   exact ⟨_, hK.2.2, fun h' _ K' hk => by unfold convW; simp only [e]; exact ⟨hK.1, hK.2.1, hk⟩⟩
  ·exact hK.elim
 ·obtain ⟨h1, hK⟩ := hK
  split at hK
  ·rename_i e
   exact ⟨_, hK, fun h' _ K' hk => by unfold convW; simp only [e, if_true]; exact ⟨h1, hk⟩⟩
  ·rename_i e
   exact ⟨_, hK.2.2.2.2, fun h' _ K' hk => by unfold convW; simp only [e]; exact ⟨h1, hK.1, hK.2.1, hK.2.2.1, hK.2.2.2.1, hk⟩⟩
 ·rename_i e1 e2
  obtain ⟨h1, h2, h3, hK⟩ := hK
  obtain ⟨xs, rd, ⟨s, hs, hK⟩, _, f⟩ := fix_cont hK
  refine ⟨_, hK, fun h' hh K' hk => ?_⟩
  unfold convW
  split
  ·exact absurd rfl (e1 _ _)
  ·exact absurd rfl (e2 _)
  ·exact ⟨h1, h2, h3, f h' hh _ ⟨s, hs, hk⟩⟩
theorem fix_make {P : Program} {t : TypeId} {k : Nat} {l c : AV} {h : Nat → Blk} : Fixes (fun _ K => makeW P t k l c K) h := by
 intro K hK
 unfold makeW at hK
 split at hK
 ·obtain ⟨h1, h2, h3, hK⟩ := hK
  split at hK
  ·rename_i e
   exact ⟨_, hK.2, fun h' _ K' hk => by unfold makeW; simp only [e]; exact ⟨h1, h2, h3, hK.1, hk⟩⟩
  ·exact hK.elim
 ·exact hK.elim
theorem fix_prL : ∀ {vs : List AV} {K : List PV → Prop}, prL vs K → ∃ xs, K xs ∧ ∀ K' : List PV → Prop, K' xs → prL vs K'
 | [], K, h => ⟨[], h, fun _ h => h⟩
 | v :: vs, K, h => by
  simp only [prL, prC] at h
  split at h
  ·obtain ⟨h1, h2, h⟩ := h
   obtain ⟨xs, hk, f⟩ := fix_prL h
   exact ⟨_, hk, fun K' h' => by simp only [prL, prC]; exact ⟨h1, h2, f _ h'⟩⟩
  ·exact h.elim
theorem fix_buildSlice {P : Program} {t : TypeId} {n : Nat} {parts : Array (Nat × Operand)} {k : Nat} {ρ : Operand → AV} {h : Nat → Blk} : Fixes (fun h K => buildSliceW P t n parts k ρ h K) h := by
 intro K hK
 unfold buildSliceW at hK
 split at hK
 ·rename_i ht
  obtain ⟨h1, h2, h3, hK⟩ := hK
  obtain ⟨xs, hK, f⟩ := fix_prL hK
  exact ⟨_, hK, fun h' hh K' hk => by show buildSliceW P t n parts k ρ h' K'; unfold buildSliceW; rw [if_pos ht]; exact ⟨h1, h2, h3, f _ hk⟩⟩
 ·rename_i ht
  obtain ⟨h1, h2, h3, hK⟩ := hK
  obtain ⟨xs, ws, rd, hK, f⟩ := fix_pubs hK
  exact ⟨_, hK, fun h' hh K' hk => by show buildSliceW P t n parts k ρ h' K'; unfold buildSliceW; rw [if_neg ht]; exact ⟨h1, h2, h3, f h' hh _ hk⟩⟩
theorem fix_bnd {ρ : Operand → AV} {x : Option Operand} {d : Nat} {K : Int → Prop} (hK : bnd ρ x d K) : ∃ i, K i ∧ ∀ K' : Int → Prop, K' i → bnd ρ x d K' := by
 unfold bnd at hK
 split at hK
 ·exact ⟨_, hK, fun K' hk => hk⟩
 ·split at hK
  ·rename_i e; exact ⟨_, hK, fun K' hk => by unfold bnd; simp only [e]; exact hk⟩
  ·exact hK.elim
theorem fix_slice {P : Program} {t : TypeId} {x : AV} {lo hi mx : Option Operand} {k : Nat} {ρ : Operand → AV} {h : Nat → Blk} : Fixes (fun _ K => sliceW P t x lo hi mx k ρ K) h := by
 intro K hK
 unfold sliceW at hK
 split at hK
 ·obtain ⟨h1, h2, hK⟩ := hK
  obtain ⟨i, hK, f1⟩ := fix_bnd hK
  obtain ⟨j, hK, f2⟩ := fix_bnd hK
  exact ⟨_, hK.2.2.2, fun h' _ K' hk => by unfold sliceW; exact ⟨h1, h2, f1 _ (f2 _ ⟨hK.1, hK.2.1, hK.2.2.1, hk⟩)⟩⟩
 ·obtain ⟨h1, hK⟩ := hK
  split at hK
  ·obtain ⟨i, hK, f1⟩ := fix_bnd hK
   obtain ⟨j, hK, f2⟩ := fix_bnd hK
   exact ⟨_, hK.2.2.2, fun h' _ K' hk => by unfold sliceW; exact ⟨h1, f1 _ (f2 _ ⟨hK.1, hK.2.1, hK.2.2.1, hk⟩)⟩⟩
  ·obtain ⟨h2, hK⟩ := hK
   obtain ⟨i, hK, f1⟩ := fix_bnd hK
   obtain ⟨j, hK, f2⟩ := fix_bnd hK
   obtain ⟨l, hK, f3⟩ := fix_bnd hK
   exact ⟨_, hK.2.2.2, fun h' _ K' hk => by unfold sliceW; exact ⟨h1, h2, f1 _ (f2 _ (f3 _ ⟨hK.1, hK.2.1, hK.2.2.1, hk⟩))⟩⟩
 ·obtain ⟨h1, hK⟩ := hK
  split at hK
  ·obtain ⟨i, hK, f1⟩ := fix_bnd hK
   obtain ⟨j, hK, f2⟩ := fix_bnd hK
   exact ⟨_, hK.2.2.2, fun h' _ K' hk => by unfold sliceW; exact ⟨h1, f1 _ (f2 _ ⟨hK.1, hK.2.1, hK.2.2.1, hk⟩)⟩⟩
  ·obtain ⟨h2, hK⟩ := hK
   obtain ⟨i, hK, f1⟩ := fix_bnd hK
   obtain ⟨j, hK, f2⟩ := fix_bnd hK
   obtain ⟨l, hK, f3⟩ := fix_bnd hK
   exact ⟨_, hK.2.2.2, fun h' _ K' hk => by unfold sliceW; exact ⟨h1, h2, f1 _ (f2 _ (f3 _ ⟨hK.1, hK.2.1, hK.2.2.1, hk⟩))⟩⟩
 ·obtain ⟨h1, hK⟩ := hK
  split at hK
  ·obtain ⟨i, hK, f1⟩ := fix_bnd hK
   obtain ⟨j, hK, f2⟩ := fix_bnd hK
   exact ⟨_, hK.2.2.2, fun h' _ K' hk => by unfold sliceW; exact ⟨h1, f1 _ (f2 _ ⟨hK.1, hK.2.1, hK.2.2.1, hk⟩)⟩⟩
  ·obtain ⟨h2, hK⟩ := hK
   obtain ⟨i, hK, f1⟩ := fix_bnd hK
   obtain ⟨j, hK, f2⟩ := fix_bnd hK
   obtain ⟨l, hK, f3⟩ := fix_bnd hK
   exact ⟨_, hK.2.2.2, fun h' _ K' hk => by unfold sliceW; exact ⟨h1, h2, f1 _ (f2 _ (f3 _ ⟨hK.1, hK.2.1, hK.2.2.1, hk⟩))⟩⟩
 ·exact hK.elim
theorem fix_gt {α : Type} {xs : List α} {i : Int} {K : α → Prop} (hK : gt xs i K) : ∃ x, K x ∧ ∀ K' : α → Prop, K' x → gt xs i K' := by
 obtain ⟨h0, hK⟩ := hK
 split at hK
 ·rename_i x e
  exact ⟨x, hK, fun K' hk => ⟨h0, by simp only [e]; exact hk⟩⟩
 ·exact hK.elim
theorem fix_indexAddr {P : Program} {t : TypeId} {x i : AV} {h : Nat → Blk} : Fixes (fun _ K => indexAddrW P t x i fun v => K ⟨v, [], []⟩) h := by
 intro K hK
 unfold indexAddrW at hK
 split at hK
 ·split at hK
  ·obtain ⟨h1, hK⟩ := hK
   obtain ⟨y, hK, f⟩ := fix_gt hK
   exact ⟨_, hK, fun h' _ K' hk => by unfold indexAddrW; exact ⟨h1, f _ hk⟩⟩
  ·exact ⟨_, hK.2.2.2, fun h' _ K' hk => by unfold indexAddrW; exact ⟨hK.1, hK.2.1, hK.2.2.1, hk⟩⟩
  ·exact ⟨_, hK.2.2.2, fun h' _ K' hk => by unfold indexAddrW; exact ⟨hK.1, hK.2.1, hK.2.2.1, hk⟩⟩
  ·split at hK
   ·rename_i e
    exact ⟨_, hK.2.2, fun h' _ K' hk => by unfold indexAddrW; simp only [e]; exact ⟨hK.1, hK.2.1, hk⟩⟩
   ·exact hK.elim
  ·exact ⟨_, hK.2.2.2, fun h' _ K' hk => by unfold indexAddrW; exact ⟨hK.1, hK.2.1, hK.2.2.1, hk⟩⟩
  ·exact hK.elim
 ·exact hK.elim
theorem fix_index {P : Program} {t : TypeId} {x i : AV} {h : Nat → Blk} : Fixes (fun _ K => indexW P t x i fun v => K ⟨v, [], []⟩) h := by
 intro K hK
 unfold indexW at hK
 split at hK
 ·split at hK
  ·obtain ⟨h1, hK⟩ := hK
   obtain ⟨y, hK, f⟩ := fix_gt hK
   exact ⟨_, hK, fun h' _ K' hk => by unfold indexW; exact ⟨h1, f _ hk⟩⟩
  ·exact hK.elim
 ·exact hK.elim
theorem fix_load {P : Program} {t : TypeId} {a : AV} {h : Nat → Blk} : Fixes (fun h K => loadW P t h a K) h := by
 intro K hK
 unfold loadW at hK
 split at hK
 ·rename_i et
  obtain ⟨h1, hK⟩ := hK
  split at hK
  ·exact ⟨_, hK, fun h' _ K' hk => by unfold loadW; simp only [et]; exact ⟨h1, hk⟩⟩
  ·split at hK
   ·rename_i e
    obtain ⟨y, hK, f⟩ := fix_gt hK
    exact ⟨_, hK, fun h' hh K' hk => by unfold loadW; simp only [et, hh _ (List.mem_singleton.2 rfl), e]; exact ⟨h1, f _ hk⟩⟩
   ·rename_i e
    obtain ⟨y, hK, f⟩ := fix_gt hK
    exact ⟨_, hK, fun h' hh K' hk => by unfold loadW; simp only [et, hh _ (List.mem_singleton.2 rfl), e]; exact ⟨h1, f _ hk⟩⟩
   ·rename_i e
    obtain ⟨y, hK, f⟩ := fix_gt hK
    exact ⟨_, hK, fun h' hh K' hk => by unfold loadW; simp only [et, hh _ (List.mem_singleton.2 rfl), e]; exact ⟨h1, f _ hk⟩⟩
   ·exact hK.elim
  ·split at hK
   ·rename_i e
    split at hK
    ·rename_i er
     obtain ⟨y, hK, f⟩ := fix_gt hK
     exact ⟨_, hK, fun h' hh K' hk => by unfold loadW; simp only [et, hh _ (List.mem_singleton.2 rfl), e, er]; exact ⟨h1, f _ hk⟩⟩
    ·exact hK.elim
   ·exact hK.elim
  ·exact hK.elim
 ·rename_i et
  split at hK
  ·exact ⟨_, hK.2, fun h' _ K' hk => by unfold loadW; simp only [et]; exact ⟨hK.1, hk⟩⟩
  ·split at hK
   ·rename_i e
    exact ⟨_, hK.2, fun h' hh K' hk => by unfold loadW; simp only [et, hh _ (List.mem_singleton.2 rfl), e]; exact ⟨hK.1, hk⟩⟩
   ·rename_i e
    exact ⟨_, hK.2, fun h' hh K' hk => by unfold loadW; simp only [et, hh _ (List.mem_singleton.2 rfl), e]; exact ⟨hK.1, hk⟩⟩
   ·rename_i e
    exact ⟨_, hK.2, fun h' hh K' hk => by unfold loadW; simp only [et, hh _ (List.mem_singleton.2 rfl), e]; exact ⟨hK.1, hk⟩⟩
   ·exact hK.elim
  ·exact hK.elim
 ·exact hK.elim
theorem fix_cells {h : Nat → Blk} {v : AV} {K : List PV → List (Nat × Blk) → List Nat → Prop} (hK : cellsW h v K) : ∃ xs ws rd, K xs ws rd ∧ ∀ h', (∀ id ∈ rd, h' id = h id) → ∀ K' : List PV → List (Nat × Blk) → List Nat → Prop, K' xs ws rd → cellsW h' v K' := by
 unfold cellsW at hK
 split at hK
 ·exact ⟨_, _, _, hK.2, fun h' _ K' hk => ⟨hK.1, hk⟩⟩
 ·obtain ⟨xs, ws, rd, hK, f⟩ := fix_pubs hK
  exact ⟨_, _, _, hK, fun h' hh K' hk => by unfold cellsW; exact f h' hh _ hk⟩
 ·rename_i e1 e2
  obtain ⟨x, ws, rd, hK, f⟩ := fix_pub hK
  refine ⟨_, _, _, hK, fun h' hh K' hk => ?_⟩
  unfold cellsW
  split
  ·exact absurd rfl (e1 _)
  ·exact absurd rfl (e2 _)
  ·exact f h' hh _ hk
theorem fix_store {P : Program} {t : TypeId} {a v : AV} {h : Nat → Blk} : Fixes (fun h K => storeW P t h a v K) h := by
 intro K hK
 unfold storeW at hK
 split at hK
 ·rename_i et
  split at hK
  ·split at hK
   ·rename_i e
    obtain ⟨xs, ws, rd, ⟨h1, h2, h3, hK⟩, f⟩ := fix_cells hK
    refine ⟨_, hK, fun h' hh K' hk => ?_⟩
    unfold storeW
    simp only [et, hh _ (List.mem_cons_self ..), e]
    exact f h' (fun id hid => hh id (List.mem_cons_of_mem _ hid)) _ ⟨h1, h2, h3, hk⟩
   ·rename_i e
    obtain ⟨xs, rs, ws, rd, ⟨h1, h2, hK⟩, _, _, _, f⟩ := fix_mvs hK
    refine ⟨_, hK, fun h' hh K' hk => ?_⟩
    unfold storeW
    simp only [et, hh _ (List.mem_cons_self ..), e]
    exact f h' (fun id hid => hh id (List.mem_cons_of_mem _ hid)) _ ⟨h1, h2, hk⟩
   ·exact hK.elim
  ·obtain ⟨h1, hK⟩ := hK
   unfold rowW at hK
   split at hK
   ·obtain ⟨h2, hK⟩ := hK
    split at hK
    ·rename_i e
     split at hK
     ·rename_i er
      refine ⟨_, hK.2, fun h' hh K' hk => ?_⟩
      unfold storeW
      simp only [et, rowW, hh _ (List.mem_cons_self ..), e, er]
      exact ⟨h1, h2, hK.1, hk⟩
     ·exact hK.elim
    ·exact hK.elim
   ·exact hK.elim
  ·exact hK.elim
 ·exact hK.elim
theorem fix_alloc {P : Program} {t : TypeId} {k : Nat} {h : Nat → Blk} : Fixes (fun _ K => allocW P t k K) h := by
 intro K hK
 unfold allocW at hK
 split at hK
 ·rename_i e
  exact ⟨_, hK.2.2.2, fun h' _ K' hk => by unfold allocW; simp only [e]; exact ⟨hK.1, hK.2.1, hK.2.2.1, hk⟩⟩
 ·exact hK.elim
theorem fix_box {k : Nat} {v : AV} {h : Nat → Blk} : Fixes (fun h K => boxW h k v K) h := by
 intro K hK
 obtain ⟨xs, ws, rd, ⟨h1, h2, hK⟩, f⟩ := fix_cells hK
 exact ⟨_, hK, fun h' hh K' hk => f h' hh _ ⟨h1, h2, hk⟩⟩
theorem fix_nth {xs : List AV} {i : Nat} {K : AV → Prop} (hK : AV.nth xs i K) : ∃ x, K x ∧ ∀ K' : AV → Prop, K' x → AV.nth xs i K' := by
 unfold AV.nth at hK
 split at hK
 ·rename_i x e
  exact ⟨x, hK, fun K' hk => by unfold AV.nth; simp only [e]; exact hk⟩
 ·exact hK.elim
theorem fix_field {P : Program} {t : TypeId} {f : Nat} {v : AV} {k : Nat} {h : Nat → Blk} : Fixes (fun _ K => fieldW P t f v fun v => arr k v K) h := by
 intro K hK
 unfold fieldW at hK
 split at hK
 ·rename_i et
  split at hK
  ·obtain ⟨y, hK, g⟩ := fix_gt hK
   obtain ⟨r, hr, f⟩ := fix_arr (h := h) K hK
   exact ⟨r, hr, fun h' hh K' hk => by unfold fieldW; simp only [et]; exact g _ (f h' hh K' hk)⟩
  ·obtain ⟨y, hK, g⟩ := fix_nth hK
   obtain ⟨r, hr, f⟩ := fix_arr (h := h) K hK
   exact ⟨r, hr, fun h' hh K' hk => by unfold fieldW; simp only [et]; exact g _ (f h' hh K' hk)⟩
  ·exact hK.elim
 ·exact hK.elim
theorem fix_fieldAddr {P : Program} {t : TypeId} {f : Nat} {a : AV} {h : Nat → Blk} : Fixes (fun _ K => fieldAddrW P t f a fun v => K ⟨v, [], []⟩) h := by
 intro K hK
 unfold fieldAddrW at hK
 split at hK
 ·rename_i et
  obtain ⟨h1, hK⟩ := hK
  split at hK
  ·exact ⟨_, hK, fun h' _ K' hk => by unfold fieldAddrW; simp only [et]; exact ⟨h1, hk⟩⟩
  ·exact ⟨_, hK, fun h' _ K' hk => by unfold fieldAddrW; simp only [et]; exact ⟨h1, hk⟩⟩
  ·exact hK.elim
 ·exact hK.elim
theorem fix_fill {places : List Nat} : ∀ {parts : List (Nat × AV)} {cells : List AV} {K : List AV → Prop}, fillW places cells parts K → ∃ cs, K cs ∧ ∀ K' : List AV → Prop, K' cs → fillW places cells parts K'
 | [], cells, K, hK => ⟨cells, hK, fun K' hk => hk⟩
 | (i, v) :: rest, cells, K, hK => by
  simp only [fillW] at hK
  split at hK
  ·rename_i o e
   obtain ⟨h1, h2, hK⟩ := hK
   obtain ⟨cs, hK, f⟩ := fix_fill hK
   exact ⟨cs, hK, fun K' hk => by simp only [fillW, e]; exact ⟨h1, h2, f _ hk⟩⟩
  ·exact hK.elim
theorem fix_build {P : Program} {t : TypeId} {parts : List (Nat × AV)} {h : Nat → Blk} : Fixes (fun _ K => buildW P t parts fun v => K ⟨v, [], []⟩) h := by
 intro K hK
 unfold buildW at hK
 split at hK
 ·rename_i e1 e2
  obtain ⟨cs, hK, f⟩ := fix_fill hK
  exact ⟨_, hK, fun h' _ K' hk => by unfold buildW; simp only [e1, e2]; exact f _ hk⟩
 ·exact hK.elim
theorem fix_append {P : Program} {t t' : TypeId} {k : Nat} {s x : AV} {h : Nat → Blk} : Fixes (fun h K => appendW P t t' h k s x K) h := by
 rintro K ⟨h1, h2, hK⟩
 by_cases hd : isDeep h x = true
 ·rw [if_pos hd] at hK
  unfold appendD at hK
  split at hK
  ·rename_i j n
   split at hK
   ·rename_i cs' rs' ej
    obtain ⟨hn, hns, hK⟩ := hK
    have dd : ∀ h' : Nat → Blk, h' j = h j → isDeep h' (.ref j 0 n) = true := fun h' e => by simp only [isDeep, e, ej]
    split at hK
    ·rename_i id len
     obtain ⟨hne, hK⟩ := hK
     split at hK
     ·rename_i m cs rs ei
      refine ⟨_, hK.2.2.2, fun h' hh K' hk => ⟨h1, h2, ?_⟩⟩
      rw [if_pos (dd h' (hh j (by simp)))]
      simp only [appendD, hh j (by simp), ej, hh id (by simp), ei]
      exact ⟨hn, hns, hne, hK.1, hK.2.1, hK.2.2.1, hk⟩
     ·exact hK.elim
    ·refine ⟨_, hK.2, fun h' hh K' hk => ⟨h1, h2, ?_⟩⟩
     rw [if_pos (dd h' (hh j (by simp)))]
     simp only [appendD, hh j (by simp), ej]
     exact ⟨hn, hns, hK.1, hk⟩
    ·exact hK.elim
   ·exact hK.elim
  ·exact hK.elim
 rw [if_neg hd] at hK
 obtain ⟨ys, rd, hK, hj, f⟩ := fix_cont hK
 have nd : ∀ h' : Nat → Blk, (∀ i ∈ rd, h' i = h i) → ¬ isDeep h' x = true := fun h' hh => by
  cases x with
  | ref j off len =>
   have : isDeep h' (.ref j off len) = isDeep h (.ref j off len) := by simp only [isDeep, hh j (hj _ _ _ rfl)]
   rw [this]; exact hd
  | _ => exact hd
 split at hK
 ·rename_i id off len _
  split at hK
  ·rename_i m c e
   obtain ⟨h3, h4, hK⟩ := hK
   have done : ∀ r : R, id ∈ r.rd → (∀ i ∈ rd, i ∈ r.rd) → K r → (∀ K' : R → Prop, K' r → (if off + len = c.length then K' ⟨.ref k 0 (len + ys.length), [(id, .dead), (k, .live m (c.drop off ++ ys))], id :: rd⟩
     else if off + len + ys.length ≤ c.length then K' ⟨.ref k off (len + ys.length), [(id, .dead), (k, .live m (c.take (off + len) ++ ys ++ c.drop (off + len + ys.length)))], id :: rd⟩
     else K' ⟨.ref k 0 (len + ys.length), [(id, .dead), (k, .live m ((c.drop off).take len ++ ys))], id :: rd⟩)) →
     ∃ r, K r ∧ ∀ h', (∀ i ∈ r.rd, h' i = h i) → ∀ K' : R → Prop, K' r → appendW P t t' h' k (.ref id off len) x K' := by
    intro r hi hrd hr hk
    refine ⟨r, hr, fun h' hh K' hk' => ⟨h1, h2, ?_⟩⟩
    rw [if_neg (nd h' fun i hi => hh i (hrd i hi))]
    refine f h' (fun i hi => hh i (hrd i hi)) _ ?_
    simp only [hh id hi, e]
    exact ⟨h3, h4, hk K' hk'⟩
   by_cases c1 : off + len = c.length
   ·rw [if_pos c1] at hK
    exact done _ (by simp) (fun i hi => by simp [hi]) hK fun K' hk => by rw [if_pos c1]; exact hk
   ·rw [if_neg c1] at hK
    by_cases c2 : off + len + ys.length ≤ c.length
    ·rw [if_pos c2] at hK
     exact done _ (by simp) (fun i hi => by simp [hi]) hK fun K' hk => by rw [if_neg c1, if_pos c2]; exact hk
    ·rw [if_neg c2] at hK
     exact done _ (by simp) (fun i hi => by simp [hi]) hK fun K' hk => by rw [if_neg c1, if_neg c2]; exact hk
  ·exact hK.elim
 ·exact ⟨_, hK.2, fun h' hh K' hk => ⟨h1, h2, by rw [if_neg (nd h' hh)]; exact f h' hh _ ⟨hK.1, hk⟩⟩⟩
 ·rename_i id r len _
  split at hK
  ·rename_i m cs rs e
   split at hK
   ·rename_i c er
    refine ⟨_, hK.2.2.2, fun h' hh K' hk => ⟨h1, h2, ?_⟩⟩
    rw [if_neg (nd h' fun i hi => hh i (List.mem_cons_of_mem _ hi))]
    refine f h' (fun i hi => hh i (List.mem_cons_of_mem _ hi)) _ ?_
    simp only [hh id (List.mem_cons_self ..), e, er]
    exact ⟨hK.1, hK.2.1, hK.2.2.1, hk⟩
   ·exact hK.elim
  ·exact hK.elim
 ·exact hK.elim
theorem fix_mm {b : Bool} {x y : AV} {h : Nat → Blk} : Fixes (fun _ K => mmW b x y fun v => K ⟨v, [], []⟩) h := by
 intro K hK
 unfold mmW at hK
 split at hK
 ·exact ⟨_, hK.2, fun h' _ K' hk => ⟨hK.1, hk⟩⟩
 ·exact hK.elim
theorem fix_len {P : Program} {t : TypeId} {x : AV} {h : Nat → Blk} : Fixes (fun _ K => lenW P t x fun v => K ⟨v, [], []⟩) h := by
 intro K hK
 unfold lenW at hK
 split at hK
 ·exact ⟨_, hK.2, fun h' _ K' hk => ⟨hK.1, hk⟩⟩
 ·exact ⟨_, hK.2, fun h' _ K' hk => ⟨hK.1, hk⟩⟩
 ·exact ⟨_, hK.2, fun h' _ K' hk => ⟨hK.1, hk⟩⟩
 ·exact ⟨_, hK.2, fun h' _ K' hk => ⟨hK.1, hk⟩⟩
 ·exact ⟨_, hK.2, fun h' _ K' hk => ⟨hK.1, hk⟩⟩
 ·exact hK.elim
theorem fix_cap {P : Program} {t : TypeId} {x : AV} {h : Nat → Blk} : Fixes (fun _ K => capW P t x fun v => K ⟨v, [], []⟩) h := by
 intro K hK
 unfold capW at hK
 split at hK
 ·exact ⟨_, hK.2, fun h' _ K' hk => ⟨hK.1, hk⟩⟩
 ·exact hK.elim
theorem outWs_congr {h h' : Nat → Blk} {outs : List (Option (List PV))} : ∀ {ms : List (Option (Nat × Option Nat))} {j : Nat}, (∀ i ∈ lids ms, h' i = h i) → outWs h' outs j ms = outWs h outs j ms
 | [], _, _ => rfl
 | none :: ms, j, hh => by simp only [outWs]; exact outWs_congr (by rwa [lids_none] at hh)
 | some (i, q) :: ms, j, hh => by
  rw [lids_some] at hh
  simp only [outWs]
  rw [hh i (by simp), outWs_congr fun j hid => hh j (by simp [hid])]
theorem fix_callv {P : Program} {sg : FuncId → List Bool} {k : Nat} {f : FuncId} {vs : List AV} {h : Nat → Blk} : Fixes (fun h K => callV P sg h k f vs K) h := by
 intro K hK
 obtain ⟨as, rd, ms, ⟨h1, tk, outs, res, h2, t, ht, hK⟩, g⟩ := fix_pass hK
 refine ⟨_, hK, fun h' hh K' hk => g h' hh _ ⟨h1, tk, outs, res, h2, t, fun e1 e2 i hi => by rw [hh i (List.mem_append.2 (.inl hi))]; exact ht e1 e2 i hi, ?_⟩⟩
 rw [outWs_congr fun i hid => hh i (List.mem_append.2 (.inl hid))]
 exact hk
theorem frzW_congr {h h' : Nat → Blk} : ∀ {l : List Nat}, (∀ i ∈ l, h' i = h i) → frzW h' l = frzW h l
 | [], _ => rfl
 | id :: l, hh => by simp only [frzW]; rw [hh id (by simp), frzW_congr fun i hi => hh i (by simp [hi])]
theorem hwsH_congr {h h' : Nat → Blk} {i : Nat} (e : h' i = h i) : ∀ {ws : List (Nat × Blk)}, hwsH h' ws i = hwsH h ws i := by
 intro ws
 induction ws generalizing h h' with
 | nil => exact e
 | cons p ws ih =>
  obtain ⟨j, b⟩ := p
  simp only [hwsH]
  exact ih (h := fun k => if k = j then b else h k) (h' := fun k => if k = j then b else h' k) (by show (if i = j then b else h' i) = (if i = j then b else h i); rw [e])
theorem fix_callU {P : Program} {sg : FuncId → List Bool} {k : Nat} {f : FuncId} {vs : List AV} {h : Nat → Blk} : Fixes (fun h K => callU P sg h k f vs K) h := by
 intro K hK
 obtain ⟨r, hr, g⟩ := fix_callv (h := hwsH h (frzW h (frzR (sg (f + 8589934592)) vs))) _ hK
 refine ⟨_, hr, fun h' hh K' hk => ?_⟩
 have e1 : frzW h' (frzR (sg (f + 8589934592)) vs) = frzW h (frzR (sg (f + 8589934592)) vs) := frzW_congr fun i hi => hh i (List.mem_append.2 (.inl hi))
 show callV P sg (hwsH h' (frzW h' (frzR (sg (f + 8589934592)) vs))) k f vs _
 rw [e1]
 exact g _ (fun i hi => hwsH_congr (hh i (List.mem_append.2 (.inr hi)))) _ hk
theorem fix_inpl {P : Program} {f : FuncId} {vs : List AV} {h : Nat → Blk} : Fixes (fun h K => inplW P h f vs K) h := by
 intro K hK
 simp only [inplW] at hK
 split at hK
 ·rename_i id off len
  split at hK
  ·rename_i m c e
   obtain ⟨h1, g, h2, l, h3, h4⟩ := hK
   refine ⟨_, h4, fun h' hh K' hk => ?_⟩
   have e' : h' id = .live m c := by rw [hh id (by simp)]; exact e
   simp only [inplW, e']
   exact ⟨h1, g, h2, l, h3, hk⟩
  ·exact hK.elim
 ·rename_i id len g
  split at hK
  ·rename_i m cs rs e
   obtain ⟨L, h1, h2, h3, h4, h5, h6, srt, h7, h8⟩ := hK
   refine ⟨_, h8, fun h' hh K' hk => ?_⟩
   have e' : h' id = .deep m cs rs := by rw [hh id (by simp)]; exact e
   simp only [inplW, e']
   exact ⟨L, h1, h2, h3, h4, h5, h6, srt, h7, hk⟩
  ·exact hK.elim
 ·exact hK.elim
theorem fix_call {P : Program} {sg : FuncId → List Bool} {k : Nat} {f : FuncId} {vs : List AV} {h : Nat → Blk} : Fixes (fun h K => callW P sg h k f vs K) h := by
 by_cases e : (sg (f + 12884901888)).isEmpty = true
 ·simp only [callW, e, if_true]; exact fix_callU
 ·simp only [callW, e]; exact fix_inpl
theorem fix_clear {P : Program} {t : TypeId} {x : AV} {h : Nat → Blk} : Fixes (fun h K => clearW P t h x K) h := by
 intro K hK
 simp only [clearW] at hK
 split at hK
 ·rename_i id off len
  split at hK
  ·rename_i n z m c e1 e
   refine ⟨_, hK.2.2, fun h' hh K' hk => ?_⟩
   have e' : h' id = .live m c := by rw [hh id (by simp)]; exact e
   simp only [clearW, e1, e']
   exact ⟨hK.1, hK.2.1, hk⟩
  ·rename_i n z m cs rs e1 e
   refine ⟨_, hK.2.2, fun h' hh K' hk => ?_⟩
   have e' : h' id = .deep m cs rs := by rw [hh id (by simp)]; exact e
   simp only [clearW, e1, e']
   exact ⟨hK.1, hK.2.1, hk⟩
  ·exact hK.elim
 ·exact hK.elim
theorem fix_lookup {P : Program} {t : TypeId} {m k : AV} {c : Bool} {h : Nat → Blk} : Fixes (fun h K => lookupW P t h m k c K) h := by
 intro K hK
 unfold lookupW at hK
 split at hK
 ·rename_i e1 e2
  split at hK
  ·rename_i e3
   exact ⟨_, hK.2.2.2.2, fun h' hh K' hk => by
    unfold lookupW; simp only [e1, e2, hh _ (List.mem_singleton.2 rfl), e3]; exact ⟨hK.1, hK.2.1, hK.2.2.1, hK.2.2.2.1, hk⟩⟩
  ·exact hK.elim
 ·exact hK.elim
theorem fix_update {P : Program} {t : TypeId} {m k v : AV} {h : Nat → Blk} : Fixes (fun h K => updateW P t h m k v K) h := by
 intro K hK
 unfold updateW at hK
 split at hK
 ·rename_i e1 e2
  split at hK
  ·rename_i e3
   obtain ⟨h1, h2, h3, h4, hK⟩ := hK
   obtain ⟨x, ws, rd, ⟨h5, hK⟩, f⟩ := fix_pub hK
   exact ⟨_, hK, fun h' hh K' hk => by
    unfold updateW; simp only [e1, e2, hh _ (List.mem_cons_self ..), e3]; exact ⟨h1, h2, h3, h4, f h' (fun i hi => hh i (List.mem_cons_of_mem _ hi)) _ ⟨h5, hk⟩⟩⟩
  ·exact hK.elim
 ·exact hK.elim
theorem opB_fix {P : Program} {sg : FuncId → List Bool} {ρ : Operand → AV} {k : Nat} {op : Op} {h : Nat → Blk} : Fixes (fun h K => opB P sg ρ h k op K) h := by
 intro K hK
 unfold opB at hK
 split at hK
 ·obtain ⟨r, hr, f⟩ := fix_arr (h := h) K hK; exact ⟨r, hr, f⟩
 ·obtain ⟨r, hr, f⟩ := fix_arr (h := h) K hK; exact ⟨r, hr, f⟩
 ·obtain ⟨r, hr, f⟩ := fix_pick (h := h) K hK; exact ⟨r, hr, f⟩
 ·obtain ⟨r, hr, f⟩ := fix_bin (h := h) K hK; exact ⟨r, hr, f⟩
 ·obtain ⟨r, hr, f⟩ := fix_un (h := h) K hK; exact ⟨r, hr, f⟩
 ·obtain ⟨r, hr, f⟩ := fix_conv (h := h) K hK; exact ⟨r, hr, f⟩
 ·obtain ⟨r, hr, f⟩ := fix_make (h := h) K hK; exact ⟨r, hr, f⟩
 ·obtain ⟨r, hr, f⟩ := fix_buildSlice (h := h) K hK; exact ⟨r, hr, f⟩
 ·obtain ⟨r, hr, f⟩ := fix_slice (h := h) K hK; exact ⟨r, hr, f⟩
 ·obtain ⟨r, hr, f⟩ := fix_indexAddr (h := h) K hK; exact ⟨r, hr, f⟩
 ·obtain ⟨r, hr, f⟩ := fix_index (h := h) K hK; exact ⟨r, hr, f⟩
 ·obtain ⟨r, hr, f⟩ := fix_load (h := h) K hK; exact ⟨r, hr, f⟩
 ·obtain ⟨r, hr, f⟩ := fix_store (h := h) K hK; exact ⟨r, hr, f⟩
 ·obtain ⟨r, hr, f⟩ := fix_alloc (h := h) K hK; exact ⟨r, hr, f⟩
 ·obtain ⟨r, hr, f⟩ := fix_box (h := h) K hK; exact ⟨r, hr, f⟩
 ·obtain ⟨r, hr, f⟩ := fix_build (h := h) K hK; exact ⟨r, hr, f⟩
 ·obtain ⟨r, hr, f⟩ := fix_field (h := h) K hK; exact ⟨r, hr, f⟩
 ·obtain ⟨r, hr, f⟩ := fix_fieldAddr (h := h) K hK; exact ⟨r, hr, f⟩
 ·split at hK
  ·rename_i e
   obtain ⟨y, hK, g⟩ := fix_nth hK
   obtain ⟨r, hr, f⟩ := fix_arr (h := h) K hK
   exact ⟨r, hr, fun h' hh K' hk => by simp only [opB, e]; exact g _ (f h' hh K' hk)⟩
  ·exact hK.elim
 ·split at hK
  ·rename_i e; exact ⟨_, hK, fun h' _ K' hk => by simp only [opB, e]; exact hk⟩
  ·rename_i e; exact ⟨_, hK, fun h' _ K' hk => by simp only [opB, e]; exact hk⟩
  ·rename_i e; exact ⟨_, hK, fun h' _ K' hk => by simp only [opB, e]; exact hk⟩
  ·rename_i e; exact ⟨_, hK, fun h' _ K' hk => by simp only [opB, e]; exact hk⟩
  ·exact hK.elim
 ·obtain ⟨h1, hK⟩ := hK
  split at hK
  ·rename_i e; exact ⟨_, hK, fun h' _ K' hk => ⟨h1, by simp only [e]; exact hk⟩⟩
  ·exact hK.elim
 ·obtain ⟨r, hr, f⟩ := fix_lookup (h := h) K hK; exact ⟨r, hr, f⟩
 ·obtain ⟨r, hr, f⟩ := fix_update (h := h) K hK; exact ⟨r, hr, f⟩
 ·obtain ⟨r, hr, f⟩ := fix_update (h := h) K hK; exact ⟨r, hr, f⟩
 ·exact ⟨_, hK, fun h' _ K' hk => hk⟩
 ·obtain ⟨r, hr, f⟩ := fix_len (h := h) K hK; exact ⟨r, hr, f⟩
 ·obtain ⟨r, hr, f⟩ := fix_append (h := h) K hK; exact ⟨r, hr, f⟩
 ·obtain ⟨r, hr, f⟩ := fix_mm (h := h) K hK; exact ⟨r, hr, f⟩
 ·obtain ⟨r, hr, f⟩ := fix_mm (h := h) K hK; exact ⟨r, hr, f⟩
 ·obtain ⟨r, hr, f⟩ := fix_cap (h := h) K hK; exact ⟨r, hr, f⟩
 ·obtain ⟨r, hr, f⟩ := fix_clear (h := h) K hK; exact ⟨r, hr, f⟩
 ·split at hK
  ·rename_i e
   obtain ⟨r, hr, f⟩ := fix_call (h := h) K hK
   exact ⟨r, hr, fun h' hh K' hk => by simp only [opB, e]; exact f h' hh K' hk⟩
  ·rename_i e
   obtain ⟨r, hr, f⟩ := fix_call (h := h) K hK
   exact ⟨r, hr, fun h' hh K' hk => by simp only [opB, e]; exact f h' hh K' hk⟩
  ·exact hK.elim
 ·exact hK.elim
theorem fix_binX {op : BinOp} {x y : AV} {h : Nat → Blk} : Fixes (fun _ K => binX op x y fun v => K ⟨.p v, [], []⟩) h := by
 intro K hK
 unfold binX at hK
 split at hK
 ·split at hK
  ·exact ⟨_, hK.2, fun h' _ K' hk => by unfold binX; exact ⟨hK.1, hk⟩⟩
  ·exact ⟨_, hK.2, fun h' _ K' hk => by unfold binX; exact ⟨hK.1, hk⟩⟩
  ·exact ⟨_, hK.2, fun h' _ K' hk => by unfold binX; exact ⟨hK.1, hk⟩⟩
  ·exact ⟨_, hK.2, fun h' _ K' hk => by unfold binX; exact ⟨hK.1, hk⟩⟩
  ·exact ⟨_, hK.2, fun h' _ K' hk => by unfold binX; exact ⟨hK.1, hk⟩⟩
  ·exact hK.elim
 ·exact hK.elim
theorem fix_sliceX {P : Program} {t : TypeId} {x : AV} {lo hi mx : Option Operand} {ρ : Operand → AV} {h : Nat → Blk} : Fixes (fun h K => sliceX P t x lo hi mx h ρ K) h := by
 intro K hK
 simp only [sliceX] at hK
 split at hK
 ·rename_i id off len
  split at hK
  ·rename_i m c e
   obtain ⟨h1, h2, hK⟩ := hK
   split at hK
   ·obtain ⟨i, hK, f1⟩ := fix_bnd hK
    obtain ⟨j, hK, f2⟩ := fix_bnd hK
    refine ⟨_, hK.2.2.2, fun h' hh K' hk => ?_⟩
    have e' : h' id = .live m c := by rw [hh id (by simp)]; exact e
    simp only [sliceX, e']
    exact ⟨h1, h2, f1 _ (f2 _ ⟨hK.1, hK.2.1, hK.2.2.1, hk⟩)⟩
   ·obtain ⟨h3, hK⟩ := hK
    obtain ⟨i, hK, f1⟩ := fix_bnd hK
    obtain ⟨j, hK, f2⟩ := fix_bnd hK
    obtain ⟨l, hK, f3⟩ := fix_bnd hK
    refine ⟨_, hK.2.2.2.2, fun h' hh K' hk => ?_⟩
    have e' : h' id = .live m c := by rw [hh id (by simp)]; exact e
    simp only [sliceX, e']
    exact ⟨h1, h2, h3, f1 _ (f2 _ (f3 _ ⟨hK.1, hK.2.1, hK.2.2.1, hK.2.2.2.1, hk⟩))⟩
  ·exact hK.elim
 ·exact hK.elim
theorem opN_fix {P : Program} {ρ : Operand → AV} {k : Nat} {op : Op} {h : Nat → Blk} : Fixes (fun h K => opN P ρ h k op K) h := by
 intro K hK
 unfold opN at hK
 split at hK
 ·obtain ⟨h1, h2, h3, hK⟩ := hK
  obtain ⟨xs, rs, ws, rd, ⟨h4, hK⟩, _, _, _, f⟩ := fix_mvs hK
  exact ⟨_, hK, fun h' hh K' hk => ⟨h1, h2, h3, f h' hh _ ⟨h4, hk⟩⟩⟩
 ·unfold makeD at hK
  split at hK
  ·rename_i e1 e2
   exact ⟨_, hK.2.2.2.2, fun h' _ K' hk => by unfold opN makeD; simp only [e1, e2]; exact ⟨hK.1, hK.2.1, hK.2.2.1, hK.2.2.2.1, hk⟩⟩
  ·exact hK.elim
 ·unfold allocD at hK
  split at hK
  ·rename_i e1
   exact ⟨_, hK.2.2.2, fun h' _ K' hk => by unfold opN allocD; simp only [e1]; exact ⟨hK.1, hK.2.1, hK.2.2.1, hk⟩⟩
  ·exact hK.elim
 ·obtain ⟨xs, rs, ws, rd, ⟨h1, h2, h3, hK⟩, _, _, _, f⟩ := fix_mvs hK
  exact ⟨_, hK, fun h' hh K' hk => f h' hh _ ⟨h1, h2, h3, hk⟩⟩
 ·unfold buildN at hK
  split at hK
  ·rename_i e1
   obtain ⟨cs, hk, f⟩ := fix_fill hK.2
   exact ⟨_, hk, fun h' _ K' hk => by unfold opN buildN; simp only [e1]; exact ⟨hK.1, f _ hk⟩⟩
  ·exact hK.elim
 ·unfold arrD at hK
  split at hK
  ·rename_i e1
   exact ⟨_, hK.2, fun h' _ K' hk => by unfold opN arrD; simp only [e1]; exact ⟨hK.1, hk⟩⟩
  ·exact hK.elim
 ·unfold arrD at hK
  split at hK
  ·rename_i e1
   exact ⟨_, hK.2, fun h' _ K' hk => by unfold opN arrD; simp only [e1]; exact ⟨hK.1, hk⟩⟩
  ·exact hK.elim
 ·exact hK.elim
theorem fix_nlW {x : AV} {h : Nat → Blk} : Fixes (fun _ K => nlW x K) h := by
 intro K hK
 unfold nlW at hK
 split at hK
 ·exact ⟨_, hK, fun h' _ K' hk => hk⟩
 ·exact hK.elim
theorem opW_fix {P : Program} {sg : FuncId → List Bool} {ρ : Operand → AV} {k : Nat} {op : Op} {h : Nat → Blk} : Fixes (fun h K => opW P sg ρ h k op K) h := by
 intro K hK
 unfold opW at hK
 split at hK
 ·rename_i hx
  have back : ∀ h' K', opE P ρ h' op K' → opW P sg ρ h' k op K' := fun h' K' hk => by unfold opW; rw [if_pos hx]; exact hk
  unfold opE at hK
  split at hK
  ·obtain ⟨r, hr, f⟩ := fix_binX (h := h) K hK; exact ⟨r, hr, fun h' hh K' hk => back h' K' (f h' hh K' hk)⟩
  ·obtain ⟨r, hr, f⟩ := fix_sliceX (h := h) K hK; exact ⟨r, hr, fun h' hh K' hk => back h' K' (f h' hh K' hk)⟩
  ·obtain ⟨r, hr, f⟩ := fix_clear (h := h) K hK; exact ⟨r, hr, fun h' hh K' hk => back h' K' (f h' hh K' hk)⟩
  ·obtain ⟨r, hr, f⟩ := fix_nlW (h := h) K hK; exact ⟨r, hr, fun h' hh K' hk => back h' K' (f h' hh K' hk)⟩
  ·obtain ⟨r, hr, f⟩ := fix_nlW (h := h) K hK; exact ⟨r, hr, fun h' hh K' hk => back h' K' (f h' hh K' hk)⟩
  ·exact hK.elim
 ·rename_i hx
  split at hK
  ·rename_i hn
   have back : ∀ h' K', opN P ρ h' k op K' → opW P sg ρ h' k op K' := fun h' K' hk => by unfold opW; rw [if_neg hx, if_pos hn]; exact hk
   obtain ⟨r, hr, f⟩ := opN_fix (h := h) K hK
   exact ⟨r, hr, fun h' hh K' hk => back h' K' (f h' hh K' hk)⟩
  ·rename_i hn
   obtain ⟨r, hr, f⟩ := opB_fix (h := h) K hK
   exact ⟨r, hr, fun h' hh K' hk => by show opW P sg ρ h' k op K'; unfold opW; rw [if_neg hx, if_neg hn]; exact f h' hh K' hk⟩
theorem opW_mono {P : Program} {sg : FuncId → List Bool} {ρ : Operand → AV} {k : Nat} {op : Op} {h : Nat → Blk} {K K' : R → Prop} (hK : opW P sg ρ h k op K) (hh : ∀ r, K r → K' r) : opW P sg ρ h k op K' := by
 obtain ⟨r, hr, f⟩ := opW_fix K hK
 exact f h (fun _ _ => rfl) K' (hh r hr)
end Go.Gl
namespace Go.Gl
open Go
variable [Amb]
theorem fillW_congr {places : List Nat} : ∀ {l : List (Nat × Operand)} {cells : List AV} {ρ ρ' : Operand → AV} {K : List AV → Prop}, (∀ x ∈ l.map (·.2), ρ x = ρ' x) → fillW places cells (l.map fun p => (p.1, ρ p.2)) K → fillW places cells (l.map fun p => (p.1, ρ' p.2)) K := by
 intro l cells ρ ρ' K h hK
 have e : (l.map fun p => (p.1, ρ p.2)) = l.map fun p => (p.1, ρ' p.2) := List.map_congr_left fun p hp => by rw [h p.2 (List.mem_map.2 ⟨p, hp, rfl⟩)]
 rw [← e]; exact hK
theorem bnd_congr {ρ ρ' : Operand → AV} {x : Option Operand} {d : Nat} (h : ∀ y, x = some y → ρ y = ρ' y) : bnd ρ x d = bnd ρ' x d := by
 funext K
 cases x with
 | none => rfl
 | some y => simp only [bnd, h y rfl]
theorem map_congr_ops {l : List Operand} {ρ ρ' : Operand → AV} (h : ∀ x ∈ l, ρ x = ρ' x) : l.map ρ = l.map ρ' := List.map_congr_left h
theorem opB_congr {P : Program} {sg : FuncId → List Bool} {ρ ρ' : Operand → AV} {k : Nat} {op : Op} {h : Nat → Blk} {K : R → Prop} (hρ : ∀ x ∈ op.operands, ρ x = ρ' x) (hK : opB P sg ρ h k op K) : opB P sg ρ' h k op K := by
 unfold opB at hK ⊢
 split at hK <;> simp only [Op.operands] at hρ
 case h_8 t n parts =>
  have e : (parts.toList.map fun p => ρ p.2) = parts.toList.map fun p => ρ' p.2 := List.map_congr_left fun p hp => hρ p.2 (by simp; exact ⟨p.1, by simpa using hp⟩)
  unfold buildSliceW at hK ⊢
  rw [← e]; exact hK
 case h_9 t x lo hi mx =>
  have ex : ρ x = ρ' x := hρ x (by simp)
  have elo : ∀ d, bnd ρ lo d = bnd ρ' lo d := fun d => bnd_congr fun y hy => hρ y (by subst hy; simp)
  have ehi : ∀ d, bnd ρ hi d = bnd ρ' hi d := fun d => bnd_congr fun y hy => hρ y (by subst hy; simp)
  have emx : ∀ d, bnd ρ mx d = bnd ρ' mx d := fun d => bnd_congr fun y hy => hρ y (by subst hy; simp)
  rw [← ex]
  unfold sliceW at hK ⊢
  simp only [← elo, ← ehi, ← emx]
  exact hK
 case h_16 t parts =>
  have e : (parts.toList.map fun p => (p.1, ρ p.2)) = parts.toList.map fun p => (p.1, ρ' p.2) := List.map_congr_left fun p hp => by rw [hρ p.2 (by simp; exact ⟨p.1, by simpa using hp⟩)]
  rw [← e]; exact hK
 case h_25 f first caps =>
  have e1 : first.toList.map ρ = first.toList.map ρ' := List.map_congr_left fun x hx => hρ x (by simp at hx ⊢; exact .inl hx)
  have e2 : caps.toList.map ρ = caps.toList.map ρ' := List.map_congr_left fun x hx => hρ x (by simp at hx ⊢; exact .inr hx)
  rw [← e1, ← e2]; exact hK
 case h_32 f args ts =>
  have ef : ρ f = ρ' f := hρ f (by simp [Call.operands])
  have ea : args.map ρ = args.map ρ' := List.map_congr_left fun x hx => hρ x (by simp [Call.operands, hx])
  rw [← ef, ← ea]; exact hK
 all_goals first
  | exact hK
  | exact hK.elim
  | (simp [Call.operands] at hρ; simp only [← hρ]; exact hK)
  | (simp [Call.operands] at hρ; obtain ⟨e1, e2⟩ := hρ; simp only [← e1, ← e2]; exact hK)
  | (simp at hρ; obtain ⟨e1, e2, e3⟩ := hρ; simp only [← e1, ← e2, ← e3]; exact hK)
theorem opW_congr {P : Program} {sg : FuncId → List Bool} {ρ ρ' : Operand → AV} {k : Nat} {op : Op} {h : Nat → Blk} {K : R → Prop} (hρ : ∀ x ∈ op.operands, ρ x = ρ' x) (hK : opW P sg ρ h k op K) : opW P sg ρ' h k op K := by
 unfold opW at hK ⊢
 split at hK
 ·rename_i hx
  rw [if_pos hx]
  unfold opE at hK ⊢
  split at hK <;> simp only [Op.operands] at hρ
  ·simp at hρ; obtain ⟨e1, e2⟩ := hρ; simp only [← e1, ← e2]; exact hK
  ·rename_i t x lo hi mx
   have ex : ρ x = ρ' x := hρ x (by simp)
   have elo : ∀ d, bnd ρ lo d = bnd ρ' lo d := fun d => bnd_congr fun y hy => hρ y (by subst hy; simp)
   have ehi : ∀ d, bnd ρ hi d = bnd ρ' hi d := fun d => bnd_congr fun y hy => hρ y (by subst hy; simp)
   have emx : ∀ d, bnd ρ mx d = bnd ρ' mx d := fun d => bnd_congr fun y hy => hρ y (by subst hy; simp)
   rw [← ex]
   unfold sliceX at hK ⊢
   simp only [← elo, ← ehi, ← emx]
   exact hK
  ·simp [Call.operands] at hρ; simp only [← hρ]; exact hK
  ·simp at hρ; simp only [← hρ]; exact hK
  ·simp at hρ; simp only [← hρ]; exact hK
  ·exact hK.elim
 ·rename_i hx
  rw [if_neg hx]
  split at hK
  ·rename_i hn
   rw [if_pos hn]
   unfold opN at hK ⊢
   split at hK <;> simp only [Op.operands] at hρ
   ·rename_i t n parts
    have e : (parts.toList.map fun p => ρ p.2) = parts.toList.map fun p => ρ' p.2 := List.map_congr_left fun p hp => hρ p.2 (by simp; exact ⟨p.1, by simpa using hp⟩)
    unfold buildSliceD at hK ⊢
    rw [← e]; exact hK
   ·simp at hρ; obtain ⟨e1, e2⟩ := hρ; simp only [← e1, ← e2]; exact hK
   ·exact hK
   ·simp at hρ; simp only [← hρ]; exact hK
   ·rename_i t parts
    have e : (parts.toList.map fun p => (p.1, ρ p.2)) = parts.toList.map fun p => (p.1, ρ' p.2) := List.map_congr_left fun p hp => by rw [hρ p.2 (by simp; exact ⟨p.1, by simpa using hp⟩)]
    rw [← e]; exact hK
   ·simp at hρ; simp only [← hρ]; exact hK
   ·simp at hρ; simp only [← hρ]; exact hK
   ·exact hK.elim
  ·rename_i hn
   rw [if_neg hn]
   exact opB_congr hρ hK
end Go.Gl
namespace Go.Gl
open Go
variable [Amb]
section
variable {P : Program} {sg : FuncId → List Bool} {ops : Array Oper} {n0 : Nat}
/-- What the i-th operation comes to in a state: a result, or nothing since its guard is shut. -/
def OutOk (P : Program) (sg : FuncId → List Bool) (ops : Array Oper) (n0 i : Nat) (o : Oper) (S : St) : Option R → Prop
 | some r => guardW ops S o True False ∧ ∀ K : R → Prop, K r → opW P sg (opd S) S.h (num n0 i) o.op K
 | none => guardW ops S o False True
def eff (o : Oper) : Option R → St → St
 | some r, S => S.app o.dst r
 | none, S => S.puto o.dst (.tup [])
def lab : Option R → List (Nat × Blk) × List Nat
 | some r => (r.ws, r.rd)
 | none => ([], [])
def RunL (P : Program) (sg : FuncId → List Bool) (ops : Array Oper) (n0 : Nat) (out : Nat → Option R) : List Nat → St → St → Prop
 | [], S, S' => S' = S
 | i :: is, S, S' => ∃ o, ops[i]? = some o ∧ OutOk P sg ops n0 i o S (out i) ∧ RunL P sg ops n0 out is (eff o (out i) S) S'
theorem guardW_or {S : St} {o : Oper} {yes no : Prop} (h : guardW ops S o yes no) : (guardW ops S o True False ∧ yes) ∨ (guardW ops S o False True ∧ no) := by
 unfold guardW at h ⊢
 cases hg : o.guard with
 | none => simp only [hg] at h; exact .inl ⟨trivial, h⟩
 | some p =>
  obtain ⟨j, want⟩ := p
  simp only [hg] at h ⊢
  cases hd : (ops[j]?).bind (·.dst) with
  | none => simp only [hd] at h
  | some d =>
   simp only [hd] at h ⊢
   unfold gdW at h ⊢
   split at h
   ·rename_i b e
    by_cases hb : b = want
    ·exact .inl ⟨⟨fun _ => trivial, fun hn => hn hb⟩, h.1 hb⟩
    ·exact .inr ⟨⟨fun hn => hb hn, fun _ => trivial⟩, h.2 hb⟩
   ·exact .inr ⟨trivial, h⟩
   ·exact h.elim
theorem guardW_mono {S : St} {o : Oper} {yes no yes' no' : Prop} (hy : yes → yes') (hn : no → no') (h : guardW ops S o yes no) : guardW ops S o yes' no' := by
 unfold guardW at h ⊢
 split
 ·rename_i e; simp only [e] at h; exact hy h
 ·rename_i j want e
  simp only [e] at h
  split
  ·rename_i d hd
   simp only [hd] at h
   unfold gdW at h ⊢
   split at h
   ·exact ⟨fun e => hy (h.1 e), fun e => hn (h.2 e)⟩
   ·exact hn h
   ·exact h
  ·rename_i hd; simp only [hd] at h
theorem guardW_congr {S S' : St} {o : Oper} {yes no : Prop} (he : ∀ t ∈ o.looksAt ops, S'.e t = S.e t) (h : guardW ops S o yes no) : guardW ops S' o yes no := by
 unfold guardW at h ⊢
 cases hg : o.guard with
 | none => simp only [hg] at h; exact h
 | some p =>
  obtain ⟨j, want⟩ := p
  simp only [hg] at h ⊢
  cases hd : (ops[j]?).bind (·.dst) with
  | none => simp only [hd] at h
  | some d =>
   simp only [hd] at h ⊢
   rw [he d (by simp [Oper.looksAt, hg, hd])]
   exact h
theorem OutOk.congr {i : Nat} {o : Oper} {S S' : St} {x : Option R} (he : ∀ t ∈ o.looksAt ops, S'.e t = S.e t) (hh : ∀ id ∈ (lab x).2, S'.h id = S.h id) (h : OutOk P sg ops n0 i o S x) : OutOk P sg ops n0 i o S' x := by
 cases x with
 | none => exact guardW_congr he h
 | some r =>
  refine ⟨guardW_congr he h.1, fun K hK => ?_⟩
  obtain ⟨r', hr', hf⟩ := opW_fix (fun x => x = r) (h.2 (fun x => x = r) rfl)
  subst hr'
  refine opW_congr (fun x hx => ?_) (hf S'.h hh K hK)
  cases x with
  | tmp t =>
   simp only [opd]
   exact (he t (List.mem_append_left _ (List.mem_filterMap.2 ⟨.tmp t, by simpa using hx, rfl⟩))).symm
  | _ => rfl
theorem eff_e {o : Oper} {x : Option R} {S : St} {t : Nat} (h : ∀ d, o.dst = some d → t ≠ d) : (eff o x S).e t = S.e t := by
 cases x <;> simp only [eff, St.app, St.hws, St.puto] <;> cases hd : o.dst <;> simp only [St.put]
 ·simp [h _ hd]
 ·simp [h _ hd]
theorem eff_h {o : Oper} {x : Option R} {S : St} : (eff o x S).h = hwsH S.h (lab x).1 := by
 cases x <;> simp only [eff, lab, St.app, St.hws, St.puto, hwsH] <;> cases o.dst <;> rfl
theorem eff_n {o : Oper} {x : Option R} {S : St} : (eff o x S).n = S.n := by
 cases x <;> simp only [eff, St.app, St.hws, St.puto] <;> cases o.dst <;> rfl
def Oval : Option R → AV
 | some r => r.v
 | none => .tup []
theorem eff_eq {o : Oper} {x : Option R} {S : St} : eff o x S = ⟨(S.puto o.dst (Oval x)).e, hwsH S.h (lab x).1, S.n⟩ := by
 cases x <;> simp only [eff, lab, St.app, St.hws, St.puto, hwsH, Oval] <;> cases o.dst <;> rfl
theorem hwsH_not {h : Nat → Blk} : ∀ {ws : List (Nat × Blk)} {i : Nat}, (∀ p ∈ ws, p.1 ≠ i) → hwsH h ws i = h i
 | [], _, _ => rfl
 | (k, b) :: l, i, hn => by
  simp only [hwsH]
  rw [hwsH_not (ws := l) fun p hp => hn p (by simp [hp])]
  have : i ≠ k := fun e => hn (k, b) (by simp) e.symm
  simp [this]
theorem hwsH_in {h h' : Nat → Blk} : ∀ {ws : List (Nat × Blk)} {i : Nat}, (∃ p ∈ ws, p.1 = i) → hwsH h ws i = hwsH h' ws i
 | [], _, hp => by obtain ⟨p, hp, _⟩ := hp; cases hp
 | (k, b) :: l, i, hp => by
  simp only [hwsH]
  by_cases hl : ∃ p ∈ l, p.1 = i
  ·exact hwsH_in hl
  ·have hn : ∀ p ∈ l, p.1 ≠ i := fun p hp e => hl ⟨p, hp, e⟩
   rw [hwsH_not hn, hwsH_not hn]
   obtain ⟨p, hp, e⟩ := hp
   rcases List.mem_cons.1 hp with rfl | hp
   ·simp [← e]
   ·exact absurd e (hn p hp)
theorem hwsH_comm {h : Nat → Blk} {l m : List (Nat × Blk)} (hd : ∀ p ∈ l, ∀ q ∈ m, p.1 ≠ q.1) : hwsH (hwsH h l) m = hwsH (hwsH h m) l := by
 funext i
 by_cases hl : ∃ p ∈ l, p.1 = i
 ·obtain ⟨p, hp, e⟩ := hl
  rw [hwsH_not (ws := m) fun q hq e' => hd p hp q hq (e.trans e'.symm)]
  exact hwsH_in ⟨p, hp, e⟩
 ·have hn : ∀ p ∈ l, p.1 ≠ i := fun p hp e => hl ⟨p, hp, e⟩
  rw [hwsH_not (ws := l) hn]
  by_cases hm : ∃ p ∈ m, p.1 = i
  ·exact hwsH_in hm
  ·have hn' : ∀ p ∈ m, p.1 ≠ i := fun p hp e => hm ⟨p, hp, e⟩
   rw [hwsH_not hn', hwsH_not hn', hwsH_not hn]
/-- May they change places? -/
def Free (ops : Array Oper) (out : Nat → Option R) (i j : Nat) : Prop :=
 (∀ x y, ops[i]? = some x → ops[j]? = some y → x.apart ops y = true) ∧ clear (lab (out i)) (lab (out j)) ∧ clear (lab (out j)) (lab (out i))
theorem swap {out : Nat → Option R} {i j : Nat} {x y : Oper} {S : St} (hx : ops[i]? = some x) (hy : ops[j]? = some y) (hf : Free ops out i j)
  (h1 : OutOk P sg ops n0 i x S (out i)) (h2 : OutOk P sg ops n0 j y (eff x (out i) S) (out j)) :
  OutOk P sg ops n0 j y S (out j) ∧ OutOk P sg ops n0 i x (eff y (out j) S) (out i) ∧ eff y (out j) (eff x (out i) S) = eff x (out i) (eff y (out j) S) := by
 obtain ⟨hap, c1, c2⟩ := hf
 obtain ⟨a1, a2, a3⟩ := Oper.apart_spec (hap x y hx hy)
 refine ⟨h2.congr (fun t ht => ?_) fun id hid => ?_, h1.congr (fun t ht => ?_) fun id hid => ?_, ?_⟩
 ·exact (eff_e fun d hd e => a1 d hd (e ▸ ht)).symm
 ·rw [eff_h, hwsH_not fun p hp e => (c1 p hp).1 (e ▸ hid)]
 ·exact eff_e fun d hd e => a3 d hd (e ▸ ht)
 ·rw [eff_h, hwsH_not fun p hp e => (c2 p hp).1 (e ▸ hid)]
 ·have ehh : hwsH (hwsH S.h (lab (out i)).1) (lab (out j)).1 = hwsH (hwsH S.h (lab (out j)).1) (lab (out i)).1 := hwsH_comm fun p hp q hq => (c1 p hp).2 q hq
  simp only [eff_eq, ehh]
  congr 1
  funext t
  cases hxd : x.dst with
  | none => simp only [St.puto]; cases y.dst <;> rfl
  | some d =>
   cases hyd : y.dst with
   | none => rfl
   | some d' =>
    have hne : d' ≠ d := fun e => a2 d hxd (e ▸ hyd)
    simp only [St.puto, St.put]
    by_cases h : t = d
    ·subst h; simp [hne.symm]
    ·by_cases h' : t = d'
     ·subst h'; simp [hne]
     ·simp [h, h']
theorem RunL.front {out : Nat → Option R} {i : Nat} {post : List Nat} : ∀ (pre : List Nat) (S S' : St), (∀ j ∈ pre, Free ops out j i) → RunL P sg ops n0 out (pre ++ i :: post) S S' → RunL P sg ops n0 out (i :: (pre ++ post)) S S' := by
 intro pre
 induction pre with
 | nil => intro S S' _ h; exact h
 | cons j pre ih =>
  intro S S' hf h
  obtain ⟨x, hx, ox, h⟩ := h
  obtain ⟨y, hy, oy, h⟩ := ih _ _ (fun k hk => hf k (by simp [hk])) h
  obtain ⟨s1, s2, e⟩ := swap hx hy (hf j (by simp)) ox oy
  exact ⟨y, hy, s1, x, hx, s2, by rw [← e]; exact h⟩
theorem RunL.n {out : Nat → Option R} : ∀ (is : List Nat) (S S' : St), RunL P sg ops n0 out is S S' → S'.n = S.n
 | [], _, _, h => by rw [h]
 | _ :: is, _, _, ⟨_, _, _, h⟩ => (RunL.n is _ _ h).trans eff_n
theorem RunL.congr {out out' : Nat → Option R} : ∀ (is : List Nat) (S S' : St), (∀ i ∈ is, out' i = out i) → RunL P sg ops n0 out is S S' → RunL P sg ops n0 out' is S S'
 | [], _, _, _, h => h
 | i :: is, S, S', he, ⟨o, ho, h1, h2⟩ => ⟨o, ho, by rw [he i (by simp)]; exact h1, by rw [he i (by simp)]; exact RunL.congr is _ _ (fun j hj => he j (by simp [hj])) h2⟩
theorem opsD_run {K : St → List (List (Nat × Blk) × List Nat) → Prop} : ∀ (os : List Oper) (i : Nat) (S : St) (L : List (List (Nat × Blk) × List Nat)), ops.toList.drop i = os → opsD P sg ops n0 os i S L K →
  ∃ (outs : List (Option R)) (S' : St), outs.length = os.length ∧ RunL P sg ops n0 (fun j => outs.getD (j - i) none) (List.range' i os.length) S S' ∧ K S' (L ++ outs.map lab) := by
 intro os
 induction os with
 | nil => intro i S L _ h; exact ⟨[], S, rfl, rfl, by simpa [opsD] using h⟩
 | cons o os ih =>
  intro i S L hd h
  have ho : ops[i]? = some o := by
   have := congrArg (·[0]?) hd
   simp only [List.getElem?_drop, List.getElem?_cons_zero, Nat.add_zero] at this
   simpa using this
  have hd' : ops.toList.drop (i + 1) = os := by
   have := congrArg (List.drop 1) hd
   simpa [List.drop_drop, Nat.add_comm] using this
  simp only [opsD] at h
  have fin : ∀ x : Option R, OutOk P sg ops n0 i o S x → opsD P sg ops n0 os (i + 1) (eff o x S) (L ++ [lab x]) K →
    ∃ (outs : List (Option R)) (S' : St), outs.length = (o :: os).length ∧ RunL P sg ops n0 (fun j => outs.getD (j - i) none) (List.range' i (o :: os).length) S S' ∧ K S' (L ++ outs.map lab) := by
   intro x hx hrest
   obtain ⟨outs, S', hl, hrun, hK⟩ := ih (i + 1) _ _ hd' hrest
   refine ⟨x :: outs, S', by simp [hl], ⟨o, ho, by simpa using hx, ?_⟩, by simpa using hK⟩
   simp only [Nat.sub_self, List.getD_cons_zero]
   refine RunL.congr _ _ _ (fun j hj => ?_) hrun
   have hj := List.mem_range'_1.1 hj
   obtain ⟨m, rfl⟩ : ∃ m, j = i + 1 + m := ⟨j - (i + 1), by omega⟩
   have e1 : i + 1 + m - i = m + 1 := by omega
   have e2 : i + 1 + m - (i + 1) = m := by omega
   simp only [e1, e2, List.getD_cons_succ]
  rcases guardW_or h with ⟨hg, h⟩ | ⟨hg, h⟩
  ·obtain ⟨r, hr, hf⟩ := opW_fix _ h
   exact fin (some r) ⟨hg, fun K' hK' => hf S.h (fun _ _ => rfl) K' hK'⟩ hr
  ·exact fin none hg h
/-- Every edge of what is listed leads to what is listed. -/
def Shut (ops : Array Oper) (listed : Array Bool) : Prop :=
 ∀ k, listed.getD k false = true → ∀ o, ops[k]? = some o → ∀ e ∈ o.after, Region.binds .any e = true → listed.getD e.on false = true
theorem behind_listed {listed : Array Bool} (hc : Shut ops listed) {i : Nat} : ∀ (n j : Nat), behind ops n i j = true → (∀ o, ops[j]? = some o → ∀ e ∈ o.after, Region.binds .any e = true → listed.getD e.on false = true) → listed.getD i false = true := by
 intro n
 induction n with
 | zero => intro j h; simp [behind] at h
 | succ n ih =>
  intro j h hj
  simp only [behind] at h
  cases ho : ops[j]? with
  | none => simp [ho] at h
  | some o =>
   simp only [ho] at h
   obtain ⟨e, he, hb⟩ := Array.any_eq_true'.1 h
   simp only [Bool.and_eq_true, Bool.or_eq_true, beq_iff_eq, decide_eq_true_eq] at hb
   obtain ⟨⟨hb, _⟩, hb2⟩ := hb
   have hl := hj o ho e he hb
   rcases hb2 with rfl | hb2
   ·exact hl
   ·exact ih e.on hb2 fun o' ho' => hc e.on hl o' ho'
end
section
variable {P : Program} {sg : FuncId → List Bool} {w0 : World} {nA nt : Nat} {M G : Nat → Prop} {ι0 : Nat → Loc} {w : World} {S : St} {ι : Nat → Loc} {a : Act}
variable [AmbOk w0 M]
def givenL (n0 : Nat) (listed : Array Bool) : Nat → Prop := fun id => id < n0 ∨ ∃ i, listed.getD i false = true ∧ num n0 i ≤ id ∧ id < num n0 i + 256
theorem getD_lt {listed : Array Bool} {i : Nat} (h : listed.getD i false = true) : i < listed.size := by
 rcases Nat.lt_or_ge i listed.size with h' | h'
 ·exact h'
 ·simp [Array.getElem?_eq_none h'] at h
theorem any_sound {ops : Array Oper} (hreg : regOk nt ops = true) {n0 : Nat} {Q : Exit → Act → World → Prop} {out : Nat → Option R}
  (hfree : ∀ j i, j < i → i < ops.size → behind ops ops.size j i = true ∨ Free ops out j i) {Sf : St}
  (hQ : ∀ a' w' ι', Rel w0 nA nt M G ι0 (given n0 ops.size) w' Sf ι' a' → Q .normal a' w') :
  ∀ (is : List Nat) (listed : Array Bool) (S : St) (a : Act) (w : World) (ι : Nat → Loc), listed.size = ops.size → is.Pairwise (· < ·) → (∀ j, j < ops.size → (listed.getD j true = false ↔ j ∈ is)) → (∀ j ∈ is, j < ops.size) →
   Shut ops listed → RunL P sg ops n0 out is S Sf → Rel w0 nA nt M G ι0 (givenL n0 listed) w S ι a → wpAny P .any ops Q is.length listed a w := by
 intro is
 induction hn : is.length generalizing is with
 | zero =>
  intro listed S a w ι hsz hs hun hin hc hrun h
  obtain rfl := List.eq_nil_of_length_eq_zero hn
  refine ⟨?_, ?_⟩
  ·rw [List.eq_nil_iff_forall_not_mem]
   intro j hj
   obtain ⟨h0, o, ho, _⟩ := mem_ready.1 hj
   have := (hun j (Array.getElem?_eq_some_iff.1 ho).1).1 h0
   cases this
  ·have e : Sf = S := hrun
   subst e
   refine hQ a w ι (h.mono fun id hid => ?_)
   simp only [given, num]
   rcases hid with h1 | ⟨i, hi, h1, h2⟩
   ·omega
   ·have := getD_lt hi
    simp only [num] at h1 h2
    omega
 | succ n ih =>
  intro listed S a w ι hsz hs hun hin hc hrun h
  have lf : ∀ j, j < ops.size → (listed.getD j false = true ↔ j ∉ is) := fun j hj => by
   rw [← hun j hj]
   have hj' : j < listed.size := by omega
   simp [hj']
  refine ⟨fun h0 => ?_, fun i hi => ?_⟩
  ·exfalso
   cases is with
   | nil => cases hn
   | cons j is =>
    have hj := hin j (by simp)
    have : j ∈ Region.ready .any ops listed := by
     refine mem_ready.2 ⟨(hun j hj).2 (by simp), ops[j], Array.getElem?_eq_getElem hj, fun e he hb => ?_⟩
     have hlt := (regOk_spec hreg (Array.getElem?_eq_getElem hj)).2 e he hb
     refine (lf e.on (by omega)).2 fun hm => ?_
     rcases List.mem_cons.1 hm with rfl | hm
     ·omega
     ·have := (List.pairwise_cons.1 hs).1 e.on hm
      omega
    rw [h0] at this
    cases this
  ·obtain ⟨h0, o, ho, hall⟩ := mem_ready.1 hi
   have hilt : i < ops.size := (Array.getElem?_eq_some_iff.1 ho).1
   have him : i ∈ is := (hun i hilt).1 h0
   obtain ⟨pre, post, rfl⟩ := List.append_of_mem him
   have hpw := List.pairwise_append.1 hs
   have hfr : ∀ j ∈ pre, Free ops out j i := fun j hj => by
    have hji : j < i := hpw.2.2 j hj i (by simp)
    rcases hfree j i hji hilt with hb | hf
    ·exfalso
     have := behind_listed hc ops.size i hb fun o' ho' e he hb' => hall e (by rw [ho] at ho'; cases ho'; exact he) hb'
     exact (lf j (by omega)).1 this (by simp [hj])
    ·exact hf
   obtain ⟨o', ho', hok, hrun'⟩ := RunL.front pre S Sf hfr hrun
   obtain rfl : o' = o := by rw [ho] at ho'; cases ho'; rfl
   have hi' : i < listed.size := by omega
   have hA : ∀ x, x < 256 → ¬ givenL n0 listed (num n0 i + x) := by
    rintro x hx (h1 | ⟨j, hj, h1, h2⟩)
    ·simp only [num] at h1; omega
    ·have hne : j ≠ i := by rintro rfl; exact (lf j hilt).1 hj him
     simp only [num] at h1 h2; omega
   have hset : ∀ j, (listed.setIfInBounds i true).getD j false = true ↔ j = i ∨ listed.getD j false = true := fun j => by
    by_cases e : i = j
    ·subst e; simp [hi']
    ·rw [getD_set_ne false e]; simp [Ne.symm e]
   have hnext : ∀ (S1 : St) a1 w1 ι1, S1 = eff o' (out i) S → Rel w0 nA nt M G ι0 (plus (givenL n0 listed) (num n0 i)) w1 S1 ι1 a1 → wpAny P .any ops Q n (listed.setIfInBounds i true) a1 w1 := by
    intro S1 a1 w1 ι1 e1 h1
    subst e1
    refine ih (pre ++ post) (by simp at hn ⊢; omega) (listed.setIfInBounds i true) _ a1 w1 ι1 (by simp [hsz]) ?_ ?_ (fun j hj => hin j (by simp at hj ⊢; rcases hj with h | h <;> simp [h])) ?_ hrun' (h1.mono fun id hid => ?_)
    ·refine List.pairwise_append.2 ⟨hpw.1, (List.pairwise_cons.1 hpw.2.1).2, fun x hx y hy => hpw.2.2 x hx y (by simp [hy])⟩
    ·intro j hj
     by_cases e : i = j
     ·subst e
      have n1 : i ∉ pre := fun hm => absurd (hpw.2.2 i hm i (by simp)) (Nat.lt_irrefl _)
      have n2 : i ∉ post := fun hm => absurd ((List.pairwise_cons.1 hpw.2.1).1 i hm) (Nat.lt_irrefl _)
      simp [hi', n1, n2]
     ·rw [getD_set_ne true e, hun j hj]
      simp [Ne.symm e]
    ·intro k hk o1 ho1 e he hb
     rw [hset] at hk ⊢
     right
     rcases hk with rfl | hk
     ·rw [ho] at ho1; cases ho1; exact hall e he hb
     ·exact hc k hk o1 ho1 e he hb
    ·rcases hid with hid | hid
     ·rcases hid with h2 | ⟨j, hj, h2⟩
      ·exact .inl h2
      ·exact .inr ⟨j, (hset j).2 (.inr hj), h2⟩
     ·exact .inr ⟨i, (hset i).2 (.inl rfl), hid⟩
   obtain ⟨hdst, _⟩ := regOk_spec hreg ho
   unfold wpOp
   simp only [ho]
   cases hout : out i with
   | some r =>
    rw [hout] at hok hnext
    rcases guard_spec h hok.1 with ⟨hw, _⟩ | ⟨_, hf⟩
    ·rw [if_pos hw]
     refine .inl (opW_does h hdst hA (hok.2 (fun x => x = r) rfl) _ _ fun r' val w' ι' hk hrel => ?_)
     subst hk
     exact hnext _ _ _ ι' rfl hrel
    ·exact hf.elim
   | none =>
    rw [hout] at hok hnext
    rcases guard_spec h hok with ⟨_, hf⟩ | ⟨hw, _⟩
    ·exact hf.elim
    ·rw [if_neg (by rw [hw]; simp)]
     exact hnext _ _ _ ι rfl ((h.skip o'.dst hdst).mono fun _ hid => .inl hid)
theorem region_sound (hm : P.follows .mixedOrders = true) {id : Nat} {ops : Array Oper} (hreg : regOk nt ops = true) (hap : apartAll ops = true) {Q : Exit → Act → World → Prop} {K : St → Prop}
  (h : Rel w0 nA nt M G ι0 (fun id => id < S.n) w S ι a) (hK : opsD P sg ops S.n ops.toList 0 S [] fun S' L => clearAll ops L ∧ K S')
  (hQ : ∀ S' a' w' ι', K S' → S'.n = S.n → Rel w0 nA nt M G ι0 (given S.n ops.size) w' S' ι' a' → Q .normal a' w') : (Code.region id ops true).wp P Q a w := by
 obtain ⟨outs, S', hl, hrun, hcl, hKS⟩ := opsD_run ops.toList 0 S [] (by simp) hK
 refine wp_region_any hm ?_
 simp only [Array.length_toList, List.nil_append] at hl hrun hcl
 have e : (List.range ops.size).length = ops.size := by simp
 have := any_sound (P := P) (sg := sg) (w0 := w0) (nA := nA) (M := M) (G := G) (ι0 := ι0) (Q := Q) hreg (n0 := S.n) (out := fun j => outs.getD j none) (Sf := S') ?_ (fun a' w' ι' hr => hQ S' a' w' ι' hKS (RunL.n _ _ _ hrun) hr)
  (List.range ops.size) (Array.replicate ops.size false) S a { w with drawn := w.drawn + 1 } ι (by simp) List.pairwise_lt_range ?_ (fun j hj => List.mem_range.1 hj) ?_ ?_ ((h.drawn _ (Nat.le_succ _)).mono fun id hid => .inl hid)
 ·rw [e] at this; exact this
 ·intro j i hji hi
  rcases hcl i hi j hji with hb | ⟨c1, c2⟩
  ·exact .inl hb
  ·cases hb : behind ops ops.size j i with
   | true => exact .inl rfl
   | false =>
    right
    have hL : ∀ x, x < ops.size → (outs.map lab).getD x ([], []) = lab (outs.getD x none) := fun x hx => by
     have hx' : x < outs.length := by omega
     simp [hx']
    rw [hL j (by omega), hL i hi] at c1
    rw [hL j (by omega), hL i hi] at c2
    refine ⟨fun x y hx hy => ?_, c1, c2⟩
    have h1 := List.all_eq_true.1 hap i (List.mem_range.2 hi)
    have h2 := List.all_eq_true.1 h1 j (List.mem_range.2 hji)
    simpa [hb, hx, hy] using h2
 ·intro j hj
  simp [hj]
 ·intro k hk
  have := getD_lt hk
  simp at this
  simp [this] at hk
 ·rw [List.range_eq_range']
  simpa using hrun
end
end Go.Gl
namespace Go.Gl
open Go
variable [Amb]
section
variable {P : Program} {sg : FuncId → List Bool} {w0 : World} {nA nt : Nat} {M G : Nat → Prop} {ι0 : Nat → Loc} {w : World} {S : St} {ι : Nat → Loc} {a : Act}
variable [AmbOk w0 M]
theorem puto_n {S : St} {d : Option Nat} {v : AV} : (S.puto d v).n = S.n := by cases d <;> rfl
theorem opsW_n {ops : Array Oper} {n0 : Nat} {K : St → Prop} : ∀ (os : List Oper) (i : Nat) (S : St), opsW P sg ops n0 os i S K → opsW P sg ops n0 os i S fun S' => K S' ∧ S'.n = S.n := by
 intro os
 induction os with
 | nil => intro i S h; exact ⟨h, rfl⟩
 | cons o os ih =>
  intro i S h
  simp only [opsW] at h ⊢
  have key : ∀ S1 : St, S1.n = S.n → opsW P sg ops n0 os (i + 1) S1 K → opsW P sg ops n0 os (i + 1) S1 fun S' => K S' ∧ S'.n = S.n := fun S1 e h1 => by
   have := ih (i + 1) S1 h1
   rw [e] at this
   exact this
  refine guardW_mono (fun hy => opW_mono hy fun r hr => key _ ?_ hr) (fun hn => key _ ?_ hn) h
  ·simp only [St.app, St.hws, puto_n]
  ·simp only [puto_n]
def exOf : Ex → Exit
 | .normal => .normal
 | .exit id => .exit id
 | .ret => .ret
theorem wp_sound (hm : P.follows .mixedOrders = true) : ∀ (c : Code) (Q : Ex → St → Prop) (S : St) (a : Act) (w : World) (ι : Nat → Loc), Gl.wp P sg nt c Q S → Rel w0 nA nt M G ι0 (fun id => id < S.n) w S ι a →
  c.wp P (fun e a' w' => ∃ ex S' ι', e = exOf ex ∧ Q ex S' ∧ Rel w0 nA nt M G ι0 (fun id => id < S'.n) w' S' ι' a') a w := by
 intro c
 induction c with
 | skip => intro Q S a w ι hw h; exact wp_skip ⟨.normal, S, ι, rfl, hw, h⟩
 | exit id => intro Q S a w ι hw h; exact wp_exit ⟨.exit id, S, ι, rfl, hw, h⟩
 | ret => intro Q S a w ι hw h; exact wp_ret ⟨.ret, S, ι, rfl, hw, h⟩
 | seq x y ihx ihy =>
  intro Q S a w ι hw h
  simp only [Gl.wp] at hw
  refine wp_seq (wp_mono (ihx _ S a w ι hw h) ?_)
  rintro e a' w' ⟨ex, S', ι', rfl, hq, h'⟩
  cases ex with
  | normal => exact ihy Q S' a' w' ι' hq h'
  | exit id => exact ⟨_, S', ι', rfl, hq, h'⟩
  | ret => exact ⟨_, S', ι', rfl, hq, h'⟩
 | cond c x y ihx ihy =>
  intro Q S a w ι hw h
  simp only [Gl.wp] at hw
  split at hw
  ·rename_i t e
   have hc := h.opd c
   rw [e] at hc
   have hc := rep_bool hc
   cases t
   ·exact wp_cond_false hc (ihy Q S a w ι (hw.2 rfl) h)
   ·exact wp_cond_true hc (ihx Q S a w ι (hw.1 rfl) h)
  ·exact hw.elim
 | block id c ih =>
  intro Q S a w ι hw h
  simp only [Gl.wp] at hw
  refine wp_block (wp_mono (ih _ S a w ι hw h) ?_)
  rintro e a' w' ⟨ex, S', ι', rfl, hq, h'⟩
  cases ex with
  | normal => exact ⟨.normal, S', ι', rfl, hq, h'⟩
  | exit j =>
   simp only at hq
   simp only [exOf, Exit.inBlock]
   by_cases hj : j = id
   ·simp only [hj, if_true] at hq ⊢
    exact ⟨.normal, S', ι', rfl, hq, h'⟩
   ·simp only [hj, if_false] at hq ⊢
    exact ⟨.exit j, S', ι', rfl, hq, h'⟩
  | ret => exact ⟨.ret, S', ι', rfl, hq, h'⟩
 | loop c ih =>
  intro Q S a w ι hw h
  simp only [Gl.wp] at hw
  obtain ⟨I, ⟨n, hn⟩, hstep⟩ := hw
  -- the measure is carried in the invariant
  have key : ∀ n, ∀ S a w ι, I n S → Rel w0 nA nt M G ι0 (fun id => id < S.n) w S ι a → ∀ (b : Frame) (k : List Item) (cs : List Frame),
    ∃ e a' w', (∃ ex S' ι', e = exOf ex ∧ Q ex S' ∧ Rel w0 nA nt M G ι0 (fun id => id < S'.n) w' S' ι' a') ∧ Arrives P (lone (b.at a (.code c :: .inLoop c :: k)) cs w) b k cs e a' w' := by
   intro n
   induction n using Nat.strongRecOn with
   | _ n ihn =>
    intro S a w ι hI h b k cs
    obtain ⟨e, a₁, w₁, ⟨ex, S1, ι1, rfl, hq, h1⟩, harr⟩ := ih _ S a w ι (hstep n S hI) h b (.inLoop c :: k) cs
    cases ex with
    | normal =>
     obtain ⟨m, hmn, hI'⟩ := hq
     obtain ⟨e₂, a₂, w₂, hq₂, harr₂⟩ := ihn m hmn S1 a₁ w₁ ι1 hI' h1 b k cs
     exact ⟨e₂, a₂, w₂, hq₂, .of_steps (Steps.trans harr (.one step_inLoop)) harr₂⟩
    | exit id => exact ⟨_, a₁, w₁, ⟨.exit id, S1, ι1, rfl, hq, h1⟩, .pass (x := .inLoop c) rfl (fun _ _ => .inl (by simp [exOf])) harr⟩
    | ret => exact ⟨_, a₁, w₁, ⟨.ret, S1, ι1, rfl, hq, h1⟩, .pass (x := .inLoop c) rfl (fun _ _ => .inl (by simp [exOf])) harr⟩
  intro b k cs
  obtain ⟨e, a', w', hq, harr⟩ := key n S a w ι hn h b k cs
  exact ⟨e, a', w', hq, .of_steps (.one step_loop) harr⟩
 | region id ops d =>
  intro Q S a w ι hw h
  cases d with
  | false =>
   simp only [Gl.wp] at hw
   obtain ⟨hreg, hw⟩ := hw
   have hw2 := opsW_n ops.toList 0 S hw
   refine wp_region ?_
   have hs := opsW_sound (P := P) (sg := sg) (w0 := w0) (nA := nA) (M := M) (G := G) (ι0 := ι0) hreg S.n ops.toList 0 S a w ι rfl (Nat.zero_le _) (h.mono fun i hi => by simp only [given, num]; omega) hw2
    (Q := fun e a' w' => ∃ ex S' ι', e = exOf ex ∧ Q ex S' ∧ Rel w0 nA nt M G ι0 (fun id => id < S'.n) w' S' ι' a') (fun S' a' w' ι' hk h' => by
     obtain ⟨hk1, hk2⟩ := hk
     refine ⟨.normal, _, ι', rfl, hk1, ?_⟩
     have h2 := h'.nx (256 * ops.size)
     refine h2.mono fun i hi => ?_
     simp only [given, num] at hi
     simp only [St.nx, hk2]; omega)
   rw [List.range_eq_range']
   simpa using hs
  | true =>
   simp only [Gl.wp] at hw
   obtain ⟨hreg, hap, hw⟩ := hw
   refine region_sound hm hreg hap h hw fun S' a' w' ι' hk hn h' => ⟨.normal, _, ι', rfl, hk, ?_⟩
   refine (h'.nx (256 * ops.size)).mono fun i hi => ?_
   simp only [given, num] at hi
   simp only [St.nx, hn]; omega
 | rangeFunc => intro Q S a w ι hw; simp only [Gl.wp] at hw
 | scope => intro Q S a w ι hw; simp only [Gl.wp] at hw
 | label => intro Q S a w ι hw; simp only [Gl.wp] at hw
 | goto => intro Q S a w ι hw; simp only [Gl.wp] at hw
 | refuse => intro Q S a w ι hw; simp only [Gl.wp] at hw
end
end Go.Gl
namespace Go.Gl
open Go
variable [Amb]
/-- The state at a call's beginning. -/
def entry (as : List Arg) : St := { e := fun t => (argAVs 0 as).getD t (.p .any), h := argH as, n := as.length }
/-- Which part of a block a result is: from a cell on; a row; the rows that some cells name; a part that is handed back to be read alone. -/
inductive Pl where
 | o (off : Nat)
 | i (r off : Nat)
 | d (off : Nat) (sel : List (Option Nat))
 | n (r : Option Nat)
def Pl.row : Pl → Option Nat
 | .i r _ => some r
 | .n r => r
 | _ => none
def Pl.loc (l : Loc) : Pl → Loc
 | .o off => ⟨l.B, l.off + off, l.cap - off, 0, noInn⟩
 | .i r off => ⟨(l.sub r).B, (l.sub r).off + off, (l.sub r).cap - off, 0, noInn⟩
 | .d off sel => ⟨l.B, l.off + off, l.cap - off, sel.length, fun i => match sel[i]? with | some (some r) => l.inn r | _ => (0, 0, 0)⟩
 | .n _ => ⟨0, 0, 0, 0, noInn⟩
/-- Two results out of parts that do not meet. -/
def Dj (p q : Nat × Nat × Pl) : Prop := p.2.1 ≠ q.2.1 ∨ (p.2.2.row ≠ none ∧ q.2.2.row ≠ none ∧ p.2.2.row ≠ q.2.2.row)
/-- The rows that cells name, each once. -/
def selD (rs : List (Option (List PV))) : List DC → Option (List (Option Nat) × List (List PV))
 | [] => some ([], [])
 | .row r :: xs => match rs[r]?, selD rs xs with
  | some (some c), some (s, l) => some (some r :: s, c :: l)
  | _, _ => none
 | .v (.sl .own []) :: xs => match selD rs xs with
  | some (s, l) => some (none :: s, [] :: l)
  | _ => none
 | _ :: _ => none
/-- What a cell tells a reader for good. -/
def DC.fz (rs : List (Option (List PV))) : DC → PV
 | .v x => x.cell
 | .row r => match rs[r]? with
  | some (some c) => .sl .fr c
  | _ => .any
 | .self _ => .any
/-- The value v, handed back as the result x (its own block from here on: number k); L: which block of the call's it is. -/
def fin1 (tk : Bool) (h : Nat → Blk) (k : Nat) (v : AV) (x : PV) (K : List (Nat × Nat × Pl) → Prop) : Prop :=
 match x with
 | .sl .own xs => match v with
  | .ref id off len => match h id with
   | .live m c => off + len ≤ c.length ∧ (m = true → tk = true) ∧ (c.drop off).take len = xs ∧ K [(k, id, .o off)]
   | _ => False
  | .inn id r off len => match h id with
   | .deep m _ rs => (match rs[r]? with
    | some (some c) => off + len ≤ c.length ∧ (m = true → tk = true) ∧ (c.drop off).take len = xs ∧ K [(k, id, .i r off)]
    | _ => False)
   | _ => False
  | .p (.sl .own _) => xs = [] ∧ K []
  | _ => False
 | .dl rows => match v with
  | .ref id off len => match h id with
   | .deep m cs rs => off + len ≤ cs.length ∧ (m = true → tk = true) ∧ ∃ sel, selD rs ((cs.drop off).take len) = some (sel, rows) ∧ (sel.filterMap _root_.id).Nodup ∧ K [(k, id, .d off sel)]
   | _ => False
  | .p (.sl .own _) => rows = [] ∧ K []
  | _ => False
 | .bx xs => match v with
  | .ptr id 0 => match h id with
   | .live m c => (m = true → tk = true) ∧ c = xs ∧ K [(k, id, .o 0)]
   | _ => False
  | _ => False
 | .sl .fr xs => match v with
  | .p (.sl .fr ys) => ys = xs ∧ K []
  | .p (.sl .own _) => xs = [] ∧ K []
  | .ref id off len => match h id with
   | .froz false c => off + len ≤ c.length ∧ (c.drop off).take len = xs ∧ K []
   | .live false c => off + len ≤ c.length ∧ (c.drop off).take len = xs ∧ K [(k, id, .n none)]
   | .deep false cs rs => off + len ≤ cs.length ∧ ((cs.drop off).take len).map (DC.fz rs) = xs ∧ K [(k, id, .n none)]
   | _ => False
  | .inn id r off len => match h id with
   | .deep false _ rs => (match rs[r]? with
    | some (some c) => off + len ≤ c.length ∧ (c.drop off).take len = xs ∧ K [(k, id, .n (some r))]
    | _ => False)
   | _ => False
  | _ => False
 | .agg _ => False
 | x => v = .p x ∧ K []
def finL (tk : Bool) (h : Nat → Blk) : Nat → List AV → List PV → (List (Nat × Nat × Pl) → Prop) → Prop
 | _, [], [], K => K []
 | k, v :: vs, x :: xs, K => fin1 tk h k v x fun L => finL tk h (k + 1) vs xs fun L' => K (L ++ L')
 | _, _, _, _ => False
def fin (tk : Bool) (h : Nat → Blk) (k : Nat) (v : AV) (x : PV) (K : List (Nat × Nat × Pl) → Prop) : Prop :=
 match x with
 | .agg xs => match v with
  | .agg vs => finL tk h (k + 1) vs xs K
  | .p (.agg ys) => finL tk h (k + 1) (ys.map .p) xs K
  | _ => False
 | x => fin1 tk h k v x K
def fins (tk : Bool) (h : Nat → Blk) : Nat → List AV → List PV → (List (Nat × Nat × Pl) → Prop) → Prop
 | _, [], [], K => K []
 | k, v :: vs, x :: xs, K => fin tk h k v x fun L => fins tk h (k + 16) vs xs fun L' => K (L ++ L')
 | _, _, _, _ => False
/-- The end of a call: its results, and the memory that was lent. -/
def Fin (tk : Bool) (S : St) (as : List Arg) (outs : List (Option (List PV))) (vs : List AV) (res : List PV) : Prop :=
 fins tk S.h as.length vs res fun L => L.Pairwise Dj ∧ ∀ j, j < as.length → match as[j]?, outs[j]? with
  | some (.mu _ _), some (some c) => S.h j = mkB true c ∧ j ∉ L.map fun p => p.2.1
  | _, _ => True
/-- Where the results lie. -/
def locOf (ι : Nat → Loc) (n : Nat) (L : List (Nat × Nat × Pl)) (i : Nat) : Loc :=
 if i < n then ι i else match L.find? (fun p => p.1 == i) with
  | some (_, id, pl) => pl.loc (ι id)
  | none => ⟨0, 0, 0, 0, noInn⟩
/-- A setting of a result, and the block that it comes from. -/
def From (tk : Bool) (h : Nat → Blk) (L : List (Nat × Nat × Pl)) (p : Nat × Blk) : Prop :=
 (∃ id off len m c, (p.1, id, .o off) ∈ L ∧ h id = .live m c ∧ off + len ≤ c.length ∧ (m = true → tk = true) ∧ p.2 = .live tk ((c.drop off).take len)) ∨
 (∃ id r off len m cs rs c, (p.1, id, .i r off) ∈ L ∧ h id = .deep m cs rs ∧ rs[r]? = some (some c) ∧ off + len ≤ c.length ∧ (m = true → tk = true) ∧ p.2 = .live tk ((c.drop off).take len)) ∨
 (∃ id off len m cs rs sel rows, (p.1, id, .d off sel) ∈ L ∧ h id = .deep m cs rs ∧ off + len ≤ cs.length ∧ (m = true → tk = true) ∧ selD rs ((cs.drop off).take len) = some (sel, rows) ∧ (sel.filterMap _root_.id).Nodup ∧ p.2 = .deep tk (canon rows.length) (rows.map some)) ∨
 ((p.2 = .live tk [] ∨ p.2 = .deep tk [] []) ∧ ∀ q ∈ L, q.1 ≠ p.1)
section
variable {P : Program} {sg : FuncId → List Bool} {w0 : World} {nA nt : Nat} {M G : Nat → Prop} {ι0 : Nat → Loc} {A : Nat → Prop} {w : World} {S : St} {ι : Nat → Loc} {a : Act}
variable [AmbOk w0 M]
/-- What is told of a value, told again where fewer blocks are held. -/
def TellsA (w : World) (h : Nat → Blk) (ι : Nat → Loc) (z : Nat) (M G : Nat → Prop) : Prop := HeapOk w z M G h ι
/-- What a result that is read alone is not part of. -/
def NotIn (h : Nat → Blk) (ι : Nat → Loc) (F' : Nat → Prop) (L : List (Nat × Nat × Pl)) : Prop :=
 ∀ k id r, (k, id, .n r) ∈ L → ∀ B, F' B → match r with
  | none => ¬ owns (h id) (ι id) B
  | some r => ∀ m cs rs c, h id = .deep m cs rs → rs[r]? = some (some c) → ((ι id).sub r).cap ≠ 0 → ((ι id).sub r).B ≠ B
theorem fin1_sound {tk : Bool} {h : Nat → Blk} {k : Nat} {v : AV} {x : PV} {K : List (Nat × Nat × Pl) → Prop} (hK : fin1 tk h k v x K) :
  ∃ L, K L ∧ (∀ p ∈ L, p.1 = k) ∧ L.length ≤ 1 ∧ (∀ p ∈ impW1 tk k x, From tk h L p) ∧
   ∀ {w : World} {z : Nat} {M G F' : Nat → Prop} {ι ι' : Nat → Loc} {val : Value}, HeapOk w z M G h ι → (∀ B, F' B → Held h ι B) → (∀ B, z ≤ B → G B) → NotIn h ι F' L → (∀ p ∈ L, ι' p.1 = p.2.2.loc (ι p.2.1)) → (L = [] → (ι' k).cap = 0) → RepA w (Held h ι) G ι v val → RepA w F' G ι' (imp1 k x) val := by
 have down : ∀ {w : World} {z : Nat} {M G F' : Nat → Prop} {ι : Nat → Loc} {y : PV} {val : Value}, HeapOk w z M G h ι → (∀ B, F' B → Held h ι B) → RepP w (Held h ι) G y val → RepP w F' G y val := fun _ hF hy =>
  RepP.tr (fun _ _ _ hN hv => ⟨hv, fun h' => hN (hF _ h')⟩) (fun _ _ _ h => h) _ _ hy
 have downC : ∀ {w : World} {z : Nat} {M G F' : Nat → Prop} {ι : Nat → Loc} {B o : Nat} {ys : List PV}, HeapOk w z M G h ι → (∀ B, F' B → Held h ι B) → RepC w (Held h ι) G B o ys → RepC w F' G B o ys := fun _ hF hy =>
  RepC.tr (fun _ _ _ hN hv => ⟨hv, fun h' => hN (hF _ h')⟩) (fun _ _ _ h => h) _ _ _ (fun _ _ hv => hv) hy
 have scalar : ∀ {y : PV}, v = .p y → K [] → (∀ k, imp1 k y = .p y) → (∀ m k, impW1 m k y = []) → ∃ L, K L ∧ (∀ p ∈ L, p.1 = k) ∧ L.length ≤ 1 ∧ (∀ p ∈ impW1 tk k y, From tk h L p) ∧
   ∀ {w : World} {z : Nat} {M G F' : Nat → Prop} {ι ι' : Nat → Loc} {val : Value}, HeapOk w z M G h ι → (∀ B, F' B → Held h ι B) → (∀ B, z ≤ B → G B) → NotIn h ι F' L → (∀ p ∈ L, ι' p.1 = p.2.2.loc (ι p.2.1)) → (L = [] → (ι' k).cap = 0) → RepA w (Held h ι) G ι v val → RepA w F' G ι' (imp1 k y) val := by
  intro y hv hk e1 e2
  subst hv
  refine ⟨[], hk, fun p hp => by simp at hp, by simp, fun p hp => by rw [e2] at hp; simp at hp, ?_⟩
  intro w z M G F' ι ι' val ok hF _ _ _ _ hr
  rw [e1]
  simp only [RepA] at hr ⊢
  exact down ok hF hr
 cases x with
 | sl o xs =>
  cases o with
  | ro => exact scalar hK.1 hK.2 (fun _ => rfl) fun _ _ => rfl
  | fr =>
   simp only [fin1] at hK
   split at hK
   ·rename_i ys
    obtain ⟨rfl, hk⟩ := hK
    exact scalar rfl hk (fun _ => rfl) fun _ _ => rfl
   ·rename_i ys
    obtain ⟨rfl, hk⟩ := hK
    refine ⟨[], hk, fun p hp => by simp at hp, by simp, fun p hp => by simp [impW1] at hp, ?_⟩
    intro w z M G F' ι ι' val ok hF _ _ _ _ hr
    obtain ⟨ad, cap, rfl, _, _, ho, _⟩ := rep_sl hr
    obtain ⟨rfl, rfl, rfl⟩ := ho rfl
    simp only [imp1, RepA, RepP]
    exact ⟨none, 0, rfl, by simp, by simp, by simp, .inl trivial⟩
   ·rename_i id off len
    split at hK
    ·rename_i c hb
     obtain ⟨hle, rfl, hk⟩ := hK
     refine ⟨[], hk, fun p hp => by simp at hp, by simp, fun p hp => by simp [impW1] at hp, ?_⟩
     intro w z M G F' ι ι' val ok hF _ _ _ _ hr
     simp only [imp1]
     have := ref_told (h' := h) ok (Frz.refl h) hb hle hr
     simp only [RepA]
     exact down ok hF this
    ·rename_i c hb
     obtain ⟨hle, rfl, hk⟩ := hK
     refine ⟨_, hk, fun p hp => by simp at hp; rw [hp], by simp, fun p hp => by simp [impW1] at hp, ?_⟩
     intro w z M G F' ι ι' val ok hF hG hN _ _ hr
     obtain ⟨ad, cap, rfl, h1, h2, h3, h4⟩ := rep_ref hr
     have hlen : ((c.drop off).take len).length = len := by simp; omega
     simp only [imp1, RepA, RepP]
     refine ⟨ad, cap, by rw [hlen], by omega, by omega, (by intro e; cases e), ?_⟩
     by_cases h0 : len = 0
     ·left; exact List.eq_nil_of_length_eq_zero (by omega)
     ·right
      rcases h4 with h4 | rfl
      ·omega
      ·obtain ⟨g1, _, g3⟩ := ok.live id false c hb
       have hcap : (ι id).cap ≠ 0 := by omega
       rcases g3 with g3 | ⟨_, _, g⟩
       ·exact absurd g3 hcap
       ·refine ⟨_, _, rfl, fun hB => hN k id none (by simp) _ hB (owns_live hb hcap), fun _ => ?_, downC ok hF (RepC_take (RepC_drop (ok.cells (.inl ⟨false, hb⟩) (by intro e; subst e; simp at hle; omega)) off) len)⟩
        rcases g with ⟨_, g⟩ | ⟨g, _⟩
        ·exact g
        ·cases g
    ·rename_i cs rs hb
     obtain ⟨hle, rfl, hk⟩ := hK
     refine ⟨_, hk, fun p hp => by simp at hp; rw [hp], by simp, fun p hp => by simp [impW1] at hp, ?_⟩
     intro w z M G F' ι ι' val ok hF hG hN _ _ hr
     obtain ⟨ad, cap, rfl, h1, h2, h3, h4⟩ := rep_ref hr
     have hlen : (((cs.drop off).take len).map (DC.fz rs)).length = len := by simp; omega
     simp only [imp1, RepA, RepP]
     refine ⟨ad, cap, by rw [hlen], by omega, by omega, (by intro e; cases e), ?_⟩
     by_cases h0 : len = 0
     ·left; exact List.eq_nil_of_length_eq_zero (by omega)
     ·right
      rcases h4 with h4 | rfl
      ·omega
      ·obtain ⟨n1, ⟨l1, l2, l3⟩, r1, _⟩ := ok.deep hb
       have hcap : (ι id).cap ≠ 0 := by omega
       have org : ∀ {B}, Org z M G false B → G B := fun {B} g => by
        rcases g with ⟨_, g⟩ | ⟨g, _⟩
        ·exact g
        ·cases g
       rcases l3 with l3 | ⟨_, q2, q3⟩
       ·exact absurd l3 hcap
       ·refine ⟨_, _, rfl, fun hB => hN k id none (by simp) _ hB (by rw [hb]; exact .inl ⟨hcap, rfl⟩), fun _ => org q2, ?_⟩
        rw [RepC_iff]
        intro j y hj
        rw [List.getElem?_map, Option.map_eq_some_iff] at hj
        obtain ⟨x, hx, rfl⟩ := hj
        have hx' : cs[off + j]? = some x := by
         rw [List.getElem?_take] at hx
         split at hx
         ·rw [List.getElem?_drop] at hx; exact hx
         ·cases hx
        obtain ⟨u, u1, u2, u3⟩ := q3 _ x hx'
        refine ⟨u, by rw [Nat.add_assoc]; exact u1, u2, ?_⟩
        cases x with
        | v y => exact down ok hF (RepP_cell u3)
        | row r =>
         simp only [DC.fz]
         split
         ·rename_i c hr2
          obtain ⟨a, rfl, ha⟩ := u3.2 c hr2
          have hrow := r1 r c hr2
          simp only [RepP]
          refine ⟨a, _, rfl, hrow.1, hrow.2.1, (by intro e; cases e), ?_⟩
          by_cases hc : c = []
          ·exact .inl hc
          ·obtain ⟨hrc, hcap2⟩ := hrow.cells hc
           right
           rcases ha with ha | ha
           ·exact absurd ha hcap2
           ·refine ⟨_, _, ha, fun hB => hN k id none (by simp) _ hB (by rw [hb]; exact .inr ⟨r, c, hr2, hcap2, rfl⟩), fun _ => ?_, downC ok hF hrc⟩
            rcases hrow.2.2 with q | ⟨_, _, q⟩
            ·exact absurd q hcap2
            ·exact org q
         ·simp only [RepP]
        | self o => simp only [DC.fz, RepP]
    ·exact hK.elim
   ·rename_i id r off len
    split at hK
    ·rename_i cs rs hb
     split at hK
     ·rename_i c hr2
      obtain ⟨hle, rfl, hk⟩ := hK
      refine ⟨_, hk, fun p hp => by simp at hp; rw [hp], by simp, fun p hp => by simp [impW1] at hp, ?_⟩
      intro w z M G F' ι ι' val ok hF hG hN _ _ hr
      obtain ⟨_, ad, cap, rfl, h1, h2, h3, h4⟩ := rep_inn hr
      have hlen : ((c.drop off).take len).length = len := by simp; omega
      simp only [imp1, RepA, RepP]
      refine ⟨ad, cap, by rw [hlen], by omega, by omega, (by intro e; cases e), ?_⟩
      by_cases h0 : len = 0
      ·left; exact List.eq_nil_of_length_eq_zero (by omega)
      ·right
       rcases h4 with h4 | rfl
       ·omega
       ·have hrow := (ok.deepRow hb hr2).2
        obtain ⟨hrc, hcap⟩ := hrow.cells (by intro e; subst e; simp at hle; omega)
        refine ⟨_, _, rfl, fun hB => hN k id (some r) (by simp) _ hB _ _ _ _ hb hr2 hcap rfl, fun _ => ?_, downC ok hF (RepC_take (RepC_drop hrc off) len)⟩
        rcases hrow.2.2 with q | ⟨_, _, q⟩
        ·exact absurd q hcap
        ·rcases q with ⟨_, q⟩ | ⟨q, _⟩
         ·exact q
         ·cases q
     ·exact hK.elim
    ·exact hK.elim
   ·exact hK.elim
  | own =>
   simp only [fin1] at hK
   split at hK
   ·rename_i id off len
    split at hK
    ·rename_i m c hb
     obtain ⟨hle, htk, rfl, hk⟩ := hK
     refine ⟨[(k, id, .o off)], hk, fun p hp => by simp at hp; rw [hp], by simp, fun p hp => ?_, ?_⟩
     ·simp [impW1] at hp
      subst hp
      exact .inl ⟨id, off, len, m, c, by simp, hb, hle, htk, rfl⟩
     ·intro w z M G F' ι ι' val ok hF _ _ hι _ hr
      obtain ⟨ad, cap, rfl, h1, h2, h3, h4⟩ := rep_ref hr
      have e := hι (k, id, .o off) (by simp)
      have hlen : ((c.drop off).take len).length = len := by simp; omega
      simp only [imp1, RepA]
      simp only [Pl.loc] at e
      rw [e, hlen]
      refine ⟨ad, cap, rfl, h1, by simp; omega, by simp; omega, ?_⟩
      rcases h4 with h4 | h4
      ·exact .inl h4
      ·exact .inr (by simpa using h4)
    ·exact hK.elim
   ·rename_i id r off len
    split at hK
    ·rename_i m cs rs hb
     split at hK
     ·rename_i c hr2
      obtain ⟨hle, htk, rfl, hk⟩ := hK
      refine ⟨[(k, id, .i r off)], hk, fun p hp => by simp at hp; rw [hp], by simp, fun p hp => ?_, ?_⟩
      ·simp [impW1] at hp
       subst hp
       exact .inr (.inl ⟨id, r, off, len, m, cs, rs, c, by simp, hb, hr2, hle, htk, rfl⟩)
      ·intro w z M G F' ι ι' val ok hF _ _ hι _ hr
       obtain ⟨_, ad, cap, rfl, h1, h2, h3, h4⟩ := rep_inn hr
       have e := hι (k, id, .i r off) (by simp)
       have hlen : ((c.drop off).take len).length = len := by simp; omega
       simp only [imp1, RepA]
       simp only [Pl.loc] at e
       rw [e, hlen]
       refine ⟨ad, cap, rfl, h1, by simp; omega, by simp; omega, ?_⟩
       rcases h4 with h4 | h4
       ·exact .inl h4
       ·exact .inr (by simpa using h4)
     ·exact hK.elim
    ·exact hK.elim
   ·rename_i ys
    obtain ⟨rfl, hk⟩ := hK
    refine ⟨[], hk, fun p hp => by simp at hp, by simp, fun p hp => ?_, ?_⟩
    ·simp [impW1] at hp
     subst hp
     exact .inr (.inr (.inr ⟨.inl rfl, fun q hq => by simp at hq⟩))
    ·intro w z M G F' ι ι' val ok hF _ _ _ h0 hr
     obtain ⟨ad, cap, rfl, _, _, ho, _⟩ := rep_sl hr
     obtain ⟨rfl, rfl, rfl⟩ := ho rfl
     have := h0 rfl
     simp only [imp1, RepA]
     exact ⟨none, 0, rfl, by simp, by simp [this], by omega, .inl rfl⟩
   ·exact hK.elim
 | dl rows =>
  simp only [fin1] at hK
  split at hK
  ·rename_i id off len
   split at hK
   ·rename_i m cs rs hb
    obtain ⟨hle, htk, sel, hsel, hnd, hk⟩ := hK
    have hlen := selD_len hsel
    refine ⟨[(k, id, .d off sel)], hk, fun p hp => by simp at hp; rw [hp], by simp, fun p hp => ?_, ?_⟩
    ·simp [impW1] at hp
     subst hp
     exact .inr (.inr (.inl ⟨id, off, len, m, cs, rs, sel, rows, by simp, hb, hle, htk, hsel, hnd, rfl⟩))
    ·intro w z M G F' ι ι' val ok hF _ _ hι _ hr
     obtain ⟨ad, cap, rfl, h1, h2, h3, h4⟩ := rep_ref hr
     have e := hι (k, id, .d off sel) (by simp)
     have hl : len = rows.length := by rw [hlen.2]; simp; omega
     simp only [imp1, RepA]
     simp only [Pl.loc] at e
     rw [e]
     refine ⟨ad, cap, by rw [hl], by omega, by simp; omega, by simp; omega, ?_⟩
     rcases h4 with h4 | h4
     ·exact .inl h4
     ·exact .inr (by simpa using h4)
   ·exact hK.elim
  ·rename_i ys
   obtain ⟨rfl, hk⟩ := hK
   refine ⟨[], hk, fun p hp => by simp at hp, by simp, fun p hp => ?_, ?_⟩
   ·simp [impW1, canon] at hp
    subst hp
    exact .inr (.inr (.inr ⟨.inr rfl, fun q hq => by simp at hq⟩))
   ·intro w z M G F' ι ι' val ok hF _ _ _ h0 hr
    obtain ⟨ad, cap, rfl, _, _, ho, _⟩ := rep_sl hr
    obtain ⟨rfl, rfl, rfl⟩ := ho rfl
    have := h0 rfl
    simp only [imp1, RepA]
    exact ⟨none, 0, rfl, by simp, by simp [this], by omega, .inl rfl⟩
  ·exact hK.elim
 | bx xs =>
  simp only [fin1] at hK
  split at hK
  ·rename_i id
   split at hK
   ·rename_i m c hb
    obtain ⟨htk, rfl, hk⟩ := hK
    refine ⟨[(k, id, .o 0)], hk, fun p hp => by simp at hp; rw [hp], by simp, fun p hp => ?_, ?_⟩
    ·simp [impW1] at hp
     subst hp
     exact .inl ⟨id, 0, c.length, m, c, by simp, hb, by omega, htk, by simp⟩
    ·intro w z M G F' ι ι' val ok hF _ _ hι _ hr
     have e := hι (k, id, .o 0) (by simp)
     simp only [imp1, RepA] at hr ⊢
     simp only [Pl.loc] at e
     rw [e]
     simpa using hr
   ·exact hK.elim
  ·exact hK.elim
 | agg xs => exact hK.elim
 | int _ _ => exact scalar hK.1 hK.2 (fun _ => rfl) fun _ _ => rfl
 | bool _ => exact scalar hK.1 hK.2 (fun _ => rfl) fun _ _ => rfl
 | str _ => exact scalar hK.1 hK.2 (fun _ => rfl) fun _ _ => rfl
 | nilf => exact scalar hK.1 hK.2 (fun _ => rfl) fun _ _ => rfl
 | nl => exact scalar hK.1 hK.2 (fun _ => rfl) fun _ _ => rfl
 | any => exact scalar hK.1 hK.2 (fun _ => rfl) fun _ _ => rfl
 | pc _ => exact scalar hK.1 hK.2 (fun _ => rfl) fun _ _ => rfl
 | fn _ _ _ => exact scalar hK.1 hK.2 (fun _ => rfl) fun _ _ => rfl
 where
 selD_len {rs : List (Option (List PV))} : ∀ {xs : List DC} {sel : List (Option Nat)} {rows : List (List PV)}, selD rs xs = some (sel, rows) → sel.length = xs.length ∧ rows.length = xs.length
  | [], _, _, h => by simp only [selD, Option.some.injEq, Prod.mk.injEq] at h; obtain ⟨rfl, rfl⟩ := h; exact ⟨rfl, rfl⟩
  | x :: xs, sel, rows, h => by
   unfold selD at h
   split at h
   ·rename_i heq; cases heq
   ·rename_i r xs' heq
    cases heq
    split at h
    ·rename_i c s l h1 h2
     cases h
     obtain ⟨q1, q2⟩ := selD_len h2
     exact ⟨by simp [q1], by simp [q2]⟩
    ·cases h
   ·rename_i xs' heq
    cases heq
    split at h
    ·rename_i s l h2
     cases h
     obtain ⟨q1, q2⟩ := selD_len h2
     exact ⟨by simp [q1], by simp [q2]⟩
    ·cases h
   ·cases h
theorem From.left {tk : Bool} {h : Nat → Blk} {L L' : List (Nat × Nat × Pl)} {p : Nat × Blk} (f : From tk h L p) (hn : ∀ q ∈ L', q.1 ≠ p.1) : From tk h (L ++ L') p := by
 rcases f with ⟨id, off, len, m, c, h1, h2⟩ | ⟨id, r, off, len, m, cs, rs, c, h1, h2⟩ | ⟨id, off, len, m, cs, rs, sel, rows, h1, h2⟩ | ⟨h1, h2⟩
 ·exact .inl ⟨id, off, len, m, c, List.mem_append.2 (.inl h1), h2⟩
 ·exact .inr (.inl ⟨id, r, off, len, m, cs, rs, c, List.mem_append.2 (.inl h1), h2⟩)
 ·exact .inr (.inr (.inl ⟨id, off, len, m, cs, rs, sel, rows, List.mem_append.2 (.inl h1), h2⟩))
 ·refine .inr (.inr (.inr ⟨h1, fun q hq => ?_⟩))
  rcases List.mem_append.1 hq with hq | hq
  ·exact h2 q hq
  ·exact hn q hq
theorem From.right {tk : Bool} {h : Nat → Blk} {L L' : List (Nat × Nat × Pl)} {p : Nat × Blk} (f : From tk h L' p) (hn : ∀ q ∈ L, q.1 ≠ p.1) : From tk h (L ++ L') p := by
 rcases f with ⟨id, off, len, m, c, h1, h2⟩ | ⟨id, r, off, len, m, cs, rs, c, h1, h2⟩ | ⟨id, off, len, m, cs, rs, sel, rows, h1, h2⟩ | ⟨h1, h2⟩
 ·exact .inl ⟨id, off, len, m, c, List.mem_append.2 (.inr h1), h2⟩
 ·exact .inr (.inl ⟨id, r, off, len, m, cs, rs, c, List.mem_append.2 (.inr h1), h2⟩)
 ·exact .inr (.inr (.inl ⟨id, off, len, m, cs, rs, sel, rows, List.mem_append.2 (.inr h1), h2⟩))
 ·refine .inr (.inr (.inr ⟨h1, fun q hq => ?_⟩))
  rcases List.mem_append.1 hq with hq | hq
  ·exact hn q hq
  ·exact h2 q hq
theorem NotIn.left {h : Nat → Blk} {ι : Nat → Loc} {F' : Nat → Prop} {L L' : List (Nat × Nat × Pl)} (n : NotIn h ι F' (L ++ L')) : NotIn h ι F' L := fun k id r hm => n k id r (List.mem_append.2 (.inl hm))
theorem NotIn.right {h : Nat → Blk} {ι : Nat → Loc} {F' : Nat → Prop} {L L' : List (Nat × Nat × Pl)} (n : NotIn h ι F' (L ++ L')) : NotIn h ι F' L' := fun k id r hm => n k id r (List.mem_append.2 (.inr hm))
theorem impW1_at {m : Bool} {k : Nat} {x : PV} : ∀ p ∈ impW1 m k x, p.1 = k := by
 unfold impW1; split <;> simp
theorem impWL_at {m : Bool} : ∀ {xs : List PV} {k : Nat}, ∀ p ∈ impWL m k xs, k ≤ p.1 ∧ p.1 < k + xs.length
 | [], k, p, hp => by simp [impWL] at hp
 | x :: xs, k, p, hp => by
  simp only [impWL, List.mem_append] at hp
  rcases hp with hp | hp
  ·have := impW1_at p hp; simp; omega
  ·have := impWL_at p hp; simp; omega
/-- What the settings and the places owe each other, for numbers from k up to k'. -/
structure Placed (tk : Bool) (h : Nat → Blk) (k k' : Nat) (ws : List (Nat × Blk)) (L : List (Nat × Nat × Pl)) : Prop where
 lo : ∀ p ∈ L, k ≤ p.1 ∧ p.1 < k'
 nums : (L.map (·.1)).Nodup
 wsl : ∀ p ∈ ws, k ≤ p.1 ∧ p.1 < k'
 src : ∀ p ∈ ws, From tk h L p
theorem Placed.append {tk : Bool} {h : Nat → Blk} {k k' k'' : Nat} {ws ws' : List (Nat × Blk)} {L L' : List (Nat × Nat × Pl)} (p : Placed tk h k k' ws L) (q : Placed tk h k' k'' ws' L') (h1 : k ≤ k') (h2 : k' ≤ k'') : Placed tk h k k'' (ws ++ ws') (L ++ L') := by
 refine ⟨fun x hx => ?_, ?_, fun x hx => ?_, fun x hx => ?_⟩
 ·rcases List.mem_append.1 hx with hx | hx
  ·have := p.lo x hx; omega
  ·have := q.lo x hx; omega
 ·rw [List.map_append, List.nodup_append]
  refine ⟨p.nums, q.nums, fun x hx y hy e => ?_⟩
  obtain ⟨x', hx', rfl⟩ := List.mem_map.1 hx
  obtain ⟨y', hy', rfl⟩ := List.mem_map.1 hy
  have := p.lo x' hx'; have := q.lo y' hy'; omega
 ·rcases List.mem_append.1 hx with hx | hx
  ·have := p.wsl x hx; omega
  ·have := q.wsl x hx; omega
 ·rcases List.mem_append.1 hx with hx | hx
  ·exact (p.src x hx).left fun y hy e => by have := q.lo y hy; have := p.wsl x hx; omega
  ·exact (q.src x hx).right fun y hy e => by have := p.lo y hy; have := q.wsl x hx; omega
theorem fin1_placed {tk : Bool} {h : Nat → Blk} {k : Nat} {x : PV} {L : List (Nat × Nat × Pl)} (h1 : ∀ p ∈ L, p.1 = k) (h2 : L.length ≤ 1) (h3 : ∀ p ∈ impW1 tk k x, From tk h L p) : Placed tk h k (k + 1) (impW1 tk k x) L := by
 refine ⟨fun p hp => by have := h1 p hp; omega, ?_, fun p hp => by have := impW1_at p hp; omega, h3⟩
 match L, h2 with
 | [], _ => simp
 | [p], _ => simp
/-- The places fit the settings, where they are asked. -/
def Fits (ι ι' : Nat → Loc) (k k' : Nat) (L : List (Nat × Nat × Pl)) : Prop :=
 (∀ p ∈ L, ι' p.1 = p.2.2.loc (ι p.2.1)) ∧ ∀ i, k ≤ i → i < k' → (∀ p ∈ L, p.1 ≠ i) → (ι' i).cap = 0
theorem Fits.left {ι ι' : Nat → Loc} {k k1 k' : Nat} {L L' : List (Nat × Nat × Pl)} (h : Fits ι ι' k k' (L ++ L')) (hk : k1 ≤ k') (hL : ∀ p ∈ L', k1 ≤ p.1) : Fits ι ι' k k1 L :=
 ⟨fun p hp => h.1 p (List.mem_append.2 (.inl hp)), fun i h1 h2 h3 => h.2 i h1 (by omega) fun p hp => by
  rcases List.mem_append.1 hp with hp | hp
  ·exact h3 p hp
  ·have := hL p hp; omega⟩
theorem Fits.right {ι ι' : Nat → Loc} {k k1 k' : Nat} {L L' : List (Nat × Nat × Pl)} (h : Fits ι ι' k k' (L ++ L')) (hk : k ≤ k1) (hL : ∀ p ∈ L, p.1 < k1) : Fits ι ι' k1 k' L' :=
 ⟨fun p hp => h.1 p (List.mem_append.2 (.inr hp)), fun i h1 h2 h3 => h.2 i (by omega) h2 fun p hp => by
  rcases List.mem_append.1 hp with hp | hp
  ·have := hL p hp; omega
  ·exact h3 p hp⟩
theorem finL_sound {tk : Bool} {h : Nat → Blk} : ∀ {xs : List PV} {vs : List AV} {k : Nat} {K : List (Nat × Nat × Pl) → Prop}, finL tk h k vs xs K →
  ∃ L, K L ∧ Placed tk h k (k + xs.length) (impWL tk k xs) L ∧
   ∀ {w : World} {z : Nat} {M G F' : Nat → Prop} {ι ι' : Nat → Loc} {vals : List Value}, HeapOk w z M G h ι → (∀ B, F' B → Held h ι B) → (∀ B, z ≤ B → G B) → NotIn h ι F' L → Fits ι ι' k (k + xs.length) L → RepAL w (Held h ι) G ι vs vals → RepAL w F' G ι' (impL k xs) vals
 | [], [], k, K, hK => ⟨[], hK, ⟨fun p hp => by simp at hp, by simp, fun p hp => by simp [impWL] at hp, fun p hp => by simp [impWL] at hp⟩, fun _ _ _ _ _ hr => by simpa only [impL, RepAL] using hr⟩
 | x :: xs, v :: vs, k, K, hK => by
  simp only [finL] at hK
  obtain ⟨L, hK, a1, a2, a3, a4⟩ := fin1_sound hK
  obtain ⟨L', hK, b1, b2⟩ := finL_sound hK
  have p1 := fin1_placed a1 a2 a3
  refine ⟨L ++ L', hK, ?_, ?_⟩
  ·have := p1.append b1 (by omega) (by omega)
   rw [show k + 1 + xs.length = k + (x :: xs).length from by simp; omega] at this
   exact this
  ·intro w z M G F' ι ι' vals ok hF hG hN hf hr
   rw [show k + (x :: xs).length = k + 1 + xs.length from by simp; omega] at hf
   simp only [RepAL] at hr
   obtain ⟨u, us, rfl, h1, h2⟩ := hr
   simp only [impL, RepAL]
   refine ⟨u, us, rfl, a4 ok hF hG hN.left (fun p hp => hf.1 p (List.mem_append.2 (.inl hp))) (fun e => ?_) h1, b2 ok hF hG hN.right (hf.right (by omega) fun p hp => by have := a1 p hp; omega) h2⟩
   refine hf.2 k (Nat.le_refl _) (by omega) fun p hp => ?_
   rcases List.mem_append.1 hp with hp | hp
   ·rw [e] at hp; simp at hp
   ·have := b1.lo p hp; omega
 | [], _ :: _, _, _, hK => by simp only [finL] at hK
 | _ :: _, [], _, _, hK => by simp only [finL] at hK
theorem fin_sound {tk : Bool} {h : Nat → Blk} {k : Nat} {v : AV} {x : PV} {K : List (Nat × Nat × Pl) → Prop} (hs : smallP x = true) (hK : fin tk h k v x K) :
  ∃ L, K L ∧ Placed tk h k (k + 16) (impW tk k x) L ∧
   ∀ {w : World} {z : Nat} {M G F' : Nat → Prop} {ι ι' : Nat → Loc} {val : Value}, HeapOk w z M G h ι → (∀ B, F' B → Held h ι B) → (∀ B, z ≤ B → G B) → NotIn h ι F' L → Fits ι ι' k (k + 16) L → RepA w (Held h ι) G ι v val → RepA w F' G ι' (imp k x) val := by
 have wide : ∀ {k1 k2 k3 : Nat} {ws L}, Placed tk h k1 k2 ws L → k ≤ k1 → k2 ≤ k3 → Placed tk h k k3 ws L := fun p h1 h2 =>
  ⟨fun q hq => by have := p.lo q hq; omega, p.nums, fun q hq => by have := p.wsl q hq; omega, p.src⟩
 have one : fin1 tk h k v x K → (∀ k, imp k x = imp1 k x) → (∀ m k, impW m k x = impW1 m k x) → ∃ L, K L ∧ Placed tk h k (k + 16) (impW tk k x) L ∧
   ∀ {w : World} {z : Nat} {M G F' : Nat → Prop} {ι ι' : Nat → Loc} {val : Value}, HeapOk w z M G h ι → (∀ B, F' B → Held h ι B) → (∀ B, z ≤ B → G B) → NotIn h ι F' L → Fits ι ι' k (k + 16) L → RepA w (Held h ι) G ι v val → RepA w F' G ι' (imp k x) val := by
  intro hK e1 e2
  obtain ⟨L, hk, a1, a2, a3, a4⟩ := fin1_sound hK
  refine ⟨L, hk, by rw [e2]; exact wide (fin1_placed a1 a2 a3) (Nat.le_refl _) (by omega), ?_⟩
  intro w z M G F' ι ι' val ok hF hG hN hf hr
  rw [e1]
  refine a4 ok hF hG hN (fun p hp => hf.1 p hp) (fun e => hf.2 k (Nat.le_refl _) (by omega) fun p hp => by rw [e] at hp; simp at hp) hr
 cases x with
 | agg xs =>
  simp [smallP] at hs
  have lists : ∀ vs, finL tk h (k + 1) vs xs K → ∃ L, K L ∧ Placed tk h k (k + 16) (impW tk k (.agg xs)) L ∧
    ∀ {w : World} {z : Nat} {M G F' : Nat → Prop} {ι ι' : Nat → Loc} {vals : List Value}, HeapOk w z M G h ι → (∀ B, F' B → Held h ι B) → (∀ B, z ≤ B → G B) → NotIn h ι F' L → Fits ι ι' k (k + 16) L → RepAL w (Held h ι) G ι vs vals → RepA w F' G ι' (imp k (.agg xs)) (.agg ⟨vals⟩) := by
   intro vs hK
   obtain ⟨L, hk, a1, a2⟩ := finL_sound hK
   refine ⟨L, hk, wide a1 (by omega) (by omega), ?_⟩
   intro w z M G F' ι ι' vals ok hF hG hN hf hr
   simp only [imp, RepA]
   refine ⟨vals, rfl, a2 ok hF hG hN ⟨hf.1, fun i h1 h2 h3 => hf.2 i (by omega) (by omega) h3⟩ hr⟩
  simp only [fin] at hK
  split at hK
  ·rename_i vs
   obtain ⟨L, hk, a1, a2⟩ := lists vs hK
   refine ⟨L, hk, a1, ?_⟩
   intro w z M G F' ι ι' val ok hF hG hN hf hr
   simp only [RepA] at hr
   obtain ⟨cs, rfl, hl⟩ := hr
   exact a2 ok hF hG hN hf hl
  ·rename_i ys
   obtain ⟨L, hk, a1, a2⟩ := lists _ hK
   refine ⟨L, hk, a1, ?_⟩
   intro w z M G F' ι ι' val ok hF hG hN hf hr
   simp only [RepA, RepP] at hr
   obtain ⟨cs, rfl, hl⟩ := hr
   exact a2 ok hF hG hN hf (RepAL_p.2 hl)
  ·exact hK.elim
 | _ => exact one (by simpa only [fin] using hK) (fun _ => rfl) fun _ _ => rfl
theorem fins_sound {tk : Bool} {h : Nat → Blk} : ∀ {xs : List PV} {vs : List AV} {k : Nat} {K : List (Nat × Nat × Pl) → Prop}, xs.all smallP = true → fins tk h k vs xs K →
  ∃ L, K L ∧ Placed tk h k (k + 16 * xs.length) (impWs tk k xs) L ∧
   ∀ {w : World} {z : Nat} {M G F' : Nat → Prop} {ι ι' : Nat → Loc} {vals : List Value}, HeapOk w z M G h ι → (∀ B, F' B → Held h ι B) → (∀ B, z ≤ B → G B) → NotIn h ι F' L → Fits ι ι' k (k + 16 * xs.length) L → RepAL w (Held h ι) G ι vs vals → RepAL w F' G ι' (imps k xs) vals
 | [], [], k, K, _, hK => ⟨[], hK, ⟨fun p hp => by simp at hp, by simp, fun p hp => by simp [impWs] at hp, fun p hp => by simp [impWs] at hp⟩, fun _ _ _ _ _ hr => by simpa only [imps, RepAL] using hr⟩
 | x :: xs, v :: vs, k, K, hs, hK => by
  simp only [List.all_cons, Bool.and_eq_true] at hs
  simp only [fins] at hK
  obtain ⟨L, hK, a1, a2⟩ := fin_sound hs.1 hK
  obtain ⟨L', hK, b1, b2⟩ := fins_sound hs.2 hK
  refine ⟨L ++ L', hK, ?_, ?_⟩
  ·have := a1.append b1 (by omega) (by omega)
   rw [show k + 16 + 16 * xs.length = k + 16 * (x :: xs).length from by simp; omega] at this
   exact this
  ·intro w z M G F' ι ι' vals ok hF hG hN hf hr
   rw [show k + 16 * (x :: xs).length = k + 16 + 16 * xs.length from by simp; omega] at hf
   simp only [RepAL] at hr
   obtain ⟨u, us, rfl, h1, h2⟩ := hr
   simp only [imps, RepAL]
   exact ⟨u, us, rfl, a2 ok hF hG hN.left (hf.left (by omega) fun p hp => (b1.lo p hp).1) h1, b2 ok hF hG hN.right (hf.right (by omega) fun p hp => (a1.lo p hp).2) h2⟩
 | [], _ :: _, _, _, _, hK => by simp only [fins] at hK
 | _ :: _, [], _, _, _, hK => by simp only [fins] at hK
end
end Go.Gl
set_option linter.unusedSimpArgs false
set_option linter.unusedVariables false
namespace Go.Gl
open Go
variable [Amb]
section
variable {P : Program} {sg : FuncId → List Bool} {w0 : World} {nA nt : Nat} {M G : Nat → Prop} {ι0 : Nat → Loc} {A : Nat → Prop} {w : World} {S : St} {ι : Nat → Loc} {a : Act}
/-- What is told of a load, with the load itself. -/
theorem load_run (h : Rel w0 nA nt M G ι0 A w S ι a) {t : TypeId} {x : AV} {val : Value} {K : R → Prop} (hx : RepA w (Held S.h ι) G ι x val) (hK : loadW P t S.h x K) :
  ∃ y ad, val = .pointer (some ad) ∧ (∃ rd, K ⟨y, [], rd⟩) ∧ ∃ lv, RepA w (Held S.h ι) G ι y lv ∧ (Instr.loadAt t val).run P w = .ok lv w := by
 unfold loadW at hK
 split at hK
 ·rename_i n ht
  obtain ⟨_, hK⟩ := hK
  split at hK
  ·rename_i y ys
   simp only [RepA, RepP] at hx
   obtain ⟨B, off, hv, hF, hc⟩ := hx
   simp only [RepC] at hc
   obtain ⟨⟨v, hcell, _, hy⟩, _⟩ := hc
   exact ⟨.p y, _, hv, ⟨_, hK⟩, v, by simpa only [RepA] using hy, by rw [hv]; exact run_loadAt_one ht hcell⟩
  ·rename_i id off
   simp only [RepA] at hx
   have key : ∀ c, ((∃ m, S.h id = .live m c) ∨ ∃ m, S.h id = .froz m c) → gt c off (fun x => K ⟨.p x, [], [id]⟩) → ∃ y ad, val = .pointer (some ad) ∧ (∃ rd, K ⟨y, [], rd⟩) ∧ ∃ lv, RepA w (Held S.h ι) G ι y lv ∧ (Instr.loadAt t val).run P w = .ok lv w := by
    intro c hb hg
    obtain ⟨_, y, hy, hlt, hk⟩ := gt_spec hg
    simp only [Int.toNat_natCast] at hy hlt
    have hc := h.heap.cells hb (by intro e; subst e; simp at hlt)
    rw [RepC_iff] at hc
    obtain ⟨v, hcell, _, hy'⟩ := hc off y hy
    exact ⟨.p y, _, hx, ⟨_, hk⟩, v, by simpa only [RepA] using hy', by rw [hx]; exact run_loadAt_one ht hcell⟩
   split at hK
   ·rename_i m c hb; exact key c (.inl ⟨m, hb⟩) hK
   ·rename_i m c hb; exact key c (.inr ⟨m, hb⟩) hK
   ·rename_i m cs rs hb
    obtain ⟨_, y, hy, hlt, hk⟩ := gt_spec hK
    simp only [Int.toNat_natCast] at hy
    obtain ⟨v, hcell, _, hr⟩ := h.heap.deepCell hb hy
    exact ⟨_, _, hx, ⟨_, hk⟩, v, hr, by rw [hx]; exact run_loadAt_one ht hcell⟩
   ·exact hK.elim
  ·rename_i id r off
   simp only [RepA] at hx
   split at hK
   ·rename_i m cs rs hb
    split at hK
    ·rename_i c hr
     obtain ⟨_, y, hy, hlt, hk⟩ := gt_spec hK
     simp only [Int.toNat_natCast] at hy hlt
     obtain ⟨hc, _⟩ := (h.heap.deepRow hb hr).2.cells (by intro e; subst e; simp at hlt)
     rw [RepC_iff] at hc
     obtain ⟨v, hcell, _, hy'⟩ := hc off y hy
     exact ⟨.p y, _, hx.2, ⟨_, hk⟩, v, by simpa only [RepA] using hy', by rw [hx.2]; exact run_loadAt_one ht hcell⟩
    ·exact hK.elim
   ·exact hK.elim
  ·exact hK.elim
 ·rename_i n ht
  split at hK
  ·rename_i xs
   simp only [RepA, RepP] at hx
   obtain ⟨B, off, hv, hF, hc⟩ := hx
   obtain ⟨hle, hk⟩ := hK
   obtain ⟨cs, hl, hlen, hcells, _⟩ := RepC_list (RepC_take hc n)
   exact ⟨.p (.agg (xs.take n)), _, hv, ⟨_, hk⟩, .agg ⟨cs⟩, by simp only [RepA, RepP]; exact ⟨cs, rfl, hl⟩, by rw [hv]; exact run_loadAt_agg ht (cs := cs) (by rw [hlen]; simp; omega) hcells⟩
  ·rename_i id off
   simp only [RepA] at hx
   have key : ∀ c, ((∃ m, S.h id = .live m c) ∨ ∃ m, S.h id = .froz m c) → off + n ≤ c.length → K ⟨.p (.agg ((c.drop off).take n)), [], [id]⟩ → ∃ y ad, val = .pointer (some ad) ∧ (∃ rd, K ⟨y, [], rd⟩) ∧ ∃ lv, RepA w (Held S.h ι) G ι y lv ∧ (Instr.loadAt t val).run P w = .ok lv w := by
    intro c hb hle hk
    have hcs : ∃ cs : List Value, RepL w (Held S.h ι) G ((c.drop off).take n) cs ∧ cs.length = ((c.drop off).take n).length ∧ (∀ (j : Nat) (v : Value), cs[j]? = some v → w.cell? ⟨(ι id).B, (ι id).off + off + j, none⟩ = some v) := by
     by_cases hn : c = []
     ·subst hn
      refine ⟨[], by simp [RepL], by simp, fun j v hj => by simp at hj⟩
     ·have hc := h.heap.cells hb hn
      obtain ⟨cs, h1, h2, h3, _⟩ := RepC_list (RepC_take (RepC_drop hc off) n)
      exact ⟨cs, h1, h2, h3⟩
    obtain ⟨cs, hl, hlen, hcells⟩ := hcs
    exact ⟨.p (.agg ((c.drop off).take n)), _, hx, ⟨_, hk⟩, .agg ⟨cs⟩, by simp only [RepA, RepP]; exact ⟨cs, rfl, hl⟩, by rw [hx]; exact run_loadAt_agg ht (cs := cs) (by rw [hlen]; simp; omega) hcells⟩
   split at hK
   ·rename_i m c hb; exact key c (.inl ⟨m, hb⟩) hK.1 hK.2
   ·rename_i m c hb; exact key c (.inr ⟨m, hb⟩) hK.1 hK.2
   ·rename_i m cs rs hb
    obtain ⟨vs, hvs, hlen, hcells⟩ := h.heap.deepCells hb off n hK.1
    exact ⟨_, _, hx, ⟨_, hK.2⟩, .agg ⟨vs⟩, by simp only [RepA]; exact ⟨vs, rfl, hvs⟩, by rw [hx]; exact run_loadAt_agg ht (cs := vs) hlen hcells⟩
   ·exact hK.elim
  ·exact hK.elim
 ·exact hK.elim
/-- The results of a body: its temporaries, or what they point to. -/
def resW (P : Program) (S : St) : List ResultVar → (List AV → Prop) → Prop
 | [], K => K []
 | .tmp t :: rs, K => resW P S rs fun vs => K (S.e t :: vs)
 | .cell t ty :: rs, K => loadW P ty S.h (S.e t) fun r => resW P S rs fun vs => K (r.v :: vs)
theorem resW_tmp : ∀ {ts : List Nat} {K : List AV → Prop}, resW P S (ts.map .tmp) K = K (ts.map S.e)
 | [], _ => rfl
 | t :: ts, K => by simp only [List.map_cons, resW]; exact resW_tmp (ts := ts)
def resF (tmps : Array Value) : ResultVar → Sem Value
 | .tmp t => pure (tmps.getD t undef)
 | .cell a t => do loadVar t (← asAddr (tmps.getD a undef))
theorem resW_sound (h : Rel w0 nA nt M G ι0 A w S ι a) : ∀ (rs : List ResultVar) {K : List AV → Prop}, resW P S rs K →
  ∃ vs vals, K vs ∧ RepAL w (Held S.h ι) G ι vs vals ∧ (rs.mapM (resF a.tmps)).run P w = .ok vals w
 | [], K, hK => ⟨[], [], hK, by simp only [RepAL], rfl⟩
 | .tmp t :: rs, K, hK => by
  obtain ⟨vs, vals, hk, hr, hrun⟩ := resW_sound h rs hK
  refine ⟨_, a.tmps.getD t undef :: vals, hk, ?_, ?_⟩
  ·simp only [RepAL]; exact ⟨_, _, rfl, h.slots t, hr⟩
  ·simp only [List.mapM_cons, resF, Sem.run_bind, Sem.run_pure, Result.andThen_ok, hrun]
 | .cell t ty :: rs, K, hK => by
  simp only [resW] at hK
  obtain ⟨y, ad, hv, ⟨rd, hk⟩, lv, hlv, hl⟩ := load_run h (h.slots t) hK
  obtain ⟨vs, vals, hk, hr, hrun⟩ := resW_sound h rs hk
  refine ⟨_, lv :: vals, hk, ?_, ?_⟩
  ·simp only [RepAL]; exact ⟨_, _, rfl, hlv, hr⟩
  ·have hl2 : (loadVar ty ad).run P w = .ok lv w := by
    rw [hv] at hl
    simpa [Instr.loadAt, Instr.sureAddr] using hl
   simp only [List.mapM_cons, resF, hv, asAddr, Sem.run_bind, Sem.run_pure, Result.andThen_ok, hl2, hrun]
end
end Go.Gl
namespace Go.Gl
open Go
variable [Amb]
theorem selD_at {rs : List (Option (List PV))} : ∀ {xs : List DC} {sel : List (Option Nat)} {rows : List (List PV)}, selD rs xs = some (sel, rows) → ∀ (j : Nat) (x : DC), xs[j]? = some x →
  (∃ r c, x = .row r ∧ sel[j]? = some (some r) ∧ rows[j]? = some c ∧ rs[r]? = some (some c)) ∨ (x = .v (.sl .own []) ∧ sel[j]? = some none ∧ rows[j]? = some [])
 | [], _, _, _, j, x, hj => by simp at hj
 | y :: xs, sel, rows, h, j, x, hj => by
  unfold selD at h
  split at h
  ·rename_i heq; cases heq
  ·rename_i r xs' heq
   cases heq
   split at h
   ·rename_i c s l h1 h2
    cases h
    cases j with
    | zero => simp only [List.getElem?_cons_zero, Option.some.injEq] at hj; subst hj; exact .inl ⟨r, c, rfl, rfl, rfl, h1⟩
    | succ j => simp only [List.getElem?_cons_succ] at hj ⊢; exact selD_at h2 j x hj
   ·cases h
  ·rename_i xs' heq
   cases heq
   split at h
   ·rename_i s l h2
    cases h
    cases j with
    | zero => simp only [List.getElem?_cons_zero, Option.some.injEq] at hj; subst hj; exact .inr ⟨rfl, rfl, rfl⟩
    | succ j => simp only [List.getElem?_cons_succ] at hj ⊢; exact selD_at h2 j x hj
   ·cases h
  ·cases h
theorem canon_at {n j : Nat} {x : DC} (h : (canon n)[j]? = some x) : x = .row j ∧ j < n := by
 have hlt := (List.getElem?_eq_some_iff.1 h).1
 simp only [canon, List.length_map, List.length_range] at hlt
 simp [canon, hlt] at h
 exact ⟨h.symm, hlt⟩
theorem sel_inj {sel : List (Option Nat)} (hn : (sel.filterMap _root_.id).Nodup) {i j r : Nat} (hi : sel[i]? = some (some r)) (hj : sel[j]? = some (some r)) : i = j := by
 induction sel generalizing i j with
 | nil => simp at hi
 | cons m sel ih =>
  have hn2 : (sel.filterMap _root_.id).Nodup := by
   cases m with
   | none => simpa using hn
   | some x => simp only [List.filterMap_cons, id_eq, List.nodup_cons] at hn; exact hn.2
  have mem : ∀ {j : Nat}, sel[j]? = some (some r) → r ∈ sel.filterMap _root_.id := fun hj => List.mem_filterMap.2 ⟨_, List.mem_of_getElem? hj, rfl⟩
  cases i with
  | zero =>
   cases j with
   | zero => rfl
   | succ j =>
    simp only [List.getElem?_cons_zero, Option.some.injEq] at hi
    subst hi
    simp only [List.filterMap_cons, id_eq, List.nodup_cons] at hn
    exact absurd (mem (by simpa using hj)) hn.1
  | succ i =>
   cases j with
   | zero =>
    simp only [List.getElem?_cons_zero, Option.some.injEq] at hj
    subst hj
    simp only [List.filterMap_cons, id_eq, List.nodup_cons] at hn
    exact absurd (mem (by simpa using hi)) hn.1
   | succ j => exact congrArg Nat.succ (ih hn2 (by simpa using hi) (by simpa using hj))
def resV : List Value → Value
 | [v] => v
 | vs => .tuple ⟨vs⟩
theorem results_run {P : Program} {w : World} {fn : Func} {rs : List ResultVar} (hr : fn.results = ⟨rs⟩) {tmps : Array Value} {vals : List Value} (hrun : (rs.mapM (resF tmps)).run P w = .ok vals w) : (results fn tmps).run P w = .ok (resV vals) w := by
 have key : ∀ f : ResultVar → Sem Value, (∀ x, f x = resF tmps x) → rs.mapM f = rs.mapM (resF tmps) := fun f hf => by rw [show f = resF tmps from funext hf]
 unfold results
 rw [hr, Array.mapM_eq_mapM_toList]
 simp only []
 rw [key _ (fun x => by cases x <;> rfl)]
 simp only [Sem.run_bind, Sem.run_map, hrun]
 match vals with
 | [] => rfl
 | [v] => rfl
 | v :: v' :: vs => simp [resV]
section
variable {P : Program} {sg : FuncId → List Bool}
theorem CallT.of_wp (hm : P.follows .mixedOrders = true) {tk : Bool} {f : FuncId} {as : List Arg} {outs : List (Option (List PV))} {res : List PV} {fn : Func} {code : Code} {rs : List ResultVar}
  (hf : P.funcs[f]? = some fn) (hb : fn.body = some code) (hname : (fn.name == "runtime.NumGoroutine") = false) (hres : fn.results = ⟨rs⟩) (hargs : as.length ≤ fn.ntmps)
  (hnr : noRoL res = true) (hro : resOk res = true) (houts : (outs.all fun o => o.all noRoL) = true)
  (hw : Gl.wp P sg fn.ntmps code (fun ex S => (match ex with | .exit _ => False | _ => resW P S rs fun vs => Fin tk S as outs vs res)) (entry as)) : CallT P tk f as outs res := by
 refine ⟨⟨fn, hf, by rw [hb]; rfl, hname⟩, hnr, hro, houts, ?_⟩
 intro w G ι vs hamb hnew hok hvs
 have hlen := RepAL_length hvs
 rw [argAVs_length] at hlen
 have hsize : (⟨vs⟩ : Array Value).size = as.length := hlen
 refine calls_of_wp hf hb ?_
 have rel0 : Rel w as.length fn.ntmps (argM as ι) G ι (fun id => id < (entry as).n) w (entry as) ι { tmps := ⟨vs⟩ ++ Array.replicate (fn.ntmps - (⟨vs⟩ : Array Value).size) undef, defers := [] } := by
  have dead : ∀ id, ¬ id < as.length → argH as id = .dead := fun id hid => by
   unfold argH
   rw [List.getElem?_eq_none (by omega)]
  refine ⟨Keep.refl w _, hok, fun t => ?_, fun id hid => dead id hid, fun t i hi => ?_, fun _ _ => LocEq.refl _, fun j hj => hj, hnew, by simp [hsize]; omega, rfl⟩
  ·by_cases ht : t < as.length
   ·obtain ⟨v, hv, hr⟩ := RepAL_get hvs t _ (List.getElem?_eq_getElem (by rw [argAVs_length]; exact ht))
    have e1 : (entry as).e t = (argAVs 0 as)[t]'(by rw [argAVs_length]; exact ht) := by
     simp [entry, List.getD_eq_getElem?_getD, List.getElem?_eq_getElem (show t < (argAVs 0 as).length by rw [argAVs_length]; exact ht)]
    have e2 : ((⟨vs⟩ : Array Value) ++ Array.replicate (fn.ntmps - (⟨vs⟩ : Array Value).size) undef).getD t undef = v := by
     rw [Array.getD_eq_getD_getElem?, Array.getElem?_append_left (by rw [hsize]; exact ht)]
     simp only [List.getElem?_toArray, hv, Option.getD_some]
    rw [e1, e2]
    exact hr
   ·have e1 : (entry as).e t = .p .any := by
     simp [entry, List.getD_eq_getElem?_getD, List.getElem?_eq_none (show (argAVs 0 as).length ≤ t by rw [argAVs_length]; omega)]
    rw [e1]
    simp only [RepA, RepP]
  ·by_cases ht : t < as.length
   ·have e1 : (entry as).e t = ((as[t]'ht).av t) := by
     have := argAVs_get as 0 t
     rw [List.getElem?_eq_getElem ht, Option.map_some, Nat.zero_add] at this
     simp [entry, List.getD_eq_getElem?_getD, this]
    rw [e1] at hi
    show i < as.length
    cases hq : as[t]'ht with
    | pv x => rw [hq] at hi; simp [Arg.av, AV.has] at hi
    | mu p c => rw [hq] at hi; cases p <;> (simp [Arg.av, AV.has] at hi; omega)
   ·have e1 : (entry as).e t = .p .any := by
     simp [entry, List.getD_eq_getElem?_getD, List.getElem?_eq_none (show (argAVs 0 as).length ≤ t by rw [argAVs_length]; omega)]
    rw [e1] at hi
    simp [AV.has] at hi
 refine wp_mono (wp_sound hm code _ (entry as) _ w ι hw rel0) ?_
 rintro e a' w' ⟨ex, S, ι1, rfl, hq, h1⟩
 have main : (resW P S rs fun vs => Fin tk S as outs vs res) → ∃ v ι', (results fn a'.tmps).run P w' = .ok v w' ∧ (∀ j, j < as.length → LocEq (ι j) (ι' j)) ∧ Keep w w' (argM as ι) ∧
   HeapOk w' w.heap.size (argM as ι) G (postH tk as outs res) ι' ∧ RepA w' (Held (postH tk as outs res) ι') G ι' (impAll as.length res) v := by
  intro hfin
  obtain ⟨vs, vals, hfin, hvals, hrun⟩ := resW_sound h1 rs hfin
  have hsmall : res.all smallP = true := by simp only [resOk, Bool.and_eq_true] at hro; exact hro.2
  have h15 : res.length ≤ 15 := by simp only [resOk, Bool.and_eq_true, decide_eq_true_eq] at hro; exact hro.1
  obtain ⟨L, ⟨hdj, hout⟩, pl, hrep⟩ := fins_sound hsmall hfin
  have hι0 : ∀ j, j < as.length → locOf ι1 as.length L j = ι1 j := fun j hj => by simp only [locOf, hj, if_true]
  have hι' : ∀ j, j < as.length → LocEq (ι j) (locOf ι1 as.length L j) := fun j hj => by
   rw [hι0 j hj]; exact h1.loc j hj
  have eL : ∀ p ∈ L, locOf ι1 as.length L p.1 = p.2.2.loc (ι1 p.2.1) := by
   intro p hp
   have hlo := pl.lo p hp
   have hfind : L.find? (fun q => q.1 == p.1) = some p := find_nodup pl.nums hp
   simp only [locOf, show ¬ p.1 < as.length from by omega, if_false, hfind]
  have e0 : ∀ i, as.length ≤ i → (∀ p ∈ L, p.1 ≠ i) → locOf ι1 as.length L i = ⟨0, 0, 0, 0, noInn⟩ := by
   intro i hi hn
   have hfind : L.find? (fun q => q.1 == i) = none := by
    rw [List.find?_eq_none]; intro q hq; simpa using hn q hq
   simp only [locOf, show ¬ i < as.length from by omega, if_false, hfind]
  have fits : Fits ι1 (locOf ι1 as.length L) as.length (as.length + 16 * res.length) L := ⟨eL, fun i h1 _ h3 => by rw [e0 i h1 h3]⟩
  have uniq : ∀ {p q}, p ∈ L → q ∈ L → p.1 = q.1 → p = q := fun {p q} hp hq e => inj_nodup pl.nums hp hq e
  have dj : ∀ {p q}, p ∈ L → q ∈ L → p ≠ q → Dj p q := fun {p q} hp hq hne => dj_of hdj hp hq hne
  -- what each block comes from
  have from_ : ∀ i, postH tk as outs res i = .dead ∨ (i < as.length ∧ postH tk as outs res i = S.h i ∧ i ∉ L.map fun p => p.2.1) ∨ (as.length ≤ i ∧ From tk S.h L (i, postH tk as outs res i)) := by
   intro i
   unfold postH
   rcases hwsH_cases (h := outH as outs) (l := impWs tk as.length res) (i := i) with e | ⟨b, hb, e⟩
   ·rw [e]
    unfold outH
    split
    ·rename_i p c1 e1
     have hi := (List.getElem?_eq_some_iff.1 e1).1
     split
     ·rename_i c2 e2
      have := hout i hi
      rw [e1, e2] at this
      exact .inr (.inl ⟨hi, this.1.symm, this.2⟩)
     ·exact .inl rfl
    ·exact .inl rfl
   ·rw [e]
    exact .inr (.inr ⟨(pl.wsl _ hb).1, pl.src _ hb⟩)
  have cls : ∀ i B, owns (postH tk as outs res i) (locOf ι1 as.length L i) B → (i < as.length ∧ owns (S.h i) (ι1 i) B ∧ i ∉ L.map fun p => p.2.1) ∨
    ∃ p ∈ L, p.1 = i ∧ (∀ r, p.2.2 ≠ .n r) ∧ owns (S.h p.2.1) (ι1 p.2.1) B ∧ ∀ r, p.2.2.row = some r → ((ι1 p.2.1).sub r).cap ≠ 0 ∧ ((ι1 p.2.1).sub r).B = B ∧ ∃ m cs rs c, S.h p.2.1 = .deep m cs rs ∧ rs[r]? = some (some c) := by
   intro i B ho
   rcases from_ i with e | ⟨hi, e, hni⟩ | ⟨hi, hfr⟩
   ·rw [e] at ho; exact ho.elim
   ·rw [e, hι0 i hi] at ho; exact .inl ⟨hi, ho, hni⟩
   ·right
    rcases hfr with ⟨id, off, len, m, c, q1, q2, q3, q4, q5⟩ | ⟨id, r, off, len, m, cs, rs, c, q1, q2, q3, q4, q5, q6⟩ | ⟨id, off, len, m, cs, rs, sel, rows, q1, q2, q3, q4, q5, q6, q7⟩ | ⟨q1, q2⟩
    ·simp only at q5 q1
     rw [q5, eL _ q1] at ho
     simp only [Pl.loc, owns] at ho
     refine ⟨_, q1, rfl, (fun r e => by cases e), ?_, fun r e => by cases e⟩
     simp only [q2, owns]
     exact ⟨by have := ho.1; omega, ho.2⟩
    ·simp only at q6 q1
     rw [q6, eL _ q1] at ho
     simp only [Pl.loc, owns] at ho
     have hc : ((ι1 id).sub r).cap ≠ 0 := by have := ho.1; omega
     refine ⟨_, q1, rfl, (fun r e => by cases e), ?_, fun r' e => ?_⟩
     ·simp only [q2, owns]
      exact .inr ⟨r, c, q3, hc, ho.2⟩
     ·simp only [Pl.row, Option.some.injEq] at e
      subst e
      exact ⟨hc, ho.2, m, cs, rs, c, q2, q3⟩
    ·simp only at q7 q1
     rw [q7, eL _ q1] at ho
     refine ⟨_, q1, rfl, (fun r e => by cases e), ?_, fun r e => by cases e⟩
     simp only [q2]
     rcases ho with ⟨ho1, ho2⟩ | ⟨j, c, hj, z, hB⟩
     ·simp only [Pl.loc] at ho1 ho2
      exact .inl ⟨by omega, ho2⟩
     ·have hlen := fin1_sound.selD_len q5
      have hjl : j < ((cs.drop off).take len).length := by
       have := (List.getElem?_eq_some_iff.1 hj).1
       simp only [List.length_map] at this; omega
      rcases selD_at q5 j _ (List.getElem?_eq_getElem hjl) with ⟨r, c', _, s1, s2, s3⟩ | ⟨_, s1, _⟩
      ·have es : (Pl.loc (ι1 id) (.d off sel)).sub j = (ι1 id).sub r := by simp only [Pl.loc, Loc.sub, s1]
       rw [es] at z hB
       exact .inr ⟨r, c', s3, z, hB⟩
      ·have es : ((Pl.loc (ι1 id) (.d off sel)).sub j).cap = 0 := by simp only [Pl.loc, Loc.sub, s1]
       exact absurd es z
    ·simp only at q1 q2
     rw [e0 i hi q2] at ho
     rcases q1 with q1 | q1 <;> rw [q1] at ho
     ·exact absurd rfl ho.1
     ·rcases ho with ⟨ho, _⟩ | ⟨r, c, hr, _⟩
      ·exact absurd rfl ho
      ·simp at hr
  have held : ∀ B, Held (postH tk as outs res) (locOf ι1 as.length L) B → Held S.h ι1 B := by
   rintro B ⟨i, ho⟩
   rcases cls i B ho with ⟨_, ho, _⟩ | ⟨p, _, _, _, ho, _⟩
   ·exact ⟨_, ho⟩
   ·exact ⟨_, ho⟩
  have rowsNe : ∀ {id r r' : Nat} {m cs rs c m' cs' rs' c'}, S.h id = .deep m cs rs → rs[r]? = some (some c) → S.h id = .deep m' cs' rs' → rs'[r']? = some (some c') → r ≠ r' → ((ι1 id).sub r).cap ≠ 0 → ((ι1 id).sub r').cap ≠ 0 → ((ι1 id).sub r).B ≠ ((ι1 id).sub r').B := by
   intro id r r' m cs rs c m' cs' rs' c' e1 e2 e3 e4 hne z z'
   rw [e1] at e3; cases e3
   exact (h1.heap.deep e1).2.2.2.1 r c r' c' e2 e4 hne z z'
  have notIn : NotIn S.h ι1 (Held (postH tk as outs res) (locOf ι1 as.length L)) L := by
   rintro k id r hk B ⟨i, ho⟩
   rcases cls i B ho with ⟨_, ho, hni⟩ | ⟨p, hp, _, hpn, ho, hrow⟩
   ·have key : ¬ owns (S.h id) (ι1 id) B := fun ho' => by
     have := h1.heap.apart i id B ho ho'
     subst this
     exact hni (List.mem_map.2 ⟨_, hk, rfl⟩)
    cases r with
    | none => exact key
    | some r => exact fun m cs rs c e1 e2 z e => key (by rw [e1]; exact .inr ⟨r, c, e2, z, e⟩)
   ·have hne : p ≠ (k, id, .n r) := fun e => hpn r (by rw [e])
    rcases dj hp hk hne with hd | ⟨d1, d2, d3⟩
    ·have key : ¬ owns (S.h id) (ι1 id) B := fun ho' => hd (h1.heap.apart p.2.1 id B ho ho')
     cases r with
     | none => exact key
     | some r => exact fun m cs rs c e1 e2 z e => key (by rw [e1]; exact .inr ⟨r, c, e2, z, e⟩)
    ·cases r with
     | none => exact absurd rfl d2
     | some r =>
      intro m cs rs c e1 e2 z e
      cases hpr : p.2.2.row with
      | none => exact d1 hpr
      | some r' =>
       obtain ⟨w1, w2, m', cs', rs', c', w3, w4⟩ := hrow r' hpr
       by_cases hid : p.2.1 = id
       ·rw [hid] at w1 w2 w3
        refine rowsNe w3 w4 e1 e2 (fun q => d3 ?_) w1 z (w2.trans e.symm)
        rw [hpr, q]; rfl
       ·exact hid (h1.heap.apart p.2.1 id B ho (by rw [e1]; exact .inr ⟨r, c, e2, z, e⟩))
  have st : Stays w' w' (Held S.h ι1) (Held (postH tk as outs res) (locOf ι1 as.length L)) := fun B o v hF hv => ⟨hv, fun hh => hF (held B hh)⟩
  have orgT : ∀ {m B}, (m = true → tk = true) → Org w.heap.size (argM as ι) G m B → Org w.heap.size (argM as ι) G tk B := fun {m B} hm h => h.imp _root_.id fun ⟨q1, q2⟩ => ⟨hm q1, q2⟩
  have ok : HeapOk w' w.heap.size (argM as ι) G (postH tk as outs res) (locOf ι1 as.length L) := by
   refine ⟨fun i => ?_, fun i i' B ho ho' => ?_⟩
   ·rcases from_ i with e | ⟨hi, e, hni⟩ | ⟨hi, hfr⟩
    ·rw [e]; trivial
    ·rw [e, hι0 i hi]
     exact (h1.heap.ok i).tr st (fun _ _ _ h => h) (fun _ _ => rfl) (fun _ _ _ h => h)
    ·have subrow : ∀ {m : Bool} {l : Loc} {c : List PV} {off len : Nat} {l' : Loc}, rowOk w' (Held S.h ι1) G (Org w.heap.size (argM as ι) G m) l c → off + len ≤ c.length → (m = true → tk = true) → l'.B = l.B → l'.off = l.off + off → l'.cap = l.cap - off →
       rowOk w' (Held (postH tk as outs res) (locOf ι1 as.length L)) G (Org w.heap.size (argM as ι) G tk) l' ((c.drop off).take len) := by
      intro m l c off len l' hr hle hm a1 a2 a3
      obtain ⟨g1, g2, g3⟩ := hr
      have hlen' : ((c.drop off).take len).length = len := by simp; omega
      refine ⟨by rw [hlen', a3]; omega, by omega, ?_⟩
      by_cases hc0 : l'.cap = 0
      ·exact .inl hc0
      ·rcases g3 with g3 | ⟨⟨cs, E, lo, hi', hcell, hroom, hfr⟩, r2, r3⟩
       ·omega
       ·refine .inr ⟨⟨cs, E, lo, hi', by rw [a1]; exact hcell, by rw [a2, a3]; omega, hfr⟩, ?_, by rw [a1]; exact orgT hm r3⟩
        rw [a1, a2]
        exact RepC.tr st (fun _ _ _ h => h) _ _ _ (fun _ _ hv => hv) (RepC_take (RepC_drop r2 off) len)
     rcases hfr with ⟨id, off, len, m, c, q1, q2, q3, q4, q5⟩ | ⟨id, r, off, len, m, cs, rs, c, q1, q2, q3, q4, q5, q6⟩ | ⟨id, off, len, m, cs, rs, sel, rows, q1, q2, q3, q4, q5, q6, q7⟩ | ⟨q1, q2⟩
     ·simp only at q5 q1
      rw [q5, eL _ q1]
      exact subrow (m := m) (l := ι1 id) (c := c) (by have := h1.heap.ok id; rw [q2] at this; exact this) q3 q4 rfl rfl rfl
     ·simp only at q6 q1
      rw [q6, eL _ q1]
      exact subrow (l := (ι1 id).sub r) (h1.heap.deepRow q2 q3).2 q4 q5 rfl rfl rfl
     ·simp only at q7 q1
      rw [q7, eL _ q1]
      have hlen := fin1_sound.selD_len q5
      have hl2 : ((cs.drop off).take len).length = len := by simp; omega
      have okd := h1.heap.deep q2
      obtain ⟨n1, ⟨l1, l2, l3⟩, r1, d1, b1⟩ := okd
      have at_ : ∀ {j}, j < rows.length → (∃ r c, cs[off + j]? = some (.row r) ∧ sel[j]? = some (some r) ∧ rows[j]? = some c ∧ rs[r]? = some (some c) ∧ (Pl.loc (ι1 id) (.d off sel)).sub j = (ι1 id).sub r) ∨
        (cs[off + j]? = some (.v (.sl .own [])) ∧ sel[j]? = some none ∧ rows[j]? = some [] ∧ (Pl.loc (ι1 id) (.d off sel)).sub j = ⟨0, 0, 0, 0, noInn⟩) := by
       intro j hj
       have hjl : j < ((cs.drop off).take len).length := by omega
       have hget : ((cs.drop off).take len)[j]? = cs[off + j]? := by rw [List.getElem?_take, if_pos (by omega), List.getElem?_drop]
       have hx := List.getElem?_eq_getElem hjl
       rcases selD_at q5 j _ hx with ⟨r, c', s0, s1, s2, s3⟩ | ⟨s0, s1, s2⟩
       ·exact .inl ⟨r, c', by rw [← hget, hx, s0], s1, s2, s3, by simp only [Pl.loc, Loc.sub, s1]⟩
       ·exact .inr ⟨by rw [← hget, hx, s0], s1, s2, by simp only [Pl.loc, Loc.sub, s1]⟩
      have rowAt : ∀ {j c}, (rows.map some)[j]? = some (some c) → j < rows.length ∧ rows[j]? = some c := by
       intro j c hj
       have hlt := (List.getElem?_eq_some_iff.1 hj).1
       simp only [List.length_map] at hlt
       refine ⟨hlt, ?_⟩
       simp only [List.getElem?_map, Option.map_eq_some_iff, Option.some.injEq] at hj
       obtain ⟨x, hx, rfl⟩ := hj
       exact hx
      refine ⟨by simp only [List.length_map, Pl.loc]; omega, ⟨by simp only [canon, List.length_map, List.length_range, Pl.loc]; omega, by simp only [Pl.loc]; omega, ?_⟩, fun j c hj => ?_, fun j c j' c' hj hj' hne z z' => ?_, fun j c hj hc0 z => ?_⟩
      ·by_cases hc0 : (Pl.loc (ι1 id) (.d off sel)).cap = 0
       ·exact .inl hc0
       ·right
        simp only [Pl.loc] at hc0
        rcases l3 with l3 | ⟨⟨cells, E, lo, hi', hcell, hroom, hfr⟩, p2, p3⟩
        ·omega
        ·refine ⟨⟨cells, E, lo, hi', hcell, by simp only [Pl.loc]; omega, hfr⟩, orgT q4 p2, fun j x hj => ?_⟩
         obtain ⟨rfl, hjl⟩ := canon_at hj
         rcases at_ hjl with ⟨r, c, s0, s1, s2, s3, s4⟩ | ⟨s0, s1, s2, s4⟩
         ·obtain ⟨v, v1, v2, v3⟩ := p3 _ _ s0
          refine ⟨v, by simp only [Pl.loc]; rw [Nat.add_assoc]; exact v1, v2, by simpa using hjl, fun c' hc' => ?_⟩
          obtain ⟨_, hc'⟩ := rowAt hc'
          rw [s2] at hc'; cases hc'
          rw [s4]; exact v3.2 c s3
         ·obtain ⟨v, v1, v2, v3⟩ := p3 _ _ s0
          refine ⟨v, by simp only [Pl.loc]; rw [Nat.add_assoc]; exact v1, v2, by simpa using hjl, fun c' hc' => ?_⟩
          obtain ⟨_, hc'⟩ := rowAt hc'
          rw [s2] at hc'; cases hc'
          rw [s4]
          have v3 : RepP w' (Held S.h ι1) G (.sl .own []) v := v3
          obtain ⟨ad, cap, rfl, _, _, ho, _⟩ := rep_sl (F := Held S.h ι1) (ι := ι1) (v := v) (by simpa only [RepA] using v3)
          obtain ⟨_, rfl, rfl⟩ := ho rfl
          exact ⟨none, rfl, .inl rfl⟩
      ·obtain ⟨hjl, hj⟩ := rowAt hj
       rcases at_ hjl with ⟨r, c', s0, s1, s2, s3, s4⟩ | ⟨s0, s1, s2, s4⟩
       ·rw [s2] at hj; cases hj
        rw [s4]
        have := subrow (off := 0) (len := c.length) (l' := (ι1 id).sub r) (r1 r c s3) (by omega) q4 rfl rfl rfl
        rwa [List.drop_zero, List.take_length] at this
       ·rw [s2] at hj; cases hj
        rw [s4]
        exact ⟨Nat.le_refl _, Nat.zero_le _, .inl rfl⟩
      ·obtain ⟨hjl, hj⟩ := rowAt hj
       obtain ⟨hjl', hj'⟩ := rowAt hj'
       rcases at_ hjl with ⟨r, c0, s0, s1, s2, s3, s4⟩ | ⟨s0, s1, s2, s4⟩
       ·rcases at_ hjl' with ⟨r', c0', t0, t1, t2, t3, t4⟩ | ⟨t0, t1, t2, t4⟩
        ·rw [s4] at z ⊢; rw [t4] at z' ⊢
         exact d1 r c0 r' c0' s3 t3 (fun e => hne (sel_inj q6 s1 (e ▸ t1))) z z'
        ·rw [t4] at z'; exact absurd rfl z'
       ·rw [s4] at z; exact absurd rfl z
      ·obtain ⟨hjl, hj⟩ := rowAt hj
       rcases at_ hjl with ⟨r, c0, s0, s1, s2, s3, s4⟩ | ⟨s0, s1, s2, s4⟩
       ·rw [s4] at z ⊢
        exact b1 r c0 s3 (by simp only [Pl.loc] at hc0; omega) z
       ·rw [s4] at z; exact absurd rfl z
     ·simp only at q1 q2
      rw [e0 i hi q2]
      rcases q1 with q1 | q1 <;> rw [q1]
      ·exact ⟨Nat.le_refl _, Nat.zero_le _, .inl rfl⟩
      ·exact ⟨rfl, ⟨Nat.le_refl _, Nat.zero_le _, .inl rfl⟩, fun r c hr => by simp at hr, fun r c r' c' hr => by simp at hr, fun r c hr => by simp at hr⟩
   ·rcases cls i B ho with ⟨_, o1, hni⟩ | ⟨p, hp, rfl, hpn, o1, hrow⟩ <;> rcases cls i' B ho' with ⟨_, o2, hni'⟩ | ⟨p', hp', rfl, hpn', o2, hrow'⟩
    ·exact h1.heap.apart _ _ B o1 o2
    ·have := h1.heap.apart _ _ B o1 o2
     exact absurd (List.mem_map.2 ⟨_, hp', this.symm⟩) hni
    ·have := h1.heap.apart _ _ B o1 o2
     exact absurd (List.mem_map.2 ⟨_, hp, this⟩) hni'
    ·by_cases hpp : p = p'
     ·rw [hpp]
     ·exfalso
      rcases dj hp hp' hpp with hd | ⟨d1, d2, d3⟩
      ·exact hd (h1.heap.apart _ _ B o1 o2)
      ·cases hr1 : p.2.2.row with
       | none => exact d1 hr1
       | some r =>
        cases hr2 : p'.2.2.row with
        | none => exact d2 hr2
        | some r' =>
         obtain ⟨w1, w2, m, cs, rs, c, w3, w4⟩ := hrow r hr1
         obtain ⟨w1', w2', m', cs', rs', c', w3', w4'⟩ := hrow' r' hr2
         have hid := h1.heap.apart _ _ B o1 o2
         rw [← hid] at w1' w2' w3'
         refine rowsNe w3 w4 w3' w4' (fun e => d3 ?_) w1 w1' (w2.trans w2'.symm)
         rw [hr1, hr2, e]
  refine ⟨_, locOf ι1 as.length L, results_run hres hrun, hι', h1.keep, ok, ?_⟩
  have := hrep h1.heap held (fun B hB => h1.new B hB) notIn fits hvals
  have hl : vals.length = res.length := by have := RepAL_length this; rw [this]; exact imps_length _ _
  match vals, res, hl, this with
  | [], [], _, this => simp only [impAll, RepA]; exact ⟨_, rfl, this⟩
  | [t], [x], _, this =>
   simp only [imps, RepAL] at this
   obtain ⟨v, vs', e, hx, rfl⟩ := this
   simp only [List.cons.injEq, and_true] at e
   simp only [impAll, resV]
   rw [e]; exact hx
  | t :: t' :: ts, x :: x' :: xs, _, this => simp only [impAll, RepA]; exact ⟨_, rfl, this⟩
 cases ex with
 | exit id => exact hq.elim
 | normal =>
  obtain ⟨v, ι', hr, r⟩ := main hq
  exact ⟨h1.defers, v, hr, v, ι', rfl, r⟩
 | ret =>
  obtain ⟨v, ι', hr, r⟩ := main hq
  exact ⟨h1.defers, v, hr, v, ι', rfl, r⟩
 where
 find_nodup {L : List (Nat × Nat × Pl)} (hn : (L.map (·.1)).Nodup) {p : Nat × Nat × Pl} (hp : p ∈ L) : L.find? (fun q => q.1 == p.1) = some p := by
  induction L with
  | nil => simp at hp
  | cons q L ih =>
   simp only [List.map_cons, List.nodup_cons] at hn
   rcases List.mem_cons.1 hp with rfl | hp
   ·simp
   ·have hne : ¬ q.1 = p.1 := fun e => hn.1 (List.mem_map.2 ⟨p, hp, e.symm⟩)
    rw [List.find?_cons_of_neg (by simpa using hne)]
    exact ih hn.2 hp
 inj_nodup {L : List (Nat × Nat × Pl)} (hn : (L.map (·.1)).Nodup) {p q : Nat × Nat × Pl} (hp : p ∈ L) (hq : q ∈ L) (e : p.1 = q.1) : p = q := by
  induction L with
  | nil => simp at hp
  | cons r L ih =>
   simp only [List.map_cons, List.nodup_cons] at hn
   rcases List.mem_cons.1 hp with e1 | hp <;> rcases List.mem_cons.1 hq with e2 | hq
   ·rw [e1, e2]
   ·rw [← e1] at hn; exact absurd (List.mem_map.2 ⟨q, hq, e.symm⟩) hn.1
   ·rw [← e2] at hn; exact absurd (List.mem_map.2 ⟨p, hp, e⟩) hn.1
   ·exact ih hn.2 hp hq
 dj_of {L : List (Nat × Nat × Pl)} (hd : L.Pairwise Dj) {p q : Nat × Nat × Pl} (hp : p ∈ L) (hq : q ∈ L) (hne : p ≠ q) : Dj p q := by
  have symm : ∀ {a b : Nat × Nat × Pl}, Dj a b → Dj b a := fun h => h.imp Ne.symm fun ⟨h1, h2, h3⟩ => ⟨h2, h1, Ne.symm h3⟩
  induction L with
  | nil => simp at hp
  | cons r L ih =>
   rw [List.pairwise_cons] at hd
   rcases List.mem_cons.1 hp with e1 | hp <;> rcases List.mem_cons.1 hq with e2 | hq
   ·exact absurd (e1.trans e2.symm) hne
   ·rw [e1]; exact hd.1 q hq
   ·rw [e2]; exact symm (hd.1 p hp)
   ·exact ih hd.2 hp hq
 imps_length : ∀ (xs : List PV) (k : Nat), (imps k xs).length = xs.length
  | [], _ => rfl
  | x :: xs, k => by simp [imps, imps_length xs]
end
end Go.Gl
