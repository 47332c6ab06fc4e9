/-
  A program logic over the walk's rules: regions whose order is open, second part: operations change places; every order comes to what the text's order comes to. Conditions: those that each lemma names.
-/
import Derived.Test.YtdiiocckeldkfaaGl21
namespace Go.Gl
open Go

section
variable {P : Program} {sg : FuncId → List Bool} {ops : Array Oper} {n0 : Nat}

/-- What the i-th operation comes to in a state: a result, or nothing since its guard is shut. -/
def OutOk (P : Program) (sg : FuncId → List Bool) (ops : Array Oper) (n0 i : Nat) (o : Oper) (S : St) : Option R → Prop
  | some r => guardW ops S o True False ∧ ∀ K : R → Prop, K r → opW P sg (opd S) S.h (num n0 i) o.op K
  | none => guardW ops S o False True

def eff (o : Oper) : Option R → St → St
  | some r, S => S.app o.dst r
  | none, S => S.puto o.dst (.tup [])

def lab : Option R → List (Nat × Blk) × List Nat
  | some r => (r.ws, r.rd)
  | none => ([], [])

def RunL (P : Program) (sg : FuncId → List Bool) (ops : Array Oper) (n0 : Nat) (out : Nat → Option R) : List Nat → St → St → Prop
  | [], S, S' => S' = S
  | i :: is, S, S' => ∃ o, ops[i]? = some o ∧ OutOk P sg ops n0 i o S (out i) ∧ RunL P sg ops n0 out is (eff o (out i) S) S'

theorem guardW_or {S : St} {o : Oper} {yes no : Prop} (h : guardW ops S o yes no) : (guardW ops S o True False ∧ yes) ∨ (guardW ops S o False True ∧ no) := by
  unfold guardW at h ⊢
  cases hg : o.guard with
  | none => simp only [hg] at h; exact .inl ⟨trivial, h⟩
  | some p =>
    obtain ⟨j, want⟩ := p
    simp only [hg] at h ⊢
    cases hd : (ops[j]?).bind (·.dst) with
    | none => simp only [hd] at h
    | some d =>
      simp only [hd] at h ⊢
      unfold gdW at h ⊢
      split at h
      · rename_i b e
        by_cases hb : b = want
        · exact .inl ⟨⟨fun _ => trivial, fun hn => hn hb⟩, h.1 hb⟩
        · exact .inr ⟨⟨fun hn => hb hn, fun _ => trivial⟩, h.2 hb⟩
      · exact .inr ⟨trivial, h⟩
      · exact h.elim

theorem guardW_mono {S : St} {o : Oper} {yes no yes' no' : Prop} (hy : yes → yes') (hn : no → no') (h : guardW ops S o yes no) : guardW ops S o yes' no' := by
  unfold guardW at h ⊢
  split
  · rename_i e; simp only [e] at h; exact hy h
  · rename_i j want e
    simp only [e] at h
    split
    · rename_i d hd
      simp only [hd] at h
      unfold gdW at h ⊢
      split at h
      · exact ⟨fun e => hy (h.1 e), fun e => hn (h.2 e)⟩
      · exact hn h
      · exact h
    · rename_i hd; simp only [hd] at h

theorem guardW_congr {S S' : St} {o : Oper} {yes no : Prop} (he : ∀ t ∈ o.looksAt ops, S'.e t = S.e t) (h : guardW ops S o yes no) : guardW ops S' o yes no := by
  unfold guardW at h ⊢
  cases hg : o.guard with
  | none => simp only [hg] at h; exact h
  | some p =>
    obtain ⟨j, want⟩ := p
    simp only [hg] at h ⊢
    cases hd : (ops[j]?).bind (·.dst) with
    | none => simp only [hd] at h
    | some d =>
      simp only [hd] at h ⊢
      rw [he d (by simp [Oper.looksAt, hg, hd])]
      exact h

theorem OutOk.congr {i : Nat} {o : Oper} {S S' : St} {x : Option R} (he : ∀ t ∈ o.looksAt ops, S'.e t = S.e t) (hh : ∀ id ∈ (lab x).2, S'.h id = S.h id) (h : OutOk P sg ops n0 i o S x) : OutOk P sg ops n0 i o S' x := by
  cases x with
  | none => exact guardW_congr he h
  | some r =>
    refine ⟨guardW_congr he h.1, fun K hK => ?_⟩
    obtain ⟨r', hr', hf⟩ := opW_fix (fun x => x = r) (h.2 (fun x => x = r) rfl)
    subst hr'
    refine opW_congr (fun x hx => ?_) (hf S'.h hh K hK)
    cases x with
    | tmp t =>
      simp only [opd]
      exact (he t (List.mem_append_left _ (List.mem_filterMap.2 ⟨.tmp t, by simpa using hx, rfl⟩))).symm
    | _ => rfl

theorem eff_e {o : Oper} {x : Option R} {S : St} {t : Nat} (h : ∀ d, o.dst = some d → t ≠ d) : (eff o x S).e t = S.e t := by
  cases x <;> simp only [eff, St.app, St.hws, St.puto] <;> cases hd : o.dst <;> simp only [St.put]
  · simp [h _ hd]
  · simp [h _ hd]

theorem eff_h {o : Oper} {x : Option R} {S : St} : (eff o x S).h = hwsH S.h (lab x).1 := by
  cases x <;> simp only [eff, lab, St.app, St.hws, St.puto, hwsH] <;> cases o.dst <;> rfl

theorem eff_n {o : Oper} {x : Option R} {S : St} : (eff o x S).n = S.n := by
  cases x <;> simp only [eff, St.app, St.hws, St.puto] <;> cases o.dst <;> rfl

def Oval : Option R → AV
  | some r => r.v
  | none => .tup []

theorem eff_eq {o : Oper} {x : Option R} {S : St} : eff o x S = ⟨(S.puto o.dst (Oval x)).e, hwsH S.h (lab x).1, S.n⟩ := by
  cases x <;> simp only [eff, lab, St.app, St.hws, St.puto, hwsH, Oval] <;> cases o.dst <;> rfl

theorem hwsH_not {h : Nat → Blk} : ∀ {ws : List (Nat × Blk)} {i : Nat}, (∀ p ∈ ws, p.1 ≠ i) → hwsH h ws i = h i
  | [], _, _ => rfl
  | (k, b) :: l, i, hn => by
    simp only [hwsH]
    rw [hwsH_not (ws := l) fun p hp => hn p (by simp [hp])]
    have : i ≠ k := fun e => hn (k, b) (by simp) e.symm
    simp [this]

theorem hwsH_in {h h' : Nat → Blk} : ∀ {ws : List (Nat × Blk)} {i : Nat}, (∃ p ∈ ws, p.1 = i) → hwsH h ws i = hwsH h' ws i
  | [], _, hp => by obtain ⟨p, hp, _⟩ := hp; cases hp
  | (k, b) :: l, i, hp => by
    simp only [hwsH]
    by_cases hl : ∃ p ∈ l, p.1 = i
    · exact hwsH_in hl
    · have hn : ∀ p ∈ l, p.1 ≠ i := fun p hp e => hl ⟨p, hp, e⟩
      rw [hwsH_not hn, hwsH_not hn]
      obtain ⟨p, hp, e⟩ := hp
      rcases List.mem_cons.1 hp with rfl | hp
      · simp [← e]
      · exact absurd e (hn p hp)

theorem hwsH_comm {h : Nat → Blk} {l m : List (Nat × Blk)} (hd : ∀ p ∈ l, ∀ q ∈ m, p.1 ≠ q.1) : hwsH (hwsH h l) m = hwsH (hwsH h m) l := by
  funext i
  by_cases hl : ∃ p ∈ l, p.1 = i
  · obtain ⟨p, hp, e⟩ := hl
    rw [hwsH_not (ws := m) fun q hq e' => hd p hp q hq (e.trans e'.symm)]
    exact hwsH_in ⟨p, hp, e⟩
  · have hn : ∀ p ∈ l, p.1 ≠ i := fun p hp e => hl ⟨p, hp, e⟩
    rw [hwsH_not (ws := l) hn]
    by_cases hm : ∃ p ∈ m, p.1 = i
    · exact hwsH_in hm
    · have hn' : ∀ p ∈ m, p.1 ≠ i := fun p hp e => hm ⟨p, hp, e⟩
      rw [hwsH_not hn', hwsH_not hn', hwsH_not hn]

/-- May they change places? -/
def Free (ops : Array Oper) (out : Nat → Option R) (i j : Nat) : Prop :=
  (∀ x y, ops[i]? = some x → ops[j]? = some y → x.apart ops y = true) ∧ clear (lab (out i)) (lab (out j)) ∧ clear (lab (out j)) (lab (out i))

theorem swap {out : Nat → Option R} {i j : Nat} {x y : Oper} {S : St} (hx : ops[i]? = some x) (hy : ops[j]? = some y) (hf : Free ops out i j)
    (h1 : OutOk P sg ops n0 i x S (out i)) (h2 : OutOk P sg ops n0 j y (eff x (out i) S) (out j)) :
    OutOk P sg ops n0 j y S (out j) ∧ OutOk P sg ops n0 i x (eff y (out j) S) (out i) ∧ eff y (out j) (eff x (out i) S) = eff x (out i) (eff y (out j) S) := by
  obtain ⟨hap, c1, c2⟩ := hf
  obtain ⟨a1, a2, a3⟩ := Oper.apart_spec (hap x y hx hy)
  refine ⟨h2.congr (fun t ht => ?_) fun id hid => ?_, h1.congr (fun t ht => ?_) fun id hid => ?_, ?_⟩
  · exact (eff_e fun d hd e => a1 d hd (e ▸ ht)).symm
  · rw [eff_h, hwsH_not fun p hp e => (c1 p hp).1 (e ▸ hid)]
  · exact eff_e fun d hd e => a3 d hd (e ▸ ht)
  · rw [eff_h, hwsH_not fun p hp e => (c2 p hp).1 (e ▸ hid)]
  · have ehh : hwsH (hwsH S.h (lab (out i)).1) (lab (out j)).1 = hwsH (hwsH S.h (lab (out j)).1) (lab (out i)).1 := hwsH_comm fun p hp q hq => (c1 p hp).2 q hq
    simp only [eff_eq, ehh]
    congr 1
    funext t
    cases hxd : x.dst with
    | none => simp only [St.puto]; cases y.dst <;> rfl
    | some d =>
      cases hyd : y.dst with
      | none => rfl
      | some d' =>
        have hne : d' ≠ d := fun e => a2 d hxd (e ▸ hyd)
        simp only [St.puto, St.put]
        by_cases h : t = d
        · subst h; simp [hne.symm]
        · by_cases h' : t = d'
          · subst h'; simp [hne]
          · simp [h, h']

theorem RunL.front {out : Nat → Option R} {i : Nat} {post : List Nat} : ∀ (pre : List Nat) (S S' : St), (∀ j ∈ pre, Free ops out j i) → RunL P sg ops n0 out (pre ++ i :: post) S S' → RunL P sg ops n0 out (i :: (pre ++ post)) S S' := by
  intro pre
  induction pre with
  | nil => intro S S' _ h; exact h
  | cons j pre ih =>
    intro S S' hf h
    obtain ⟨x, hx, ox, h⟩ := h
    obtain ⟨y, hy, oy, h⟩ := ih _ _ (fun k hk => hf k (by simp [hk])) h
    obtain ⟨s1, s2, e⟩ := swap hx hy (hf j (by simp)) ox oy
    exact ⟨y, hy, s1, x, hx, s2, by rw [← e]; exact h⟩

theorem RunL.n {out : Nat → Option R} : ∀ (is : List Nat) (S S' : St), RunL P sg ops n0 out is S S' → S'.n = S.n
  | [], _, _, h => by rw [h]
  | _ :: is, _, _, ⟨_, _, _, h⟩ => (RunL.n is _ _ h).trans eff_n

theorem RunL.congr {out out' : Nat → Option R} : ∀ (is : List Nat) (S S' : St), (∀ i ∈ is, out' i = out i) → RunL P sg ops n0 out is S S' → RunL P sg ops n0 out' is S S'
  | [], _, _, _, h => h
  | i :: is, S, S', he, ⟨o, ho, h1, h2⟩ => ⟨o, ho, by rw [he i (by simp)]; exact h1, by rw [he i (by simp)]; exact RunL.congr is _ _ (fun j hj => he j (by simp [hj])) h2⟩

theorem opsD_run {K : St → List (List (Nat × Blk) × List Nat) → Prop} : ∀ (os : List Oper) (i : Nat) (S : St) (L : List (List (Nat × Blk) × List Nat)), ops.toList.drop i = os → opsD P sg ops n0 os i S L K →
    ∃ (outs : List (Option R)) (S' : St), outs.length = os.length ∧ RunL P sg ops n0 (fun j => outs.getD (j - i) none) (List.range' i os.length) S S' ∧ K S' (L ++ outs.map lab) := by
  intro os
  induction os with
  | nil => intro i S L _ h; exact ⟨[], S, rfl, rfl, by simpa [opsD] using h⟩
  | cons o os ih =>
    intro i S L hd h
    have ho : ops[i]? = some o := by
      have := congrArg (·[0]?) hd
      simp only [List.getElem?_drop, List.getElem?_cons_zero, Nat.add_zero] at this
      simpa using this
    have hd' : ops.toList.drop (i + 1) = os := by
      have := congrArg (List.drop 1) hd
      simpa [List.drop_drop, Nat.add_comm] using this
    simp only [opsD] at h
    have fin : ∀ x : Option R, OutOk P sg ops n0 i o S x → opsD P sg ops n0 os (i + 1) (eff o x S) (L ++ [lab x]) K →
        ∃ (outs : List (Option R)) (S' : St), outs.length = (o :: os).length ∧ RunL P sg ops n0 (fun j => outs.getD (j - i) none) (List.range' i (o :: os).length) S S' ∧ K S' (L ++ outs.map lab) := by
      intro x hx hrest
      obtain ⟨outs, S', hl, hrun, hK⟩ := ih (i + 1) _ _ hd' hrest
      refine ⟨x :: outs, S', by simp [hl], ⟨o, ho, by simpa using hx, ?_⟩, by simpa using hK⟩
      simp only [Nat.sub_self, List.getD_cons_zero]
      refine RunL.congr _ _ _ (fun j hj => ?_) hrun
      have hj := List.mem_range'_1.1 hj
      obtain ⟨m, rfl⟩ : ∃ m, j = i + 1 + m := ⟨j - (i + 1), by omega⟩
      have e1 : i + 1 + m - i = m + 1 := by omega
      have e2 : i + 1 + m - (i + 1) = m := by omega
      simp only [e1, e2, List.getD_cons_succ]
    rcases guardW_or h with ⟨hg, h⟩ | ⟨hg, h⟩
    · obtain ⟨r, hr, hf⟩ := opW_fix _ h
      exact fin (some r) ⟨hg, fun K' hK' => hf S.h (fun _ _ => rfl) K' hK'⟩ hr
    · exact fin none hg h

/-- Every edge of what is listed leads to what is listed. -/
def Shut (ops : Array Oper) (listed : Array Bool) : Prop :=
  ∀ k, listed.getD k false = true → ∀ o, ops[k]? = some o → ∀ e ∈ o.after, Region.binds .any e = true → listed.getD e.on false = true

theorem behind_listed {listed : Array Bool} (hc : Shut ops listed) {i : Nat} : ∀ (n j : Nat), behind ops n i j = true → (∀ o, ops[j]? = some o → ∀ e ∈ o.after, Region.binds .any e = true → listed.getD e.on false = true) → listed.getD i false = true := by
  intro n
  induction n with
  | zero => intro j h; simp [behind] at h
  | succ n ih =>
    intro j h hj
    simp only [behind] at h
    cases ho : ops[j]? with
    | none => simp [ho] at h
    | some o =>
      simp only [ho] at h
      obtain ⟨e, he, hb⟩ := Array.any_eq_true'.1 h
      simp only [Bool.and_eq_true, Bool.or_eq_true, beq_iff_eq, decide_eq_true_eq] at hb
      obtain ⟨⟨hb, _⟩, hb2⟩ := hb
      have hl := hj o ho e he hb
      rcases hb2 with rfl | hb2
      · exact hl
      · exact ih e.on hb2 fun o' ho' => hc e.on hl o' ho'

end

section
variable {P : Program} {sg : FuncId → List Bool} {w0 : World} {nA nt : Nat} {M G : Nat → Prop} {ι0 : Nat → Loc} {w : World} {S : St} {ι : Nat → Loc} {a : Act}

theorem Rel.drawn {A : Nat → Prop} (h : Rel w0 nA nt M G ι0 A w S ι a) (d : Nat) : Rel w0 nA nt M G ι0 A { w with drawn := d } S ι a := by
  have st : Stays w { w with drawn := d } (Held S.h ι) (Held S.h ι) := fun _ _ _ h hv => ⟨hv, h⟩
  have tr : ∀ {B o xs}, RepC w (Held S.h ι) G B o xs → RepC { w with drawn := d } (Held S.h ι) G B o xs := fun hc => RepC.tr st (fun _ _ _ h => h) _ _ _ (fun _ _ hv => hv) hc
  refine h.step (fun _ h => h) ⟨rfl, rfl, rfl, Nat.le_refl _, fun _ _ _ => rfl⟩ ⟨fun id m c hl => ?_, fun id m c hf => ?_, h.heap.sep⟩ st (fun _ _ => rfl) h.alloc
  · obtain ⟨h1, h2, h3⟩ := h.heap.live id m c hl
    exact ⟨h1, h2, h3.imp _root_.id fun ⟨hr, hc, hx⟩ => ⟨hr, tr hc, hx⟩⟩
  · obtain ⟨h1, h2, h3⟩ := h.heap.froz id m c hf
    exact ⟨h1, h2, h3.imp _root_.id fun ⟨hF, hG, hc⟩ => ⟨hF, hG, tr hc⟩⟩

def givenL (n0 : Nat) (listed : Array Bool) : Nat → Prop := fun id => id < n0 ∨ ∃ i, listed.getD i false = true ∧ num n0 i ≤ id ∧ id < num n0 i + 256

theorem getD_lt {listed : Array Bool} {i : Nat} (h : listed.getD i false = true) : i < listed.size := by
  rcases Nat.lt_or_ge i listed.size with h' | h'
  · exact h'
  · simp [Array.getElem?_eq_none h'] at h

theorem any_sound {ops : Array Oper} (hreg : regOk nt ops = true) {n0 : Nat} {Q : Exit → Act → World → Prop} {out : Nat → Option R}
    (hfree : ∀ j i, j < i → i < ops.size → behind ops ops.size j i = true ∨ Free ops out j i) {Sf : St}
    (hQ : ∀ a' w' ι', Rel w0 nA nt M G ι0 (given n0 ops.size) w' Sf ι' a' → Q .normal a' w') :
    ∀ (is : List Nat) (listed : Array Bool) (S : St) (a : Act) (w : World) (ι : Nat → Loc), listed.size = ops.size → is.Pairwise (· < ·) → (∀ j, j < ops.size → (listed.getD j true = false ↔ j ∈ is)) → (∀ j ∈ is, j < ops.size) →
      Shut ops listed → RunL P sg ops n0 out is S Sf → Rel w0 nA nt M G ι0 (givenL n0 listed) w S ι a → wpAny P .any ops Q is.length listed a w := by
  intro is
  induction hn : is.length generalizing is with
  | zero =>
    intro listed S a w ι hsz hs hun hin hc hrun h
    obtain rfl := List.eq_nil_of_length_eq_zero hn
    refine ⟨?_, ?_⟩
    · rw [List.eq_nil_iff_forall_not_mem]
      intro j hj
      obtain ⟨h0, o, ho, _⟩ := mem_ready.1 hj
      have := (hun j (Array.getElem?_eq_some_iff.1 ho).1).1 h0
      cases this
    · have e : Sf = S := hrun
      subst e
      refine hQ a w ι (h.mono fun id hid => ?_)
      simp only [given, num]
      rcases hid with h1 | ⟨i, hi, h1, h2⟩
      · omega
      · have := getD_lt hi
        simp only [num] at h1 h2
        omega
  | succ n ih =>
    intro listed S a w ι hsz hs hun hin hc hrun h
    have lf : ∀ j, j < ops.size → (listed.getD j false = true ↔ j ∉ is) := fun j hj => by
      rw [← hun j hj]
      have hj' : j < listed.size := by omega
      simp [hj']
    refine ⟨fun h0 => ?_, fun i hi => ?_⟩
    · exfalso
      cases is with
      | nil => cases hn
      | cons j is =>
        have hj := hin j (by simp)
        have : j ∈ Region.ready .any ops listed := by
          refine mem_ready.2 ⟨(hun j hj).2 (by simp), ops[j], Array.getElem?_eq_getElem hj, fun e he hb => ?_⟩
          have hlt := (regOk_spec hreg (Array.getElem?_eq_getElem hj)).2 e he hb
          refine (lf e.on (by omega)).2 fun hm => ?_
          rcases List.mem_cons.1 hm with rfl | hm
          · omega
          · have := (List.pairwise_cons.1 hs).1 e.on hm
            omega
        rw [h0] at this
        cases this
    · obtain ⟨h0, o, ho, hall⟩ := mem_ready.1 hi
      have hilt : i < ops.size := (Array.getElem?_eq_some_iff.1 ho).1
      have him : i ∈ is := (hun i hilt).1 h0
      obtain ⟨pre, post, rfl⟩ := List.append_of_mem him
      have hpw := List.pairwise_append.1 hs
      have hfr : ∀ j ∈ pre, Free ops out j i := fun j hj => by
        have hji : j < i := hpw.2.2 j hj i (by simp)
        rcases hfree j i hji hilt with hb | hf
        · exfalso
          have := behind_listed hc ops.size i hb fun o' ho' e he hb' => hall e (by rw [ho] at ho'; cases ho'; exact he) hb'
          exact (lf j (by omega)).1 this (by simp [hj])
        · exact hf
      obtain ⟨o', ho', hok, hrun'⟩ := RunL.front pre S Sf hfr hrun
      obtain rfl : o' = o := by rw [ho] at ho'; cases ho'; rfl
      have hi' : i < listed.size := by omega
      have hA : ∀ x, x < 256 → ¬ givenL n0 listed (num n0 i + x) := by
        rintro x hx (h1 | ⟨j, hj, h1, h2⟩)
        · simp only [num] at h1; omega
        · have hne : j ≠ i := by rintro rfl; exact (lf j hilt).1 hj him
          simp only [num] at h1 h2; omega
      have hset : ∀ j, (listed.setIfInBounds i true).getD j false = true ↔ j = i ∨ listed.getD j false = true := fun j => by
        by_cases e : i = j
        · subst e; simp [hi']
        · rw [getD_set_ne false e]; simp [Ne.symm e]
      have hnext : ∀ (S1 : St) a1 w1 ι1, S1 = eff o' (out i) S → Rel w0 nA nt M G ι0 (plus (givenL n0 listed) (num n0 i)) w1 S1 ι1 a1 → wpAny P .any ops Q n (listed.setIfInBounds i true) a1 w1 := by
        intro S1 a1 w1 ι1 e1 h1
        subst e1
        refine ih (pre ++ post) (by simp at hn ⊢; omega) (listed.setIfInBounds i true) _ a1 w1 ι1 (by simp [hsz]) ?_ ?_ (fun j hj => hin j (by simp at hj ⊢; rcases hj with h | h <;> simp [h])) ?_ hrun' (h1.mono fun id hid => ?_)
        · refine List.pairwise_append.2 ⟨hpw.1, (List.pairwise_cons.1 hpw.2.1).2, fun x hx y hy => hpw.2.2 x hx y (by simp [hy])⟩
        · intro j hj
          by_cases e : i = j
          · subst e
            have n1 : i ∉ pre := fun hm => absurd (hpw.2.2 i hm i (by simp)) (Nat.lt_irrefl _)
            have n2 : i ∉ post := fun hm => absurd ((List.pairwise_cons.1 hpw.2.1).1 i hm) (Nat.lt_irrefl _)
            simp [hi', n1, n2]
          · rw [getD_set_ne true e, hun j hj]
            simp [Ne.symm e]
        · intro k hk o1 ho1 e he hb
          rw [hset] at hk ⊢
          right
          rcases hk with rfl | hk
          · rw [ho] at ho1; cases ho1; exact hall e he hb
          · exact hc k hk o1 ho1 e he hb
        · rcases hid with hid | hid
          · rcases hid with h2 | ⟨j, hj, h2⟩
            · exact .inl h2
            · exact .inr ⟨j, (hset j).2 (.inr hj), h2⟩
          · exact .inr ⟨i, (hset i).2 (.inl rfl), hid⟩
      obtain ⟨hdst, _⟩ := regOk_spec hreg ho
      unfold wpOp
      simp only [ho]
      cases hout : out i with
      | some r =>
        rw [hout] at hok hnext
        rcases guard_spec h hok.1 with ⟨hw, _⟩ | ⟨_, hf⟩
        · rw [if_pos hw]
          refine .inl (opW_does h hdst hA (hok.2 (fun x => x = r) rfl) _ _ fun r' val w' ι' hk hrel => ?_)
          subst hk
          exact hnext _ _ _ ι' rfl hrel
        · exact hf.elim
      | none =>
        rw [hout] at hok hnext
        rcases guard_spec h hok with ⟨_, hf⟩ | ⟨hw, _⟩
        · exact hf.elim
        · rw [if_neg (by rw [hw]; simp)]
          exact hnext _ _ _ ι rfl ((h.skip o'.dst hdst).mono fun _ hid => .inl hid)

theorem region_sound (hm : P.follows .mixedOrders = true) {id : Nat} {ops : Array Oper} (hreg : regOk nt ops = true) (hap : apartAll ops = true) {Q : Exit → Act → World → Prop} {K : St → Prop}
    (h : Rel w0 nA nt M G ι0 (fun id => id < S.n) w S ι a) (hK : opsD P sg ops S.n ops.toList 0 S [] fun S' L => clearAll ops L ∧ K S')
    (hQ : ∀ S' a' w' ι', K S' → S'.n = S.n → Rel w0 nA nt M G ι0 (given S.n ops.size) w' S' ι' a' → Q .normal a' w') : (Code.region id ops true).wp P Q a w := by
  obtain ⟨outs, S', hl, hrun, hcl, hKS⟩ := opsD_run ops.toList 0 S [] (by simp) hK
  refine wp_region_any hm ?_
  simp only [Array.length_toList, List.nil_append] at hl hrun hcl
  have e : (List.range ops.size).length = ops.size := by simp
  have := any_sound (P := P) (sg := sg) (w0 := w0) (nA := nA) (M := M) (G := G) (ι0 := ι0) (Q := Q) hreg (n0 := S.n) (out := fun j => outs.getD j none) (Sf := S') ?_ (fun a' w' ι' hr => hQ S' a' w' ι' hKS (RunL.n _ _ _ hrun) hr)
    (List.range ops.size) (Array.replicate ops.size false) S a { w with drawn := w.drawn + 1 } ι (by simp) List.pairwise_lt_range ?_ (fun j hj => List.mem_range.1 hj) ?_ ?_ ((h.drawn _).mono fun id hid => .inl hid)
  · rw [e] at this; exact this
  · intro j i hji hi
    rcases hcl i hi j hji with hb | ⟨c1, c2⟩
    · exact .inl hb
    · cases hb : behind ops ops.size j i with
      | true => exact .inl rfl
      | false =>
        right
        have hL : ∀ x, x < ops.size → (outs.map lab).getD x ([], []) = lab (outs.getD x none) := fun x hx => by
          have hx' : x < outs.length := by omega
          simp [hx']
        rw [hL j (by omega), hL i hi] at c1
        rw [hL j (by omega), hL i hi] at c2
        refine ⟨fun x y hx hy => ?_, c1, c2⟩
        have h1 := List.all_eq_true.1 hap i (List.mem_range.2 hi)
        have h2 := List.all_eq_true.1 h1 j (List.mem_range.2 hji)
        simpa [hb, hx, hy] using h2
  · intro j hj
    simp [hj]
  · intro k hk
    have := getD_lt hk
    simp at this
    simp [this] at hk
  · rw [List.range_eq_range']
    simpa using hrun

end
end Go.Gl
