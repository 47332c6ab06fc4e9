/-
  A program logic over the walk's rules, eighteenth part: a function's contract by its body. Conditions: those that each lemma names.
-/
import Derived.Test.YtdiiocckeldkfaaGl17
namespace Go.Gl
open Go

/-- The state at a call's beginning. -/
def entry (as : List Arg) : St := { e := fun t => (argAVs 0 as).getD t (.p .any), h := argH as, n := as.length }

/-- The value v, handed back as the result x (its own block from here on: number k); L: which block of the call's it is. -/
def fin1 (tk : Bool) (h : Nat → Blk) (k : Nat) (v : AV) (x : PV) (K : List (Nat × Nat × Nat) → Prop) : Prop :=
  match x with
  | .sl .own xs => match v with
    | .ref id off len => match h id with
      | .live m c => off + len ≤ c.length ∧ (m = true → tk = true) ∧ (c.drop off).take len = xs ∧ K [(k, id, off)]
      | _ => False
    | .p (.sl .own _) => xs = [] ∧ K []
    | _ => False
  | .sl .fr xs => match v with
    | .p (.sl .fr ys) => ys = xs ∧ K []
    | .p (.sl .own _) => xs = [] ∧ K []
    | .ref id off len => match h id with
      | .froz false c => off + len ≤ c.length ∧ (c.drop off).take len = xs ∧ K []
      | _ => False
    | _ => False
  | .agg _ => False
  | x => v = .p x ∧ K []
def finL (tk : Bool) (h : Nat → Blk) : Nat → List AV → List PV → (List (Nat × Nat × Nat) → Prop) → Prop
  | _, [], [], K => K []
  | k, v :: vs, x :: xs, K => fin1 tk h k v x fun L => finL tk h (k + 1) vs xs fun L' => K (L ++ L')
  | _, _, _, _ => False
def fin (tk : Bool) (h : Nat → Blk) (k : Nat) (v : AV) (x : PV) (K : List (Nat × Nat × Nat) → Prop) : Prop :=
  match x with
  | .agg xs => match v with
    | .agg vs => finL tk h (k + 1) vs xs K
    | .p (.agg ys) => finL tk h (k + 1) (ys.map .p) xs K
    | _ => False
  | x => fin1 tk h k v x K
def fins (tk : Bool) (h : Nat → Blk) : Nat → List AV → List PV → (List (Nat × Nat × Nat) → Prop) → Prop
  | _, [], [], K => K []
  | k, v :: vs, x :: xs, K => fin tk h k v x fun L => fins tk h (k + 16) vs xs fun L' => K (L ++ L')
  | _, _, _, _ => False

/-- The end of a call: its results, and the memory that was lent. -/
def Fin (tk : Bool) (S : St) (as : List Arg) (outs : List (Option (List PV))) (vs : List AV) (res : List PV) : Prop :=
  fins tk S.h as.length vs res fun L => (L.map fun p => p.2.1).Nodup ∧ ∀ j, j < as.length → match as[j]?, outs[j]? with
    | some (.mu _ _), some (some c) => S.h j = .live true c ∧ j ∉ L.map fun p => p.2.1
    | _, _ => True

/-- Where the results lie. -/
def locOf (ι : Nat → Loc) (n : Nat) (L : List (Nat × Nat × Nat)) (i : Nat) : Loc :=
  if i < n then ι i else match L.find? (fun p => p.1 == i) with
    | some (_, id, off) => ⟨(ι id).B, (ι id).off + off, (ι id).cap - off⟩
    | none => ⟨0, 0, 0⟩

/-- A setting of a result, and the block that it comes from. -/
def From (tk : Bool) (h : Nat → Blk) (L : List (Nat × Nat × Nat)) (p : Nat × Blk) : Prop :=
  (∃ id off len m c, (p.1, id, off) ∈ L ∧ h id = .live m c ∧ off + len ≤ c.length ∧ (m = true → tk = true) ∧ p.2 = .live tk ((c.drop off).take len)) ∨ (p.2 = .live tk [] ∧ ∀ q ∈ L, q.1 ≠ p.1)

section
variable {P : Program} {sg : FuncId → List Bool} {w0 : World} {nA nt : Nat} {M G : Nat → Prop} {ι0 : Nat → Loc} {A : Nat → Prop} {w : World} {S : St} {ι : Nat → Loc} {a : Act}

/-- What is told of a value, told again where fewer blocks are held. -/
def TellsA (w : World) (h : Nat → Blk) (ι : Nat → Loc) (z : Nat) (M G : Nat → Prop) : Prop := HeapOk w z M G h ι

theorem fin1_sound {tk : Bool} {h : Nat → Blk} {k : Nat} {v : AV} {x : PV} {K : List (Nat × Nat × Nat) → Prop} (hK : fin1 tk h k v x K) :
    ∃ L, K L ∧ (∀ p ∈ L, p.1 = k) ∧ L.length ≤ 1 ∧ (∀ p ∈ impW1 tk k x, From tk h L p) ∧
      ∀ {w : World} {z : Nat} {M G F' : Nat → Prop} {ι ι' : Nat → Loc} {val : Value}, HeapOk w z M G h ι → (∀ B, F' B → Held h ι B) → (∀ p ∈ L, ι' p.1 = ⟨(ι p.2.1).B, (ι p.2.1).off + p.2.2, (ι p.2.1).cap - p.2.2⟩) → (L = [] → (ι' k).cap = 0) → RepA w (Held h ι) G ι v val → RepA w F' G ι' (imp1 k x) val := by
  have down : ∀ {w : World} {z : Nat} {M G F' : Nat → Prop} {ι : Nat → Loc} {y : PV} {val : Value}, HeapOk w z M G h ι → (∀ B, F' B → Held h ι B) → RepP w (Held h ι) G y val → RepP w F' G y val := fun _ hF hy =>
    RepP.tr (fun _ _ _ hN hv => ⟨hv, fun h' => hN (hF _ h')⟩) (fun _ _ _ h => h) _ _ hy
  have scalar : ∀ {y : PV}, v = .p y → K [] → (∀ k, imp1 k y = .p y) → (∀ m k, impW1 m k y = []) → ∃ L, K L ∧ (∀ p ∈ L, p.1 = k) ∧ L.length ≤ 1 ∧ (∀ p ∈ impW1 tk k y, From tk h L p) ∧
      ∀ {w : World} {z : Nat} {M G F' : Nat → Prop} {ι ι' : Nat → Loc} {val : Value}, HeapOk w z M G h ι → (∀ B, F' B → Held h ι B) → (∀ p ∈ L, ι' p.1 = ⟨(ι p.2.1).B, (ι p.2.1).off + p.2.2, (ι p.2.1).cap - p.2.2⟩) → (L = [] → (ι' k).cap = 0) → RepA w (Held h ι) G ι v val → RepA w F' G ι' (imp1 k y) val := by
    intro y hv hk e1 e2
    subst hv
    refine ⟨[], hk, fun p hp => by simp at hp, by simp, fun p hp => by rw [e2] at hp; simp at hp, ?_⟩
    intro w z M G F' ι ι' val ok hF _ _ hr
    rw [e1]
    simp only [RepA] at hr ⊢
    exact down ok hF hr
  cases x with
  | sl o xs =>
    cases o with
    | ro => exact scalar hK.1 hK.2 (fun _ => rfl) fun _ _ => rfl
    | fr =>
      simp only [fin1] at hK
      split at hK
      · rename_i ys
        obtain ⟨rfl, hk⟩ := hK
        exact scalar rfl hk (fun _ => rfl) fun _ _ => rfl
      · rename_i ys
        obtain ⟨rfl, hk⟩ := hK
        refine ⟨[], hk, fun p hp => by simp at hp, by simp, fun p hp => by simp [impW1] at hp, ?_⟩
        intro w z M G F' ι ι' val ok hF _ _ hr
        obtain ⟨ad, cap, rfl, _, _, ho, _⟩ := rep_sl hr
        obtain ⟨rfl, rfl, rfl⟩ := ho rfl
        simp only [imp1, RepA, RepP]
        exact ⟨none, 0, rfl, by simp, by simp, by simp, .inl trivial⟩
      · rename_i id off len
        split at hK
        · rename_i c hb
          obtain ⟨hle, rfl, hk⟩ := hK
          refine ⟨[], hk, fun p hp => by simp at hp, by simp, fun p hp => by simp [impW1] at hp, ?_⟩
          intro w z M G F' ι ι' val ok hF _ _ hr
          simp only [imp1]
          have := ref_told (h' := h) ok (Frz.refl h) hb hle hr
          simp only [RepA]
          exact down ok hF this
        · exact hK.elim
      · exact hK.elim
    | own =>
      simp only [fin1] at hK
      split at hK
      · rename_i id off len
        split at hK
        · rename_i m c hb
          obtain ⟨hle, htk, rfl, hk⟩ := hK
          refine ⟨[(k, id, off)], hk, fun p hp => by simp at hp; rw [hp], by simp, fun p hp => ?_, ?_⟩
          · simp [impW1] at hp
            subst hp
            exact .inl ⟨id, off, len, m, c, by simp, hb, hle, htk, rfl⟩
          · intro w z M G F' ι ι' val ok hF hι _ hr
            obtain ⟨ad, cap, rfl, h1, h2, h3, h4⟩ := rep_ref hr
            have e := hι (k, id, off) (by simp)
            have hlen : ((c.drop off).take len).length = len := by simp; omega
            simp only [imp1, RepA]
            simp only at e
            rw [e, hlen]
            refine ⟨ad, cap, rfl, h1, by simp; omega, by simp; omega, ?_⟩
            rcases h4 with h4 | h4
            · exact .inl h4
            · exact .inr (by simpa using h4)
        · exact hK.elim
      · rename_i ys
        obtain ⟨rfl, hk⟩ := hK
        refine ⟨[], hk, fun p hp => by simp at hp, by simp, fun p hp => ?_, ?_⟩
        · simp [impW1] at hp
          subst hp
          exact .inr ⟨rfl, fun q hq => by simp at hq⟩
        · intro w z M G F' ι ι' val ok hF _ h0 hr
          obtain ⟨ad, cap, rfl, _, _, ho, _⟩ := rep_sl hr
          obtain ⟨rfl, rfl, rfl⟩ := ho rfl
          have := h0 rfl
          simp only [imp1, RepA]
          exact ⟨none, 0, rfl, by simp, by simp [this], by omega, .inl rfl⟩
      · exact hK.elim
  | agg xs => exact hK.elim
  | int _ _ => exact scalar hK.1 hK.2 (fun _ => rfl) fun _ _ => rfl
  | bool _ => exact scalar hK.1 hK.2 (fun _ => rfl) fun _ _ => rfl
  | str _ => exact scalar hK.1 hK.2 (fun _ => rfl) fun _ _ => rfl
  | nilf => exact scalar hK.1 hK.2 (fun _ => rfl) fun _ _ => rfl
  | any => exact scalar hK.1 hK.2 (fun _ => rfl) fun _ _ => rfl
  | pc _ => exact scalar hK.1 hK.2 (fun _ => rfl) fun _ _ => rfl
  | fn _ _ _ => exact scalar hK.1 hK.2 (fun _ => rfl) fun _ _ => rfl

theorem From.left {tk : Bool} {h : Nat → Blk} {L L' : List (Nat × Nat × Nat)} {p : Nat × Blk} (f : From tk h L p) (hn : ∀ q ∈ L', q.1 ≠ p.1) : From tk h (L ++ L') p := by
  rcases f with ⟨id, off, len, m, c, h1, h2⟩ | ⟨h1, h2⟩
  · exact .inl ⟨id, off, len, m, c, List.mem_append.2 (.inl h1), h2⟩
  · refine .inr ⟨h1, fun q hq => ?_⟩
    rcases List.mem_append.1 hq with hq | hq
    · exact h2 q hq
    · exact hn q hq
theorem From.right {tk : Bool} {h : Nat → Blk} {L L' : List (Nat × Nat × Nat)} {p : Nat × Blk} (f : From tk h L' p) (hn : ∀ q ∈ L, q.1 ≠ p.1) : From tk h (L ++ L') p := by
  rcases f with ⟨id, off, len, m, c, h1, h2⟩ | ⟨h1, h2⟩
  · exact .inl ⟨id, off, len, m, c, List.mem_append.2 (.inr h1), h2⟩
  · refine .inr ⟨h1, fun q hq => ?_⟩
    rcases List.mem_append.1 hq with hq | hq
    · exact hn q hq
    · exact h2 q hq

theorem impW1_at {m : Bool} {k : Nat} {x : PV} : ∀ p ∈ impW1 m k x, p.1 = k := by
  unfold impW1; split <;> simp
theorem impWL_at {m : Bool} : ∀ {xs : List PV} {k : Nat}, ∀ p ∈ impWL m k xs, k ≤ p.1 ∧ p.1 < k + xs.length
  | [], k, p, hp => by simp [impWL] at hp
  | x :: xs, k, p, hp => by
    simp only [impWL, List.mem_append] at hp
    rcases hp with hp | hp
    · have := impW1_at p hp; simp; omega
    · have := impWL_at p hp; simp; omega

/-- What the settings and the places owe each other, for numbers from k up to k'. -/
structure Placed (tk : Bool) (h : Nat → Blk) (k k' : Nat) (ws : List (Nat × Blk)) (L : List (Nat × Nat × Nat)) : Prop where
  lo : ∀ p ∈ L, k ≤ p.1 ∧ p.1 < k'
  nums : (L.map (·.1)).Nodup
  wsl : ∀ p ∈ ws, k ≤ p.1 ∧ p.1 < k'
  src : ∀ p ∈ ws, From tk h L p

theorem Placed.append {tk : Bool} {h : Nat → Blk} {k k' k'' : Nat} {ws ws' : List (Nat × Blk)} {L L' : List (Nat × Nat × Nat)} (p : Placed tk h k k' ws L) (q : Placed tk h k' k'' ws' L') (h1 : k ≤ k') (h2 : k' ≤ k'') : Placed tk h k k'' (ws ++ ws') (L ++ L') := by
  refine ⟨fun x hx => ?_, ?_, fun x hx => ?_, fun x hx => ?_⟩
  · rcases List.mem_append.1 hx with hx | hx
    · have := p.lo x hx; omega
    · have := q.lo x hx; omega
  · rw [List.map_append, List.nodup_append]
    refine ⟨p.nums, q.nums, fun x hx y hy e => ?_⟩
    obtain ⟨x', hx', rfl⟩ := List.mem_map.1 hx
    obtain ⟨y', hy', rfl⟩ := List.mem_map.1 hy
    have := p.lo x' hx'; have := q.lo y' hy'; omega
  · rcases List.mem_append.1 hx with hx | hx
    · have := p.wsl x hx; omega
    · have := q.wsl x hx; omega
  · rcases List.mem_append.1 hx with hx | hx
    · exact (p.src x hx).left fun y hy e => by have := q.lo y hy; have := p.wsl x hx; omega
    · exact (q.src x hx).right fun y hy e => by have := p.lo y hy; have := q.wsl x hx; omega

theorem fin1_placed {tk : Bool} {h : Nat → Blk} {k : Nat} {x : PV} {L : List (Nat × Nat × Nat)} (h1 : ∀ p ∈ L, p.1 = k) (h2 : L.length ≤ 1) (h3 : ∀ p ∈ impW1 tk k x, From tk h L p) : Placed tk h k (k + 1) (impW1 tk k x) L := by
  refine ⟨fun p hp => by have := h1 p hp; omega, ?_, fun p hp => by have := impW1_at p hp; omega, h3⟩
  match L, h2 with
  | [], _ => simp
  | [p], _ => simp

/-- The places fit the settings, where they are asked. -/
def Fits (ι ι' : Nat → Loc) (k k' : Nat) (L : List (Nat × Nat × Nat)) : Prop :=
  (∀ p ∈ L, ι' p.1 = ⟨(ι p.2.1).B, (ι p.2.1).off + p.2.2, (ι p.2.1).cap - p.2.2⟩) ∧ ∀ i, k ≤ i → i < k' → (∀ p ∈ L, p.1 ≠ i) → (ι' i).cap = 0

theorem Fits.left {ι ι' : Nat → Loc} {k k1 k' : Nat} {L L' : List (Nat × Nat × Nat)} (h : Fits ι ι' k k' (L ++ L')) (hk : k1 ≤ k') (hL : ∀ p ∈ L', k1 ≤ p.1) : Fits ι ι' k k1 L :=
  ⟨fun p hp => h.1 p (List.mem_append.2 (.inl hp)), fun i h1 h2 h3 => h.2 i h1 (by omega) fun p hp => by
    rcases List.mem_append.1 hp with hp | hp
    · exact h3 p hp
    · have := hL p hp; omega⟩
theorem Fits.right {ι ι' : Nat → Loc} {k k1 k' : Nat} {L L' : List (Nat × Nat × Nat)} (h : Fits ι ι' k k' (L ++ L')) (hk : k ≤ k1) (hL : ∀ p ∈ L, p.1 < k1) : Fits ι ι' k1 k' L' :=
  ⟨fun p hp => h.1 p (List.mem_append.2 (.inr hp)), fun i h1 h2 h3 => h.2 i (by omega) h2 fun p hp => by
    rcases List.mem_append.1 hp with hp | hp
    · have := hL p hp; omega
    · exact h3 p hp⟩

theorem finL_sound {tk : Bool} {h : Nat → Blk} : ∀ {xs : List PV} {vs : List AV} {k : Nat} {K : List (Nat × Nat × Nat) → Prop}, finL tk h k vs xs K →
    ∃ L, K L ∧ Placed tk h k (k + xs.length) (impWL tk k xs) L ∧
      ∀ {w : World} {z : Nat} {M G F' : Nat → Prop} {ι ι' : Nat → Loc} {vals : List Value}, HeapOk w z M G h ι → (∀ B, F' B → Held h ι B) → Fits ι ι' k (k + xs.length) L → RepAL w (Held h ι) G ι vs vals → RepAL w F' G ι' (impL k xs) vals
  | [], [], k, K, hK => ⟨[], hK, ⟨fun p hp => by simp at hp, by simp, fun p hp => by simp [impWL] at hp, fun p hp => by simp [impWL] at hp⟩, fun _ _ _ hr => by simpa only [impL, RepAL] using hr⟩
  | x :: xs, v :: vs, k, K, hK => by
    simp only [finL] at hK
    obtain ⟨L, hK, a1, a2, a3, a4⟩ := fin1_sound hK
    obtain ⟨L', hK, b1, b2⟩ := finL_sound hK
    have p1 := fin1_placed a1 a2 a3
    refine ⟨L ++ L', hK, ?_, ?_⟩
    · have := p1.append b1 (by omega) (by omega)
      rw [show k + 1 + xs.length = k + (x :: xs).length from by simp; omega] at this
      exact this
    · intro w z M G F' ι ι' vals ok hF hf hr
      rw [show k + (x :: xs).length = k + 1 + xs.length from by simp; omega] at hf
      simp only [RepAL] at hr
      obtain ⟨u, us, rfl, h1, h2⟩ := hr
      simp only [impL, RepAL]
      refine ⟨u, us, rfl, a4 ok hF (fun p hp => hf.1 p (List.mem_append.2 (.inl hp))) (fun e => ?_) h1, b2 ok hF (hf.right (by omega) fun p hp => by have := a1 p hp; omega) h2⟩
      refine hf.2 k (Nat.le_refl _) (by omega) fun p hp => ?_
      rcases List.mem_append.1 hp with hp | hp
      · rw [e] at hp; simp at hp
      · have := b1.lo p hp; omega
  | [], _ :: _, _, _, hK => by simp only [finL] at hK
  | _ :: _, [], _, _, hK => by simp only [finL] at hK

theorem fin_sound {tk : Bool} {h : Nat → Blk} {k : Nat} {v : AV} {x : PV} {K : List (Nat × Nat × Nat) → Prop} (hs : smallP x = true) (hK : fin tk h k v x K) :
    ∃ L, K L ∧ Placed tk h k (k + 16) (impW tk k x) L ∧
      ∀ {w : World} {z : Nat} {M G F' : Nat → Prop} {ι ι' : Nat → Loc} {val : Value}, HeapOk w z M G h ι → (∀ B, F' B → Held h ι B) → Fits ι ι' k (k + 16) L → RepA w (Held h ι) G ι v val → RepA w F' G ι' (imp k x) val := by
  have wide : ∀ {k1 k2 k3 : Nat} {ws L}, Placed tk h k1 k2 ws L → k ≤ k1 → k2 ≤ k3 → Placed tk h k k3 ws L := fun p h1 h2 =>
    ⟨fun q hq => by have := p.lo q hq; omega, p.nums, fun q hq => by have := p.wsl q hq; omega, p.src⟩
  have one : fin1 tk h k v x K → (∀ k, imp k x = imp1 k x) → (∀ m k, impW m k x = impW1 m k x) → ∃ L, K L ∧ Placed tk h k (k + 16) (impW tk k x) L ∧
      ∀ {w : World} {z : Nat} {M G F' : Nat → Prop} {ι ι' : Nat → Loc} {val : Value}, HeapOk w z M G h ι → (∀ B, F' B → Held h ι B) → Fits ι ι' k (k + 16) L → RepA w (Held h ι) G ι v val → RepA w F' G ι' (imp k x) val := by
    intro hK e1 e2
    obtain ⟨L, hk, a1, a2, a3, a4⟩ := fin1_sound hK
    refine ⟨L, hk, by rw [e2]; exact wide (fin1_placed a1 a2 a3) (Nat.le_refl _) (by omega), ?_⟩
    intro w z M G F' ι ι' val ok hF hf hr
    rw [e1]
    refine a4 ok hF (fun p hp => hf.1 p hp) (fun e => hf.2 k (Nat.le_refl _) (by omega) fun p hp => by rw [e] at hp; simp at hp) hr
  cases x with
  | agg xs =>
    simp [smallP] at hs
    have lists : ∀ vs, finL tk h (k + 1) vs xs K → ∃ L, K L ∧ Placed tk h k (k + 16) (impW tk k (.agg xs)) L ∧
        ∀ {w : World} {z : Nat} {M G F' : Nat → Prop} {ι ι' : Nat → Loc} {vals : List Value}, HeapOk w z M G h ι → (∀ B, F' B → Held h ι B) → Fits ι ι' k (k + 16) L → RepAL w (Held h ι) G ι vs vals → RepA w F' G ι' (imp k (.agg xs)) (.agg ⟨vals⟩) := by
      intro vs hK
      obtain ⟨L, hk, a1, a2⟩ := finL_sound hK
      refine ⟨L, hk, wide a1 (by omega) (by omega), ?_⟩
      intro w z M G F' ι ι' vals ok hF hf hr
      simp only [imp, RepA]
      refine ⟨vals, rfl, a2 ok hF ⟨hf.1, fun i h1 h2 h3 => hf.2 i (by omega) (by omega) h3⟩ hr⟩
    simp only [fin] at hK
    split at hK
    · rename_i vs
      obtain ⟨L, hk, a1, a2⟩ := lists vs hK
      refine ⟨L, hk, a1, ?_⟩
      intro w z M G F' ι ι' val ok hF hf hr
      simp only [RepA] at hr
      obtain ⟨cs, rfl, hl⟩ := hr
      exact a2 ok hF hf hl
    · rename_i ys
      obtain ⟨L, hk, a1, a2⟩ := lists _ hK
      refine ⟨L, hk, a1, ?_⟩
      intro w z M G F' ι ι' val ok hF hf hr
      simp only [RepA, RepP] at hr
      obtain ⟨cs, rfl, hl⟩ := hr
      exact a2 ok hF hf (RepAL_p.2 hl)
    · exact hK.elim
  | _ => exact one (by simpa only [fin] using hK) (fun _ => rfl) fun _ _ => rfl

theorem fins_sound {tk : Bool} {h : Nat → Blk} : ∀ {xs : List PV} {vs : List AV} {k : Nat} {K : List (Nat × Nat × Nat) → Prop}, xs.all smallP = true → fins tk h k vs xs K →
    ∃ L, K L ∧ Placed tk h k (k + 16 * xs.length) (impWs tk k xs) L ∧
      ∀ {w : World} {z : Nat} {M G F' : Nat → Prop} {ι ι' : Nat → Loc} {vals : List Value}, HeapOk w z M G h ι → (∀ B, F' B → Held h ι B) → Fits ι ι' k (k + 16 * xs.length) L → RepAL w (Held h ι) G ι vs vals → RepAL w F' G ι' (imps k xs) vals
  | [], [], k, K, _, hK => ⟨[], hK, ⟨fun p hp => by simp at hp, by simp, fun p hp => by simp [impWs] at hp, fun p hp => by simp [impWs] at hp⟩, fun _ _ _ hr => by simpa only [imps, RepAL] using hr⟩
  | x :: xs, v :: vs, k, K, hs, hK => by
    simp only [List.all_cons, Bool.and_eq_true] at hs
    simp only [fins] at hK
    obtain ⟨L, hK, a1, a2⟩ := fin_sound hs.1 hK
    obtain ⟨L', hK, b1, b2⟩ := fins_sound hs.2 hK
    refine ⟨L ++ L', hK, ?_, ?_⟩
    · have := a1.append b1 (by omega) (by omega)
      rw [show k + 16 + 16 * xs.length = k + 16 * (x :: xs).length from by simp; omega] at this
      exact this
    · intro w z M G F' ι ι' vals ok hF hf hr
      rw [show k + 16 * (x :: xs).length = k + 16 + 16 * xs.length from by simp; omega] at hf
      simp only [RepAL] at hr
      obtain ⟨u, us, rfl, h1, h2⟩ := hr
      simp only [imps, RepAL]
      exact ⟨u, us, rfl, a2 ok hF (hf.left (by omega) fun p hp => (b1.lo p hp).1) h1, b2 ok hF (hf.right (by omega) fun p hp => (a1.lo p hp).2) h2⟩
  | [], _ :: _, _, _, _, hK => by simp only [fins] at hK
  | _ :: _, [], _, _, _, hK => by simp only [fins] at hK

end
end Go.Gl
