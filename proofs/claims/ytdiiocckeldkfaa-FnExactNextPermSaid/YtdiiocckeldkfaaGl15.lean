/-
  A program logic over the walk's rules, fifteenth part: a call by its contract. Conditions: those that each lemma names.
-/
import Derived.Test.YtdiiocckeldkfaaGl14
namespace Go.Gl
open Go

section imports
variable {w : World} {F F2 G G2 : Nat → Prop} {ι ι2 : Nat → Loc}

theorem imp1_rep (H : ∀ B, ¬ F B → G B → ¬ F2 B ∧ G2 B) {n k : Nat} (hι : ι2 k = ι n) {x : PV} (hn : noRo x = true) {v : Value} (h : RepA w F G ι (imp1 n x) v) : RepA w F2 G2 ι2 (imp1 k x) v := by
  have plain : RepA w F G ι (.p x) v → RepA w F2 G2 ι2 (.p x) v := fun h => by
    simp only [RepA] at h ⊢
    exact RepP.noRo H _ _ hn h
  cases x with
  | sl o xs =>
    cases o with
    | own =>
      simp only [imp1, RepA] at h ⊢
      rw [hι]; exact h
    | ro => exact plain h
    | fr => exact plain h
  | _ => exact plain h

theorem impL_rep (H : ∀ B, ¬ F B → G B → ¬ F2 B ∧ G2 B) : ∀ {xs : List PV} {n k : Nat}, (∀ x, x < xs.length → ι2 (k + x) = ι (n + x)) → noRoL xs = true → ∀ {vs : List Value}, RepAL w F G ι (impL n xs) vs → RepAL w F2 G2 ι2 (impL k xs) vs
  | [], _, _, _, _, _, h => by simpa only [impL, RepAL] using h
  | x :: xs, n, k, hι, hn, vs, h => by
    simp only [noRoL, Bool.and_eq_true] at hn
    simp only [impL, RepAL] at h ⊢
    obtain ⟨v, vs', rfl, h1, h2⟩ := h
    refine ⟨v, vs', rfl, imp1_rep H (by simpa using hι 0 (by simp)) hn.1 h1, impL_rep H (fun y hy => ?_) hn.2 h2⟩
    rw [show k + 1 + y = k + (y + 1) from by omega, show n + 1 + y = n + (y + 1) from by omega]
    exact hι (y + 1) (by simpa using hy)

theorem imp_rep (H : ∀ B, ¬ F B → G B → ¬ F2 B ∧ G2 B) {n k : Nat} (hι : ∀ x, x < 16 → ι2 (k + x) = ι (n + x)) {x : PV} (hn : noRo x = true) (hs : smallP x = true) {v : Value} (h : RepA w F G ι (imp n x) v) : RepA w F2 G2 ι2 (imp k x) v := by
  cases x with
  | agg xs =>
    simp only [imp, RepA] at h ⊢
    simp [smallP] at hs
    obtain ⟨cs, hv, hl⟩ := h
    refine ⟨cs, hv, impL_rep H (fun y hy => ?_) (by simpa [noRo] using hn) hl⟩
    rw [show k + 1 + y = k + (y + 1) from by omega, show n + 1 + y = n + (y + 1) from by omega]
    exact hι (y + 1) (by omega)
  | _ => simp only [imp] at h ⊢; exact imp1_rep H (by simpa using hι 0 (by omega)) hn h

theorem imps_rep (H : ∀ B, ¬ F B → G B → ¬ F2 B ∧ G2 B) : ∀ {xs : List PV} {n k : Nat}, (∀ x, x < 16 * xs.length → ι2 (k + x) = ι (n + x)) → noRoL xs = true → xs.all smallP = true →
    ∀ {vs : List Value}, RepAL w F G ι (imps n xs) vs → RepAL w F2 G2 ι2 (imps k xs) vs
  | [], _, _, _, _, _, _, h => by simpa only [imps, RepAL] using h
  | x :: xs, n, k, hι, hn, hs, vs, h => by
    simp only [noRoL, Bool.and_eq_true] at hn
    simp only [List.all_cons, Bool.and_eq_true] at hs
    simp only [imps, RepAL] at h ⊢
    obtain ⟨v, vs', rfl, h1, h2⟩ := h
    refine ⟨v, vs', rfl, imp_rep H (fun y hy => hι y (by simp; omega)) hn.1 (by simpa using hs.1) h1, imps_rep H (fun y hy => ?_) hn.2 hs.2 h2⟩
    rw [show k + 16 + y = k + (y + 16) from by omega, show n + 16 + y = n + (y + 16) from by omega]
    exact hι (y + 16) (by simp; omega)

theorem impAll_rep (H : ∀ B, ¬ F B → G B → ¬ F2 B ∧ G2 B) {res : List PV} {n k : Nat} (hι : ∀ x, x < 256 → ι2 (k + x) = ι (n + x)) (hn : noRoL res = true) (hs : resOk res = true) {v : Value} (h : RepA w F G ι (impAll n res) v) : RepA w F2 G2 ι2 (impAll k res) v := by
  simp only [resOk, Bool.and_eq_true, decide_eq_true_eq] at hs
  have tup : RepA w F G ι (.tup (imps n res)) v → RepA w F2 G2 ι2 (.tup (imps k res)) v := by
    intro h
    simp only [RepA] at h ⊢
    obtain ⟨cs, hv, hl⟩ := h
    exact ⟨cs, hv, imps_rep H (fun x hx => hι x (by omega)) hn hs.2 hl⟩
  match res, hn, hs, h, tup with
  | [], _, _, h, tup => exact tup h
  | [x], hn, hs, h, _ =>
    simp only [noRoL, Bool.and_true] at hn
    simp only [List.all_cons, List.all_nil, Bool.and_true] at hs
    exact imp_rep H (fun y hy => hι y (by omega)) hn (by simpa using hs.2) h
  | x :: y :: zs, _, _, h, tup => exact tup h

theorem imp1_has {k i : Nat} {x : PV} (h : (imp1 k x).has i = true) : i = k := by
  unfold imp1 at h
  split at h <;> simp [AV.has] at h
  exact h.symm
theorem impL_has : ∀ {xs : List PV} {k i : Nat}, AV.hasL (impL k xs) i = true → k ≤ i ∧ i < k + xs.length
  | [], _, _, h => by simp [impL, AV.hasL] at h
  | x :: xs, k, i, h => by
    simp only [impL, AV.hasL, Bool.or_eq_true] at h
    rcases h with h | h
    · have := imp1_has h; simp; omega
    · have := impL_has h; simp; omega
theorem imp_has {k i : Nat} {x : PV} (hs : smallP x = true) (h : (imp k x).has i = true) : k ≤ i ∧ i < k + 16 := by
  cases x with
  | agg xs => simp only [imp, AV.has] at h; simp [smallP] at hs; have := impL_has h; omega
  | _ => simp only [imp] at h; have := imp1_has h; omega
theorem imps_has : ∀ {xs : List PV} {k i : Nat}, xs.all smallP = true → AV.hasL (imps k xs) i = true → k ≤ i ∧ i < k + 16 * xs.length
  | [], _, _, _, h => by simp [imps, AV.hasL] at h
  | x :: xs, k, i, hs, h => by
    simp only [List.all_cons, Bool.and_eq_true] at hs
    simp only [imps, AV.hasL, Bool.or_eq_true] at h
    rcases h with h | h
    · have := imp_has (x := x) (by simpa using hs.1) h; simp; omega
    · have := imps_has hs.2 h; simp; omega
theorem impAll_has {res : List PV} {k i : Nat} (hs : resOk res = true) (h : (impAll k res).has i = true) : k ≤ i ∧ i < k + 256 := by
  simp only [resOk, Bool.and_eq_true, decide_eq_true_eq] at hs
  match res, hs, h with
  | [], _, h => simp [impAll, imps, AV.has, AV.hasL] at h
  | [x], hs, h =>
    simp only [List.all_cons, List.all_nil, Bool.and_true] at hs
    have := imp_has (x := x) (by simpa using hs.2) h; omega
  | x :: y :: zs, hs, h =>
    simp only [impAll, AV.has] at h
    have := imps_has hs.2 h; omega
end imports

section
variable {P : Program} {sg : FuncId → List Bool} {w0 : World} {nA nt : Nat} {M G : Nat → Prop} {ι0 : Nat → Loc} {A : Nat → Prop} {w : World} {S : St} {ι : Nat → Loc} {a : Act}

theorem does_callf {o : Oper} {k : Nat} {K : R → Prop} (h : Rel w0 nA nt M G ι0 A w S ι a) (hd : ∀ d, o.dst = some d → d < nt) (hA : ∀ x, x < 256 → ¬ A (k + x)) {f : FuncId} {vs : List AV} {vals : List Value}
    (hrun : ∀ fn, P.funcs[f]? = some fn → fn.body.isSome = true → (fn.name == "runtime.NumGoroutine") = false → (execOp a.eval o).run P w = .ok (.enter f ⟨vals⟩) w)
    (hvs : RepAL w (Held S.h ι) G ι vs vals) (hnamed : ∀ i, AV.hasL vs i = true → A i) (hK : callW P sg S.h k f vs K) : Does P w0 nA nt M G ι0 A k o w S a K := by
  obtain ⟨as, rd, ms, ⟨hlent, tk, outs, res, hc, hk⟩, l1, l2, hh⟩ := pass_sound hK
  obtain ⟨⟨fn, hf1, hf2, hf3⟩, hnr, hro, houts, hcall⟩ := hc
  obtain ⟨hnodup, hread⟩ := hlent
  have hrun := hrun fn hf1 hf2 hf3
  -- the places lent
  let ιf : Nat → Loc := fun j => match ms[j]? with | some (some id) => ι id | _ => ⟨0, 0, 0⟩
  let G' : Nat → Prop := fun B => G B ∧ ¬ Held S.h ι B
  have lentJ : ∀ j m c, argH as j = .live m c → m = true ∧ ∃ (id : Nat) (b : Bool), ms[j]? = some (some id) ∧ S.h id = .live b c ∧ A id ∧ ιf j = ι id ∧ j < as.length := by
    intro j m c hj
    unfold argH at hj
    split at hj
    · rename_i p c' haj
      cases hj
      have hlt := (List.getElem?_eq_some_iff.1 haj).1
      have hv := List.getElem?_eq_getElem (l := vs) (i := j) (by omega)
      have hm := List.getElem?_eq_getElem (l := ms) (i := j) (by omega)
      rcases hh j _ _ _ hv haj hm with ⟨x, e, _⟩ | ⟨c1, id, b, e1, e2, e3, e4⟩ | ⟨c1, id, b, e1, e2, e3, e4⟩
      · cases e
      · cases e1
        rw [e2] at hm
        exact ⟨rfl, id, b, hm, e4, hnamed id (hasL_mem hv (by rw [e3]; simp [AV.has])), by simp only [ιf, hm], hlt⟩
      · cases e1
        rw [e2] at hm
        exact ⟨rfl, id, b, hm, e4, hnamed id (hasL_mem hv (by rw [e3]; simp [AV.has])), by simp only [ιf, hm], hlt⟩
    · cases hj
  have lentHeld : ∀ B, argM as ιf B → ∃ (j id : Nat) (b : Bool) (c : List PV), ms[j]? = some (some id) ∧ S.h id = .live b c ∧ (ι id).cap ≠ 0 ∧ (ι id).B = B := by
    rintro B ⟨j, m, c, hj, hc, hB⟩
    obtain ⟨_, id, b, e1, e2, _, e4, _⟩ := lentJ j m c hj
    rw [e4] at hc hB
    exact ⟨j, id, b, c, e1, e2, hc, hB⟩
  have mHeld : ∀ B, argM as ιf B → Held S.h ι B := fun B hB => by
    obtain ⟨j, id, b, c, _, e2, e3, e4⟩ := lentHeld B hB
    exact ⟨id, b, c, e2, e3, e4⟩
  have memMs : ∀ {j id : Nat}, ms[j]? = some (some id) → id ∈ ms.filterMap _root_.id := fun hj => List.mem_filterMap.2 ⟨_, List.mem_of_getElem? hj, rfl⟩
  have ofMs : ∀ {id : Nat}, id ∈ ms.filterMap _root_.id → ∃ j : Nat, ms[j]? = some (some id) := fun hid => by
    obtain ⟨x, hx, e⟩ := List.mem_filterMap.1 hid
    obtain ⟨j, hj⟩ := List.mem_iff_getElem?.1 hx
    simp at e; subst e
    exact ⟨j, hj⟩
  have msA : ∀ {j id : Nat}, ms[j]? = some (some id) → A id ∧ ∃ b c, S.h id = .live b c ∧ argH as j = .live true c ∧ j < as.length := by
    intro j id hj
    have hlt := (List.getElem?_eq_some_iff.1 hj).1
    have hv := List.getElem?_eq_getElem (l := vs) (i := j) (by omega)
    have ha := List.getElem?_eq_getElem (l := as) (i := j) (by omega)
    rcases hh j _ _ _ hv ha hj with ⟨x, _, e, _⟩ | ⟨c1, id', b, e1, e2, e3, e4⟩ | ⟨c1, id', b, e1, e2, e3, e4⟩
    · cases e
    · cases e2
      exact ⟨hnamed id (hasL_mem hv (by rw [e3]; simp [AV.has])), b, c1, e4, by simp only [argH, ha, e1], by omega⟩
    · cases e2
      exact ⟨hnamed id (hasL_mem hv (by rw [e3]; simp [AV.has])), b, c1, e4, by simp only [argH, ha, e1], by omega⟩
  have inj : ∀ {i j id : Nat}, ms[i]? = some (some id) → ms[j]? = some (some id) → i = j := by
    intro i j id hi hj
    exact filterMap_inj hnodup hi hj
  have toF : ∀ {B o xs}, RepC w (Held S.h ι) G B o xs → RepC w (Held (argH as) ιf) G' B o xs := fun hc =>
    RepC.tr (fun B _ _ hF hv => ⟨hv, fun h' => hF (mHeld B h')⟩) (fun B _ hF hG => ⟨hG, hF⟩) _ _ _ (fun _ _ hv => hv) hc
  have ok0 : HeapOk w w.heap.size (argM as ιf) G' (argH as) ιf := by
    refine ⟨fun j m c hj => ?_, fun j m c hj => ?_, fun i m1 c1 j m2 c2 hi hj hne z1 z2 => ?_⟩
    · obtain ⟨rfl, id, b, e1, e2, e3, e4, _⟩ := lentJ j m c hj
      obtain ⟨g1, g2, g3⟩ := h.heap.live id b c e2
      rw [e4]
      refine ⟨g1, g2, ?_⟩
      by_cases h0 : (ι id).cap = 0
      · exact .inl h0
      · rcases g3 with g3 | ⟨r1, r2, _⟩
        · exact absurd g3 h0
        · exact .inr ⟨r1, toF r2, .inr ⟨rfl, ⟨j, true, c, hj, by rw [e4]; exact h0, by rw [e4]⟩⟩⟩
    · unfold argH at hj; split at hj <;> cases hj
    · obtain ⟨_, id, b, e1, e2, _, e4, _⟩ := lentJ i m1 c1 hi
      obtain ⟨_, id', b', e1', e2', _, e4', _⟩ := lentJ j m2 c2 hj
      rw [e4] at z1 ⊢
      rw [e4'] at z2 ⊢
      refine h.heap.sep id b c1 id' b' c2 e2 e2' ?_ z1 z2
      rintro rfl
      exact hne (inj e1 e1')
  have hvals : RepAL w (Held (argH as) ιf) G' ιf (argAVs 0 as) vals := by
    refine RepAL_of (by rw [argAVs_length, l1]; exact RepAL_length hvs) fun j x val hx hval => ?_
    rw [argAVs_get] at hx
    simp only [Option.map_eq_some_iff] at hx
    obtain ⟨arg, harg, rfl⟩ := hx
    have hlt := (List.getElem?_eq_some_iff.1 harg).1
    have hv := List.getElem?_eq_getElem (l := vs) (i := j) (by omega)
    have hm := List.getElem?_eq_getElem (l := ms) (i := j) (by omega)
    obtain ⟨val', hval', hrep⟩ := RepAL_get hvs j _ hv
    rw [hval] at hval'
    cases hval'
    rcases hh j _ _ _ hv harg hm with ⟨x, rfl, _, p⟩ | ⟨c1, id, b, rfl, e2, e3, e4⟩ | ⟨c1, id, b, rfl, e2, e3, e4⟩
    · simp only [Arg.av, RepA]
      refine p h.heap hrep mHeld (fun id hid m c hb hc0 hM => ?_) fun B hF hG => ⟨hG, hF⟩
      obtain ⟨j', id', b', c', q1, q2, q3, q4⟩ := lentHeld _ hM
      by_cases e : id' = id
      · subst e; exact hread _ (memMs q1) hid
      · exact h.heap.sep id' b' c' id m c q2 hb e q3 hc0 q4
    · rw [e3] at hrep
      rw [e2] at hm
      have e5 : ιf j = ι id := by simp only [ιf, hm]
      simp only [Arg.av, RepA, Nat.zero_add] at hrep ⊢
      rw [e5]; exact hrep
    · rw [e3] at hrep
      rw [e2] at hm
      have e5 : ιf j = ι id := by simp only [ιf, hm]
      simp only [Arg.av, RepA, Nat.zero_add] at hrep ⊢
      rw [e5]; exact hrep
  have hnew : ∀ B, w.heap.size ≤ B → G' B := fun B hB => ⟨h.new B (Nat.le_trans h.keep.size hB), fun hh => by have := held_lt h.heap hh; omega⟩
  intro Kc Qc next
  unfold Oper.wp
  rw [hrun, Oper.upon_enter]
  refine (hcall w G' ιf vals hnew ok0 hvals).mono ?_
  rintro e w' ⟨v, ι', rfl, hι, keep, ok, hres⟩
  refine next _ v w' (fun id => if k ≤ id ∧ id < k + 256 then ι' (as.length + (id - k)) else ι id) hk ?_
  generalize hn : as.length = n at *
  let ι2 : Nat → Loc := fun id => if k ≤ id ∧ id < k + 256 then ι' (n + (id - k)) else ι id
  let h2 : Nat → Blk := hwsH S.h (outWs S.h outs 0 ms ++ impWs tk k res)
  have eι : ∀ x, x < 256 → ι2 (k + x) = ι' (n + x) := fun x hx => by
    have e1 : (k ≤ k + x ∧ k + x < k + 256) := ⟨by omega, by omega⟩
    simp only [ι2, e1, and_self, if_true]
    congr 1; omega
  have eιo : ∀ id, ¬ (k ≤ id ∧ id < k + 256) → ι2 id = ι id := fun id hid => by simp only [ι2, hid, if_false]
  have eιA : ∀ id, A id → ι2 id = ι id := fun id hid => eιo id fun hr => by
    have := hA (id - k) (by omega)
    rw [show k + (id - k) = id from by omega] at this
    exact this hid
  have H1 : ∀ x, x < 256 → h2 (k + x) = postH tk as outs res (n + x) := by
    intro x hx
    show hwsH S.h (outWs S.h outs 0 ms ++ impWs tk k res) (k + x) = hwsH (outH as outs) (impWs tk as.length res) (n + x)
    rw [hwsH_append, impWs_shift tk res k, impWs_shift tk res as.length, hn]
    refine hwsH_shift ?_
    have hnm : k + x ∉ ms.filterMap _root_.id := fun hm => by
      obtain ⟨j, hj⟩ := ofMs hm
      exact hA x hx (msA hj).1
    rw [outWs_other hnm, h.alloc _ (hA x hx)]
    unfold outH
    have : as[n + x]? = none := List.getElem?_eq_none (by omega)
    rw [this]
  have H2 : ∀ id, ¬ (k ≤ id ∧ id < k + 256) → h2 id = hwsH S.h (outWs S.h outs 0 ms) id := by
    intro id hid
    show hwsH S.h (outWs S.h outs 0 ms ++ impWs tk k res) id = _
    rw [hwsH_append]
    refine hwsH_other fun p hp e => ?_
    rw [impWs_shift] at hp
    simp only [shift, List.mem_map] at hp
    obtain ⟨q, hq, rfl⟩ := hp
    have := impWs_256 hro q hq
    exact hid ⟨by simp at e; omega, by simp at e; omega⟩
  have P1 : ∀ j, j < n → postH tk as outs res j = outH as outs j := by
    intro j hj
    unfold postH
    refine hwsH_other fun p hp e => ?_
    rw [impWs_shift] at hp
    simp only [shift, List.mem_map] at hp
    obtain ⟨q, hq, rfl⟩ := hp
    simp at e; omega
  have liveRes : ∀ x m c, x < 256 → postH tk as outs res (n + x) = .live m c → noRoL c = true := by
    intro x m c hx hl
    unfold postH at hl
    rcases hwsH_cases (h := outH as outs) (l := impWs tk as.length res) (i := n + x) with e | ⟨b, hb, e⟩
    · rw [e] at hl
      unfold outH at hl
      have : as[n + x]? = none := List.getElem?_eq_none (by omega)
      rw [this] at hl
      cases hl
    · obtain ⟨c', e', hc'⟩ := impWs_live _ hb
      rw [e] at hl
      simp at e'
      rw [hl] at e'
      cases e'
      exact hc' hnr
  -- what is live behind the call
  have cls : ∀ id m c, h2 id = .live m c →
      (∃ x, x < 256 ∧ id = k + x ∧ postH tk as outs res (n + x) = .live m c ∧ noRoL c = true) ∨
      (∃ (j : Nat) (b : Bool) (c0 : List PV), ¬ (k ≤ id ∧ id < k + 256) ∧ ms[j]? = some (some id) ∧ S.h id = .live b c0 ∧ m = b ∧ postH tk as outs res j = .live true c ∧ noRoL c = true ∧ ι' j = ι id) ∨
      (¬ (k ≤ id ∧ id < k + 256) ∧ id ∉ ms.filterMap _root_.id ∧ S.h id = .live m c) := by
    intro id m c hl
    by_cases hr : k ≤ id ∧ id < k + 256
    · left
      have e : id = k + (id - k) := by omega
      rw [e, H1 _ (by omega)] at hl
      exact ⟨id - k, by omega, e, hl, liveRes _ m c (by omega) hl⟩
    · right
      rw [H2 id hr] at hl
      by_cases hm : id ∈ ms.filterMap _root_.id
      · left
        obtain ⟨j, hj⟩ := ofMs hm
        obtain ⟨_, b, c0, e1, e2, hlt⟩ := msA hj
        rw [outWs_at hnodup hj, Nat.zero_add, e1] at hl
        unfold outB at hl
        split at hl
        · rename_i c1 m1 c2 e3 e4
          cases hl
          cases e4
          refine ⟨j, m, c0, hr, hj, e1, rfl, ?_, ?_, ?_⟩
          · rw [P1 j (by omega)]
            unfold argH at e2
            unfold outH
            split at e2
            · rename_i p c3 ha; simp only [e3]
            · cases e2
          · have := List.all_eq_true.1 houts _ (List.mem_of_getElem? e3)
            simpa using this
          · rw [hι j (by omega)]; simp only [ιf, hj]
        · cases hl
      · right
        rw [outWs_other hm] at hl
        exact ⟨hr, hm, hl⟩
  have nd : ∀ B, Held (postH tk as outs res) ι' B → w.heap.size ≤ B ∨ argM as ιf B := by
    rintro B ⟨id, m, c, hl, hc0, rfl⟩
    obtain ⟨_, _, g3⟩ := ok.live id m c hl
    rcases g3 with g3 | ⟨_, _, g⟩
    · exact absurd g3 hc0
    · rcases g with ⟨g, _⟩ | ⟨_, g⟩
      · exact .inl g
      · exact .inr g
  have nc : ∀ {id m c}, id ∉ ms.filterMap _root_.id → S.h id = .live m c → (ι id).cap ≠ 0 → ¬ argM as ιf (ι id).B ∧ (ι id).B < w.heap.size := by
    intro id m c hm hl hc0
    refine ⟨fun hM => ?_, held_lt h.heap ⟨id, m, c, hl, hc0, rfl⟩⟩
    obtain ⟨j, id', b', c', q1, q2, q3, q4⟩ := lentHeld _ hM
    by_cases e : id' = id
    · subst e; exact hm (memMs q1)
    · exact h.heap.sep id' b' c' id m c q2 hl e q3 hc0 q4
  have heldCases : ∀ B, Held h2 ι2 B → Held (postH tk as outs res) ι' B ∨ ∃ id m c, id ∉ ms.filterMap _root_.id ∧ S.h id = .live m c ∧ (ι id).cap ≠ 0 ∧ (ι id).B = B := by
    rintro B ⟨id, m, c, hl, hc0, hB⟩
    rcases cls id m c hl with ⟨x, hx, rfl, hp, _⟩ | ⟨j, b, c0, hr, hj, _, _, hp, _, e⟩ | ⟨hr, hm, hl'⟩
    · rw [eι x hx] at hc0 hB; exact .inl ⟨_, m, c, hp, hc0, hB⟩
    · rw [eιo id hr] at hc0 hB; rw [← e] at hc0 hB; exact .inl ⟨_, true, c, hp, hc0, hB⟩
    · rw [eιo id hr] at hc0 hB; exact .inr ⟨id, m, c, hm, hl', hc0, hB⟩
  have st : Stays w w' (Held S.h ι) (Held h2 ι2) := by
    intro B o v hF hv
    have hlt := cell?_lt hv
    have hnM : ¬ argM as ιf B := fun hM => hF (mHeld B hM)
    refine ⟨?_, fun hh => ?_⟩
    · rw [cell?_eq, keep.block B hlt hnM, ← cell?_eq]; exact hv
    · rcases heldCases B hh with hp | ⟨id, m, c, _, e1, e2, e3⟩
      · rcases nd B hp with hp | hp
        · omega
        · exact hnM hp
      · exact hF ⟨id, m, c, e1, e2, e3⟩
  have HH : ∀ B, ¬ Held (postH tk as outs res) ι' B → G' B → ¬ Held h2 ι2 B ∧ G B := by
    intro B hF hG
    refine ⟨fun hh => ?_, hG.1⟩
    rcases heldCases B hh with hp | ⟨id, m, c, _, e1, e2, e3⟩
    · exact hF hp
    · exact hG.2 ⟨id, m, c, e1, e2, e3⟩
  have fromLent : ∀ B, argM as ιf B → (w0.heap.size ≤ B ∧ G B) ∨ M B := by
    intro B hM
    obtain ⟨j, id, b, c, _, e2, e3, e4⟩ := lentHeld B hM
    obtain ⟨_, _, g3⟩ := h.heap.live id b c e2
    rcases g3 with g3 | ⟨_, _, g⟩
    · exact absurd g3 e3
    · rw [e4] at g
      rcases g with g | ⟨_, g⟩
      · exact .inl g
      · exact .inr g
  have ok2 : HeapOk w' w0.heap.size M G h2 ι2 := by
    refine ⟨fun id m c hl => ?_, fun id m c hf => ?_, fun id m1 c1 id' m2 c2 hl hl' hne z1 z2 => ?_⟩
    · rcases cls id m c hl with ⟨x, hx, rfl, hp, hnr'⟩ | ⟨j, b, c0, hr, hj, e1, rfl, hp, hnr', e⟩ | ⟨hr, hm, hl'⟩
      · obtain ⟨g1, g2, g3⟩ := ok.live _ m c hp
        rw [eι x hx]
        refine ⟨g1, g2, g3.imp _root_.id fun ⟨r1, r2, r3⟩ => ⟨r1, RepC.noRo HH _ _ _ hnr' r2, ?_⟩⟩
        rcases r3 with ⟨q1, q2⟩ | ⟨q1, q2⟩
        · exact .inl ⟨Nat.le_trans h.keep.size q1, q2.1⟩
        · rcases fromLent _ q2 with q | q
          · exact .inl q
          · exact .inr ⟨q1, q⟩
      · obtain ⟨g1, g2, g3⟩ := ok.live _ true c hp
        rw [eιo id hr, ← e]
        refine ⟨g1, g2, ?_⟩
        by_cases hc0 : (ι' j).cap = 0
        · exact .inl hc0
        · rcases g3 with g3 | ⟨r1, r2, _⟩
          · exact absurd g3 hc0
          · refine .inr ⟨r1, RepC.noRo HH _ _ _ hnr' r2, ?_⟩
            obtain ⟨_, _, q3⟩ := h.heap.live id m c0 e1
            rw [e]
            rw [e] at hc0
            rcases q3 with q3 | ⟨_, _, q⟩
            · exact absurd q3 hc0
            · exact q
      · obtain ⟨g1, g2, g3⟩ := h.heap.live id m c hl'
        rw [eιo id hr]
        refine ⟨g1, g2, ?_⟩
        by_cases hc0 : (ι id).cap = 0
        · exact .inl hc0
        · rcases g3 with g3 | ⟨r1, r2, r3⟩
          · exact absurd g3 hc0
          · obtain ⟨n1, n2⟩ := nc hm hl' hc0
            refine .inr ⟨r1.same (keep.block _ n2 n1), RepC.tr st (fun _ _ _ h => h) _ _ _ (fun o v hv => ?_) r2, r3⟩
            rw [cell?_eq, keep.block _ n2 n1, ← cell?_eq]; exact hv
    · have hr : ¬ (k ≤ id ∧ id < k + 256) := by
        intro hr
        have e : id = k + (id - k) := by omega
        rw [e, H1 _ (by omega)] at hf
        unfold postH at hf
        rcases hwsH_cases (h := outH as outs) (l := impWs tk as.length res) (i := n + (id - k)) with e' | ⟨b, hb, e'⟩
        · rw [e'] at hf
          unfold outH at hf
          have : as[n + (id - k)]? = none := List.getElem?_eq_none (by omega)
          rw [this] at hf
          cases hf
        · obtain ⟨c', e2, _⟩ := impWs_live _ hb
          rw [e'] at hf
          simp at e2
          rw [hf] at e2
          cases e2
      rw [H2 id hr] at hf
      have hm : id ∉ ms.filterMap _root_.id := by
        intro hm
        obtain ⟨j, hj⟩ := ofMs hm
        rw [outWs_at hnodup hj] at hf
        unfold outB at hf
        split at hf <;> cases hf
      rw [outWs_other hm] at hf
      obtain ⟨g1, g2, g3⟩ := h.heap.froz id m c hf
      rw [eιo id hr]
      refine ⟨g1, g2, ?_⟩
      rcases g3 with g3 | ⟨hF, hG, hc⟩
      · exact .inl g3
      · cases c with
        | nil => exact .inl rfl
        | cons y ys =>
          obtain ⟨u, hu⟩ := RepC_ne hc
          refine .inr ⟨(st _ _ u hF hu).2, hG, RepC.tr st (fun _ _ _ h => h) _ _ _ (fun o v hv => (st _ o v hF hv).1) hc⟩
    · -- apart
      have apart : ∀ {id m c}, id ∉ ms.filterMap _root_.id → S.h id = .live m c → (ι id).cap ≠ 0 → ∀ {B}, Held (postH tk as outs res) ι' B → (ι id).B ≠ B := by
        intro id m c hm hl hc0 B hB e
        obtain ⟨n1, n2⟩ := nc hm hl hc0
        rcases nd B hB with q | q
        · omega
        · exact n1 (e ▸ q)
      rcases cls id m1 c1 hl with ⟨x, hx, rfl, hp, _⟩ | ⟨j, b, c0, hr, hj, e1, _, hp, _, e⟩ | ⟨hr, hm, q⟩ <;>
        rcases cls id' m2 c2 hl' with ⟨x', hx', rfl, hp', _⟩ | ⟨j', b', c0', hr', hj', e1', _, hp', _, e'⟩ | ⟨hr', hm', q'⟩
      · rw [eι x hx] at z1 ⊢; rw [eι x' hx'] at z2 ⊢
        exact ok.sep _ _ _ _ _ _ hp hp' (by omega) z1 z2
      · rw [eι x hx] at z1 ⊢; rw [eιo id' hr', ← e'] at z2 ⊢
        exact ok.sep _ _ _ _ _ _ hp hp' (by have := (msA hj').2; obtain ⟨_, _, _, _, q⟩ := this; omega) z1 z2
      · rw [eι x hx] at z1 ⊢; rw [eιo id' hr'] at z2 ⊢
        exact fun e => apart hm' q' z2 ⟨_, _, _, hp, z1, rfl⟩ e.symm
      · rw [eιo id hr, ← e] at z1 ⊢
        rw [eι x' hx'] at z2 ⊢
        exact ok.sep _ _ _ _ _ _ hp hp' (by have := (msA hj).2; obtain ⟨_, _, _, _, q⟩ := this; omega) z1 z2
      · rw [eιo id hr, ← e] at z1 ⊢; rw [eιo id' hr', ← e'] at z2 ⊢
        exact ok.sep _ _ _ _ _ _ hp hp' (by rintro rfl; rw [hj] at hj'; cases hj'; exact hne rfl) z1 z2
      · rw [eιo id hr, ← e] at z1 ⊢; rw [eιo id' hr'] at z2 ⊢
        exact fun e => apart hm' q' z2 ⟨_, _, _, hp, z1, rfl⟩ e.symm
      · rw [eιo id hr] at z1 ⊢; rw [eι x' hx'] at z2 ⊢
        exact apart hm q z1 ⟨_, _, _, hp', z2, rfl⟩
      · rw [eιo id hr] at z1 ⊢; rw [eιo id' hr', ← e'] at z2 ⊢
        exact apart hm q z1 ⟨_, _, _, hp', z2, rfl⟩
      · rw [eιo id hr] at z1 ⊢; rw [eιo id' hr'] at z2 ⊢
        exact h.heap.sep _ _ _ _ _ _ q q' hne z1 z2
  have keep2 : Keep w0 w' M := ⟨keep.os.trans h.keep.os, keep.tape.trans h.keep.tape, keep.output.trans h.keep.output, Nat.le_trans h.keep.size keep.size, fun B hB hM => by
    rw [keep.block B (Nat.lt_of_lt_of_le hB h.keep.size) (fun hm => ?_), h.keep.block B hB hM]
    rcases fromLent B hm with ⟨q, _⟩ | q
    · omega
    · exact hM q⟩
  have rel := h.stepK (A' := plus A k) (fun i hi => .inl hi) keep2 ok2 st eιA (fun i hi => by
    have hr : ¬ (k ≤ i ∧ i < k + 256) := fun hr => hi (.inr hr)
    have hnA : ¬ A i := fun hA => hi (.inl hA)
    show h2 i = .dead
    rw [H2 i hr, outWs_other fun hm => by
      obtain ⟨j, hj⟩ := ofMs hm
      exact hnA (msA hj).1]
    exact h.alloc i hnA)
  rw [app_eq]
  exact rel.put o.dst hd (impAll_rep HH eι hnr hro hres) fun i hi => .inr (impAll_has hro hi)
  where
  filterMap_inj {ms : List (Option Nat)} (hn : (ms.filterMap _root_.id).Nodup) {i j id : Nat} (hi : ms[i]? = some (some id)) (hj : ms[j]? = some (some id)) : i = j := by
    induction ms generalizing i j with
    | nil => simp at hi
    | cons m ms ih =>
      cases m with
      | none =>
        cases i with
        | zero => simp at hi
        | succ i => cases j with
          | zero => simp at hj
          | succ j => exact congrArg Nat.succ (ih (i := i) (j := j) (by simpa using hn) (by simpa using hi) (by simpa using hj))
      | some x =>
        have hn' : x ∉ ms.filterMap _root_.id ∧ (ms.filterMap _root_.id).Nodup := by simpa using hn
        have mem : ∀ {j}, ms[j]? = some (some id) → id ∈ ms.filterMap _root_.id := fun hj => List.mem_filterMap.2 ⟨_, List.mem_of_getElem? hj, rfl⟩
        cases i with
        | zero =>
          simp only [List.getElem?_cons_zero, Option.some.injEq] at hi
          subst hi
          cases j with
          | zero => rfl
          | succ j => exact absurd (mem (by simpa using hj)) hn'.1
        | succ i => cases j with
          | zero =>
            simp only [List.getElem?_cons_zero, Option.some.injEq] at hj
            subst hj
            exact absurd (mem (by simpa using hi)) hn'.1
          | succ j => exact congrArg Nat.succ (ih (i := i) (j := j) hn'.2 (by simpa using hi) (by simpa using hj))

end
end Go.Gl
