/-
  A program logic over the walk's rules, nineteenth part: a function's contract by its body. Conditions: those that each lemma names.
-/
import Derived.Test.YtdiiocckeldkfaaGl18
namespace Go.Gl
open Go

theorem argH_live {as : List Arg} {j : Nat} {m : Bool} {c : List PV} (h : argH as j = .live m c) : m = true ∧ j < as.length ∧ ∃ p, as[j]? = some (.mu p c) := by
  unfold argH at h
  split at h
  · rename_i p c' e
    cases h
    exact ⟨rfl, (List.getElem?_eq_some_iff.1 e).1, p, e⟩
  · cases h

def resV (tmps : Array Value) : List Nat → Value
  | [t] => tmps.getD t undef
  | ts => .tuple ⟨ts.map fun t => tmps.getD t undef⟩

theorem results_run {P : Program} {w : World} {fn : Func} {ts : List Nat} (hr : fn.results = ⟨ts.map .tmp⟩) (tmps : Array Value) : (results fn tmps).run P w = .ok (resV tmps ts) w := by
  have key : ∀ (f : ResultVar → Sem Value), (∀ t, f (.tmp t) = pure (tmps.getD t undef)) → ∀ ts : List Nat, ((ts.map ResultVar.tmp).mapM f) = pure (ts.map fun t => tmps.getD t undef) := by
    intro f hf ts
    induction ts with
    | nil => rfl
    | cons t ts ih => rw [List.map_cons, List.mapM_cons, hf, ih]; rfl
  unfold results
  rw [hr, Array.mapM_eq_mapM_toList, key _ (fun _ => rfl)]
  match ts with
  | [] => rfl
  | [t] => rfl
  | t :: t' :: ts => simp [resV]

section
variable {P : Program} {sg : FuncId → List Bool}

theorem CallT.of_wp (hm : P.follows .mixedOrders = true) {tk : Bool} {f : FuncId} {as : List Arg} {outs : List (Option (List PV))} {res : List PV} {fn : Func} {code : Code} {ts : List Nat}
    (hf : P.funcs[f]? = some fn) (hb : fn.body = some code) (hname : (fn.name == "runtime.NumGoroutine") = false) (hres : fn.results = ⟨ts.map .tmp⟩) (hargs : as.length ≤ fn.ntmps)
    (hnr : noRoL res = true) (hro : resOk res = true) (houts : (outs.all fun o => o.all noRoL) = true)
    (hw : Gl.wp P sg fn.ntmps code (fun ex S => (match ex with | .exit _ => False | _ => Fin tk S as outs (ts.map S.e) res)) (entry as)) : CallT P tk f as outs res := by
  refine ⟨⟨fn, hf, by rw [hb]; rfl, hname⟩, hnr, hro, houts, ?_⟩
  intro w G ι vs hnew hok hvs
  have hlen := RepAL_length hvs
  rw [argAVs_length] at hlen
  have hsize : (⟨vs⟩ : Array Value).size = as.length := hlen
  refine calls_of_wp hf hb ?_
  have rel0 : Rel w as.length fn.ntmps (argM as ι) G ι (fun id => id < (entry as).n) w (entry as) ι { tmps := ⟨vs⟩ ++ Array.replicate (fn.ntmps - (⟨vs⟩ : Array Value).size) undef, defers := [] } := by
    have dead : ∀ id, ¬ id < as.length → argH as id = .dead := fun id hid => by
      unfold argH
      rw [List.getElem?_eq_none (by omega)]
    refine ⟨Keep.refl w _, hok, fun t => ?_, fun id hid => dead id hid, fun t i hi => ?_, fun _ _ => rfl, fun j hj => hj, hnew, by simp [hsize]; omega, rfl⟩
    · by_cases ht : t < as.length
      · obtain ⟨v, hv, hr⟩ := RepAL_get hvs t _ (List.getElem?_eq_getElem (by rw [argAVs_length]; exact ht))
        have e1 : (entry as).e t = (argAVs 0 as)[t]'(by rw [argAVs_length]; exact ht) := by
          simp [entry, List.getD_eq_getElem?_getD, List.getElem?_eq_getElem (show t < (argAVs 0 as).length by rw [argAVs_length]; exact ht)]
        have e2 : ((⟨vs⟩ : Array Value) ++ Array.replicate (fn.ntmps - (⟨vs⟩ : Array Value).size) undef).getD t undef = v := by
          rw [Array.getD_eq_getD_getElem?, Array.getElem?_append_left (by rw [hsize]; exact ht)]
          simp only [List.getElem?_toArray, hv, Option.getD_some]
        rw [e1, e2]
        exact hr
      · have e1 : (entry as).e t = .p .any := by
          simp [entry, List.getD_eq_getElem?_getD, List.getElem?_eq_none (show (argAVs 0 as).length ≤ t by rw [argAVs_length]; omega)]
        rw [e1]
        simp only [RepA, RepP]
    · by_cases ht : t < as.length
      · have e1 : (entry as).e t = ((as[t]'ht).av t) := by
          have := argAVs_get as 0 t
          rw [List.getElem?_eq_getElem ht, Option.map_some, Nat.zero_add] at this
          simp [entry, List.getD_eq_getElem?_getD, this]
        rw [e1] at hi
        show i < as.length
        cases hq : as[t]'ht with
        | pv x => rw [hq] at hi; simp [Arg.av, AV.has] at hi
        | mu p c => rw [hq] at hi; cases p <;> (simp [Arg.av, AV.has] at hi; omega)
      · have e1 : (entry as).e t = .p .any := by
          simp [entry, List.getD_eq_getElem?_getD, List.getElem?_eq_none (show (argAVs 0 as).length ≤ t by rw [argAVs_length]; omega)]
        rw [e1] at hi
        simp [AV.has] at hi
  refine wp_mono (wp_sound hm code _ (entry as) _ w ι hw rel0) ?_
  rintro e a' w' ⟨ex, S, ι1, rfl, hq, h1⟩
  have main : Fin tk S as outs (ts.map S.e) res → ∃ v ι', (results fn a'.tmps).run P w' = .ok v w' ∧ (∀ j, j < as.length → ι' j = ι j) ∧ Keep w w' (argM as ι) ∧
      HeapOk w' w.heap.size (argM as ι) G (postH tk as outs res) ι' ∧ RepA w' (Held (postH tk as outs res) ι') G ι' (impAll as.length res) v := by
    intro hfin
    have hsmall : res.all smallP = true := by simp only [resOk, Bool.and_eq_true] at hro; exact hro.2
    have h15 : res.length ≤ 15 := by simp only [resOk, Bool.and_eq_true, decide_eq_true_eq] at hro; exact hro.1
    obtain ⟨L, ⟨hids, hout⟩, pl, hrep⟩ := fins_sound hsmall hfin
    have hι' : ∀ j, j < as.length → locOf ι1 as.length L j = ι j := fun j hj => by
      simp only [locOf, hj, if_true]; exact h1.loc j hj
    have eL : ∀ p ∈ L, locOf ι1 as.length L p.1 = ⟨(ι1 p.2.1).B, (ι1 p.2.1).off + p.2.2, (ι1 p.2.1).cap - p.2.2⟩ := by
      intro p hp
      have hlo := pl.lo p hp
      have hfind : L.find? (fun q => q.1 == p.1) = some p := find_nodup pl.nums hp
      simp only [locOf, show ¬ p.1 < as.length from by omega, if_false, hfind]
    have e0 : ∀ i, as.length ≤ i → (∀ p ∈ L, p.1 ≠ i) → (locOf ι1 as.length L i).cap = 0 := by
      intro i hi hn
      have hfind : L.find? (fun q => q.1 == i) = none := by
        rw [List.find?_eq_none]; intro q hq; simpa using hn q hq
      simp only [locOf, show ¬ i < as.length from by omega, if_false, hfind]
    have fits : Fits ι1 (locOf ι1 as.length L) as.length (as.length + 16 * res.length) L := ⟨eL, fun i h1 _ h3 => e0 i h1 h3⟩
    -- what is live in the end
    have cls : ∀ i m c, postH tk as outs res i = .live m c → (i < as.length ∧ m = true ∧ S.h i = .live true c ∧ i ∉ L.map fun p => p.2.1) ∨
        (as.length ≤ i ∧ m = tk ∧ ((∃ id off len m' c', (i, id, off) ∈ L ∧ S.h id = .live m' c' ∧ off + len ≤ c'.length ∧ (m' = true → tk = true) ∧ c = (c'.drop off).take len) ∨ (c = [] ∧ ∀ q ∈ L, q.1 ≠ i))) := by
      intro i m c hl
      unfold postH at hl
      rcases hwsH_cases (h := outH as outs) (l := impWs tk as.length res) (i := i) with e | ⟨b, hb, e⟩
      · rw [e] at hl
        unfold outH at hl
        split at hl
        · rename_i p c1 e1
          have hi := (List.getElem?_eq_some_iff.1 e1).1
          split at hl
          · rename_i c2 e2
            cases hl
            have := hout i hi
            rw [e1, e2] at this
            exact .inl ⟨hi, rfl, this.1, this.2⟩
          · cases hl
        · cases hl
      · rw [e] at hl
        subst hl
        have hlo := (pl.wsl _ hb).1
        rcases pl.src _ hb with ⟨id, off, len, m', c', q1, q2, q3, q4, q5⟩ | ⟨q1, q2⟩
        · simp only [Blk.live.injEq] at q5
          exact .inr ⟨hlo, q5.1, .inl ⟨id, off, len, m', c', q1, q2, q3, q4, q5.2⟩⟩
        · simp only [Blk.live.injEq] at q1
          exact .inr ⟨hlo, q1.1, .inr ⟨q1.2, q2⟩⟩
    have held : ∀ B, Held (postH tk as outs res) (locOf ι1 as.length L) B → Held S.h ι1 B := by
      rintro B ⟨i, m, c, hl, hc0, hB⟩
      rcases cls i m c hl with ⟨hi, rfl, hS, _⟩ | ⟨hi, rfl, ⟨id, off, len, m', c', q1, q2, q3, q4, q5⟩ | ⟨q1, q2⟩⟩
      · rw [hι' i hi, ← h1.loc i hi] at hc0 hB
        exact ⟨i, true, c, hS, hc0, hB⟩
      · rw [eL _ q1] at hc0 hB
        exact ⟨id, m', c', q2, by simp at hc0; omega, hB⟩
      · exact absurd (e0 i hi q2) hc0
    have st : Stays w' w' (Held S.h ι1) (Held (postH tk as outs res) (locOf ι1 as.length L)) := fun B o v hF hv => ⟨hv, fun hh => hF (held B hh)⟩
    have tr : ∀ {B o xs}, RepC w' (Held S.h ι1) G B o xs → RepC w' (Held (postH tk as outs res) (locOf ι1 as.length L)) G B o xs := fun hc => RepC.tr st (fun _ _ _ h => h) _ _ _ (fun _ _ hv => hv) hc
    have ok : HeapOk w' w.heap.size (argM as ι) G (postH tk as outs res) (locOf ι1 as.length L) := by
      refine ⟨fun i m c hl => ?_, fun i m c hl => ?_, fun i m1 c1 i' m2 c2 hl hl' hne z1 z2 => ?_⟩
      · rcases cls i m c hl with ⟨hi, rfl, hS, _⟩ | ⟨hi, rfl, ⟨id, off, len, m', c', q1, q2, q3, q4, rfl⟩ | ⟨rfl, q2⟩⟩
        · obtain ⟨g1, g2, g3⟩ := h1.heap.live i true c hS
          rw [hι' i hi, ← h1.loc i hi]
          exact ⟨g1, g2, g3.imp _root_.id fun ⟨r1, r2, r3⟩ => ⟨r1, tr r2, r3⟩⟩
        · obtain ⟨g1, g2, g3⟩ := h1.heap.live id m' c' q2
          rw [eL _ q1]
          have hlen' : ((c'.drop off).take len).length = len := by simp; omega
          refine ⟨by rw [hlen']; simp only; omega, by simp only; omega, ?_⟩
          by_cases hc0 : (ι1 id).cap - off = 0
          · exact .inl hc0
          · rcases g3 with g3 | ⟨⟨cs, E, lo, hi', hcell, hroom, hfr⟩, r2, r3⟩
            · omega
            · refine .inr ⟨⟨cs, E, lo, hi', hcell, by simp only; omega, hfr⟩, RepC_take (RepC_drop (tr r2) off) len, ?_⟩
              rcases r3 with r3 | ⟨r3, r4⟩
              · exact .inl r3
              · exact .inr ⟨q4 r3, r4⟩
        · exact ⟨by simp, by have := e0 i hi q2; omega, .inl (e0 i hi q2)⟩
      · exfalso
        unfold postH at hl
        rcases hwsH_cases (h := outH as outs) (l := impWs tk as.length res) (i := i) with e | ⟨b, hb, e⟩
        · rw [e] at hl
          unfold outH at hl
          split at hl
          · split at hl <;> cases hl
          · cases hl
        · obtain ⟨c', e', _⟩ := impWs_live _ hb
          rw [e] at hl
          simp only at e'
          rw [hl] at e'
          cases e'
      · rcases cls i m1 c1 hl with ⟨hi, rfl, hS, hn⟩ | ⟨hi, rfl, ⟨id, off, len, m', c', q1, q2, q3, q4, rfl⟩ | ⟨rfl, q2⟩⟩
        · rw [hι' i hi, ← h1.loc i hi] at z1 ⊢
          rcases cls i' m2 c2 hl' with ⟨hi2, rfl, hS2, hn2⟩ | ⟨hi2, rfl, ⟨id2, off2, len2, m2', c2', p1, p2, p3, p4, rfl⟩ | ⟨rfl, p2⟩⟩
          · rw [hι' i' hi2, ← h1.loc i' hi2] at z2 ⊢
            exact h1.heap.sep _ _ _ _ _ _ hS hS2 hne z1 z2
          · rw [eL _ p1] at z2 ⊢
            simp only at z2
            have z2' : (ι1 id2).cap ≠ 0 := by omega
            exact h1.heap.sep _ _ _ _ _ _ hS p2 (fun e => hn (List.mem_map.2 ⟨_, p1, e.symm⟩)) z1 z2'
          · exact absurd (e0 i' hi2 p2) z2
        · rw [eL _ q1] at z1 ⊢
          simp only at z1
          have z1' : (ι1 id).cap ≠ 0 := by omega
          rcases cls i' m2 c2 hl' with ⟨hi2, rfl, hS2, hn2⟩ | ⟨hi2, _, ⟨id2, off2, len2, m2', c2', p1, p2, p3, p4, rfl⟩ | ⟨rfl, p2⟩⟩
          · rw [hι' i' hi2, ← h1.loc i' hi2] at z2 ⊢
            exact h1.heap.sep _ _ _ _ _ _ q2 hS2 (fun e => hn2 (List.mem_map.2 ⟨_, q1, e⟩)) z1' z2
          · rw [eL _ p1] at z2 ⊢
            simp only at z2
            have z2' : (ι1 id2).cap ≠ 0 := by omega
            refine h1.heap.sep _ _ _ _ _ _ q2 p2 (fun e => hne ?_) z1' z2'
            subst e
            have := inj_nodup hids q1 p1 rfl
            exact congrArg Prod.fst this
          · exact absurd (e0 i' hi2 p2) z2
        · exact absurd (e0 i hi q2) z1
    refine ⟨_, locOf ι1 as.length L, results_run hres _, hι', h1.keep, ok, ?_⟩
    have hvals : RepAL w' (Held S.h ι1) G ι1 (ts.map S.e) (ts.map fun t => a'.tmps.getD t undef) := RepAL_map h1.slots ts
    have := hrep h1.heap held fits hvals
    have hl : ts.length = res.length := by have := RepAL_length this; simp at this; rw [this]; exact imps_length _ _
    match ts, res, hl, this with
    | [], [], _, this => simp only [impAll, RepA]; exact ⟨_, rfl, this⟩
    | [t], [x], _, this =>
      simp only [imps, List.map_cons, List.map_nil, RepAL] at this
      obtain ⟨v, vs', e, hx, rfl⟩ := this
      simp only [List.cons.injEq, and_true] at e
      have e2 : resV a'.tmps [t] = v := e
      simp only [impAll]
      rw [e2]; exact hx
    | t :: t' :: ts, x :: x' :: xs, _, this => simp only [impAll, RepA]; exact ⟨_, rfl, this⟩
  cases ex with
  | exit id => exact hq.elim
  | normal =>
    obtain ⟨v, ι', hr, r⟩ := main hq
    exact ⟨h1.defers, v, hr, v, ι', rfl, r⟩
  | ret =>
    obtain ⟨v, ι', hr, r⟩ := main hq
    exact ⟨h1.defers, v, hr, v, ι', rfl, r⟩
  where
  find_nodup {L : List (Nat × Nat × Nat)} (hn : (L.map (·.1)).Nodup) {p : Nat × Nat × Nat} (hp : p ∈ L) : L.find? (fun q => q.1 == p.1) = some p := by
    induction L with
    | nil => simp at hp
    | cons q L ih =>
      simp only [List.map_cons, List.nodup_cons] at hn
      rcases List.mem_cons.1 hp with rfl | hp
      · simp
      · have hne : ¬ q.1 = p.1 := fun e => hn.1 (List.mem_map.2 ⟨p, hp, e.symm⟩)
        rw [List.find?_cons_of_neg (by simpa using hne)]
        exact ih hn.2 hp
  inj_nodup {L : List (Nat × Nat × Nat)} (hn : (L.map fun p => p.2.1).Nodup) {p q : Nat × Nat × Nat} (hp : p ∈ L) (hq : q ∈ L) (e : p.2.1 = q.2.1) : p = q := by
    induction L with
    | nil => simp at hp
    | cons r L ih =>
      simp only [List.map_cons, List.nodup_cons] at hn
      rcases List.mem_cons.1 hp with e1 | hp <;> rcases List.mem_cons.1 hq with e2 | hq
      · rw [e1, e2]
      · rw [← e1] at hn; exact absurd (List.mem_map.2 ⟨q, hq, e.symm⟩) hn.1
      · rw [← e2] at hn; exact absurd (List.mem_map.2 ⟨p, hp, e⟩) hn.1
      · exact ih hn.2 hp hq
  imps_length : ∀ (xs : List PV) (k : Nat), (imps k xs).length = xs.length
    | [], _ => rfl
    | x :: xs, k => by simp [imps, imps_length xs]

end
end Go.Gl
