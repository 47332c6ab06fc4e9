/-
  A session marked. Conditions: none.
-/
import Derived.Test.YtfjfobbniglaeaaDoorWd4
set_option linter.unusedSimpArgs false
set_option linter.unusedVariables false
set_option maxRecDepth 20000
set_option linter.unusedSectionVars false
namespace Go.Gl
open Go Go.Proofs Go.RowKit Go.Lib
variable [Amb] [NoQ]
theorem LocEq.hdr {l l' : Loc} (h : LocEq l l') {n : Nat} {v : Value} (k : hdrAt l n v) : hdrAt l' n v := by
  obtain ⟨a, e, q⟩ := k
  exact ⟨a, by rw [e, h.2.2.1], by rw [h.2.2.1, h.1, h.2.1]; exact q⟩
theorem keep_wk {w w' : World} {M M' : Nat → Prop} (h : Keep w w' M) (hM : ∀ x, M x → M' x) : Keep w w' M' :=
  ⟨h.os, h.tape, h.output, h.size, fun k hk hn => h.block k hk fun q => hn (hM k q), h.drawn⟩
theorem owns_bI {a a' : List Int} {l l' : Loc} (h : LocEq l l') {x : Nat} : owns (bI a') l' x ↔ owns (bI a) l x := by
  show (l'.cap ≠ 0 ∧ l'.B = x) ↔ (l.cap ≠ 0 ∧ l.B = x)
  rw [h.1, h.2.2.1]
theorem owns_bL {L L' : List (List Int)} {l l' : Loc} (h : LocEq l l') (hn : L.length = l.n) (hl : L'.length = L.length) {x : Nat} (hx : owns (bL L') l' x) : owns (bL L) l x := by
  rcases hx with ⟨h0, rfl⟩ | ⟨r, c, hr, h0, rfl⟩
  · exact .inl ⟨by rw [← h.2.2.1]; exact h0, h.1.symm⟩
  · obtain ⟨hr, _⟩ := bL_row hr
    have e := h.sub (r := r) (by omega)
    exact .inr ⟨r, _, row_bL (by omega), by rw [← e]; exact h0, by rw [e]⟩
theorem lenC_bI {a : List Int} : lenC (a.map (PV.int .i64)) = a.length := by
  cases a with
  | nil => rfl
  | cons x t => cases t <;> simp [lenC]
theorem mark_bI {w : World} {a : List Int} {k : Int} {l : Loc} {v : Value} (hA : ∀ B o, Amb.tb B = some o → w.heap[B]? = some o) (ho : Own w (bI a) l) (hoff : ∀ B o, Amb.tb B = some o → ¬ owns (bI a) l B) (hv : hdrAt l a.length v) (la : a.length ≤ 1000) (hk : 0 ≤ k) (hj : k ≤ 1099511627776) :
    Calls Tryd.prog 56 #[v, .int .i64 k] w fun e w' => ∃ l', e = .returned (.int .i64 (k + a.length)) ∧ LocEq l l' ∧ Own w' (bI (markL a.length k)) l' ∧ Keep w w' (owns (bI a) l) := by
  have h := CallT.mark (laws_markIntS_c a k (by omega) hk hj) (by rw [mk_bI]; infer_instance) (by rw [mk_bI]; infer_instance) w hA (l := l) (by rw [mk_bI]; exact ho) (by rw [mk_bI]; exact hoff) (v := v) (by rw [lenC_bI]; exact hv) (by rw [lenC_bI]; simpa using ho.1) ho.2.1
  simp only [mk_bI] at h
  exact h
theorem mark_bL {w : World} {L : List (List Int)} {k : Int} {l : Loc} {v : Value} (hA : ∀ B o, Amb.tb B = some o → w.heap[B]? = some o) (ho : Own w (bL L) l) (hoff : ∀ B o, Amb.tb B = some o → ¬ owns (bL L) l B) (hv : hdrAt l L.length v) (lL : L.length ≤ 100000) (hk : 0 ≤ k) (hj : k + sumN (L.map List.length) ≤ 1099511627776) :
    Calls Tryd.prog 57 #[v, .int .i64 k] w fun e w' => ∃ l', e = .returned (.int .i64 (k + sumN (L.map List.length))) ∧ LocEq l l' ∧ Own w' (bL (mkLL (L.map List.length) k)) l' ∧ Keep w w' (owns (bL L) l) := by
  have e : lenC [.dl (L.map (List.map (PV.int .i64)))] = L.length := by simp [lenC]
  have h := CallT.mark (laws_markIntSS_c L k (by omega) hk hj) (by rw [mk_bL]; infer_instance) (by rw [mk_bL]; infer_instance) w hA (l := l) (by rw [mk_bL]; exact ho) (by rw [mk_bL]; exact hoff) (v := v) (by rw [e]; exact hv) (by rw [e]; simpa [canon] using ho.2.1.1) ho.2.1.2.1
  simp only [mk_bL] at h
  exact h
/-- A session marked. -/
theorem mark_ses {w0 w : World} {z0 z : Nat} {v : Value} {a b : List Int} {L : List (List Int)} {k : Int} (hk0 : 0 ≤ k) (hkb : k ≤ 100000) (hA : AmbW z0 w) (hz : z0 ≤ z) (h : Ses w0 z v a b L) (hs : ∀ B, z ≤ B → B < w0.heap.size → w.heap[B]? = w0.heap[B]?) (hsz : w0.heap.size ≤ w.heap.size) (la : a.length ≤ 1000) (lb : b.length ≤ 1000) (lL : L.length ≤ 100000) (ll : sumN (L.map List.length) ≤ 1000000000) :
    Calls Tryd.prog 25 #[v, .int .i64 k] w fun e w' => e = .returned (.int .i64 (k + a.length + b.length + sumN (L.map List.length))) ∧ Ses w' z v (markL a.length k) (markL b.length (k + a.length)) (mkLL (L.map List.length) (k + a.length + b.length)) ∧ Keep w w' (fun x => z ≤ x ∧ x < w0.heap.size) := by
  obtain ⟨h0, h1, h2, A, B, C, rfl, ⟨a1, a2⟩, ⟨b1, b2⟩, ⟨c1, c2⟩, d1, d2, d3⟩ := h
  obtain ⟨x0, rfl⟩ := hdr_slice a1
  obtain ⟨x1, rfl⟩ := hdr_slice b1
  obtain ⟨x2, rfl⟩ := hdr_slice c1
  have nC : L.length = C.n := by have := c2.1; simpa using this
  have wM : ∀ x, owns (bI a) A x ∨ owns (bI b) B x ∨ owns (bL L) C x → z ≤ x ∧ x < w0.heap.size := fun x hx => ⟨d1 x hx, by
    rcases hx with hx | hx | hx
    · exact a2.lt hx
    · exact b2.lt hx
    · exact c2.lt hx⟩
  have off : ∀ w1, AmbW z0 w1 → ∀ x, (owns (bI a) A x ∨ owns (bI b) B x ∨ owns (bL L) C x) → ∀ o, Amb.tb x ≠ some o := fun w1 hw x hx o e => by
    have := (hw x o e).2; have := (wM x hx).1; omega
  have kpA : ∀ w1 w2, AmbW z0 w1 → Keep w1 w2 (fun x => z ≤ x ∧ x < w0.heap.size) → AmbW z0 w2 := fun w1 w2 h k => h.keep k fun x hx => by omega
  have mv : ∀ w1 : World, Keep w w1 (fun _ => False) → ∀ x, (z ≤ x ∧ x < w0.heap.size) → w1.heap[x]? = w0.heap[x]? := fun w1 hk x hx => by rw [hk.same x (by omega)]; exact hs x hx.1 hx.2
  refine (mark_walk w _ _ _ _ _ _ _ _ _ k (k + a.length) (k + a.length + b.length) (k + a.length + b.length + sumN (L.map List.length)) (fun x => z ≤ x ∧ x < w0.heap.size) (fun x h => by omega)
    (fun w1 => AmbW z0 w1 ∧ Own w1 (bI a) A ∧ Own w1 (bI b) B ∧ Own w1 (bL L) C)
    (fun w1 => AmbW z0 w1 ∧ (∃ A', LocEq A A' ∧ Own w1 (bI (markL a.length k)) A') ∧ Own w1 (bI b) B ∧ Own w1 (bL L) C)
    (fun w1 => AmbW z0 w1 ∧ (∃ A', LocEq A A' ∧ Own w1 (bI (markL a.length k)) A') ∧ (∃ B', LocEq B B' ∧ Own w1 (bI (markL b.length (k + a.length))) B') ∧ Own w1 (bL L) C)
    (fun w1 => (∃ A', LocEq A A' ∧ Own w1 (bI (markL a.length k)) A') ∧ (∃ B', LocEq B B' ∧ Own w1 (bI (markL b.length (k + a.length))) B') ∧ (∃ C', LocEq C C' ∧ Own w1 (bL (mkLL (L.map List.length) (k + a.length + b.length))) C'))
    (fun w1 hk => ⟨hA.keep hk (fun _ q => q.elim), a2.move (fun x hx => mv w1 hk x (wM x (.inl hx))), b2.move (fun x hx => mv w1 hk x (wM x (.inr (.inl hx)))), c2.move (fun x hx => mv w1 hk x (wM x (.inr (.inr hx))))⟩) ?_ ?_ ?_).mono ?_
  · rintro w1 ⟨q0, q1, q2, q3⟩
    refine (mark_bI q0.ha q1 (fun x o e hx => off w1 q0 x (.inl hx) o e) a1 la hk0 (by omega)).mono ?_
    rintro e w2 ⟨A', rfl, l1, l2, l3⟩
    have l4 := keep_wk l3 (M' := fun x => z ≤ x ∧ x < w0.heap.size) (fun x hx => wM x (.inl hx))
    exact ⟨rfl, ⟨kpA _ _ q0 l4, ⟨A', l1, l2⟩, q2.move fun x hx => l3.block x (q2.lt hx) fun hy => (d2 x hy).1 hx, q3.move fun x hx => l3.block x (q3.lt hx) fun hy => (d2 x hy).2 hx⟩, l4⟩
  · rintro w1 ⟨q0, ⟨A', l1, l2⟩, q2, q3⟩
    refine (mark_bI q0.ha q2 (fun x o e hx => off w1 q0 x (.inr (.inl hx)) o e) b1 lb (by omega) (by omega)).mono ?_
    rintro e w2 ⟨B', rfl, m1, m2, m3⟩
    have m4 := keep_wk m3 (M' := fun x => z ≤ x ∧ x < w0.heap.size) (fun x hx => wM x (.inr (.inl hx)))
    exact ⟨rfl, ⟨kpA _ _ q0 m4, ⟨A', l1, l2.move fun x hx => m3.block x (l2.lt hx) fun hy => (d2 x ((owns_bI l1).1 hx)).1 hy⟩, ⟨B', m1, m2⟩, q3.move fun x hx => m3.block x (q3.lt hx) fun hy => d3 x hy hx⟩, m4⟩
  · rintro w1 ⟨q0, ⟨A', l1, l2⟩, ⟨B', m1, m2⟩, q3⟩
    refine (mark_bL q0.ha q3 (fun x o e hx => off w1 q0 x (.inr (.inr hx)) o e) c1 lL (by omega) (by omega)).mono ?_
    rintro e w2 ⟨C', rfl, n1, n2, n3⟩
    have n4 := keep_wk n3 (M' := fun x => z ≤ x ∧ x < w0.heap.size) (fun x hx => wM x (.inr (.inr hx)))
    exact ⟨rfl, ⟨⟨A', l1, l2.move fun x hx => n3.block x (l2.lt hx) fun hy => (d2 x ((owns_bI l1).1 hx)).2 hy⟩, ⟨B', m1, m2.move fun x hx => n3.block x (m2.lt hx) fun hy => d3 x ((owns_bI m1).1 hx) hy⟩, ⟨C', n1, n2⟩⟩, n4⟩
  · rintro e w2 ⟨rfl, ⟨⟨A', l1, l2⟩, ⟨B', m1, m2⟩, ⟨C', n1, n2⟩⟩, kk⟩
    have oL : ∀ x, owns (bL (mkLL (L.map List.length) (k + a.length + b.length))) C' x → owns (bL L) C x := fun x hx => owns_bL n1 nC (by rw [mkLL_len, List.length_map]) hx
    refine ⟨rfl, ⟨_, _, _, A', B', C', rfl, ⟨by rw [markL_length]; exact l1.hdr a1, l2⟩, ⟨by rw [markL_length]; exact m1.hdr b1, m2⟩, ⟨by rw [mkLL_len, List.length_map]; exact n1.hdr c1, n2⟩, ?_, ?_, ?_⟩, kk⟩
    · rintro x (hx | hx | hx)
      · exact d1 x (.inl ((owns_bI l1).1 hx))
      · exact d1 x (.inr (.inl ((owns_bI m1).1 hx)))
      · exact d1 x (.inr (.inr (oL x hx)))
    · intro x hx
      have := d2 x ((owns_bI l1).1 hx)
      exact ⟨fun h => this.1 ((owns_bI m1).1 h), fun h => this.2 (oL x h)⟩
    · intro x hx h
      exact d3 x ((owns_bI m1).1 hx) (oL x h)
end Go.Gl
