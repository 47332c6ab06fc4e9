/-
  A program logic over the walk's rules, tenth part: new slices, appends, stores, boxes: each operation does what the logic says. Conditions: those that each lemma names.
-/
import Derived.Test.YtdiiocckeldkfaaGl9
namespace Go.Gl
open Go

theorem run_storeCells_gen (P : Program) (g o : Nat) (t : TypeId) (lo hi : Nat) : ∀ (vs : List Value) (i : Nat) (cur : Array Value) (w : World), w.heap[g]? = some (.cells cur t (lo, hi)) → (hi ≤ lo ∨ cur.size ≤ lo) → o + i + vs.length ≤ cur.size → (∀ v ∈ vs, v.oneCell' = true) →
    (storeCells ⟨g, o, none⟩ vs i).run P w = .ok () (w.setRow g (cur.toList.take (o + i) ++ vs ++ cur.toList.drop (o + i + vs.length)).toArray)
  | [], i, cur, w, hg, _, _, _ => by
    simp only [storeCells, List.append_nil, List.length_nil, Nat.add_zero, List.take_append_drop, Array.toArray_toList]
    rw [setRow_self w g cur t (lo, hi) hg]
    rfl
  | v :: rest, i, cur, w, hg, hfr, hl, h1 => by
    have hi' : o + i < cur.size := by simp at hl; omega
    have hcell : w.cell? ⟨g, o + i, none⟩ = some cur[o + i] := by simp [World.cell?, hg, hi']
    have hfro : w.frozen? ⟨g, o + i, none⟩ = false := by simp [World.frozen?, hg]; omega
    have hst : (store ((⟨g, o, none⟩ : Addr).add i) v).run P w = .ok () (w.setRow g (cur.setIfInBounds (o + i) v)) := by
      rw [add_at, run_store P w _ v _ (h1 v (by simp)), hcell]
      simp [hfro, setCell_eq_setRow w g (o + i) cur t (lo, hi) v hg]
    have ih := run_storeCells_gen P g o t lo hi rest (i + 1) (cur.setIfInBounds (o + i) v) (w.setRow g (cur.setIfInBounds (o + i) v)) (setRow_heap w g cur _ t _ hg) (by simpa using hfr) (by simp at hl ⊢; omega) (fun x hx => h1 x (by simp [hx]))
    simp only [storeCells, Sem.run_bind, hst, Result.andThen_ok, ih, setRow_setRow]
    congr 3
    have e := list_seg_step cur.toList (o + i) v rest (by simp at hl ⊢; omega)
    simpa [Array.toList_setIfInBounds, Nat.add_assoc] using e

theorem Wrote.setRow {w : World} {g : Nat} {cur cs' : Array Value} {t : TypeId} {fr : Nat × Nat} (hg : w.heap[g]? = some (.cells cur t fr)) (hs : cs'.size = cur.size) : Wrote w (w.setRow g cs') g cs' :=
  ⟨by simp [World.setRow], ⟨cur, t, fr, hg, setRow_heap w g cur cs' t fr hg, hs⟩, fun k hk => setRow_other w g k cs' hk, rfl, rfl, rfl⟩

section
variable {P : Program} {sg : FuncId → List Bool} {w0 : World} {nA nt : Nat} {M G : Nat → Prop} {ι0 : Nat → Loc} {A : Nat → Prop} {w w' : World} {S : St} {ι : Nat → Loc} {a : Act}

theorem Wrote.keep {B : Nat} {cs' : Array Value} (hw : Wrote w w' B cs') (hB : w0.heap.size ≤ B ∨ M B) (hk : Keep w0 w M) : Keep w0 w' M :=
  ⟨hw.os.trans hk.os, hw.tape.trans hk.tape, hw.output.trans hk.output, by rw [hw.size]; exact hk.size, fun k h1 h2 => by
    have hne : k ≠ B := by
      rintro rfl
      rcases hB with hB | hB
      · omega
      · exact h2 hB
    rw [hw.other k hne]; exact hk.block k h1 h2⟩

/-- THE STEP, in general, where a block of the call's own is written. -/
theorem Rel.stepK (h : Rel w0 nA nt M G ι0 A w S ι a) {A' : Nat → Prop} {h' : Nat → Blk} {ι' : Nat → Loc} (hA : ∀ i, A i → A' i) (hk : Keep w0 w' M) (ok : HeapOk w' w0.heap.size M G h' ι')
    (st : Stays w w' (Held S.h ι) (Held h' ι')) (hι : ∀ i, A i → ι' i = ι i) (hdead : ∀ i, ¬ A' i → h' i = .dead) : Rel w0 nA nt M G ι0 A' w' { S with h := h' } ι' a :=
  ⟨hk, ok, fun t => RepA.tr st (fun _ _ _ h => h) _ _ (fun i hi => hι i (h.named t i hi)) (h.slots t), hdead, fun t i hi => hA i (h.named t i hi),
    fun j hj => (hι j (h.args j hj)).trans (h.loc j hj), fun j hj => hA j (h.args j hj), h.new, h.size, h.defers⟩

theorem hwsH_one (h : Nat → Blk) (k : Nat) (b : Blk) : hwsH h [(k, b)] = updH h k b := rfl

/-- A new block: the state and the world behind it. -/
theorem Rel.new_block (h : Rel w0 nA nt M G ι0 A w S ι a) {k : Nat} (hk : ¬ A k) {A' : Nat → Prop} (hA : ∀ i, A i → A' i) (hAk : A' k) {ws : List (Nat × Blk)} (hf : FrzL S.h ws) {cs : Array Value} {E : TypeId} {lo hi : Nat} (hp : Pushed w w' (.cells cs E (lo, hi)))
    (hfr : hi ≤ lo ∨ cs.size ≤ lo) (m : Bool) (xs : List PV) (cap : Nat) (hcap : cap ≤ maxLen) (hc : cap ≤ cs.size) (hx : xs.length ≤ cap)
    (hxs : ∀ (j : Nat) (x : PV), xs[j]? = some x → ∃ v, cs[j]? = some v ∧ v.oneCell' = true ∧ RepP w (Held (hwsH S.h ws) ι) G x v) :
    Rel w0 nA nt M G ι0 A' w' { S with h := hwsH S.h (ws ++ [(k, .live m xs)]) } (updL ι k ⟨w.heap.size, 0, cap⟩) a := by
  have h1 := h.frz hf.frz
  have hkd : hwsH S.h ws k = .dead := h1.alloc k hk
  have ok := h1.heap.new hkd hp h.keep.size (h.new _ h.keep.size) hfr m xs cap hcap hc hx hxs
  have st := Stays.new (w := w) (w' := w') (ι := ι) hp (h := hwsH S.h ws) (k := k) (m := m) (xs := xs) (l := ⟨w.heap.size, 0, cap⟩) rfl
  have h2 := h1.step (A' := A') hA (hp.keep M) ok st (fun i hi => by
    have : i ≠ k := fun e => hk (e ▸ hi)
    simp [updL, this]) (fun i hi => by
    have hne : i ≠ k := fun e => hi (e ▸ hAk)
    simp only [updH, hne, if_false]
    exact h1.alloc i fun hA' => hi (hA i hA'))
  rw [hwsH_append]
  exact h2

/-- A new block of the call's own, its address the result. -/
theorem does_new {o : Oper} {k : Nat} {K : R → Prop} (h : Rel w0 nA nt M G ι0 A w S ι a) (hd : ∀ d, o.dst = some d → d < nt) (hA : ∀ x, x < 256 → ¬ A (k + x)) {ws : List (Nat × Blk)} (hf : FrzL S.h ws)
    {cs : Array Value} {E : TypeId} {lo hi : Nat} (hp : Pushed w w' (.cells cs E (lo, hi))) (hfr : hi ≤ lo ∨ cs.size ≤ lo) (m : Bool) (xs : List PV) (cap : Nat) (hcap : cap ≤ maxLen) (hc : cap ≤ cs.size) (hx : xs.length ≤ cap)
    (hxs : ∀ (j : Nat) (x : PV), xs[j]? = some x → ∃ v, cs[j]? = some v ∧ v.oneCell' = true ∧ RepP w (Held (hwsH S.h ws) ι) G x v) {v : AV} {val : Value} {rd : List Nat}
    (hr : (execOp a.eval o).run P w = .ok (.value val) w')
    (hv : (∃ len, v = .ref k 0 len ∧ len ≤ cap ∧ val = .slice (some ⟨w.heap.size, 0, none⟩) len cap) ∨ (v = .ptr k 0 ∧ val = .pointer (some ⟨w.heap.size, 0, none⟩)))
    (hK : K ⟨v, ws ++ [(k, .live m xs)], rd⟩) : Does P w0 nA nt M G ι0 A k o w S a K := by
  intro Kc Qc next
  have hk0 : ¬ A k := by simpa using hA 0 (by omega)
  have h1 := h.new_block (k := k) (A' := plus A k) hk0 (fun i hi => .inl hi) (.inr ⟨by omega, by omega⟩) hf hp hfr m xs cap hcap hc hx hxs
  refine wp_value hr (next _ _ _ (updL ι k ⟨w.heap.size, 0, cap⟩) hK ?_)
  rw [app_eq]
  refine h1.put o.dst hd ?_ ?_
  · rcases hv with ⟨len, rfl, hl, rfl⟩ | ⟨rfl, rfl⟩
    · simp only [RepA]
      exact ⟨_, cap, rfl, hl, by simp [updL], by simpa [updL] using hcap, .inr (by simp [updL])⟩
    · simp only [RepA]; simp [updL]
  · rcases hv with ⟨len, rfl, _, _⟩ | ⟨rfl, _⟩ <;>
    · intro i hi
      simp [AV.has] at hi
      exact .inr ⟨by omega, by omega⟩

theorem cells_one {z : Value} (h : z.cells.size = 1) (h1 : z.oneCell' = true) : z.cells = #[z] := by
  cases z <;> first | rfl | simp [Value.oneCell'] at h1

theorem does_makeSlice {o : Oper} {k : Nat} {K : R → Prop} (h : Rel w0 nA nt M G ι0 A w S ι a) (hd : ∀ d, o.dst = some d → d < nt) (hA : ∀ x, x < 256 → ¬ A (k + x)) {t : TypeId} {l c : Operand}
    (ho : o.op = .makeSlice t l c) (hK : makeW P t k (Gl.opd S l) (Gl.opd S c) K) : Does P w0 nA nt M G ι0 A k o w S a K := by
  have hl := h.opd l
  have hc := h.opd c
  unfold makeW at hK
  split at hK
  · rename_i k1 i k2 j e1 e2
    rw [e1] at hl; rw [e2] at hc
    have hl := rep_int hl
    have hc := rep_int hc
    obtain ⟨h0, h1, h2, hK⟩ := hK
    split at hK
    · rename_i b z hs
      obtain ⟨e, inf, zv, hu, hi, hz, hsz, hzs, hz1, hb, hb64, rfl⟩ := slT_spec hs
      obtain ⟨hzc, hk⟩ := hK
      have hz' := cells_one hzs hz1
      have hm : j.toNat ≤ maxLen := by simp only [maxLen]; omega
      have hbytes : (inf.bytes : Int) * j ≤ 281474976710656 := by
        have h64 : (inf.bytes : Int) ≤ 64 := by omega
        have h3 : (inf.bytes : Int) * j ≤ 64 * 1099511627776 := Int.mul_le_mul h64 h2 (by omega) (by omega)
        omega
      have hr := run_make (P := P) w t e inf zv hu hi hz k1 k2 i j h0 h1 hbytes (by omega)
      refine does_new h hd hA (ws := []) (fun p hp => by simp at hp) (Pushed.alloc w (.cells (madeCells zv.cells (j.toNat * inf.size)) e)) (lo := 0) (hi := 0) (.inl (Nat.le_refl _)) false (List.replicate i.toNat (ofConst1 zv).cell) j.toNat hm ?_ ?_ ?_ (v := .ref k 0 i.toNat) ?_ (.inl ⟨i.toNat, rfl, by omega, rfl⟩) hk
      · rw [size_madeCells, hsz]; omega
      · simp; omega
      · intro n x hx
        rw [List.getElem?_replicate] at hx
        split at hx
        · rename_i hn
          simp only [Option.some.injEq] at hx
          subst hx
          refine ⟨zv, ?_, hz1, RepP_cell (ofConst1_rep zv)⟩
          have hn' : n < j.toNat := by omega
          simp [madeCells, hsz, hz', hn', Nat.mod_one]
        · cases hx
      · simp only [execOp, ho, hl, hc, Sem.run_bind, hr]; rfl
    · exact hK.elim
  · exact hK.elim

theorem fill_range : ∀ (vs : List Value) (start : Nat) (cells : Array Value), (∀ v ∈ vs, v.oneCell' = true) → start + vs.length ≤ cells.size →
    Instr.fill (fun i => some (i * 1, 1)) cells ((vs.zipIdx start).map fun p => (p.2, p.1)) = some (cells.toList.take start ++ vs ++ cells.toList.drop (start + vs.length)).toArray
  | [], start, cells, _, _ => by simp [Instr.fill]
  | v :: vs, start, cells, h1, hl => by
    have hv := h1 v (by simp)
    have hc : v.cells = #[v] := by cases v <;> first | rfl | simp [Value.oneCell'] at hv
    have ih := fill_range vs (start + 1) (cells.setIfInBounds start v) (fun u hu => h1 u (by simp [hu])) (by simp at hl ⊢; omega)
    have hb : ¬ (start + 1 > cells.size) := by simp at hl; omega
    have hz : (#[v] : Array Value).zipIdx.foldl (fun cs p => cs.setIfInBounds (start * 1 + p.2) p.1) cells = cells.setIfInBounds start v := by simp
    simp only [List.zipIdx_cons, List.map_cons, Instr.fill, hc]
    rw [if_neg (by simp; simp at hl; omega)]
    rw [hz, ih]
    congr 2
    have e := list_seg_step cells.toList start v vs (by simp at hl ⊢; omega)
    simpa [Array.toList_setIfInBounds] using e

end
end Go.Gl
