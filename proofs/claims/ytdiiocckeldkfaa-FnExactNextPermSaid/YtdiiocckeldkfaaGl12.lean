/-
  A program logic over the walk's rules, twelfth part: append, stores, boxes, struct values, conversions: each operation does what the logic says. Conditions: those that each lemma names.
-/
import Derived.Test.YtdiiocckeldkfaaGl11
namespace Go.Gl
open Go

section
variable {P : Program} {sg : FuncId → List Bool} {w0 : World} {nA nt : Nat} {M G : Nat → Prop} {ι0 : Nat → Loc} {A : Nat → Prop} {w w' : World} {S : St} {ι : Nat → Loc} {a : Act}

/-- A block of the call's own is let go, a new one with its elements and more stands in its place. -/
theorem Rel.kill (h : Rel w0 nA nt M G ι0 A w S ι a) (k : Nat) : Rel w0 nA nt M G ι0 A w { S with h := updH S.h k .dead } ι a := by
  obtain ⟨ok, hh⟩ := h.heap.kill k
  refine h.step (fun _ hi => hi) (Keep.refl w M) ok (fun B o v hF hv => ⟨hv, fun h' => hF (hh B h')⟩) (fun _ _ => rfl) fun i hi => ?_
  simp only [updH]
  split
  · rfl
  · exact h.alloc i hi

theorem upd_comm (h : Nat → Blk) {i k : Nat} (hne : i ≠ k) (b c : Blk) : updH (updH h i b) k c = updH (updH h k c) i b := by
  funext j
  simp only [updH]
  by_cases h1 : j = k
  · subst h1; simp [Ne.symm hne]
  · simp [h1]

theorem append_get {olds news : List Value} {cs ys : List PV} {F : Nat → Prop} {rest : List Value} (hlen : olds.length = cs.length) (h1 : ∀ (j : Nat) (x : PV), cs[j]? = some x → ∃ v, olds[j]? = some v ∧ v.oneCell' = true ∧ RepP w F G x v)
    (h2 : ∀ (j : Nat) (x : PV), ys[j]? = some x → ∃ v, news[j]? = some v ∧ RepP w F G x v) (ho : ∀ v ∈ news, v.oneCell' = true) : ∀ (j : Nat) (x : PV), (cs ++ ys)[j]? = some x → ∃ v, (olds ++ news ++ rest)[j]? = some v ∧ v.oneCell' = true ∧ RepP w F G x v := by
  intro j x hj
  rw [List.getElem?_append] at hj
  split at hj
  · rename_i hlt
    obtain ⟨v, hv, h1', hr⟩ := h1 j x hj
    refine ⟨v, ?_, h1', hr⟩
    rw [List.append_assoc, List.getElem?_append_left (by omega)]
    exact hv
  · rename_i hge
    obtain ⟨v, hv, hr⟩ := h2 _ x hj
    refine ⟨v, ?_, ho v (List.mem_of_getElem? hv), hr⟩
    have hlt := (List.getElem?_eq_some_iff.1 hv).1
    rw [List.append_assoc, List.getElem?_append_right (by omega), List.getElem?_append_left (by omega), hlen]
    exact hv

theorem does_append {o : Oper} {k : Nat} {K : R → Prop} (h : Rel w0 nA nt M G ι0 A w S ι a) (hd : ∀ d, o.dst = some d → d < nt) (hA : ∀ x, x < 256 → ¬ A (k + x)) {t t' : TypeId} {s x : Operand}
    (ho : o.op = .call { callee := .builtin .append, args := ⟨[s, x]⟩, argTypes := ⟨[t, t']⟩ }) (hK : appendW P t t' S.h k (Gl.opd S s) (Gl.opd S x) K) : Does P w0 nA nt M G ι0 A k o w S a K := by
  obtain ⟨ht, ht', hK⟩ := hK
  obtain ⟨e, inf, zv, hu, hi, hz, hsz, hzs, hz1, hb⟩ := slT_some ht
  obtain ⟨ys, rd, hK, news, hnl, src, hnews⟩ := cont_sound h (h.opd x) hK
  have hs := h.opd s
  have ns := h.opd_named s
  have exec : ∀ {r : Result Value} {sv : Value}, a.eval s = sv → (Builtin.append_ #[t, t'] o.type #[sv, a.eval x]).run P w = r → (execOp a.eval o).run P w = r.andThen fun v w' => .ok (.value v) w' := by
    intro r sv hsv hr
    subst hsv
    simp only [execOp, ho, resolve, invoke, builtin, Sem.run_bind, Sem.run_pure, Result.andThen_ok, List.map_toArray, List.map_cons, List.map_nil, hr]
  have hk0 : ¬ A k := by simpa using hA 0 (by omega)
  split at hK
  · rename_i id off len es
    rw [es] at hs ns
    have hid : A id := ns id (by simp [AV.has])
    have hne : id ≠ k := fun e => hk0 (e ▸ hid)
    obtain ⟨ad, cap, hv, hl, hcap, hcm, hc⟩ := rep_ref hs
    split at hK
    · rename_i m c hblk
      obtain ⟨hbig, hle, hK⟩ := hK
      obtain ⟨g1, g2, g3⟩ := h.heap.live id m c hblk
      -- the old elements
      have old : ∃ olds : List Value, olds.length = len ∧ (∀ (j : Nat) (x : PV), ((c.drop off).take len)[j]? = some x → ∃ v, olds[j]? = some v ∧ v.oneCell' = true ∧ RepP w (Held S.h ι) G x v) ∧
          (∀ w1 : World, w1.heap = w.heap → (Builtin.firstCells 1 len (.slice ad len cap)).run P w1 = .ok ⟨olds⟩ w1) := by
        by_cases h0 : len = 0
        · subst h0
          refine ⟨[], rfl, fun j x hj => by simp at hj, fun w1 _ => ?_⟩
          cases ad <;> simp [Builtin.firstCells, loadCells, loadCellsFrom]
        · rcases hc with hc | rfl
          · omega
          · have hcells := RepC_take (RepC_drop (h.heap.cells (.inl ⟨m, hblk⟩) (by intro e; subst e; simp at hle; omega)) off) len
            obtain ⟨cs, q1, q2, q3, q4⟩ := RepC_list hcells
            have hcl : cs.length = len := by rw [q2]; simp; omega
            refine ⟨cs, hcl, fun j x hj => ?_, fun w1 hw => ?_⟩
            · obtain ⟨v, hv1, hv2⟩ := RepL_get q1 j x hj
              exact ⟨v, hv1, q4 v (List.mem_of_getElem? hv1), hv2⟩
            · exact run_firstCells_some (P := P) w1 1 len _ len cap cs (by omega) (fun j v hj => by rw [add_at, cell?_heap hw]; exact q3 j v hj)
      obtain ⟨olds, ol1, ol2, ol3⟩ := old
      have ol4 : ((c.drop off).take len).length = len := by simp; omega
      by_cases hfit : len + ys.length ≤ cap
      · -- in place
        by_cases hcap0 : cap = 0
        · -- no room, nothing to lay
          have hy0 : ys = [] := List.eq_nil_of_length_eq_zero (by omega)
          have hl0 : len = 0 := by omega
          subst hl0
          subst hcap0
          have hn0 : news = [] := List.eq_nil_of_length_eq_zero (by rw [hnl, hy0]; rfl)
          subst hn0
          have hr := run_append_fit (P := P) (w := w) (w' := w) (ty := o.type) hu hi hsz ht' (base := ad) (sLen := 0) (sCap := 0) src (by simp) (fun b _ => rfl) (fun _ => rfl)
          have hco : c.length = off := by omega
          rw [if_pos (by omega)] at hK
          have hK' : K ⟨.ref k 0 0, [(id, .dead), (k, .live m [])], id :: rd⟩ := by
            have e1 : c.drop off ++ ys = [] := by rw [hy0, List.append_nil]; exact List.drop_eq_nil_of_le (by omega)
            rw [e1, hy0] at hK
            exact hK
          intro Kc Qc next
          have h1 := h.kill id
          obtain ⟨ok, hh⟩ := h1.heap.nil (k := k) (h1.alloc k hk0) m ⟨0, 0, 0⟩ rfl
          have h2 := h1.step (A' := plus A k) (fun i hi => .inl hi) (Keep.refl w M) ok (fun B o v hF hv => ⟨hv, fun h' => hF (hh B h')⟩) (fun i hi => by
            have : i ≠ k := fun e => hk0 (e ▸ hi)
            simp [updL, this]) (fun i hi => by
            have hne : i ≠ k := fun e => hi (.inr ⟨by omega, by omega⟩)
            simp only [updH, hne, if_false]
            exact h1.alloc i fun hA => hi (.inl hA))
          have hr2 := exec hv hr
          refine wp_value hr2 (next _ _ _ (updL ι k ⟨0, 0, 0⟩) hK' ?_)
          rw [app_eq]
          refine h2.put o.dst hd ?_ ?_
          · simp only [RepA]
            exact ⟨ad, 0, rfl, by simp, by simp [updL], by simp [updL], .inl rfl⟩
          · intro i hi
            simp [AV.has] at hi
            exact .inr ⟨by omega, by omega⟩
        · rcases hc with hc | rfl
          · exact absurd hc hcap0
          · have hcap1 : (ι id).cap ≠ 0 := by omega
            rcases g3 with g3 | ⟨⟨cs, E, lo, hi', hcell, hroom, hfr⟩, hrepc, gx⟩
            · exact absurd g3 hcap1
            · have hst := run_storeCells_gen P (ι id).B ((ι id).off + off + len) E lo hi' news 0 cs w hcell hfr (by omega) src.one
              simp only [Nat.add_zero] at hst
              have hr := run_append_fit (P := P) (w := w) (ty := o.type) hu hi hsz ht' (base := some ⟨(ι id).B, (ι id).off + off, none⟩) (sLen := len) (sCap := cap) src (by omega) (fun b hb => by cases hb; rw [add_at]; exact hst) (fun hb => by cases hb)
              have hr2 := exec hv hr
              simp only [Result.andThen_ok] at hr2
              have hwr : Wrote w (w.setRow (ι id).B (cs.toList.take ((ι id).off + off + len) ++ news ++ cs.toList.drop ((ι id).off + off + len + news.length)).toArray) (ι id).B _ := Wrote.setRow hcell (by simp; omega)
              have hBk : w0.heap.size ≤ (ι id).B ∨ M (ι id).B := by
                rcases gx with ⟨g, _⟩ | ⟨_, g⟩
                · exact .inl g
                · exact .inr g
              rw [RepC_iff] at hrepc
              -- the cells behind the write
              have cellAt : ∀ j, (cs.toList.take ((ι id).off + off + len) ++ news ++ cs.toList.drop ((ι id).off + off + len + news.length)).toArray[j]? =
                  if j < (ι id).off + off + len then cs[j]? else if j < (ι id).off + off + len + news.length then news[j - ((ι id).off + off + len)]? else cs[j]? := by
                intro j
                have htk : (cs.toList.take ((ι id).off + off + len)).length = (ι id).off + off + len := by simp; omega
                rw [List.getElem?_toArray, List.append_assoc]
                by_cases q1 : j < (ι id).off + off + len
                · rw [if_pos q1, List.getElem?_append_left (by omega), List.getElem?_take, if_pos q1]; simp
                · rw [if_neg q1, List.getElem?_append_right (by omega), htk]
                  by_cases q2 : j < (ι id).off + off + len + news.length
                  · rw [if_pos q2, List.getElem?_append_left (by omega)]
                  · rw [if_neg q2, List.getElem?_append_right (by omega), List.getElem?_drop]
                    rw [show (ι id).off + off + len + news.length + (j - ((ι id).off + off + len) - news.length) = j from by omega]; simp
              have oldCell : ∀ (j : Nat) (y : PV), c[j]? = some y → ∃ v, cs[(ι id).off + j]? = some v ∧ v.oneCell' = true ∧ RepP w (Held S.h ι) G y v := by
                intro j y hj
                obtain ⟨v, hv1, hv2, hv3⟩ := hrepc j y hj
                rw [cell?_eq, hcell] at hv1
                exact ⟨v, hv1, hv2, hv3⟩
              -- one of three shapes
              have shape : ∃ off2 c2, K ⟨.ref k off2 (len + ys.length), [(id, .dead), (k, .live m c2)], id :: rd⟩ ∧ off2 ≤ off ∧ ((off2 = 0 ∧ c2 = (c.drop off).take len ++ ys) ∨ (off2 = off ∧ off + len + ys.length ≤ c.length ∧ c2 = c.take (off + len) ++ ys ++ c.drop (off + len + ys.length))) := by
                by_cases q1 : off + len = c.length
                · rw [if_pos q1] at hK
                  refine ⟨0, _, hK, by omega, .inl ⟨rfl, ?_⟩⟩
                  rw [List.take_of_length_le (by simp; omega)]
                · rw [if_neg q1] at hK
                  by_cases q2 : off + len + ys.length ≤ c.length
                  · rw [if_pos q2] at hK
                    exact ⟨off, _, hK, Nat.le_refl _, .inr ⟨rfl, q2, rfl⟩⟩
                  · rw [if_neg q2] at hK
                    exact ⟨0, _, hK, by omega, .inl ⟨rfl, rfl⟩⟩
              obtain ⟨off2, c2, hK2, ho2, hshape⟩ := shape
              intro Kc Qc next
              have W := h.heap.write (k := k) (c' := c2) hblk (.inr (h.alloc k hk0)) hcap1 hwr ((ι id).off + (off - off2)) ((ι id).cap - (off - off2)) (by omega) (by omega) (by
                rcases hshape with ⟨rfl, rfl⟩ | ⟨rfl, q, rfl⟩
                · rw [List.length_append, ol4]; omega
                · simp; omega) (by
                intro j y hj
                rcases hshape with ⟨rfl, rfl⟩ | ⟨rfl, q, rfl⟩
                · rw [List.getElem?_append] at hj
                  rw [cellAt]
                  split at hj
                  · rename_i hlt
                    rw [List.getElem?_take] at hj
                    split at hj
                    · rw [List.getElem?_drop] at hj
                      obtain ⟨v, hv1, hv2, hv3⟩ := oldCell _ y hj
                      refine ⟨v, ?_, hv2, hv3⟩
                      rw [if_pos (by omega), show (ι id).off + (off - 0) + j = (ι id).off + (off + j) from by omega]; exact hv1
                    · cases hj
                  · rename_i hge
                    rw [ol4] at hj hge
                    obtain ⟨v, hv1, hv2⟩ := hnews _ y hj
                    have hlt := (List.getElem?_eq_some_iff.1 hv1).1
                    refine ⟨v, ?_, src.one v (List.mem_of_getElem? hv1), hv2⟩
                    rw [if_neg (by omega), if_pos (by omega), show (ι id).off + (off - 0) + j - ((ι id).off + off + len) = j - len from by omega]; exact hv1
                · have htk : (c.take (off2 + len)).length = off2 + len := by simp; omega
                  rw [cellAt]
                  simp only [Nat.sub_self, Nat.add_zero]
                  rw [List.append_assoc, List.getElem?_append] at hj
                  split at hj
                  · rename_i hlt
                    rw [List.getElem?_take] at hj
                    split at hj
                    · obtain ⟨v, hv1, hv2, hv3⟩ := oldCell _ y hj
                      exact ⟨v, by rw [if_pos (by omega)]; exact hv1, hv2, hv3⟩
                    · cases hj
                  · rename_i hge
                    rw [htk] at hj hge
                    rw [List.getElem?_append] at hj
                    split at hj
                    · rename_i hlt2
                      obtain ⟨v, hv1, hv2⟩ := hnews _ y hj
                      refine ⟨v, ?_, src.one v (List.mem_of_getElem? hv1), hv2⟩
                      rw [if_neg (by omega), if_pos (by omega), show (ι id).off + j - ((ι id).off + off2 + len) = j - (off2 + len) from by omega]; exact hv1
                    · rename_i hge2
                      rw [List.getElem?_drop, show off2 + len + ys.length + (j - (off2 + len) - ys.length) = j from by omega] at hj
                      obtain ⟨v, hv1, hv2, hv3⟩ := oldCell _ y hj
                      exact ⟨v, by rw [if_neg (by omega), if_neg (by omega)]; exact hv1, hv2, hv3⟩)
              obtain ⟨ok, hh, st⟩ := W
              have h2 := h.stepK (A' := plus A k) (fun i hi => .inl hi) (hwr.keep hBk h.keep) ok st (fun i hi => by
                have : i ≠ k := fun e => hk0 (e ▸ hi)
                simp [updL, this]) (fun i hi => by
                have hne : i ≠ k := fun e => hi (.inr ⟨by omega, by omega⟩)
                have hne2 : i ≠ id := fun e => hi (.inl (e ▸ hid))
                simp only [updH, hne, hne2, if_false]
                exact h.alloc i fun hA => hi (.inl hA))
              refine wp_value hr2 (next _ _ _ (updL ι k ⟨(ι id).B, (ι id).off + (off - off2), (ι id).cap - (off - off2)⟩) hK2 ?_)
              rw [app_eq]
              refine h2.put o.dst hd ?_ ?_
              · simp only [RepA, updL, if_true]
                refine ⟨_, cap, by rw [hnl], by omega, by omega, by omega, .inr ?_⟩
                rw [show (ι id).off + off = (ι id).off + (off - off2) + off2 from by omega]
              · intro i hi
                simp [AV.has] at hi
                exact .inr ⟨by omega, by omega⟩
      · -- a new block
        have hK2 : K ⟨.ref k 0 (len + ys.length), [(id, .dead), (k, .live m ((c.drop off).take len ++ ys))], id :: rd⟩ := by
          by_cases q1 : off + len = c.length
          · rw [if_pos q1] at hK
            rwa [List.take_of_length_le (by simp; omega)]
          · rw [if_neg q1, if_neg (by omega)] at hK
            exact hK
        have hr := run_append_more (P := P) (w := w) (ty := o.type) hu hi hz hsz hb ht' (base := ad) (sLen := len) (sCap := cap) (olds := olds) src (by omega) ol3 (by omega)
        have hr2 := exec hv hr
        simp only [Result.andThen_ok] at hr2
        have hgc := grownCap_ge w (len + news.length) cap e
        have hgm := grownCap_le_maxLen w (len + news.length) cap e (by simp only [maxLen]; omega)
        intro Kc Qc next
        have hk2 : hwsH S.h [] k = .dead := h.alloc k hk0
        have hzc := cells_one hzs hz1
        have h1 := h.new_block (k := k) (A' := plus A k) hk0 (fun i hi => .inl hi) (.inr ⟨by omega, by omega⟩) (ws := []) (fun p hp => by simp at hp) (Pushed.drew w (.cells (olds ++ news ++ (Builtin.zeroCells zv.cells (grownCap w (len + news.length) cap e - (len + news.length))).toList).toArray e)) (lo := 0) (hi := 0)
          (.inl (Nat.le_refl _)) m ((c.drop off).take len ++ ys) (grownCap w (len + news.length) cap e) hgm (by simp [Builtin.zeroCells, hzc, ol1]; omega) (by rw [List.length_append, ol4]; omega) (by
            intro j y hj
            have := append_get (rest := (Builtin.zeroCells zv.cells (grownCap w (len + news.length) cap e - (len + news.length))).toList) (by rw [ol1, ol4]) ol2 hnews src.one j y hj
            simpa [hwsH] using this)
        have h2 := h1.kill id
        refine wp_value hr2 (next _ _ _ (updL ι k ⟨w.heap.size, 0, grownCap w (len + news.length) cap e⟩) hK2 ?_)
        rw [app_eq]
        have e1 : hwsH S.h [(id, .dead), (k, .live m ((c.drop off).take len ++ ys))] = updH (hwsH S.h ([] ++ [(k, .live m ((c.drop off).take len ++ ys))])) id .dead := upd_comm S.h hne _ _
        rw [e1]
        refine h2.put o.dst hd ?_ ?_
        · simp only [RepA, updL, if_true]
          exact ⟨some ⟨w.heap.size, 0, none⟩, grownCap w (len + news.length) cap e, by rw [← hnl], by omega, by omega, hgm, .inr rfl⟩
        · intro i hi
          simp [AV.has] at hi
          exact .inr ⟨by omega, by omega⟩
    · exact hK.elim
  · rename_i es
    rw [es] at hs
    obtain ⟨ad, cap, hv, _, _, hown, _⟩ := rep_sl hs
    obtain ⟨_, rfl, rfl⟩ := hown rfl
    obtain ⟨hbig, hk⟩ := hK
    by_cases hy : ys = []
    · subst hy
      have hn0 : news = [] := List.eq_nil_of_length_eq_zero (by rw [hnl]; rfl)
      subst hn0
      have hr := run_append_fit (P := P) (w := w) (w' := w) (ty := o.type) hu hi hsz ht' (base := none) (sLen := 0) (sCap := 0) src (by simp) (fun b hb => by cases hb) (fun _ => rfl)
      have hr2 := exec hv hr
      exact does_nil h hd hA (ad := none) hr2 hk
    · have hpos : 0 < ys.length := List.length_pos_iff.2 hy
      have hr := run_append_more (P := P) (w := w) (ty := o.type) hu hi hz hsz hb ht' (base := none) (sLen := 0) (sCap := 0) (olds := []) src (by omega) (fun w1 _ => by simp [Builtin.firstCells]) (by omega)
      have hr2 := exec hv hr
      simp only [Result.andThen_ok, Nat.zero_add] at hr2
      have hgc := grownCap_ge w news.length 0 e
      have hgm := grownCap_le_maxLen w news.length 0 e (by simp only [maxLen]; omega)
      have hzc := cells_one hzs hz1
      refine does_new h hd hA (ws := []) (fun p hp => by simp at hp) (Pushed.drew w (.cells ([] ++ news ++ (Builtin.zeroCells zv.cells (grownCap w news.length 0 e - news.length)).toList).toArray e)) (lo := 0) (hi := 0) (.inl (Nat.le_refl _)) false ys (grownCap w news.length 0 e) hgm
        (by simp [Builtin.zeroCells, hzc]; omega) (by omega) ?_ (v := .ref k 0 ys.length) hr2 (.inl ⟨ys.length, rfl, by omega, by rw [hnl]⟩) hk
      intro j y hj
      have := append_get (w := w) (G := G) (olds := []) (cs := []) (F := Held S.h ι) (rest := (Builtin.zeroCells zv.cells (grownCap w news.length 0 e - news.length)).toList) rfl (fun j x hj => by simp at hj) hnews src.one j y (by simpa using hj)
      simpa [hwsH] using this
  · exact hK.elim

end
end Go.Gl
