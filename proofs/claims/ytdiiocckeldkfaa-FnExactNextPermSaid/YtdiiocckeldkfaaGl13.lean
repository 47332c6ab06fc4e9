/-
  A program logic over the walk's rules, thirteenth part: stores, boxes, struct values, conversions: each operation does what the logic says. Conditions: those that each lemma names.
-/
import Derived.Test.YtdiiocckeldkfaaGl12
import Derived.Laws.IdiomStrings
import Derived.Laws.Tables
namespace Go.Gl
open Go

section
variable {P : Program} {sg : FuncId → List Bool} {w0 : World} {nA nt : Nat} {M G : Nat → Prop} {ι0 : Nat → Loc} {A : Nat → Prop} {w w' : World} {S : St} {ι : Nat → Loc} {a : Act}

/-- The cells of a value, made fit for memory: values and what they tell. -/
theorem cellsW_sound {v : AV} {K : List PV → List (Nat × Blk) → List Nat → Prop} (hK : cellsW S.h v K) (h : Rel w0 nA nt M G ι0 A w S ι a) {val : Value} (hv : RepA w (Held S.h ι) G ι v val) :
    ∃ xs ws rd, K xs ws rd ∧ FrzL S.h ws ∧ (∀ p ∈ ws, p.1 ∈ rd) ∧ val.cells.size = xs.length ∧ (∀ u ∈ val.cells.toList, u.oneCell' = true) ∧
      ∀ (j : Nat) (x : PV), xs[j]? = some x → ∃ u, val.cells[j]? = some u ∧ u.oneCell' = true ∧ RepP w (Held (hwsH S.h ws) ι) G x u := by
  have single : ∀ v : AV, pub S.h v (fun x ws rd => K [x] ws rd) → RepA w (Held S.h ι) G ι v val → ∃ xs ws rd, K xs ws rd ∧ FrzL S.h ws ∧ (∀ p ∈ ws, p.1 ∈ rd) ∧ val.cells.size = xs.length ∧ (∀ u ∈ val.cells.toList, u.oneCell' = true) ∧
      ∀ (j : Nat) (x : PV), xs[j]? = some x → ∃ u, val.cells[j]? = some u ∧ u.oneCell' = true ∧ RepP w (Held (hwsH S.h ws) ι) G x u := by
    intro v hp hv
    obtain ⟨x, ws, rd, hk, hf, hx, hw, hr⟩ := pub_sound hp
    have hrep := hr h.heap hf.frz (hwsH_frz hf) hv
    have h1 := oneCell_of_cellOk hx hrep
    have hc : val.cells = #[val] := by cases val <;> first | rfl | simp [Value.oneCell'] at h1
    refine ⟨[x], ws, rd, hk, hf, hw, by rw [hc]; rfl, fun u hu => by rw [hc] at hu; simp at hu; rw [hu]; exact h1, fun j y hj => ?_⟩
    cases j with
    | zero => simp at hj; subst hj; exact ⟨val, by rw [hc]; rfl, h1, hrep⟩
    | succ j => simp at hj
  unfold cellsW at hK
  split at hK
  · rename_i xs
    simp only [RepA, RepP] at hv
    obtain ⟨cs, rfl, hl⟩ := hv
    obtain ⟨hall, hk⟩ := hK
    have hall' : ∀ x ∈ xs, x.cell.cellOk = true := by simpa using hall
    have e1 : (Value.agg ⟨cs⟩).cells = ⟨cs⟩ := rfl
    have get : ∀ (j : Nat) (u : Value), cs[j]? = some u → u.oneCell' = true := by
      intro j u hu
      have hj : j < xs.length := by have := (List.getElem?_eq_some_iff.1 hu).1; rw [RepL_length hl] at this; exact this
      obtain ⟨u', hu', hr⟩ := RepL_get hl j _ (List.getElem?_eq_getElem hj)
      rw [hu] at hu'
      cases hu'
      exact oneCell_of_cellOk (hall' _ (List.getElem_mem hj)) (RepP_cell hr)
    refine ⟨_, [], [], hk, fun p hp => by simp at hp, fun p hp => by simp at hp, by rw [e1]; simp [RepL_length hl], fun u hu => ?_, fun j x hj => ?_⟩
    · rw [e1] at hu
      obtain ⟨j, hj⟩ := List.mem_iff_getElem?.1 hu
      exact get j u hj
    · simp only [List.getElem?_map, Option.map_eq_some_iff] at hj
      obtain ⟨y, hy, rfl⟩ := hj
      obtain ⟨u, hu, hr⟩ := RepL_get hl j y hy
      exact ⟨u, by rw [e1]; simpa using hu, get j u hu, RepP_cell hr⟩
  · rename_i vs
    simp only [RepA] at hv
    obtain ⟨cs, rfl, hl⟩ := hv
    obtain ⟨xs, ws, rd, hk, hf, hlen, hok, hw, hr⟩ := pubs_sound hK
    have e1 : (Value.agg ⟨cs⟩).cells = ⟨cs⟩ := rfl
    have hcl := RepAL_length hl
    have get : ∀ (j : Nat) (x : PV), xs[j]? = some x → ∃ u, cs[j]? = some u ∧ u.oneCell' = true ∧ RepP w (Held (hwsH S.h ws) ι) G x u := by
      intro j x hj
      have hj' : j < vs.length := by have := (List.getElem?_eq_some_iff.1 hj).1; omega
      obtain ⟨u, hu, hru⟩ := RepAL_get hl j _ (List.getElem?_eq_getElem hj')
      have := hr h.heap hf.frz (hwsH_frz hf) j _ u x (List.getElem?_eq_getElem hj') hj hru
      exact ⟨u, hu, oneCell_of_cellOk (hok x (List.mem_of_getElem? hj)) this, this⟩
    refine ⟨xs, ws, rd, hk, hf, hw, by rw [e1]; simp [hcl, hlen], fun u hu => ?_, fun j x hj => ?_⟩
    · rw [e1] at hu
      obtain ⟨j, hj⟩ := List.mem_iff_getElem?.1 hu
      have hj' : j < xs.length := by have := (List.getElem?_eq_some_iff.1 hj).1; simp at this; omega
      obtain ⟨u', hu', h1, _⟩ := get j _ (List.getElem?_eq_getElem hj')
      rw [show cs[j]? = some u from hj] at hu'
      cases hu'
      exact h1
    · obtain ⟨u, hu, h1, hru⟩ := get j x hj
      exact ⟨u, by rw [e1]; simpa using hu, h1, hru⟩
  · exact single _ hK hv

theorem szT_size {t : TypeId} {n : Nat} {b : Bool} (h : szT P t = some (n, b)) : ∃ i, P.info? t = some i ∧ i.size = n := by
  cases b
  · obtain ⟨i, d, hi, hs, _⟩ := szT_one h; exact ⟨i, hi, hs⟩
  · obtain ⟨i, hi, hs, _⟩ := szT_agg h; exact ⟨i, hi, hs⟩

theorem hwsH_other {h : Nat → Blk} : ∀ {ws : List (Nat × Blk)} {i : Nat}, (∀ p ∈ ws, p.1 ≠ i) → hwsH h ws i = h i := by
  intro ws
  induction ws generalizing h with
  | nil => intro i _; rfl
  | cons p ws ih =>
    intro i hi
    obtain ⟨j, b⟩ := p
    simp only [hwsH]
    rw [ih fun q hq => hi q (by simp [hq])]
    have := hi (j, b) (by simp)
    simp [Ne.symm this]

theorem does_store {o : Oper} {k : Nat} {K : R → Prop} (h : Rel w0 nA nt M G ι0 A w S ι a) (hd : ∀ d, o.dst = some d → d < nt) {t : TypeId} {x y : Operand}
    (ho : o.op = .store t x y) (hK : storeW P t S.h (Gl.opd S x) (Gl.opd S y) K) : Does P w0 nA nt M G ι0 A k o w S a K := by
  have hx := h.opd x
  have nx := h.opd_named x
  unfold storeW at hK
  split at hK
  · rename_i n b ht
    obtain ⟨inf, hinf, hsz⟩ := szT_size ht
    split at hK
    · rename_i id off e
      rw [e] at hx nx
      simp only [RepA] at hx
      have hid : A id := nx id (by simp [AV.has])
      split at hK
      · rename_i m c hblk
        obtain ⟨xs, ws, rd, ⟨hlen, hle, hnin, hk⟩, hf, hwrd, hcells, hone, hrep⟩ := cellsW_sound hK h (h.opd y)
        have h1 := h.frz hf.frz
        have hblk1 : hwsH S.h ws id = .live m c := by rw [hwsH_other fun p hp (e : p.1 = id) => hnin (by rw [← e]; exact hwrd p hp)]; exact hblk
        have hvl : (a.eval y).cells.toList.length = n := by simp [hcells, hlen]
        have run : ∀ {w1}, (storeCells ⟨(ι id).B, (ι id).off + off, none⟩ (a.eval y).cells.toList).run P w = .ok () w1 → (execOp a.eval o).run P w = .ok .skip w1 := by
          intro w1 hst
          have hne : ¬ ((a.eval y).cells.size ≠ inf.size) := by rw [hsz, hcells, hlen]; simp
          simp [execOp, ho, hx, Instr.storeAt, Instr.sureAddr, storeVar, sizeOf, typeInfo, hinf, hne, hst]
        by_cases hn0 : n = 0
        · -- nothing to lay
          subst hn0
          have hnil : (a.eval y).cells.toList = [] := List.eq_nil_of_length_eq_zero hvl
          have hxs : xs = [] := List.eq_nil_of_length_eq_zero hlen
          intro Kc Qc next
          refine wp_skip' (run (w1 := w) (by rw [hnil]; rfl)) (next _ _ _ ι hk ?_)
          rw [app_eq]
          have e1 : hwsH S.h (ws ++ [(id, .live m (c.take off ++ xs ++ c.drop (off + 0)))]) = hwsH S.h ws := by
            rw [hwsH_append, hwsH_one, hxs]
            simp only [List.append_nil, Nat.add_zero, List.take_append_drop]
            funext j
            simp only [updH]
            split
            · rename_i ej; rw [ej, hblk1]
            · rfl
          rw [e1]
          exact (h1.put o.dst hd (v := .p .any) (by simp only [RepA, RepP]) (by simp [AV.has])).mono fun i hi => .inl hi
        · have hc1 : c ≠ [] := by intro e; subst e; simp at hle; omega
          obtain ⟨g1, g2, g3⟩ := h1.heap.live id m c hblk1
          have hcap1 : (ι id).cap ≠ 0 := by have := List.length_pos_iff.2 hc1; omega
          rcases g3 with g3 | ⟨⟨cs, E, lo, hi', hcell, hroom, hfr⟩, hrepc, gx⟩
          · exact absurd g3 hcap1
          · have hst := run_storeCells_gen P (ι id).B ((ι id).off + off) E lo hi' (a.eval y).cells.toList 0 cs w hcell hfr (by rw [hvl]; omega) hone
            simp only [Nat.add_zero, hvl] at hst
            have hwr : Wrote w (w.setRow (ι id).B (cs.toList.take ((ι id).off + off) ++ (a.eval y).cells.toList ++ cs.toList.drop ((ι id).off + off + n)).toArray) (ι id).B _ := Wrote.setRow hcell (by simp [hcells, hlen]; omega)
            have hBk : w0.heap.size ≤ (ι id).B ∨ M (ι id).B := by
              rcases gx with ⟨g, _⟩ | ⟨_, g⟩
              · exact .inl g
              · exact .inr g
            rw [RepC_iff] at hrepc
            have W := h1.heap.write (k := id) (c' := c.take off ++ xs ++ c.drop (off + n)) hblk1 (.inl rfl) hcap1 hwr (ι id).off (ι id).cap (Nat.le_refl _) rfl (by simp; omega) (by
              intro j y' hj
              have htk : (cs.toList.take ((ι id).off + off)).length = (ι id).off + off := by simp; omega
              have htc : (c.take off).length = off := by simp; omega
              rw [List.getElem?_toArray]
              rw [List.append_assoc, List.getElem?_append] at hj
              rw [List.append_assoc, List.getElem?_append]
              split at hj
              · rename_i hlt
                rw [if_pos (by omega)]
                rw [List.getElem?_take] at hj ⊢
                split at hj
                · rw [if_pos (by omega)]
                  obtain ⟨v, hv1, hv2, hv3⟩ := hrepc j y' hj
                  rw [cell?_eq, hcell] at hv1
                  exact ⟨v, by simpa using hv1, hv2, hv3⟩
                · cases hj
              · rename_i hge
                rw [htc] at hj hge
                rw [if_neg (by omega), htk, show (ι id).off + j - ((ι id).off + off) = j - off from by omega]
                rw [List.getElem?_append] at hj ⊢
                split at hj
                · rename_i hlt
                  obtain ⟨v, hv1, hv2, hv3⟩ := hrep _ y' hj
                  rw [if_pos (by rw [hvl]; omega)]
                  exact ⟨v, by simpa using hv1, hv2, hv3⟩
                · rename_i hge2
                  rw [if_neg (by rw [hvl]; omega), hvl, List.getElem?_drop]
                  rw [List.getElem?_drop, hlen] at hj
                  obtain ⟨v, hv1, hv2, hv3⟩ := hrepc _ y' hj
                  rw [cell?_eq, hcell] at hv1
                  refine ⟨v, ?_, hv2, hv3⟩
                  rw [show (ι id).off + off + n + (j - off - n) = (ι id).off + (off + n + (j - off - n)) from by omega]
                  simpa using hv1)
            obtain ⟨ok, hh, st⟩ := W
            have eι : updL ι id ⟨(ι id).B, (ι id).off, (ι id).cap⟩ = ι := by
              funext j
              simp only [updL]
              split
              · rename_i ej; rw [ej]
              · rfl
            have eh : updH (updH (hwsH S.h ws) id .dead) id (.live m (c.take off ++ xs ++ c.drop (off + n))) = hwsH S.h (ws ++ [(id, .live m (c.take off ++ xs ++ c.drop (off + n)))]) := by
              rw [hwsH_append, hwsH_one]
              funext j
              simp only [updH]
              split <;> rfl
            rw [eι, eh] at ok st
            have h2 := h1.stepK (A' := plus A k) (fun i hi => .inl hi) (hwr.keep hBk h1.keep) ok st (fun i hi => rfl) (fun i hi => by
              have hne2 : i ≠ id := fun e => hi (.inl (e ▸ hid))
              rw [hwsH_append, hwsH_one]
              simp only [updH, hne2, if_false]
              exact h1.alloc i fun hA => hi (.inl hA))
            intro Kc Qc next
            refine wp_skip' (run hst) (next _ _ _ ι hk ?_)
            rw [app_eq]
            exact h2.put o.dst hd (v := .p .any) (by simp only [RepA, RepP]) (by simp [AV.has])
      · exact hK.elim
    · exact hK.elim
  · exact hK.elim

theorem ofConst1_cell_rep {F : Nat → Prop} (v : Value) : RepP w F G (ofConst1 v).cell v := RepP_cell (ofConst1_rep v)

theorem does_alloc {o : Oper} {k : Nat} {K : R → Prop} (h : Rel w0 nA nt M G ι0 A w S ι a) (hd : ∀ d, o.dst = some d → d < nt) (hA : ∀ x, x < 256 → ¬ A (k + x)) {t : TypeId}
    (ho : o.op = .alloc t) (hK : allocW P t k K) : Does P w0 nA nt M G ι0 A k o w S a K := by
  unfold allocW at hK
  split at hK
  · rename_i xs hz
    obtain ⟨hne, hbig, hok, hk⟩ := hK
    unfold zeroT at hz
    split at hz
    · rename_i inf hinf
      split at hz
      · rename_i z hzz
        simp only [Option.some.injEq] at hz
        subst hz
        have hok' : ∀ x ∈ z.cells.toList, (ofConst1 x).cell.cellOk = true := by
          intro x hx; have := List.all_eq_true.1 hok _ (List.mem_map.2 ⟨x, hx, rfl⟩); exact this
        have hbig' : z.cells.size ≤ maxLen := by simp at hbig; simp only [maxLen]; omega
        refine does_new h hd hA (ws := []) (fun p hp => by simp at hp) (Pushed.alloc w (.cells z.cells t)) (lo := 0) (hi := 0) (.inl (Nat.le_refl _)) false _ z.cells.size hbig' (Nat.le_refl _) (by simp) ?_ (v := .ptr k 0) ?_ (.inr ⟨rfl, rfl⟩) hk
        · intro j x hx
          simp only [List.getElem?_map, Option.map_eq_some_iff] at hx
          obtain ⟨u, hu, rfl⟩ := hx
          exact ⟨u, by simpa using hu, oneCell_of_cellOk (hok' u (List.mem_of_getElem? hu)) (ofConst1_cell_rep (w := w) (G := G) (F := Held (hwsH S.h []) ι) u), ofConst1_cell_rep u⟩
        · simp [execOp, ho, Instr.alloc, zeroValue, typeInfo, hinf, hzz, newVar, newRow]
      · cases hz
    · cases hz
  · exact hK.elim

theorem does_box {o : Oper} {k : Nat} {K : R → Prop} (h : Rel w0 nA nt M G ι0 A w S ι a) (hd : ∀ d, o.dst = some d → d < nt) (hA : ∀ x, x < 256 → ¬ A (k + x)) {t : TypeId} {x : Operand}
    (ho : o.op = .box t x) (hK : boxW S.h k (Gl.opd S x) K) : Does P w0 nA nt M G ι0 A k o w S a K := by
  obtain ⟨xs, ws, rd, ⟨hne, hbig, hk⟩, hf, hwrd, hcells, hone, hrep⟩ := cellsW_sound hK h (h.opd x)
  refine does_new h hd hA hf (Pushed.alloc w (.cells (a.eval x).cells t)) (lo := 0) (hi := 0) (.inl (Nat.le_refl _)) false xs xs.length (by simp only [maxLen]; omega) (by omega) (Nat.le_refl _) hrep (v := .ptr k 0) ?_ (.inr ⟨rfl, rfl⟩) hk
  simp [execOp, ho, Instr.box, newVar, newRow]

theorem u8T_spec {t : TypeId} (h : u8T P t = true) : ∃ e, P.underlying t = some (.slice e) ∧ P.underlying e = some (.int .u8) := by
  unfold u8T at h
  split at h
  · rename_i e hu
    split at h
    · rename_i hi; exact ⟨e, hu, intT_spec hi⟩
    · cases h
  · cases h

theorem bytes_back {src dst e : TypeId} (hs : P.underlying src = some (.slice e)) (he : P.underlying e = some (.int .u8)) (hd : P.underlying dst = some .string) {F : Nat → Prop} {ad : Option Addr} {n cap : Nat} {s : List UInt8} (hn : s.length = n)
    (h : s = [] ∨ ∃ B off, ad = some ⟨B, off, none⟩ ∧ RepC w F G B off (s.map fun b => .int .u8 b.toNat)) : (convert src dst (.slice ad n cap)).run P w = .ok (.string ⟨s.toArray⟩) w := by
  subst hn
  have none_case : s = [] → ad = none → (convert src dst (.slice ad s.length cap)).run P w = .ok (.string ⟨s.toArray⟩) w := by
    rintro rfl rfl
    show (convert src dst (.slice none 0 cap)).run P w = _
    rw [run_convert_bytes_string w src dst e none 0 cap hs he hd]
    rfl
  rcases h with h0 | ⟨B, off, rfl, hc⟩
  · cases ad with
    | none => exact none_case h0 rfl
    | some x =>
      subst h0
      exact run_convert_bytes_back w src dst e x cap [] hs he hd (fun j hj => by simp at hj)
  · obtain ⟨cs, hl, hlen, hcells, hone⟩ := RepC_list hc
    refine run_convert_bytes_back w src dst e ⟨B, off, none⟩ cap s hs he hd fun j hj => ?_
    have hj' : (s.map fun b => PV.int .u8 b.toNat)[j]? = some (.int .u8 s[j].toNat) := by simp [hj]
    obtain ⟨v, hv, hr⟩ := RepL_get hl j _ hj'
    have hr : v = .int .u8 s[j].toNat := by simpa [RepP] using hr
    subst hr
    rw [add_at]
    exact hcells j _ hv

theorem does_convert {o : Oper} {k : Nat} {K : R → Prop} (h : Rel w0 nA nt M G ι0 A w S ι a) (hd : ∀ d, o.dst = some d → d < nt) (hA : ∀ x, x < 256 → ¬ A (k + x)) {src dst : TypeId} {x : Operand}
    (ho : o.op = .convert src dst x) (hK : convW P src dst k S.h (Gl.opd S x) K) : Does P w0 nA nt M G ι0 A k o w S a K := by
  have hx := h.opd x
  unfold convW at hK
  split at hK
  · rename_i k' n e
    rw [e] at hx
    have hx := rep_int hx
    split at hK
    · rename_i kd hkd
      obtain ⟨hs, hr, hk⟩ := hK
      obtain ⟨d, hsrc⟩ := Option.isSome_iff_exists.1 hs
      refine does_value h hd (v := .p (.int kd n)) (val := .int kd n) ?_ (by simp only [RepA, RepP]) (by simp [AV.has]) hk
      simp [execOp, ho, hx, convert, run_underlying hsrc, run_underlying (intT_spec hkd), Conv.intToInt, wrap_in hr]
    · exact hK.elim
  · rename_i s e
    rw [e] at hx
    have hx := rep_str hx
    obtain ⟨hsrc, hK⟩ := hK
    have hsrc := strT_spec hsrc
    split at hK
    · rename_i hst
      refine does_value h hd (v := .p (.str s)) (val := .string ⟨s.toArray⟩) ?_ (by simp only [RepA, RepP]) (by simp [AV.has]) (by rw [e] at hK; exact hK)
      simp [execOp, ho, hx, convert, run_underlying hsrc, run_underlying (strT_spec hst), Sem.run_pure]
    · obtain ⟨_, hu8, hlen, hk⟩ := hK
      obtain ⟨el, hu, hel⟩ := u8T_spec hu8
      have hgc := grownCap_ge w s.length 0 el
      have hgm := grownCap_le_maxLen w s.length 0 el (by simp only [maxLen, big] at hlen ⊢; omega)
      have hsz : (⟨s.toArray⟩ : ByteArray).size = s.length := by simp [ByteArray.size]
      have hrow : (bytesRow ⟨s.toArray⟩ (grownCap w s.length 0 el)).size = grownCap w s.length 0 el := by
        simp only [bytesRow, Array.size_append, Array.size_map, Array.size_replicate, hsz, List.size_toArray]; omega
      have hrun : (convert src dst (.string ⟨s.toArray⟩)).run P w = .ok (.slice (some ⟨w.heap.size, 0, none⟩) s.length (grownCap w s.length 0 el))
          (w.drew.alloc (.cells (bytesRow ⟨s.toArray⟩ (grownCap w s.length 0 el)) el (grownCap w s.length 0 el, grownCap w s.length 0 el + 1))) := by
        have := run_bytes_of_string (P := P) w src dst el ⟨s.toArray⟩ hsrc hu hel
        rw [hsz, hrow] at this
        exact this
      refine does_new h hd hA (ws := []) (fun p hp => by simp at hp) (Pushed.drew w (.cells (bytesRow ⟨s.toArray⟩ (grownCap w s.length 0 el)) el (grownCap w s.length 0 el, grownCap w s.length 0 el + 1))) (.inr (by rw [hrow]; exact Nat.le_refl _)) false
        (s.map fun b : UInt8 => PV.int .u8 (b.toNat : Int)) (grownCap w s.length 0 el) hgm (by rw [hrow]; exact Nat.le_refl _) (by simpa using hgc) (fun j x hj => ?_) (v := .ref k 0 s.length) ?_ (.inl ⟨s.length, rfl, by omega, rfl⟩) hk
      · simp only [List.getElem?_map, Option.map_eq_some_iff] at hj
        obtain ⟨b, hb, rfl⟩ := hj
        have hjl := (List.getElem?_eq_some_iff.1 hb).1
        refine ⟨.int .u8 b.toNat, ?_, rfl, RepP_int⟩
        simp only [bytesRow]
        rw [Array.getElem?_append_left (by simpa using hjl)]
        simp [hb]
      · simp only [execOp, ho, hx]
        simp [hrun]
  · rename_i hni hns
    obtain ⟨hst, hsl, hu8, hK⟩ := hK
    obtain ⟨el, hu, hel⟩ := u8T_spec hu8
    have key : ∀ (s : List UInt8) (ad : Option Addr) (n cap : Nat) (rd : List Nat), a.eval x = .slice ad n cap → s.length = n → (s = [] ∨ ∃ B off, ad = some ⟨B, off, none⟩ ∧ RepC w (Held S.h ι) G B off (s.map fun b => .int .u8 b.toNat)) →
        K ⟨.p (.str s), [], rd⟩ → Does P w0 nA nt M G ι0 A k o w S a K := fun s ad n cap rd hv hn hc hk => by
      refine does_value h hd (v := .p (.str s)) (val := .string ⟨s.toArray⟩) ?_ (by simp only [RepA, RepP]) (by simp [AV.has]) hk
      have hb := bytes_back (P := P) hu hel (strT_spec hst) hn (cap := cap) hc
      simp only [execOp, ho, hv]
      simp [hb]
    unfold cont at hK
    split at hK
    · rename_i fl xs e
      rw [e] at hx
      obtain ⟨ad, cap, hv, hl, hm, _, hc⟩ := rep_sl hx
      obtain ⟨s, rfl, hk⟩ := hK
      refine key s ad _ cap _ hv (by simp) ?_ hk
      rcases hc with hc | ⟨B, off, ha, _, _, hc⟩
      · exact .inl (by simpa using hc)
      · exact .inr ⟨B, off, ha, hc⟩
    · rename_i s e
      exact (hns s e).elim
    · rename_i id off len e
      rw [e] at hx
      obtain ⟨ad, cap, hv, hl, hcap, hm, hc⟩ := rep_ref hx
      have fin : ∀ c, ((∃ m, S.h id = .live m c) ∨ ∃ m, S.h id = .froz m c) → off + len ≤ c.length → (∃ s : List UInt8, (c.drop off).take len = s.map (fun b => PV.int .u8 b.toNat) ∧ K ⟨.p (.str s), [], [id]⟩) → Does P w0 nA nt M G ι0 A k o w S a K := by
        rintro c hb hle ⟨s, hs, hk⟩
        have hsl : s.length = len := by
          have := congrArg List.length hs
          simp at this; omega
        refine key s ad _ cap _ hv hsl ?_ hk
        by_cases h0 : len = 0
        · left; exact List.eq_nil_of_length_eq_zero (by omega)
        · right
          rcases hc with hc | rfl
          · omega
          · refine ⟨_, _, rfl, ?_⟩
            rw [← hs]
            exact RepC_take (RepC_drop (h.heap.cells hb (by intro e; subst e; simp at hle; omega)) off) len
      split at hK
      · rename_i m c hb; exact fin c (.inl ⟨m, hb⟩) hK.1 hK.2
      · rename_i m c hb; exact fin c (.inr ⟨m, hb⟩) hK.1 hK.2
      · exact hK.elim
    · exact hK.elim

theorem RepAL_set {F : Nat → Prop} : ∀ {xs : List AV} {vs : List Value} {x : AV} {v : Value} (o : Nat), RepAL w F G ι xs vs → RepA w F G ι x v → RepAL w F G ι (xs.set o x) (vs.set o v)
  | [], vs, x, v, o, h, _ => by
    simp only [RepAL] at h; subst h; cases o <;> simp [RepAL]
  | y :: xs, vs, x, v, o, h, hx => by
    simp only [RepAL] at h
    obtain ⟨u, us, rfl, h1, h2⟩ := h
    cases o with
    | zero => simp only [List.set_cons_zero, RepAL]; exact ⟨v, us, rfl, hx, h2⟩
    | succ o => simp only [List.set_cons_succ, RepAL]; exact ⟨u, _, rfl, h1, RepAL_set o h2 hx⟩

theorem hasL_set {i : Nat} : ∀ {xs : List AV} {x : AV} (o : Nat), AV.hasL (xs.set o x) i = true → AV.hasL xs i = true ∨ x.has i = true
  | [], x, o, h => by cases o <;> simp [AV.hasL] at h
  | y :: xs, x, o, h => by
    cases o with
    | zero =>
      simp only [List.set_cons_zero, AV.hasL, Bool.or_eq_true] at h ⊢
      rcases h with h | h
      · exact .inr h
      · exact .inl (.inr h)
    | succ o =>
      simp only [List.set_cons_succ, AV.hasL, Bool.or_eq_true] at h ⊢
      rcases h with h | h
      · exact .inl (.inl h)
      · rcases hasL_set o h with h | h
        · exact .inl (.inr h)
        · exact .inr h

theorem szT_info {t : TypeId} {n : Nat} {b : Bool} (h : szT P t = some (n, b)) : ∃ i, P.info? t = some i ∧ i.size = n := by
  unfold szT at h
  cases hi : P.info? t with
  | none => cases hu : P.underlying t with
    | none => simp [hi, hu] at h
    | some d => cases d <;> simp [hi, hu] at h
  | some i => cases hu : P.underlying t with
    | none => simp [hi, hu] at h
    | some d => cases d <;> simp [hi, hu] at h <;> exact ⟨i, rfl, h.1⟩

theorem places_info : ∀ (fs : List Field) (places : List Nat), (fs.mapM fun f => match szT P f.type with | some (1, _) => some f.offset | _ => none) = some places →
    fs.mapM (fun f => (P.info? f.type).map fun i => (f.offset, i.size)) = some (places.map fun o => (o, 1))
  | [], places, h => by simp at h; subst h; simp
  | f :: fs, places, h => by
    simp only [List.mapM_cons, Option.bind_eq_bind, Option.pure_def, Option.bind_eq_some_iff] at h ⊢
    obtain ⟨o, ho, ps, hps, e⟩ := h
    cases e
    split at ho
    · rename_i b hs
      cases ho
      obtain ⟨i, hi, hsz⟩ := szT_info hs
      exact ⟨_, by rw [hi]; simp [hsz]; rfl, _, places_info fs ps hps, by simp⟩
    · cases ho

theorem one_cells {F : Nat → Prop} {x : AV} {v : Value} (h : RepA w F G ι x v) (hx : x.one1) : v.cells = #[v] := by
  cases x with
  | p y =>
    cases y with
    | int k n => have h : v = .int k n := by simpa [RepA, RepP] using h
                 subst h; rfl
    | bool b => have h : v = .bool b := by simpa [RepA, RepP] using h
                subst h; rfl
    | str s => have h := rep_str h
               subst h; rfl
    | sl o xs => obtain ⟨ad, cap, rfl, _⟩ := rep_sl h; rfl
    | agg xs => exact hx.elim
    | fn f a b => simp only [RepA, RepP] at h; obtain ⟨_, _, rfl, _⟩ := h; rfl
    | nilf => have h : v = .nilFunc := by simpa [RepA, RepP] using h
              subst h; rfl
    | pc xs => simp only [RepA, RepP] at h; obtain ⟨_, _, rfl, _⟩ := h; rfl
    | any => exact hx.elim
  | ref a b c => obtain ⟨ad, cap, rfl, _⟩ := rep_ref h; rfl
  | ptr a b => simp only [RepA] at h; subst h; rfl
  | agg xs => exact hx.elim
  | tup xs => exact hx.elim
  | fn f a b => simp only [RepA] at h; obtain ⟨_, _, rfl, _⟩ := h; rfl

theorem fill_run {F : Nat → Prop} {places : List Nat} {ρ : Operand → AV} {ε : Operand → Value} (hρ : ∀ x, RepA w F G ι (ρ x) (ε x)) (hn : ∀ x i, (ρ x).has i = true → A i) : ∀ (l : List (Nat × Operand)) (acc : List AV) (cells : Array Value) (K : List AV → Prop),
    RepAL w F G ι acc cells.toList → (∀ i, AV.hasL acc i = true → A i) → fillW places acc (l.map fun p => (p.1, ρ p.2)) K →
    ∃ cs cells', Instr.fill (fun i => (places.map fun o => (o, 1)).toArray[i]?) cells (l.map fun p => (p.1, ε p.2)) = some cells' ∧ RepAL w F G ι cs cells'.toList ∧ (∀ i, AV.hasL cs i = true → A i) ∧ K cs
  | [], acc, cells, K, hr, ha, hK => ⟨acc, cells, rfl, hr, ha, hK⟩
  | (i, x) :: l, acc, cells, K, hr, ha, hK => by
    simp only [List.map_cons, fillW] at hK
    split at hK
    · rename_i o e
      obtain ⟨hlt, hx, hK⟩ := hK
      have hc := one_cells (hρ x) hx
      have hlen := RepAL_length hr
      have hsz : o < cells.size := by simp at hlen; omega
      obtain ⟨cs, cells', h1, h2, h3, h4⟩ := fill_run hρ hn l (acc.set o (ρ x)) (cells.setIfInBounds o (ε x)) K (by simpa using RepAL_set o hr (hρ x)) (fun j hj => by
        rcases hasL_set o hj with h | h
        · exact ha j h
        · exact hn x j h) hK
      refine ⟨cs, cells', ?_, h2, h3, h4⟩
      have hpl : (places.map fun o => (o, 1)).toArray[i]? = some (o, 1) := by simp [e]
      simp only [List.map_cons, Instr.fill, hpl, hc]
      simp only [show ¬ ((#[ε x] : Array Value).size ≠ 1) by simp, show ¬ (o + (#[ε x] : Array Value).size > cells.size) by simp; omega]
      simpa using h1
    · exact hK.elim

theorem does_build {o : Oper} {k : Nat} {K : R → Prop} (h : Rel w0 nA nt M G ι0 A w S ι a) (hd : ∀ d, o.dst = some d → d < nt) {t : TypeId} {parts : Array (Nat × Operand)}
    (ho : o.op = .build t parts) (hK : buildW P t (parts.toList.map fun p => (p.1, Gl.opd S p.2)) fun v => K ⟨v, [], []⟩) : Does P w0 nA nt M G ι0 A k o w S a K := by
  unfold buildW at hK
  split at hK
  · rename_i places zs hp hz
    unfold zeroT at hz
    split at hz
    · rename_i inf hinf
      split at hz
      · rename_i z hzz
        simp only [Option.some.injEq] at hz
        subst hz
        unfold placesT at hp
        split at hp
        · rename_i fs hu
          obtain ⟨cs, cells, hf, hr, hn, hk⟩ := fill_run (F := Held S.h ι) (ε := a.eval) (A := A) h.opd h.opd_named parts.toList _ z.cells _
            (RepAL_p.2 (by
              have : ∀ l : List Value, RepL w (Held S.h ι) G (l.map fun v => (ofConst1 v).cell) l := fun l => by
                induction l with
                | nil => simp [RepL]
                | cons v l ih => simp only [List.map_cons, RepL]; exact ⟨v, l, rfl, ofConst1_cell_rep v, ih⟩
              exact this z.cells.toList)) (fun i hi => by
                have : ∀ l : List PV, AV.hasL (l.map .p) i = false := fun l => by
                  induction l with
                  | nil => rfl
                  | cons v l ih => simp [AV.hasL, AV.has, ih]
                rw [this] at hi; cases hi) hK
          have hb : P.built t (parts.toList.map fun p => (p.1, a.eval p.2)) = some cells := by
            simp only [Program.built, hinf, hu, hzz, places_info _ _ hp]
            exact hf
          refine does_value h hd (v := .agg cs) (val := .agg cells) ?_ (by simp only [RepA]; exact ⟨cells.toList, rfl, hr⟩) (by simpa [AV.has] using hn) hk
          have e : (parts.map fun p => (p.1, a.eval p.2)).toList = parts.toList.map fun p => (p.1, a.eval p.2) := by simp
          have := run_build (P := P) w t (parts.map fun p => (p.1, a.eval p.2)) cells (by rw [e]; exact hb)
          simp [execOp, ho, this]
        · cases hp
      · cases hz
    · cases hz
  · exact hK.elim

end
end Go.Gl
