/-
  Slices whose rows are the call's own, in any order, some rows gone: rules of the logic. Conditions: those that each lemma names.
-/
import Derived.Test.YtfjfobbniglaeaaNum
set_option linter.unusedSimpArgs false
set_option linter.unusedVariables false
set_option maxRecDepth 20000
set_option linter.unusedSectionVars false
namespace Go.Gl
open Go Go.Proofs
variable [Amb]
section
variable {α : Type} {f : α → PV} {m : Bool} {cs : List Nat} {L : List (Option (List α))} {h : Nat → Blk} {k : Nat} {C : R → Prop}
/-- Cells that name rows; rows, some gone. -/
def dgo (f : α → PV) (m : Bool) (cs : List Nat) (L : List (Option (List α))) : Blk := .deep m (cs.map .row) (L.map (Option.map (List.map f)))
/-- .. a nil slice behind them. -/
def dgn (f : α → PV) (m : Bool) (cs : List Nat) (L : List (Option (List α))) : Blk := .deep m (cs.map .row ++ [.v (.sl .own [])]) (L.map (Option.map (List.map f)))
theorem go_row {r : Nat} : (L.map (Option.map (List.map f)))[r]? = (L[r]?).map (Option.map (List.map f)) := List.getElem?_map ..
def avQ (id r : Nat) : Option (Option (List α)) → AV
  | some (some l) => .inn id r 0 l.length
  | _ => .p .any
theorem avQ_eq {id r : Nat} {l : List α} : avQ id r (some (some l)) = .inn id r 0 l.length := _root_.id rfl
theorem av_go {id r : Nat} : DC.av id (L.map (Option.map (List.map f))) (.row r) = avQ id r (L[r]?) := by
  simp only [DC.av, go_row]
  cases L[r]? with
  | none => rfl
  | some o => cases o with
    | none => rfl
    | some l => simp [avQ]
theorem ld_go {id off : Nat} : ldB (dgo f m cs L) id off C = (off < cs.length ∧ C ⟨avQ id (cs.getD off 0) (L[cs.getD off 0]?), [], [id]⟩) := by
  simp only [ldB, dgo, gt, Int.toNat_natCast, Int.natCast_nonneg, true_and, KD, List.getElem?_map]
  by_cases ho : off < cs.length
  · rw [List.getElem?_eq_getElem ho, List.getD_eq_getElem?_getD, List.getElem?_eq_getElem ho]
    simp only [Option.map_some, av_go, ho, true_and, Option.getD_some]
  · rw [List.getElem?_eq_none (by omega)]; simp [ho]
theorem ld_gn {id off : Nat} (h : off = cs.length) : ldB (dgn f m cs L) id off C = C ⟨.p (.sl .own []), [], [id]⟩ := by
  subst h
  simp [ldB, dgn, gt, KD, DC.av]
def ldO (f : α → PV) (id off : Nat) (C : R → Prop) : Option (Option (List α)) → Prop
  | some (some l) => gt (l.map f) off (KX id C)
  | _ => False
theorem ldO_eq {id off : Nat} {l : List α} : ldO f id off C (some (some l)) = gt (l.map f) off (KX id C) := _root_.id rfl
theorem li_go {id r off : Nat} : ldI (dgo f m cs L) id r off C = ldO f id off C (L[r]?) := by
  simp only [ldI, dgo, go_row]
  cases L[r]? with
  | none => rfl
  | some o => cases o <;> rfl
def ctO (f : α → PV) (id off len : Nat) (F : List PV → List Nat → Prop) : Option (Option (List α)) → Prop
  | some (some l) => off + len ≤ l.length ∧ F (((l.map f).drop off).take len) [id]
  | _ => False
theorem ctO_eq {id off len : Nat} {F : List PV → List Nat → Prop} {l : List α} : ctO f id off len F (some (some l)) = (off + len ≤ l.length ∧ F (((l.map f).drop off).take len) [id]) := _root_.id rfl
theorem cti_go {id r off len : Nat} {F : List PV → List Nat → Prop} : ctI (dgo f m cs L) id r off len F = ctO f id off len F (L[r]?) := by
  simp only [ctI, dgo, go_row]
  cases L[r]? with
  | none => rfl
  | some o => cases o with
    | none => rfl
    | some l => simp [ctO]
def inO (f : α → PV) (id off len : Nat) (F : PV → List Nat → Prop) : Option (Option (List α)) → Prop
  | some (some l) => off + len ≤ l.length ∧ F (.sl (.lent true) (((l.map f).drop off).take len)) [id]
  | _ => False
theorem inO_eq {id off len : Nat} {F : PV → List Nat → Prop} {l : List α} : inO f id off len F (some (some l)) = (off + len ≤ l.length ∧ F (.sl (.lent true) (((l.map f).drop off).take len)) [id]) := _root_.id rfl
theorem in_go {id r off len : Nat} {F : PV → List Nat → Prop} : inG (dgo f m cs L) id r off len F = inO f id off len F (L[r]?) := by
  simp only [inG, dgo, go_row]
  cases L[r]? with
  | none => rfl
  | some o => cases o with
    | none => rfl
    | some l => simp only [Option.map_some, inO, List.length_map]; rfl
def apQ (f : α → PV) (m : Bool) (cs : List Nat) (L : List (Option (List α))) (id r len k : Nat) (C : R → Prop) (ys : List PV) (rd : List Nat) : Option (Option (List α)) → Prop
  | some (some l) => len = l.length ∧ id ∉ rd ∧ len + ys.length ≤ 1099511627776 ∧ C ⟨.ref k 0 (len + ys.length), [(id, dgo f m cs (L.set r none)), (k, .live m (l.map f ++ ys))], id :: rd⟩
  | _ => False
theorem apQ_eq {id r len : Nat} {ys : List PV} {rd : List Nat} {l : List α} : apQ f m cs L id r len k C ys rd (some (some l)) = (len = l.length ∧ id ∉ rd ∧ len + ys.length ≤ 1099511627776 ∧ C ⟨.ref k 0 (len + ys.length), [(id, dgo f m cs (L.set r none)), (k, .live m (l.map f ++ ys))], id :: rd⟩) := _root_.id rfl
theorem api_go {id r len : Nat} {ys : List PV} {rd : List Nat} : apI (dgo f m cs L) id r len k C ys rd = apQ f m cs L id r len k C ys rd (L[r]?) := by
  simp only [apI, dgo, go_row]
  have e : (L.map (Option.map (List.map f))).set r none = (L.set r none).map (Option.map (List.map f)) := by rw [List.map_set]; rfl
  cases L[r]? with
  | none => rfl
  | some o => cases o with
    | none => rfl
    | some l => simp only [Option.map_some, apQ, List.length_map, dgo, e]
theorem str_go {m' : Bool} {l : List α} {id off id' off' len : Nat} : stRB (dgo f m cs L) (.live m' (l.map f)) id off id' off' len C = ((m' = true → m = true) ∧ off' = 0 ∧ len = l.length ∧ off < cs.length ∧ id' ≠ id ∧ C ⟨.p .any, [(id', .dead), (id, dgo f m (cs.set off L.length) (L ++ [some l]))], [id, id']⟩) := by
  simp only [stRB, dgo, List.length_map, List.map_append, List.map_set, List.map_cons, List.map_nil, Option.map_some]
theorem str_gn {m' : Bool} {l : List α} {id off id' off' len : Nat} (h : off = cs.length) : stRB (dgn f m cs L) (.live m' (l.map f)) id off id' off' len C = ((m' = true → m = true) ∧ off' = 0 ∧ len = l.length ∧ id' ≠ id ∧ C ⟨.p .any, [(id', .dead), (id, dgo f m (cs ++ [L.length]) (L ++ [some l]))], [id, id']⟩) := by
  subst h
  have e : (cs.map DC.row ++ [DC.v (.sl .own [])]).set cs.length (.row L.length) = (cs ++ [L.length]).map .row := by
    rw [List.set_append_right _ _ (by simp)]; simp
  simp only [stRB, dgn, dgo, List.length_map, List.length_append, List.length_singleton, e, List.map_append, List.map_cons, List.map_nil, Option.map_some, Nat.lt_succ_self, true_and]
/-- A plain value laid into a row's cell. -/
def rwB (b : Blk) (id r off : Nat) (v : PV) (C : R → Prop) : Prop := v.cell.cellOk = true ∧ (match b with
    | .deep m cs rs => (match rs[r]? with
      | some (some c) => off < c.length ∧ C ⟨.p .any, [(id, .deep m cs (rs.set r (some (c.set off v.cell))))], [id]⟩
      | _ => False)
    | _ => False)
theorem st_iptr {id r off : Nat} {v : PV} : stG (some (1, false)) h (.iptr id r off) (.p v) C = rwB (h id) id r off v C := by
  simp only [stG, rowW, rwB, true_and]
  cases h id <;> rfl
def rwO (m : Bool) (cs : List Nat) (L : List (Option (List Int))) (id r off : Nat) (n : Int) (C : R → Prop) : Option (Option (List Int)) → Prop
  | some (some l) => off < l.length ∧ C ⟨.p .any, [(id, dgo (PV.int .i64) m cs (L.set r (some (l.set off n))))], [id]⟩
  | _ => False
theorem rwO_eq {L : List (Option (List Int))} {id r off : Nat} {n : Int} {l : List Int} : rwO m cs L id r off n C (some (some l)) = (off < l.length ∧ C ⟨.p .any, [(id, dgo (PV.int .i64) m cs (L.set r (some (l.set off n))))], [id]⟩) := _root_.id rfl
theorem rw_go {L : List (Option (List Int))} {id r off : Nat} {n : Int} : rwB (dgo (PV.int .i64) m cs L) id r off (.int .i64 n) C = rwO m cs L id r off n C (L[r]?) := by
  simp only [rwB, dgo, go_row, PV.cell, PV.cellOk, true_and]
  cases L[r]? with
  | none => rfl
  | some o => cases o with
    | none => rfl
    | some l =>
      have e : (L.map (Option.map (List.map (PV.int .i64)))).set r (some ((l.map (PV.int .i64)).set off (.int .i64 n))) = (L.set r (some (l.set off n))).map (Option.map (List.map (PV.int .i64))) := by
        rw [List.map_set, Option.map_some, List.map_set]
      simp only [Option.map_some, rwO, List.length_map, e, dgo]
theorem rw_dk {L : List (List Int)} {id r off : Nat} {n : Int} : rwB (dk (PV.int .i64) m L) id r off (.int .i64 n) C = (r < L.length ∧ off < (L.getD r []).length ∧ C ⟨.p .any, [(id, dk (PV.int .i64) m (L.set r ((L.getD r []).set off n)))], [id]⟩) := by
  simp only [rwB, dk, PV.cell, PV.cellOk, true_and]
  by_cases hr : r < L.length
  · rw [row_get hr]
    have e : (L.map fun l => some (l.map (PV.int .i64))).set r (some (((L.getD r []).map (PV.int .i64)).set off (.int .i64 n))) = (L.set r ((L.getD r []).set off n)).map fun l => some (l.map (PV.int .i64)) := by
      rw [List.map_set, List.map_set]
    simp only [hr, true_and, List.length_map, e, List.length_set]
  · rw [List.getElem?_eq_none (by simp; omega)]; simp [hr]
theorem go_noSelf : (cs.map DC.row).all DC.noSelf = true := by rw [List.all_eq_true]; intro x hx; obtain ⟨_, _, rfl⟩ := List.mem_map.1 hx; rfl
theorem go_up {n : Nat} {q : Nat} : (canon n).map (DC.up q) = ((List.range n).map (q + ·)).map .row := by
  simp only [canon, List.map_map]; rfl
theorem ad_go {L' : List (List α)} {id len j n : Nat} : adB (dgo f m cs L) (dk f false L') id len j n k C = (n = L'.length ∧ id ≠ j ∧ len = cs.length ∧ len + n ≤ 1099511627776 ∧
    C ⟨.ref k 0 (len + n), [(j, .dead), (id, .dead), (k, dgo f m (cs ++ (List.range L'.length).map (L.length + ·)) (L ++ L'.map some))], [id, j]⟩) := by
  simp only [adB, dk, dgo, canon_len, canon_noSelf, go_noSelf, List.length_map, true_and, go_up, List.map_append]
  rw [show (L'.map fun l => some (l.map f)) = (L'.map some).map (Option.map (List.map f)) by rw [List.map_map]; rfl]
theorem ad_gn {id len j n : Nat} : adB (dgo f m cs L) (.deep false [.v (.sl .own [])] []) id len j n k C = (n = 1 ∧ id ≠ j ∧ len = cs.length ∧ len + n ≤ 1099511627776 ∧
    C ⟨.ref k 0 (len + n), [(j, .dead), (id, .dead), (k, dgn f m cs L)], [id, j]⟩) := by
  simp only [adB, dgo, dgn, go_noSelf, List.length_map, List.length_singleton, List.all_cons, List.all_nil, DC.noSelf, Bool.and_self, true_and, List.map_cons, List.map_nil, DC.up, List.append_nil]
theorem ad_g1 {id len j n : Nat} : adB (dgo f m cs L) (.deep false [.row 0] [some []]) id len j n k C = (n = 1 ∧ id ≠ j ∧ len = cs.length ∧ len + n ≤ 1099511627776 ∧
    C ⟨.ref k 0 (len + n), [(j, .dead), (id, .dead), (k, dgo f m (cs ++ [L.length]) (L ++ [some []]))], [id, j]⟩) := by
  simp only [adB, dgo, go_noSelf, List.length_map, List.length_singleton, List.all_cons, List.all_nil, DC.noSelf, Bool.and_self, true_and, List.map_cons, List.map_nil, DC.up, Nat.add_zero, List.map_append, Option.map_some, List.map_nil]
theorem gs_eq {β : Type} {l : List β} {i : Nat} {x d : β} (h : i < l.length) : (l.set i x).getD i d = x := by rw [List.getD_eq_getElem?_getD, List.getElem?_set_self h]; rfl
theorem gs_ne {β : Type} {l : List β} {i j : Nat} {x d : β} (h : i ≠ j) : (l.set i x).getD j d = l.getD j d := by rw [List.getD_eq_getElem?_getD, List.getElem?_set_ne h, ← List.getD_eq_getElem?_getD]
theorem ga_lt {β : Type} {l : List β} {j : Nat} {x d : β} (h : j < l.length) : (l ++ [x]).getD j d = l.getD j d := by rw [List.getD_eq_getElem?_getD, List.getElem?_append_left h, ← List.getD_eq_getElem?_getD]
theorem ga_eq {β : Type} {l : List β} {j : Nat} {x d : β} (h : j = l.length) : (l ++ [x]).getD j d = x := by
  subst h; rw [List.getD_eq_getElem?_getD, List.getElem?_append_right (Nat.le_refl _), Nat.sub_self]; rfl
theorem ge_eq {β : Type} {l : List β} {j : Nat} {x : β} (h : j = l.length) : (l ++ [x])[j]? = some x := by
  subst h; rw [List.getElem?_append_right (Nat.le_refl _), Nat.sub_self]; rfl
/-- The table that cells and rows tell. -/
structure Tb (cs : List Nat) (L : List (Option (List α))) (T : List (List α)) : Prop where
  len : cs.length = T.length
  at_ : ∀ i, i < T.length → L[cs.getD i 0]? = some (some (T.getD i []))
  nd : cs.Nodup
  lt : ∀ r ∈ cs, r < L.length
theorem Tb.nil : Tb (α := α) [] [] [] := ⟨rfl, fun i hi => absurd hi (by simp), List.nodup_nil, fun r hr => by cases hr⟩
theorem gd_ne {cs : List Nat} (hn : cs.Nodup) {i j : Nat} (hi : i < cs.length) (hj : j < cs.length) (e : i ≠ j) : cs.getD i 0 ≠ cs.getD j 0 := by
  rw [List.getD_eq_getElem?_getD, List.getD_eq_getElem?_getD, List.getElem?_eq_getElem hi, List.getElem?_eq_getElem hj]
  intro q
  exact e ((List.getElem_inj hn).1 q)
theorem gd_mem {cs : List Nat} {i : Nat} (hi : i < cs.length) : cs.getD i 0 ∈ cs := by
  rw [List.getD_eq_getElem?_getD, List.getElem?_eq_getElem hi]; exact List.getElem_mem hi
/-- A row that grew, in a place of its own. -/
theorem tb_grow {T : List (List α)} {i : Nat} {l : List α} (h : Tb cs L T) (hi : i < T.length) : Tb (cs.set i (L.set (cs.getD i 0) none).length) (L.set (cs.getD i 0) none ++ [some l]) (T.set i l) := by
  have hl := h.len
  refine ⟨by rw [List.length_set, List.length_set]; exact hl, fun j hj => ?_, ?_, fun r hr => ?_⟩
  · rw [List.length_set] at hj
    by_cases e : i = j
    · subst e
      rw [gs_eq (by omega), ge_eq rfl, gs_eq hj]
    · have h1 := h.lt _ (gd_mem (cs := cs) (i := j) (by omega))
      rw [gs_ne e, List.getElem?_append_left (by rw [List.length_set]; exact h1), List.getElem?_set_ne (gd_ne h.nd (by omega) (by omega) e), h.at_ j hj, gs_ne e]
  · rw [List.length_set]
    refine List.nodup_iff_pairwise_ne.2 ?_
    rw [List.pairwise_iff_getElem]
    intro a b ha hb hab
    rw [List.length_set] at ha hb
    rw [List.getElem_set, List.getElem_set]
    have g : ∀ q (hq : q < cs.length), cs[q] < L.length := fun q hq => h.lt _ (List.getElem_mem hq)
    have := g a ha; have := g b hb
    split <;> split
    · omega
    · omega
    · omega
    · exact fun q => by have := (List.getElem_inj h.nd).1 q; omega
  · rcases List.mem_or_eq_of_mem_set hr with q | q
    · have := h.lt r q; simp; omega
    · rw [q]; simp
/-- A new row behind. -/
theorem tb_snoc {T : List (List α)} {l : List α} (h : Tb cs L T) : Tb (cs ++ [L.length]) (L ++ [some l]) (T ++ [l]) := by
  have hl := h.len
  refine ⟨by simp [hl], fun j hj => ?_, ?_, fun r hr => ?_⟩
  · by_cases e : j < T.length
    · have h1 := h.lt _ (gd_mem (cs := cs) (i := j) (by omega))
      rw [ga_lt (by omega), List.getElem?_append_left h1, h.at_ j e, ga_lt e]
    · simp only [List.length_append, List.length_singleton] at hj
      obtain rfl : j = T.length := by omega
      rw [ga_eq (j := T.length) hl.symm, ge_eq rfl, ga_eq rfl]
  · rw [List.nodup_append]
    refine ⟨h.nd, by simp, fun a ha b hb e => ?_⟩
    simp at hb; subst hb; subst e
    exact absurd (h.lt _ ha) (Nat.lt_irrefl _)
  · rcases List.mem_append.1 hr with q | q
    · have := h.lt r q; simp; omega
    · simp at q; subst q; simp
theorem fd_go {F : List (Nat × Nat × Pl) → Prop} {tk : Bool} {id len : Nat} {T : List (List α)} {rows : List (List PV)} (h : Tb cs L T) (hm : m = true → tk = true) (hr : rows = T.map (List.map f)) (hl : len = T.length) (hF : F [(k, id, .d 0 (cs.map some))]) : fdB (dgo f m cs L) tk k id 0 len rows F := by
  subst hl
  have hc := h.len
  simp only [fdB, dgo, Nat.zero_add, List.drop_zero, List.length_map]
  refine ⟨by omega, hm, cs.map some, ?_, ?_, hF⟩
  · rw [List.take_of_length_le (by simp; omega), hr]
    refine selD_rows (fun i hi => ⟨cs.getD i 0, ?_, ?_⟩) (by simp [hc])
    · rw [List.getD_eq_getElem?_getD, List.getElem?_eq_getElem hi]; rfl
    · rw [go_row, h.at_ i (by omega), List.getElem?_map, List.getD_eq_getElem?_getD, List.getElem?_eq_getElem (by omega)]; rfl
  · rw [List.filterMap_map]
    simpa [Function.comp_def] using h.nd
theorem fl_go : flg (dgo f m cs L) = m := _root_.id rfl
/-- In a loop. -/
def GwnL (v : AV) (h : Nat → Blk) (n : Nat) (f : α → PV) (cs : List Nat) (L : List (Option (List α))) : Prop := ∃ id, v = .ref id 0 cs.length ∧ h id = dgo f false cs L ∧ id < n
theorem GwnL.out {v : AV} {n : Nat} (ho : GwnL v h n f cs L) : ∃ id, v = .ref id 0 cs.length ∧ h id = dgo f false cs L ∧ id < n := ho
def hbO (b : Blk) (f : α → PV) (cs : List Nat) (L : List (Option (List α))) : Prop := b = dgo f false cs L
theorem gwn_ref {n id len' : Nat} : GwnL (.ref id 0 len') h n f cs L = (len' = cs.length ∧ hbO (h id) f cs L ∧ id < n) := by
  unfold GwnL hbO
  apply propext; constructor
  · rintro ⟨i, e1, e2, e3⟩; cases e1; exact ⟨rfl, e2, e3⟩
  · rintro ⟨e1, e2, e3⟩; exact ⟨id, by rw [e1], e2, e3⟩
theorem hbO_eq {cs' : List Nat} {L' : List (Option (List α))} : hbO (dgo f false cs' L') f cs L = (dgo f false cs' L' = dgo f false cs L) := _root_.id rfl
theorem hbO_e : hbO (.deep false [] []) f ([] : List Nat) ([] : List (Option (List α))) := _root_.id rfl
end
attribute [go_sem] avQ_eq ld_go ldO_eq li_go ctO_eq cti_go inO_eq in_go apQ_eq api_go str_go st_iptr rwO_eq rw_go rw_dk ad_go ad_gn ad_g1 fl_go gwn_ref hbO_eq hbO_e
end Go.Gl
