/-
 Rows put in order by the library, however many there are: the shelf's contract told in the logic's words. Conditions: those that each lemma names.
-/
import Derived.Test.YtfjfobbniglaeaaOrd
import Derived.Shelf.SlSortCmp.Whole1
set_option linter.unusedSimpArgs false
set_option linter.unusedVariables false
set_option maxRecDepth 20000
set_option linter.unusedSectionVars false
namespace Go.Gl
open Go Go.Proofs
variable [Amb] [NoQ]
/-! ### what the sort's worlds bear -/
section
open Go.Sort
variable {α : Type} [Inhabited α] {enc : α → Value} {w : World} {blk off m : Nat} {dk : Array α} {os : Array Obj}
theorem sw_size : (sortWorld enc w blk off m dk os).heap.size = w.heap.size + os.size := by
 simp [sortWorld, grow, putRow, mapBlock, Go.Sort.ahead]
theorem sw_other {B : Nat} (hB : B < w.heap.size) (hne : B ≠ blk) : (sortWorld enc w blk off m dk os).heap[B]? = w.heap[B]? := by
 simp only [sortWorld, grow, putRow, mapBlock, Go.Sort.ahead]
 rw [Array.getElem?_append_left (by simpa using hB), Array.getElem?_modify, if_neg (Ne.symm hne)]
theorem sw_at {c : Array Value} {e : TypeId} {fr : Nat × Nat} (h : w.heap[blk]? = some (.cells c e fr)) : (sortWorld enc w blk off m dk os).heap[blk]? = some (.cells (putCells enc off dk c) e fr) := by
 have hB : blk < w.heap.size := by
  rcases Nat.lt_or_ge blk w.heap.size with h1 | h1
  ·exact h1
  ·rw [Array.getElem?_eq_none h1] at h; cases h
 simp only [sortWorld, grow, putRow, mapBlock, Go.Sort.ahead]
 rw [Array.getElem?_append_left (by simpa using hB), Array.getElem?_modify, if_pos rfl, h]; rfl
theorem sw_drawn : w.drawn ≤ (sortWorld enc w blk off m dk os).drawn := Nat.le_add_right _ _
omit [Amb] [NoQ] in
theorem keep_grow [Amb] (hq : Amb.q = true) {w w' : World} {M : Nat → Prop} (hM : ∀ B, ¬ M B) (h : Keep w w' M) : ∃ q os', w' = grow (w.drewN q) os' := by
 obtain ⟨h1, h2, h3, h4, h5, h6⟩ := h
 have h6 := h6 hq
 refine ⟨w'.drawn - w.drawn, w'.heap.extract w.heap.size w'.heap.size, ?_⟩
 cases w with
 | mk hp tp dr os ou =>
  cases w' with
  | mk hp' tp' dr' os' ou' =>
   simp only at h1 h2 h3 h4 h5 h6
   subst h1; subst h2; subst h3
   simp only [grow, World.drewN, World.mk.injEq, and_true, true_and]
   refine ⟨?_, by omega⟩
   apply Array.ext_getElem?
   intro k
   by_cases hk : k < hp.size
   ·rw [Array.getElem?_append_left hk]; exact h5 k hk (hM k)
   ·rw [Array.getElem?_append_right (by omega), Array.getElem?_extract]
    by_cases h9 : k < hp'.size
    ·rw [if_pos (by omega)]; congr 1; omega
    ·rw [if_neg (by omega), Array.getElem?_eq_none (by omega)]
end
/-- Nothing is told of tables, all is told of draws. -/
@[reducible] def ambQ : Amb := ⟨fun _ => none, true⟩
omit [Amb] [NoQ] in
theorem Fun.callsQ {P : Program} {f : FuncId} {args : List PV} {n : Int} (hf : @Fun ambQ P f args [.int .i64 n]) (w : World) {vs : List Value} (hr : RepL w (fun _ => False) (fun _ => True) args vs) :
  Calls P f ⟨vs⟩ w fun e w' => e = .returned (.int .i64 n) ∧ ∃ q os', w' = Go.Sort.grow (w.drewN q) os' := by
 obtain ⟨_, _, _, _, h⟩ := hf
 have dead : ∀ j, argH (args.map .pv) j = .dead := fun j => by
  unfold argH
  rw [List.getElem?_map]
  cases args[j]? <;> rfl
 have hno : ∀ (ι : Nat → Loc) B, ¬ Held (argH (args.map .pv)) ι B := by
  rintro ι B ⟨id, ho⟩
  rw [dead] at ho; exact ho
 have hrep : ∀ (l : List PV) (vs : List Value) (k : Nat), RepL w (fun _ => False) (fun _ => True) l vs → RepAL w (Held (argH (args.map .pv)) fun _ => ⟨0, 0, 0, 0, noInn⟩) (fun _ => True) (fun _ => ⟨0, 0, 0, 0, noInn⟩) (argAVs k (l.map .pv)) vs := by
  intro l
  induction l with
  | nil => intro vs k h; simpa [argAVs, RepAL, RepL] using h
  | cons x l ih =>
   intro vs k h
   simp only [RepL] at h
   obtain ⟨v, vs', rfl, h1, h2⟩ := h
   simp only [List.map_cons, argAVs, Arg.av, RepAL, RepA]
   exact ⟨v, vs', rfl, RepP.tr (F := fun _ => False) (fun _ _ _ _ hv => ⟨hv, hno _ _⟩) (fun _ _ _ h => h) _ _ h1, ih _ _ h2⟩
 refine (h w (fun _ => True) (fun _ => ⟨0, 0, 0, 0, noInn⟩) vs (@AmbOk.mk ambQ w _ (fun B o h => by cases h) (fun B o h => by cases h)) (fun _ _ => trivial) ⟨?_, ?_⟩ (hrep _ _ _ hr)).mono ?_
 ·intro id; rw [dead]; trivial
 ·intro id _ B ho; rw [dead] at ho; exact ho.elim
 ·rintro e w' ⟨v, ι', rfl, _, hk, _, hv⟩
  have hv : v = .int .i64 n := by simpa [impAll, imp, imp1, RepA, RepP] using hv
  subst hv
  exact ⟨rfl, @keep_grow ambQ rfl _ _ _ (fun B => hno _ B) hk⟩
/-! ### one order -/
theorem insK_perm {L : List (List Int)} {p : List Int} {j : Nat} : (insK L p j).Perm (p :: L) := by
 rw [insK]
 conv => rhs; rw [← List.take_append_drop j L]
 exact List.perm_middle
theorem isort_perm (L : List (List Int)) : ∀ {A : List (List Int)}, (L.foldl insS A).Perm (L ++ A) := by
 induction L with
 | nil => intro A; exact List.Perm.refl _
 | cons x l ih =>
  intro A
  rw [List.foldl_cons]
  refine ih.trans ?_
  refine (List.Perm.append_left l (insK_perm (L := A) (p := x))).trans ?_
  exact List.perm_middle
theorem leP_anti {a b : List Int} (h1 : leP a b) (h2 : leP b a) : a = b := by
 by_cases e : a = b
 ·exact e
 ·have := bef_tot (a := a) (b := b) h2 e
  rw [leP] at h1; rw [h1] at this; cases this
theorem ws_uniq : ∀ {A B : List (List Int)}, WS A → WS B → A.Perm B → A = B
 | [], B, _, _, h => (List.Perm.nil_eq h)
 | a :: A, [], _, _, h => by have := h.length_eq; simp at this
 | a :: A, b :: B, h1, h2, h => by
  have h1' := List.pairwise_cons.1 h1
  have h2' := List.pairwise_cons.1 h2
  have e : a = b := by
   have ha : a ∈ b :: B := h.subset (by simp)
   have hb : b ∈ a :: A := h.symm.subset (by simp)
   rcases List.mem_cons.1 ha with e | ha
   ·exact e
   ·rcases List.mem_cons.1 hb with e | hb
    ·exact e.symm
    ·exact leP_anti (h1'.1 b hb) (h2'.1 a ha)
  subst e
  rw [ws_uniq h1'.2 h2'.2 (List.Perm.cons_inv h)]
theorem isort_of {A L : List (List Int)} (h1 : WS A) (h2 : A.Perm L) : A = isortL L := by
 refine ws_uniq h1 (isort_ws L List.Pairwise.nil) (h2.trans ?_)
 have := isort_perm L (A := [])
 rw [List.append_nil] at this
 exact this.symm
theorem swo_rows {n : Nat} (L : List (List Int)) : Go.Sort.SWO (ltOf fun i j : _root_.Fin n => cmpP (L.getD i.1 []) (L.getD j.1 [])) where
 irrefl x := bef_irr
 trans x y z h1 h2 := bef_trans h1 h2
 ntrans x y z h1 h2 := leP_trans (a := L.getD z.1 []) (b := L.getD y.1 []) (c := L.getD x.1 []) h2 h1
/-! ### the sort -/
omit [Amb] [NoQ] in
theorem ext_all {α : Type} (a : Array α) {n : Nat} (h : a.size = n) : a.extract 0 n = a := by subst h; simp
section
open Go.Sort
set_option maxHeartbeats 1000000 in
theorem sort_any {P : Program} {f g : FuncId} {fn : Func} (hf : P.funcs[f]? = some fn) (hb : fn.body.isSome = true) (hn : (fn.name == "runtime.NumGoroutine") = false)
  (hs : ∀ {α : Type} [Inhabited α] (enc : α → Value) (_ : OneCell enc) (cf : α → α → Int) (_ : SWO (ltOf cf)) (blk off cap : Nat) (d : Array α) (w : World) (_ : CmpLays1 P g #[] enc cf blk off d.size w) (_ : Holds enc w blk off d) (_ : blk < w.heap.size) (_ : d.size < 4611686018427387904),
   Calls P f #[.slice (some ⟨blk, off, none⟩) d.size cap, .func (.func g) #[] #[]] w fun e w' => e = .returned (.tuple #[]) ∧ ∃ d' n os, PermIn 0 d.size d d' ∧ SortedIn (ltOf cf) 0 d.size d' ∧ w' = sortWorld enc w blk off n d' os)
  (hc : ∀ (p q : List Int), p.length ≤ 1048576 → q.length ≤ 1048576 → @Fun ambQ P g [.sl .ro (p.map (PV.int .i64)), .sl .ro (q.map (PV.int .i64))] [.int .i64 (cmpP p q)])
  (L : List (List Int)) (h0 : 0 < L.length) (hL : L.length ≤ 1048576) (hl : ∀ l ∈ L, l.length ≤ 1048576) :
  CallT P false f [.mu false (List.map (elI false) L), .pv (.fn g [] [])] [some (List.map (elI false) (isortL L)), none] [] := by
 have eB : ∀ Z : List (List Int), mkB true (List.map (elI false) Z) = .live true (List.map (elI false) Z) := fun Z => mkB_plain (NDl.h (c := List.map (elI false) Z))
 have eL : lenC (List.map (elI false) L) = L.length := by rw [lenC_live, List.length_map]
 have eA : ∀ j, argH [.mu false (List.map (elI false) L), .pv (.fn g [] [])] j = if j = 0 then .live true (List.map (elI false) L) else .dead := fun j => by
  match j with
  | 0 => exact eB L
  | 1 => rfl
  | j + 2 => rfl
 have eP : ∀ j, postH false [.mu false (List.map (elI false) L), .pv (.fn g [] [])] [some (List.map (elI false) (isortL L)), none] [] j = if j = 0 then .live true (List.map (elI false) (isortL L)) else .dead := fun j => by
  match j with
  | 0 => exact eB (isortL L)
  | 1 => rfl
  | j + 2 => rfl
 have hnr : noRoL (List.map (elI false) (isortL L)) = true := noRoL_map (fun _ => nr_frI) _
 refine ⟨⟨fn, hf, hb, hn⟩, rfl, rfl, by simp [hnr], ?_⟩
 intro w G ι vs hamb hG ok hv
 simp only [argAVs, Arg.av, RepAL, RepA, eL] at hv
 obtain ⟨v0, vs1, rfl, ⟨a, cap, rfl, hle, hcap, hmax, hloc⟩, v1, vs2, rfl, hv1, rfl⟩ := hv
 simp only [RepP, RepL] at hv1
 obtain ⟨_, _, rfl, rfl, rfl⟩ := hv1
 have hlive := ok.ok 0
 rw [eA, if_pos rfl] at hlive
 obtain ⟨g1, g2, g3⟩ := hlive
 rw [List.length_map] at g1
 have hc0 : (ι 0).cap ≠ 0 := by omega
 rcases g3 with g3 | ⟨⟨cs, E, lo, hi, hcell, hfit, hfr⟩, hrep, horg⟩
 ·exact absurd g3 hc0
 have hBlt : (ι 0).B < w.heap.size := by
  rcases Nat.lt_or_ge (ι 0).B w.heap.size with h1 | h1
  ·exact h1
  ·rw [Array.getElem?_eq_none h1] at hcell; cases hcell
 have heldA : ∀ B, Held (argH [.mu false (List.map (elI false) L), .pv (.fn g [] [])]) ι B ↔ B = (ι 0).B := fun B => by
  constructor
  ·rintro ⟨id, ho⟩
   rw [eA] at ho
   split at ho
   ·rename_i e; subst e; exact ho.2.symm
   ·exact ho.elim
  ·rintro rfl
   exact ⟨0, by rw [eA, if_pos rfl]; exact ⟨hc0, rfl⟩⟩
 have heldP : ∀ B, Held (postH false [.mu false (List.map (elI false) L), .pv (.fn g [] [])] [some (List.map (elI false) (isortL L)), none] []) ι B ↔ B = (ι 0).B := fun B => by
  constructor
  ·rintro ⟨id, ho⟩
   rw [eP] at ho
   split at ho
   ·rename_i e; subst e; exact ho.2.symm
   ·exact ho.elim
  ·rintro rfl
   exact ⟨0, by rw [eP, if_pos rfl]; exact ⟨hc0, rfl⟩⟩
 rw [RepC_iff] at hrep
 have hel : ∀ j : _root_.Fin L.length, ∃ v, w.cell? ⟨(ι 0).B, (ι 0).off + j.1, none⟩ = some v ∧ v.oneCell' = true ∧ RepP w (Held (argH [.mu false (List.map (elI false) L), .pv (.fn g [] [])]) ι) G (elI false (L.getD j.1 [])) v := fun j => by
  refine hrep j.1 _ ?_
  rw [List.getElem?_map, List.getElem?_eq_getElem j.2, List.getD_eq_getElem?_getD, List.getElem?_eq_getElem j.2]; rfl
 let enc : _root_.Fin L.length → Value := fun j => Classical.choose (hel j)
 have he : ∀ j, w.cell? ⟨(ι 0).B, (ι 0).off + j.1, none⟩ = some (enc j) ∧ (enc j).oneCell' = true ∧ RepP w (Held (argH [.mu false (List.map (elI false) L), .pv (.fn g [] [])]) ι) G (elI false (L.getD j.1 [])) (enc j) := fun j => Classical.choose_spec (hel j)
 generalize enc = enc at he
 haveI : Inhabited (_root_.Fin L.length) := ⟨⟨0, h0⟩⟩
 let d : Array (_root_.Fin L.length) := Array.ofFn fun i => i
 have hd : d.size = L.length := Array.size_ofFn
 have hda : ∀ j (h : j < L.length), d[j]! = ⟨j, h⟩ := fun j h => by
  rw [getElem!_pos d j (by rw [hd]; exact h)]; exact Array.getElem_ofFn _
 have hdl : d.toList.map (fun i => L.getD i.1 []) = L := by
  apply List.ext_getElem?
  intro k
  rw [List.getElem?_map]
  by_cases hk : k < L.length
  ·rw [Array.getElem?_toList, Array.getElem?_eq_getElem (by rw [hd]; exact hk), List.getElem?_eq_getElem hk]
   simp only [Option.map_some, d, Array.getElem_ofFn]
   rw [List.getD_eq_getElem?_getD, List.getElem?_eq_getElem hk]; rfl
  ·rw [Array.getElem?_toList, Array.getElem?_eq_none (by rw [hd]; omega), List.getElem?_eq_none (by omega)]; rfl
 have hne : ∀ B o v, ¬ Held (argH [.mu false (List.map (elI false) L), .pv (.fn g [] [])]) ι B → w.cell? ⟨B, o, none⟩ = some v → B < w.heap.size ∧ B ≠ (ι 0).B := fun B o v hF hv => ⟨cell?_lt hv, fun e => hF ((heldA B).2 e)⟩
 have hst : ∀ (m : Nat) (dk : Array (_root_.Fin L.length)) (os : Array Obj) (B o : Nat) (v : Value), ¬ Held (argH [.mu false (List.map (elI false) L), .pv (.fn g [] [])]) ι B → w.cell? ⟨B, o, none⟩ = some v → (sortWorld enc w (ι 0).B (ι 0).off m dk os).cell? ⟨B, o, none⟩ = some v := fun m dk os B o v hF hv => by
  obtain ⟨q1, q2⟩ := hne B o v hF hv
  rw [cell?_eq, sw_other q1 q2, ← cell?_eq]; exact hv
 have hcmp : CmpLays1 P g #[] enc (fun i j : _root_.Fin L.length => cmpP (L.getD i.1 []) (L.getD j.1 [])) (ι 0).B (ι 0).off d.size w := by
  intro m os dk _ x y
  have hx : ∀ z : _root_.Fin L.length, RepP (sortWorld enc w (ι 0).B (ι 0).off m dk os) (fun _ => False) (fun _ => True) (.sl .ro ((L.getD z.1 []).map (PV.int .i64))) (enc z) := fun z => by
   have q := RepP.tr (F' := fun _ => False) (G' := fun _ => True) (w' := sortWorld enc w (ι 0).B (ι 0).off m dk os) (fun B o v hF hv => ⟨hst m dk os B o v hF hv, fun h => h⟩) (fun _ _ _ _ => trivial) _ _ (he z).2.2
   rw [elI_eq] at q
   simp only [RepP] at q ⊢
   obtain ⟨a', c', q1, q2, q3, _, q5⟩ := q
   refine ⟨a', c', q1, q2, q3, (by intro e; cases e), ?_⟩
   rcases q5 with q5 | ⟨B, o, q6, q7, _, q8⟩
   ·exact .inl q5
   ·exact .inr ⟨B, o, q6, q7, (by intro e; cases e), q8⟩
  have hlen : ∀ z : _root_.Fin L.length, (L.getD z.1 []).length ≤ 1048576 := fun z => hl _ (getD_mem z.2)
  have := Fun.callsQ (hc (L.getD x.1 []) (L.getD y.1 []) (hlen x) (hlen y)) (sortWorld enc w (ι 0).B (ι 0).off m dk os) (vs := [enc x, enc y]) (by
   simp only [RepL]
   exact ⟨_, _, rfl, hx x, _, _, rfl, hx y, rfl⟩)
  exact this
 have hH : Holds enc w (ι 0).B (ι 0).off d := by
  intro j hj
  rw [hd] at hj
  rw [hda j hj]
  refine ⟨(he ⟨j, hj⟩).1, ?_⟩
  simp only [World.frozen?, hcell]
  simp; omega
 have ha : a = some ⟨(ι 0).B, (ι 0).off, none⟩ := by
  rcases hloc with h | h
  ·omega
  ·simpa using h
 subst ha
 have key := hs enc (fun j => (he j).2.1) (fun i j : _root_.Fin L.length => cmpP (L.getD i.1 []) (L.getD j.1 [])) (swo_rows L) (ι 0).B (ι 0).off cap d w hcmp hH hBlt (by omega)
 rw [hd] at key
 refine key.mono ?_
 rintro e w' ⟨rfl, d', n, os, hp, hsrt, rfl⟩
 obtain ⟨p1, _, p3⟩ := hp
 have hd' : d'.size = L.length := by rw [p1, hd]
 have hperm : (d'.toList.map fun i => L.getD i.1 []).Perm L := by
  have e1 : (d'.extract 0 L.length).toList = d'.toList := by rw [ext_all d' hd']
  have e2 : (d.extract 0 L.length).toList = d.toList := by rw [ext_all d hd]
  rw [e1, e2] at p3
  have := p3.map fun i => L.getD i.1 []
  rwa [hdl] at this
 have hws : WS (d'.toList.map fun i => L.getD i.1 []) := by
  rw [WS, List.pairwise_map, List.pairwise_iff_getElem]
  intro i j hi hj hij
  have := hsrt i j (Nat.zero_le _) hij (by rw [← hd']; simpa using hj)
  rw [getElem!_pos d' j (by simpa using hj), getElem!_pos d' i (by simpa using hi)] at this
  exact this
 have hrows := isort_of hws hperm
 have hkeep : ∀ k, k < w.heap.size → ¬ argM [.mu false (List.map (elI false) L), .pv (.fn g [] [])] ι k → (sortWorld enc w (ι 0).B (ι 0).off n d' os).heap[k]? = w.heap[k]? := fun k hk hM => sw_other hk fun e => hM ((heldA k).2 e)
 have hstays : Stays w (sortWorld enc w (ι 0).B (ι 0).off n d' os) (Held (argH [.mu false (List.map (elI false) L), .pv (.fn g [] [])]) ι) (Held (postH false [.mu false (List.map (elI false) L), .pv (.fn g [] [])] [some (List.map (elI false) (isortL L)), none] []) ι) := fun B o v hF hv => ⟨hst n d' os B o v hF hv, fun h => hF ((heldA B).2 ((heldP B).1 h))⟩
 refine ⟨.tuple #[], ι, rfl, fun _ _ => LocEq.refl _, ⟨rfl, rfl, rfl, by rw [sw_size]; omega, hkeep, fun _ => sw_drawn⟩, ⟨fun id => ?_, fun id id' B ho ho' => ?_⟩, ?_⟩
 ·rw [eP]
  split
  ·rename_i e
   subst e
   refine ⟨by rw [List.length_map, isortL_len]; exact g1, g2, .inr ⟨⟨_, E, lo, hi, sw_at hcell, by simpa [putCells] using hfit, by simpa [putCells] using hfr⟩, ?_, horg⟩⟩
   rw [RepC_iff]
   intro j x hj
   have hj0 : j < L.length := by
    have := (List.getElem?_eq_some_iff.1 hj).1
    rw [List.length_map, isortL_len] at this; exact this
   rw [← hrows, List.map_map, List.getElem?_map, Array.getElem?_toList, Array.getElem?_eq_getElem (by omega)] at hj
   simp only [Option.map_some, Option.some.injEq, Function.comp] at hj
   subst hj
   have hx := he (d'[j]'(by omega))
   refine ⟨enc (d'[j]'(by omega)), ?_, hx.2.1, RepP.tr hstays (fun _ _ _ h => h) _ _ hx.2.2⟩
   have hcs : (ι 0).off + j < cs.size := by omega
   rw [cell?_eq, sw_at hcell]
   simp only [putCells, Array.getElem?_mapIdx]
   rw [Array.getElem?_eq_getElem hcs]
   simp only [Option.map_some]
   rw [if_pos ⟨by omega, by omega⟩, show (ι 0).off + j - (ι 0).off = j by omega, getElem!_pos d' j (by omega)]
  ·trivial
 ·rw [eP] at ho ho'
  split at ho
  ·split at ho'
   ·omega
   ·exact ho'.elim
  ·exact ho.elim
 ·simp [impAll, imps, RepA, RepAL]
end
end Go.Gl
