/-
 Calls that hand back rows, told at the world; functions that do, told so. Conditions: none.
-/
import Derived.Test.YtfjfobbniglaeaaWd
set_option linter.unusedSimpArgs false
set_option linter.unusedVariables false
set_option maxRecDepth 20000
set_option linter.unusedSectionVars false
namespace Go.Gl
open Go Go.Proofs Go.RowKit Go.Lib
variable [Amb]
theorem deep_flag {w : World} {F G : Nat → Prop} {O O' : Bool → Nat → Prop} {m m' : Bool} {cs : List DC} {rs : List (Option (List PV))} {l : Loc} (h : okB w F G O (.deep m cs rs) l) (hO : ∀ B, O m B → O' m' B) : okB w F G O' (.deep m' cs rs) l := by
 obtain ⟨n1, ⟨l1, l2, l3⟩, r1, d1, b1⟩ := h
 exact ⟨n1, ⟨l1, l2, l3.imp id fun ⟨q1, q2, q3⟩ => ⟨q1, hO _ q2, q3⟩⟩, fun r c hr => by
  obtain ⟨z1, z2, z3⟩ := r1 r c hr
  exact ⟨z1, z2, z3.imp id fun ⟨q1, q2, q3⟩ => ⟨q1, q2, hO _ q3⟩⟩, d1, b1⟩
theorem deep_org {w : World} {F G : Nat → Prop} {O : Bool → Nat → Prop} {m : Bool} {cs : List DC} {rs : List (Option (List PV))} {l : Loc} (h : okB w F G O (.deep m cs rs) l) {B : Nat} (ho : owns (.deep m cs rs) l B) : O m B := by
 rcases ho with ⟨h0, rfl⟩ | ⟨r, c, hr, h0, rfl⟩
 ·rcases h.2.1.2.2 with q | q
  ·exact absurd q h0
  ·exact q.2.1
 ·rcases (h.2.2.1 r c hr).2.2 with q | q
  ·exact absurd q h0
  ·exact q.2.2
theorem own_deep {w : World} {F G : Nat → Prop} {O : Bool → Nat → Prop} {m : Bool} {L : List (List Int)} {l : Loc} (h : okB w F G O (.deep m (canon L.length) (L.map fun l => some (l.map (PV.int .i64)))) l) : Own w (bL L) l ∧ ∀ B, owns (bL L) l B → O m B :=
 ⟨FreeB.h (b := bL L) (deep_flag (m' := true) (O' := fun _ => O m) h fun _ q => q) fun _ _ => trivial, fun B ho => deep_org h (B := B) (by exact ho)⟩
theorem own_live {w : World} {F G : Nat → Prop} {O : Bool → Nat → Prop} {m : Bool} {a : List Int} {l : Loc} (h : okB w F G O (.live m (a.map (PV.int .i64))) l) : Own w (bI a) l ∧ ∀ B, owns (bI a) l B → O m B :=
 ⟨FreeB.h (b := bI a) (O := fun _ => O m) (show okB w F G (fun _ => O m) (bI a) l from h) fun _ _ => trivial, fun B ⟨h0, e⟩ => by
  rcases h.2.2 with q | q
  ·exact absurd q h0
  ·exact e ▸ q.2.2⟩
theorem argH_dead {args : List PV} : ∀ j, argH (args.map .pv) j = .dead := fun j => by
 unfold argH
 rw [List.getElem?_map]
 cases args[j]? <;> rfl
theorem rep_args {w : World} {ι : Nat → Loc} {F' : Nat → Prop} (hF : ∀ B, ¬ F' B) : ∀ (l : List PV) (vs : List Value) (k : Nat), RepL w (fun _ => False) (fun _ => True) l vs → RepAL w F' (fun _ => True) ι (argAVs k (l.map .pv)) vs := by
 intro l
 induction l with
 | nil => intro vs k h; simpa [argAVs, RepAL, RepL] using h
 | cons x l ih =>
  intro vs k h
  simp only [RepL] at h
  obtain ⟨v, vs', rfl, h1, h2⟩ := h
  simp only [List.map_cons, argAVs, Arg.av, RepAL, RepA]
  exact ⟨v, vs', rfl, RepP.tr (F := fun _ => False) (fun _ _ _ _ hv => ⟨hv, hF _⟩) (fun _ _ _ h => h) _ _ h1, ih _ _ h2⟩
/-- A call that only reads, with what it hands back. -/
theorem Fun.at {P : Program} {f : FuncId} {args res : List PV} (hf : Fun P f args res) (w : World) (ha : ∀ B o, Amb.tb B = some o → w.heap[B]? = some o) {vs : List Value} (hr : RepL w (fun _ => False) (fun _ => True) args vs) :
  Calls P f ⟨vs⟩ w fun e w' => ∃ v ι', e = .returned v ∧ Keep w w' (fun _ => False) ∧ HeapOk w' w.heap.size (fun _ => False) (fun _ => True) (postH false (args.map .pv) [] res) ι' ∧ RepA w' (Held (postH false (args.map .pv) [] res) ι') (fun _ => True) ι' (impAll args.length res) v := by
 obtain ⟨_, _, _, _, h⟩ := hf
 have hno : ∀ (ι : Nat → Loc) B, ¬ Held (argH (args.map .pv)) ι B := by
  rintro ι B ⟨id, ho⟩
  rw [argH_dead] at ho; exact ho
 have hno2 : argM (args.map .pv) (fun _ => ⟨0, 0, 0, 0, noInn⟩) = fun _ => False := funext fun B => propext ⟨fun h => hno _ _ h, fun h => h.elim⟩
 refine (h w (fun _ => True) (fun _ => ⟨0, 0, 0, 0, noInn⟩) vs ⟨ha, fun B o _ hB => hno _ B hB⟩ (fun _ _ => trivial) ⟨?_, ?_⟩ (rep_args (hno _) _ _ _ hr)).mono ?_
 ·intro id; rw [argH_dead]; trivial
 ·intro id _ B ho; rw [argH_dead] at ho; exact ho.elim
 ·rintro e w' ⟨v, ι', rfl, _, hk, ok, hv⟩
  rw [hno2] at hk ok
  rw [List.length_map] at hv
  exact ⟨v, ι', rfl, hk, ok, hv⟩
/-- .. rows of the holder's own. -/
theorem Fun.rows {P : Program} {f : FuncId} {args : List PV} {L : List (List Int)} (hf : Fun P f args [.dl (L.map (List.map (PV.int .i64)))]) (hp : postH false (args.map .pv) [] [.dl (L.map (List.map (PV.int .i64)))] args.length = .deep false (canon L.length) (L.map fun l => some (l.map (PV.int .i64)))) (w : World) (ha : ∀ B o, Amb.tb B = some o → w.heap[B]? = some o) {vs : List Value} (hr : RepL w (fun _ => False) (fun _ => True) args vs) :
  Calls P f ⟨vs⟩ w fun e w' => ∃ v l, e = .returned v ∧ hdrAt l L.length v ∧ Own w' (bL L) l ∧ (∀ B, owns (bL L) l B → w.heap.size ≤ B) ∧ Keep w w' (fun _ => False) := by
 refine (Fun.at hf w ha hr).mono ?_
 rintro e w' ⟨v, ι', rfl, hk, ok, hv⟩
 have hb := ok.ok args.length
 rw [hp] at hb
 obtain ⟨o1, o2⟩ := own_deep hb
 simp only [impAll, imp, RepA, List.length_map] at hv
 obtain ⟨a, cap, rfl, c1, c2, c3, c4⟩ := hv
 refine ⟨_, ι' args.length, rfl, ⟨a, by simp at c2 ⊢; rw [c2], c4.imp (fun h => by simp at c2; omega) fun h => by simpa using h⟩, o1, fun B ho => ?_, hk⟩
 rcases o2 B ho with q | q
 ·exact q.1
 ·exact q.2.elim
/-- .. one row of the holder's own. -/
theorem Fun.row {P : Program} {f : FuncId} {args : List PV} {a : List Int} (hf : Fun P f args [.sl .own (a.map (PV.int .i64))]) (hp : postH false (args.map .pv) [] [.sl .own (a.map (PV.int .i64))] args.length = .live false (a.map (PV.int .i64))) (w : World) (ha : ∀ B o, Amb.tb B = some o → w.heap[B]? = some o) {vs : List Value} (hr : RepL w (fun _ => False) (fun _ => True) args vs) :
  Calls P f ⟨vs⟩ w fun e w' => ∃ v l, e = .returned v ∧ hdrAt l a.length v ∧ Own w' (bI a) l ∧ (∀ B, owns (bI a) l B → w.heap.size ≤ B) ∧ Keep w w' (fun _ => False) := by
 refine (Fun.at hf w ha hr).mono ?_
 rintro e w' ⟨v, ι', rfl, hk, ok, hv⟩
 have hb := ok.ok args.length
 rw [hp] at hb
 obtain ⟨o1, o2⟩ := own_live hb
 simp only [impAll, imp, RepA, List.length_map] at hv
 obtain ⟨x, cap, rfl, c1, c2, c3, c4⟩ := hv
 refine ⟨_, ι' args.length, rfl, ⟨x, by simp at c2 ⊢; rw [c2], c4.imp (fun h => by simp at c2; omega) fun h => by simpa using h⟩, o1, fun B ho => ?_, hk⟩
 rcases o2 B ho with q | q
 ·exact q.1
 ·exact q.2.elim
/-- Rows handed over, and what they become: some of them. -/
theorem CallT.thin {P : Program} {f : FuncId} {L L' : List (List Int)} (hf : CallT P true f [.mu false [.dl (L.map (List.map (PV.int .i64)))]] [none] [.dl (L'.map (List.map (PV.int .i64)))]) (w : World)
  (ha : ∀ B o, Amb.tb B = some o → w.heap[B]? = some o) {l : Loc} (hO : Own w (bL L) l) (hoff : ∀ B o, Amb.tb B = some o → ¬ owns (bL L) l B) {v : Value} (hv : hdrAt l L.length v) :
  Calls P f #[v] w fun e w' => ∃ v' l', e = .returned v' ∧ hdrAt l' L'.length v' ∧ Own w' (bL L') l' ∧ (∀ B, owns (bL L') l' B → w.heap.size ≤ B ∨ owns (bL L) l B) ∧ Keep w w' (owns (bL L) l) := by
 obtain ⟨_, _, _, _, h⟩ := hf
 let ag : List Arg := [.mu false [.dl (L.map (List.map (PV.int .i64)))]]
 have eA : ∀ j, argH ag j = if j = 0 then bL L else .dead := fun j => by
  match j with
  | 0 => simp [argH, ag, mk_bL]
  | j + 1 => rfl
 have hM : ∀ B, argM ag (fun _ => l) B ↔ owns (bL L) l B := fun B => by
  constructor
  ·rintro ⟨j, ho⟩
   rw [eA] at ho
   split at ho
   ·exact ho
   ·exact ho.elim
  ·intro ho; exact ⟨0, by rw [eA, if_pos rfl]; exact ho⟩
 have hM2 : argM ag (fun _ => l) = owns (bL L) l := funext fun B => propext (hM B)
 obtain ⟨a, rfl, hh⟩ := hv
 refine (h w (fun _ => True) (fun _ => l) [.slice a L.length l.cap] ⟨ha, fun B o hB ho => hoff B o hB ((hM B).1 ho)⟩ (fun _ _ => trivial) ⟨fun id => ?_, fun id id' B ho ho' => ?_⟩ ?_).mono ?_
 ·rw [show argH _ id = _ from eA id]
  split
  ·exact FreeB.h hO fun B ho => .inr ⟨rfl, (hM B).2 ho⟩
  ·trivial
 ·rw [show argH _ id = _ from eA id] at ho
  rw [show argH _ id' = _ from eA id'] at ho'
  split at ho
  ·split at ho'
   ·omega
   ·exact ho'.elim
  ·exact ho.elim
 ·simp only [argAVs, Arg.av, RepAL, RepA, RepP]
  refine ⟨_, _, rfl, ⟨a, l.cap, by simp [lenC], by have := hO.2.1.1; simpa [lenC, canon] using this, by omega, hO.2.1.2.1, hh.imp id fun e => by rw [e]; rfl⟩, rfl⟩
 ·rintro e w' ⟨v, ι', rfl, hι, hk, ok, hr⟩
  have hb := ok.ok 1
  rw [show postH true ag [none] [.dl (L'.map (List.map (PV.int .i64)))] 1 = .deep true (canon L'.length) (L'.map fun l => some (l.map (PV.int .i64))) by simp [postH, impWs, impW, impW1, hwsH, ag, Function.comp_def]] at hb
  obtain ⟨o1, o2⟩ := own_deep hb
  simp only [impAll, imp, imp1, RepA, List.length_map, List.length_cons, List.length_nil] at hr
  obtain ⟨x, cap, rfl, c1, c2, c3, c4⟩ := hr
  refine ⟨_, ι' 1, rfl, ⟨x, by simp at c2 ⊢; rw [c2], c4.imp (fun h => by simp at c2; omega) fun h => by simpa using h⟩, o1, fun B ho => ?_, by rw [← hM2]; exact hk⟩
  rcases o2 B ho with q | q
  ·exact .inl q.1
  ·exact .inr ((hM B).1 q.2)
/-- A function that hands back rows of the holder's own and a Boolean, told at the world. -/
theorem Fun.of_rows [NoQ] {P : Program} {f : FuncId} {args : List PV} {L : List (List Int)} {b : Bool} {fn : Func} (hf : P.funcs[f]? = some fn) (hbd : fn.body.isSome = true) (hn : (fn.name == "runtime.NumGoroutine") = false)
  (hi : impAll args.length [.dl (L.map (List.map (PV.int .i64))), .bool b] = .tup [.ref args.length 0 L.length, .p (.bool b)]) (hp : ∀ j, postH false (args.map .pv) [] [.dl (L.map (List.map (PV.int .i64))), .bool b] j = if j = args.length then .deep false (canon L.length) (L.map fun l => some (l.map (PV.int .i64))) else .dead)
  (h : ∀ (w : World) (F G : Nat → Prop) (vs : List Value), (∀ B o, Amb.tb B = some o → w.heap[B]? = some o) → RepL w F G args vs → Calls P f ⟨vs⟩ w fun e w' => ∃ v l, e = .returned (.tuple #[v, .bool b]) ∧ hdrAt l L.length v ∧ Own w' (bL L) l ∧ (∀ B, owns (bL L) l B → w.heap.size ≤ B) ∧ Below w.heap.size w w') : Fun P f args [.dl (L.map (List.map (PV.int .i64))), .bool b] := by
 refine ⟨⟨fn, hf, hbd, hn⟩, ?_, rfl, rfl, ?_⟩
 ·simp only [noRoL, noRo, nrLLI, Bool.and_self]
 intro w G ι vs hamb hG ok hrp
 have hrep : ∀ (l : List PV) (vs : List Value) (k : Nat) (F : Nat → Prop), RepAL w F G ι (argAVs k (l.map .pv)) vs → RepL w F G l vs := by
  intro l
  induction l with
  | nil => intro vs k F h; simpa [argAVs, RepAL, RepL] using h
  | cons x l ih =>
   intro vs k F h
   simp only [List.map_cons, argAVs, Arg.av, RepAL, RepA] at h
   obtain ⟨v, vs', rfl, h1, h2⟩ := h
   simp only [RepL]
   exact ⟨v, vs', rfl, h1, ih _ _ _ h2⟩
 refine (h w _ G vs hamb.ok (hrep args vs 0 _ hrp)).mono ?_
 rintro e w' ⟨v, l, rfl, hv, hO, hnew, hw⟩
 refine ⟨_, updL ι args.length l, rfl, fun j hj => LocEq.of_eq (by simp only [updL]; rw [if_neg (by rw [List.length_map] at hj; omega)]), ⟨hw.os, hw.tape, hw.output, hw.size, fun k hk _ => hw.block k hk, fun q => by rw [NoQ.no] at q; cases q⟩, ⟨fun id => ?_, fun id id' B ho ho' => ?_⟩, ?_⟩
 ·rw [hp]
  split
  ·rename_i e
   subst e
   simp only [updL, if_true]
   exact deep_flag (m := true) (O := fun _ B => w.heap.size ≤ B) (FreeB.h (b := bL L) hO fun B ho => hnew B ho) fun B hB => .inl ⟨hB, hG B hB⟩
  ·trivial
 ·rw [hp] at ho ho'
  split at ho
  ·split at ho'
   ·omega
   ·exact ho'.elim
  ·exact ho.elim
 ·rw [List.length_map, hi]
  obtain ⟨a, rfl, hh⟩ := hv
  simp only [RepA, RepAL, RepP, updL, if_true]
  have h1 : L.length ≤ l.cap := by have := hO.2.1.1; simpa [canon] using this
  exact ⟨_, rfl, _, _, rfl, ⟨a, l.cap, rfl, h1, by omega, hO.2.1.2.1, hh.imp id fun e => by rw [e]; rfl⟩, _, _, rfl, rfl, rfl⟩
end Go.Gl
