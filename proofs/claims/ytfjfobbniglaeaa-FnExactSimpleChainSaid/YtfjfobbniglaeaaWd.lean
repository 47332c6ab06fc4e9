/-
 Contracts told at the world: what is read, what is written, what comes back. Conditions: those that each lemma names.
-/
import Derived.Test.YtfjfobbniglaeaaA0
set_option linter.unusedSimpArgs false
set_option linter.unusedVariables false
set_option maxRecDepth 20000
set_option linter.unusedSectionVars false
namespace Go.Gl
open Go Go.Proofs
variable [Amb]
/-- A block that is at hand, to be written or read. -/
def Own (w : World) (b : Blk) (l : Loc) : Prop := okB w (fun _ => False) (fun _ => True) (fun _ _ => True) b l
def bI (a : List Int) : Blk := .live true (a.map (PV.int .i64))
def bL (L : List (List Int)) : Blk := .deep true (canon L.length) (L.map fun l => some (l.map (PV.int .i64)))
theorem mk_bL (L : List (List Int)) : mkB true [.dl (L.map (List.map (PV.int .i64)))] = bL L := by simp [mkB, bL, Function.comp_def]
theorem rep_any {w : World} {F F' G G' : Nat → Prop} {B o : Nat} {l : List Int} (h : RepC w F G B o (l.map (PV.int .i64))) : RepC w F' G' B o (l.map (PV.int .i64)) := by
 rw [RepC_iff] at h ⊢
 intro j x hj
 obtain ⟨v, h1, h2, h3⟩ := h j x hj
 rw [List.getElem?_map] at hj
 cases e : l[j]? with
 | none => rw [e] at hj; cases hj
 | some n => rw [e] at hj; cases hj; exact ⟨v, h1, h2, by simpa only [RepP] using h3⟩
theorem row_any {w : World} {F F' G G' O O' : Nat → Prop} {l : Loc} {a : List Int} (h : rowOk w F G O l (a.map (PV.int .i64))) (hO : l.cap ≠ 0 → O' l.B) : rowOk w F' G' O' l (a.map (PV.int .i64)) := by
 obtain ⟨h1, h2, h3⟩ := h
 refine ⟨h1, h2, ?_⟩
 by_cases h0 : l.cap = 0
 ·exact .inl h0
 ·exact h3.imp id fun q => ⟨q.1, rep_any q.2.1, hO h0⟩
theorem bL_row {L : List (List Int)} {r : Nat} {c : List PV} (h : (L.map fun l => some (l.map (PV.int .i64)))[r]? = some (some c)) : r < L.length ∧ c = (L.getD r []).map (PV.int .i64) := by
 rw [List.getElem?_map] at h
 cases e : L[r]? with
 | none => rw [e] at h; cases h
 | some l =>
  rw [e] at h
  simp only [Option.map_some, Option.some.injEq] at h
  exact ⟨(List.getElem?_eq_some_iff.1 e).1, by rw [List.getD_eq_getElem?_getD, e]; exact h.symm⟩
theorem row_bL {L : List (List Int)} {r : Nat} (h : r < L.length) : (L.map fun l => some (l.map (PV.int .i64)))[r]? = some (some ((L.getD r []).map (PV.int .i64))) := by
 rw [List.getElem?_map, List.getElem?_eq_getElem h, List.getD_eq_getElem?_getD, List.getElem?_eq_getElem h]; rfl
/-- Such blocks hold numbers alone: what is told of other memory does not matter. -/
class FreeB (b : Blk) : Prop where
 h : ∀ {w : World} {F F' G G' : Nat → Prop} {O O' : Bool → Nat → Prop} {l : Loc}, okB w F G O b l → (∀ B, owns b l B → O' true B) → okB w F' G' O' b l
instance {a : List Int} : FreeB (bI a) := ⟨fun h hO => row_any h fun h0 => hO _ ⟨h0, rfl⟩⟩
instance {L : List (List Int)} : FreeB (bL L) := ⟨fun {w F F' G G' O O' l} h hO => by
 obtain ⟨n1, ⟨l1, l2, l3⟩, r1, d1, b1⟩ := h
 refine ⟨n1, ⟨l1, l2, ?_⟩, fun r c hr => ?_, d1, b1⟩
 ·by_cases h0 : l.cap = 0
  ·exact .inl h0
  ·refine l3.imp id fun ⟨q1, q2, q3⟩ => ⟨q1, hO _ (.inl ⟨h0, rfl⟩), fun j x hx => ?_⟩
   obtain ⟨v, v1, v2, v3⟩ := q3 j x hx
   have hj : j < L.length := by have := (List.getElem?_eq_some_iff.1 hx).1; simpa [canon] using this
   obtain rfl : x = .row j := by rw [canon, List.getElem?_map, List.getElem?_range hj] at hx; simpa using hx.symm
   exact ⟨v, v1, v2, v3⟩
 ·obtain ⟨_, rfl⟩ := bL_row hr
  exact row_any (r1 r _ hr) fun h0 => hO _ (.inr ⟨r, _, hr, h0, rfl⟩)⟩
theorem Own.lt {w : World} {b : Blk} {l : Loc} (h : Own w b l) {B : Nat} (ho : owns b l B) : B < w.heap.size := okB.lt h ho
theorem Own.same {w w' : World} {b : Blk} {l : Loc} (h : Own w b l) (hk : ∀ B, B < w.heap.size → w'.heap[B]? = w.heap[B]?) : Own w' b l :=
 okB.tr (fun B o v _ hv => ⟨by rw [cell?_same (hk B (cell?_lt hv))]; exact hv, id⟩) (fun _ _ _ h => h) (fun B ho => hk B (h.lt ho)) (fun _ _ _ h => h) h
theorem Own.move {w w' : World} {b : Blk} {l : Loc} [FreeB b] (h : Own w b l) (hk : ∀ B, owns b l B → w'.heap[B]? = w.heap[B]?) : Own w' b l :=
 okB.tr (F := fun B => ¬ owns b l B) (G := fun _ => True) (O := fun _ _ => True) (fun B o v hF hv => ⟨by rw [cell?_same (hk B (Classical.not_not.1 hF))]; exact hv, id⟩) (fun _ _ _ h => h) hk (fun _ _ _ h => h) (FreeB.h h fun _ _ => trivial)
/-- A session's value, its three parts the holder's own, in memory from block z on. -/
def Ses (w : World) (z : Nat) (v : Value) (a b : List Int) (L : List (List Int)) : Prop :=
 ∃ (h0 h1 h2 : Value) (A B C : Loc), v = .agg #[h0, h1, h2] ∧ (hdrAt A a.length h0 ∧ Own w (bI a) A) ∧ (hdrAt B b.length h1 ∧ Own w (bI b) B) ∧ (hdrAt C L.length h2 ∧ Own w (bL L) C) ∧
  (∀ x, owns (bI a) A x ∨ owns (bI b) B x ∨ owns (bL L) C x → z ≤ x) ∧ (∀ x, owns (bI a) A x → ¬ owns (bI b) B x ∧ ¬ owns (bL L) C x) ∧ ∀ x, owns (bI b) B x → ¬ owns (bL L) C x
theorem Ses.same {w w' : World} {z : Nat} {v : Value} {a b : List Int} {L : List (List Int)} (h : Ses w z v a b L) (hk : ∀ B, z ≤ B → B < w.heap.size → w'.heap[B]? = w.heap[B]?) : Ses w' z v a b L := by
 obtain ⟨h0, h1, h2, A, B, C, e, ⟨a1, a2⟩, ⟨b1, b2⟩, ⟨c1, c2⟩, d1, d2, d3⟩ := h
 exact ⟨h0, h1, h2, A, B, C, e, ⟨a1, a2.move fun x hx => hk x (d1 x (.inl hx)) (a2.lt hx)⟩, ⟨b1, b2.move fun x hx => hk x (d1 x (.inr (.inl hx))) (b2.lt hx)⟩, ⟨c1, c2.move fun x hx => hk x (d1 x (.inr (.inr hx))) (c2.lt hx)⟩, d1, d2, d3⟩
/-- A call that only reads, and answers with a number or a Boolean. -/
theorem Fun.look {P : Program} {f : FuncId} {args : List PV} {r : PV} {v0 : Value} (hf : Fun P f args [r]) (hr1 : ∀ n, imp1 n r = .p r) (hr2 : imp args.length r = imp1 args.length r) (hr3 : ∀ (w : World) (F G : Nat → Prop) (v : Value), RepP w F G r v → v = v0) (w : World) (ha : ∀ B o, Amb.tb B = some o → w.heap[B]? = some o) {vs : List Value} (hr : RepL w (fun _ => False) (fun _ => True) args vs) :
  Calls P f ⟨vs⟩ w fun e w' => e = .returned v0 ∧ Keep w w' (fun _ => False) := by
 obtain ⟨_, _, _, _, h⟩ := hf
 have dead : ∀ j, argH (args.map .pv) j = .dead := fun j => by
  unfold argH
  rw [List.getElem?_map]
  cases args[j]? <;> rfl
 have hno : ∀ (ι : Nat → Loc) B, ¬ Held (argH (args.map .pv)) ι B := by
  rintro ι B ⟨id, ho⟩
  rw [dead] at ho; exact ho
 have hno2 : argM (args.map .pv) (fun _ => ⟨0, 0, 0, 0, noInn⟩) = fun _ => False := funext fun B => propext ⟨fun h => hno _ _ h, fun h => h.elim⟩
 have hrep : ∀ (l : List PV) (vs : List Value) (k : Nat), RepL w (fun _ => False) (fun _ => True) l vs → RepAL w (Held (argH (args.map .pv)) fun _ => ⟨0, 0, 0, 0, noInn⟩) (fun _ => True) (fun _ => ⟨0, 0, 0, 0, noInn⟩) (argAVs k (l.map .pv)) vs := by
  intro l
  induction l with
  | nil => intro vs k h; simpa [argAVs, RepAL, RepL] using h
  | cons x l ih =>
   intro vs k h
   simp only [RepL] at h
   obtain ⟨v, vs', rfl, h1, h2⟩ := h
   simp only [List.map_cons, argAVs, Arg.av, RepAL, RepA]
   exact ⟨v, vs', rfl, RepP.tr (F := fun _ => False) (fun _ _ _ _ hv => ⟨hv, hno _ _⟩) (fun _ _ _ h => h) _ _ h1, ih _ _ h2⟩
 refine (h w (fun _ => True) (fun _ => ⟨0, 0, 0, 0, noInn⟩) vs ⟨ha, fun B o _ hB => hno _ B hB⟩ (fun _ _ => trivial) ⟨?_, ?_⟩ (hrep _ _ _ hr)).mono ?_
 ·intro id; rw [dead]; trivial
 ·intro id _ B ho; rw [dead] at ho; exact ho.elim
 ·rintro e w' ⟨v, ι', rfl, _, hk, _, hv⟩
  rw [hno2] at hk
  simp only [impAll, List.length_map, hr2, hr1, RepA] at hv
  exact ⟨by rw [hr3 _ _ _ v hv], hk⟩
theorem Fun.lookB {P : Program} {f : FuncId} {args : List PV} {b : Bool} (hf : Fun P f args [.bool b]) (w : World) (ha : ∀ B o, Amb.tb B = some o → w.heap[B]? = some o) {vs : List Value} (hr : RepL w (fun _ => False) (fun _ => True) args vs) :
  Calls P f ⟨vs⟩ w fun e w' => e = .returned (.bool b) ∧ Keep w w' (fun _ => False) :=
 Fun.look hf (fun _ => rfl) rfl (fun _ _ _ v h => by simpa only [RepP] using h) w ha hr
theorem rep_bI {w : World} {a : List Int} {l : Loc} {v : Value} (h : Own w (bI a) l) (hv : hdrAt l a.length v) : RepP w (fun _ => False) (fun _ => True) (.sl .ro (a.map (PV.int .i64))) v := by
 obtain ⟨h1, h2, h3⟩ := h
 obtain ⟨x, rfl, hx⟩ := hv
 rw [List.length_map] at h1
 simp only [RepP]
 refine ⟨x, l.cap, by rw [List.length_map], by rw [List.length_map]; exact h1, h2, (by intro e; cases e), ?_⟩
 by_cases h0 : a = []
 ·subst h0; exact .inl rfl
 ·have hp := List.length_pos_iff.2 h0
  have hc : l.cap ≠ 0 := by omega
  rcases h3 with h3 | ⟨_, h3, _⟩
  ·exact absurd h3 hc
  ·exact .inr ⟨l.B, l.off, hx.elim (fun e => absurd e hc) id, fun h => h, (by intro e; cases e), h3⟩
/-- A call that hands back rows of the holder's own, and a Boolean. -/
theorem Fun.gives {P : Program} {f : FuncId} {i : Int} {L : List (List Int)} {b : Bool} (hf : Fun P f [.int .i64 i] [.dl (L.map (List.map (PV.int .i64))), .bool b]) (w : World) (ha : ∀ B o, Amb.tb B = some o → w.heap[B]? = some o) :
  Calls P f #[.int .i64 i] w fun e w' => ∃ v l, e = .returned (.tuple #[v, .bool b]) ∧ hdrAt l L.length v ∧ Own w' (bL L) l ∧ (∀ B, owns (bL L) l B → w.heap.size ≤ B) ∧ Keep w w' (fun _ => False) := by
 obtain ⟨_, _, _, _, h⟩ := hf
 have dead : ∀ j, argH (List.map Arg.pv [PV.int .i64 i]) j = .dead := fun j => by
  match j with
  | 0 => rfl
  | j + 1 => rfl
 have hno : ∀ (ι : Nat → Loc) B, ¬ Held (argH (List.map Arg.pv [PV.int .i64 i])) ι B := by
  rintro ι B ⟨id, ho⟩
  rw [dead] at ho; exact ho
 have hno2 : argM (List.map Arg.pv [PV.int .i64 i]) (fun _ => ⟨0, 0, 0, 0, noInn⟩) = fun _ => False := funext fun B => propext ⟨fun h => hno _ _ h, fun h => h.elim⟩
 refine (h w (fun _ => True) (fun _ => ⟨0, 0, 0, 0, noInn⟩) [.int .i64 i] ⟨ha, fun B o _ hB => hno _ B hB⟩ (fun _ _ => trivial) ⟨?_, ?_⟩ ?_).mono ?_
 ·intro id; rw [dead]; trivial
 ·intro id _ B ho; rw [dead] at ho; exact ho.elim
 ·simp only [List.map_cons, List.map_nil, argAVs, Arg.av, RepAL, RepA, RepP]; exact ⟨_, _, rfl, rfl, rfl⟩
 ·rintro e w' ⟨v, ι', rfl, _, hk, ok, hv⟩
  have hk : Keep w w' (argM (List.map Arg.pv [PV.int .i64 i]) (fun _ => ⟨0, 0, 0, 0, noInn⟩)) := hk
  rw [hno2] at hk
  simp only [List.map_cons, List.map_nil, List.length_cons, List.length_nil, impAll, imps, imp, imp1, RepA, RepAL, RepP] at hv
  obtain ⟨cs, rfl, x, xs, rfl, ⟨a, cap, rfl, c1, c2, c3, c4⟩, y, ys, rfl, rfl, rfl⟩ := hv
  have hb := ok.ok 1
  have e1 : postH false (List.map Arg.pv [.int .i64 i]) [] [.dl (L.map (List.map (PV.int .i64))), .bool b] 1 = .deep false (canon L.length) (L.map fun l => some (l.map (PV.int .i64))) := by
   simp [postH, impWs, impW, impW1, hwsH, Function.comp_def]
  rw [e1] at hb
  have hb2 : okB w' (fun _ => False) (fun _ => True) (fun _ B => w.heap.size ≤ B) (bL L) (ι' 1) := by
   have hb3 : okB w' (Held (postH false (List.map Arg.pv [.int .i64 i]) [] [.dl (L.map (List.map (PV.int .i64))), .bool b]) ι') (fun _ => True) (fun _ B => w.heap.size ≤ B) (bL L) (ι' 1) := by
    obtain ⟨n1, ⟨l1, l2, l3⟩, r1, d1, b1⟩ := hb
    have og : ∀ {B}, Org w.heap.size (argM (List.map Arg.pv [.int .i64 i]) fun _ => ⟨0, 0, 0, 0, noInn⟩) (fun _ => True) false B → w.heap.size ≤ B := fun {B} h => by
     rcases h with h | h
     ·exact h.1
     ·cases h.1
    exact ⟨n1, ⟨l1, l2, l3.imp id fun ⟨q1, q2, q3⟩ => ⟨q1, og q2, q3⟩⟩, fun r c hr => by
     obtain ⟨z1, z2, z3⟩ := r1 r c hr
     exact ⟨z1, z2, z3.imp id fun ⟨q1, q2, q3⟩ => ⟨q1, q2, og q3⟩⟩, d1, b1⟩
   exact FreeB.h hb3 fun B ho => by
    rcases ho with ⟨h0, rfl⟩ | ⟨r, c, hr, h0, rfl⟩
    ·rcases hb3.2.1.2.2 with q | q
     ·exact absurd q h0
     ·exact q.2.1
    ·rcases (hb3.2.2.1 r c hr).2.2 with q | q
     ·exact absurd q h0
     ·exact q.2.2
  refine ⟨_, ι' 1, rfl, ⟨a, by simp at c2 ⊢; rw [c2], c4.imp (fun h => by simp at c2; omega) fun h => by simpa using h⟩, FreeB.h hb2 fun _ _ => trivial, fun B ho => ?_, hk⟩
  rcases ho with ⟨h0, rfl⟩ | ⟨r, c, hr, h0, rfl⟩
  ·rcases hb2.2.1.2.2 with q | q
   ·exact absurd q h0
   ·exact q.2.1
  ·rcases (hb2.2.2.1 r c hr).2.2 with q | q
   ·exact absurd q h0
   ·exact q.2.2
theorem hdr_slice {l : Loc} {n : Nat} {v : Value} (h : hdrAt l n v) : ∃ a, v = .slice a n l.cap := by
 obtain ⟨a, e, _⟩ := h; exact ⟨a, e⟩
theorem Keep.same {w w' : World} (hk : Keep w w' (fun _ => False)) : ∀ B, B < w.heap.size → w'.heap[B]? = w.heap[B]? := fun B hB => hk.block B hB (fun q => q)
theorem keep_wk {w w' : World} {M M' : Nat → Prop} (h : Keep w w' M) (hM : ∀ x, M x → M' x) : Keep w w' M' :=
 ⟨h.os, h.tape, h.output, h.size, fun k hk hn => h.block k hk fun q => hn (hM k q), h.drawn⟩
theorem keep_new {w w' : World} {M : Nat → Prop} (h : Keep w w' M) (hM : ∀ x, M x → w.heap.size ≤ x) : Keep w w' (fun _ => False) :=
 ⟨h.os, h.tape, h.output, h.size, fun k hk _ => h.block k hk fun q => by have := hM k q; omega, h.drawn⟩
end Go.Gl
