/-
  Rows put in order by the library, however many there are: the shelf's contract told in the logic's words. Conditions: those that each lemma names.
-/
import Derived.Test.YtfjfobbniglaeaaOrd
import Derived.Shelf.SlSortCmp.Whole1
set_option linter.unusedSimpArgs false
set_option linter.unusedVariables false
set_option maxRecDepth 20000
set_option linter.unusedSectionVars false
namespace Go.Gl
open Go Go.Proofs
variable [Amb] [NoQ]
/-! ### what the sort's worlds bear -/
section
open Go.Sort
variable {α : Type} [Inhabited α] {enc : α → Value} {w : World} {blk off m : Nat} {dk : Array α} {os : Array Obj}
theorem sw_size : (sortWorld enc w blk off m dk os).heap.size = w.heap.size + os.size := by
  simp [sortWorld, grow, putRow, mapBlock, Go.Sort.ahead]
theorem sw_other {B : Nat} (hB : B < w.heap.size) (hne : B ≠ blk) : (sortWorld enc w blk off m dk os).heap[B]? = w.heap[B]? := by
  simp only [sortWorld, grow, putRow, mapBlock, Go.Sort.ahead]
  rw [Array.getElem?_append_left (by simpa using hB), Array.getElem?_modify, if_neg (Ne.symm hne)]
theorem sw_at {c : Array Value} {e : TypeId} {fr : Nat × Nat} (h : w.heap[blk]? = some (.cells c e fr)) : (sortWorld enc w blk off m dk os).heap[blk]? = some (.cells (putCells enc off dk c) e fr) := by
  have hB : blk < w.heap.size := by
    rcases Nat.lt_or_ge blk w.heap.size with h1 | h1
    · exact h1
    · rw [Array.getElem?_eq_none h1] at h; cases h
  simp only [sortWorld, grow, putRow, mapBlock, Go.Sort.ahead]
  rw [Array.getElem?_append_left (by simpa using hB), Array.getElem?_modify, if_pos rfl, h]; rfl
theorem sw_drawn : w.drawn ≤ (sortWorld enc w blk off m dk os).drawn := Nat.le_add_right _ _
omit [Amb] [NoQ] in
theorem keep_grow [Amb] (hq : Amb.q = true) {w w' : World} {M : Nat → Prop} (hM : ∀ B, ¬ M B) (h : Keep w w' M) : ∃ q os', w' = grow (w.drewN q) os' := by
  obtain ⟨h1, h2, h3, h4, h5, h6⟩ := h
  have h6 := h6 hq
  refine ⟨w'.drawn - w.drawn, w'.heap.extract w.heap.size w'.heap.size, ?_⟩
  cases w with
  | mk hp tp dr os ou =>
    cases w' with
    | mk hp' tp' dr' os' ou' =>
      simp only at h1 h2 h3 h4 h5 h6
      subst h1; subst h2; subst h3
      simp only [grow, World.drewN, World.mk.injEq, and_true, true_and]
      refine ⟨?_, by omega⟩
      apply Array.ext_getElem?
      intro k
      by_cases hk : k < hp.size
      · rw [Array.getElem?_append_left hk]; exact h5 k hk (hM k)
      · rw [Array.getElem?_append_right (by omega), Array.getElem?_extract]
        by_cases h9 : k < hp'.size
        · rw [if_pos (by omega)]; congr 1; omega
        · rw [if_neg (by omega), Array.getElem?_eq_none (by omega)]
end
/-- Nothing is told of tables, all is told of draws. -/
@[reducible] def ambQ : Amb := ⟨fun _ => none, true⟩
omit [Amb] [NoQ] in
theorem Fun.callsQ {P : Program} {f : FuncId} {args : List PV} {n : Int} (hf : @Fun ambQ P f args [.int .i64 n]) (w : World) {vs : List Value} (hr : RepL w (fun _ => False) (fun _ => True) args vs) :
    Calls P f ⟨vs⟩ w fun e w' => e = .returned (.int .i64 n) ∧ ∃ q os', w' = Go.Sort.grow (w.drewN q) os' := by
  obtain ⟨_, _, _, _, h⟩ := hf
  have dead : ∀ j, argH (args.map .pv) j = .dead := fun j => by
    unfold argH
    rw [List.getElem?_map]
    cases args[j]? <;> rfl
  have hno : ∀ (ι : Nat → Loc) B, ¬ Held (argH (args.map .pv)) ι B := by
    rintro ι B ⟨id, ho⟩
    rw [dead] at ho; exact ho
  have hrep : ∀ (l : List PV) (vs : List Value) (k : Nat), RepL w (fun _ => False) (fun _ => True) l vs → RepAL w (Held (argH (args.map .pv)) fun _ => ⟨0, 0, 0, 0, noInn⟩) (fun _ => True) (fun _ => ⟨0, 0, 0, 0, noInn⟩) (argAVs k (l.map .pv)) vs := by
    intro l
    induction l with
    | nil => intro vs k h; simpa [argAVs, RepAL, RepL] using h
    | cons x l ih =>
      intro vs k h
      simp only [RepL] at h
      obtain ⟨v, vs', rfl, h1, h2⟩ := h
      simp only [List.map_cons, argAVs, Arg.av, RepAL, RepA]
      exact ⟨v, vs', rfl, RepP.tr (F := fun _ => False) (fun _ _ _ _ hv => ⟨hv, hno _ _⟩) (fun _ _ _ h => h) _ _ h1, ih _ _ h2⟩
  refine (h w (fun _ => True) (fun _ => ⟨0, 0, 0, 0, noInn⟩) vs (@AmbOk.mk ambQ w _ (fun B o h => by cases h) (fun B o h => by cases h)) (fun _ _ => trivial) ⟨?_, ?_⟩ (hrep _ _ _ hr)).mono ?_
  · intro id; rw [dead]; trivial
  · intro id _ B ho; rw [dead] at ho; exact ho.elim
  · rintro e w' ⟨v, ι', rfl, _, hk, _, hv⟩
    have hv : v = .int .i64 n := by simpa [impAll, imp, imp1, RepA, RepP] using hv
    subst hv
    exact ⟨rfl, @keep_grow ambQ rfl _ _ _ (fun B => hno _ B) hk⟩
/-! ### one order -/
theorem insK_perm {L : List (List Int)} {p : List Int} {j : Nat} : (insK L p j).Perm (p :: L) := by
  rw [insK]
  conv => rhs; rw [← List.take_append_drop j L]
  exact List.perm_middle
theorem isort_perm (L : List (List Int)) : ∀ {A : List (List Int)}, (L.foldl insS A).Perm (L ++ A) := by
  induction L with
  | nil => intro A; exact List.Perm.refl _
  | cons x l ih =>
    intro A
    rw [List.foldl_cons]
    refine ih.trans ?_
    refine (List.Perm.append_left l (insK_perm (L := A) (p := x))).trans ?_
    exact List.perm_middle
theorem leP_anti {a b : List Int} (h1 : leP a b) (h2 : leP b a) : a = b := by
  by_cases e : a = b
  · exact e
  · have := bef_tot (a := a) (b := b) h2 e
    rw [leP] at h1; rw [h1] at this; cases this
theorem ws_uniq : ∀ {A B : List (List Int)}, WS A → WS B → A.Perm B → A = B
  | [], B, _, _, h => (List.Perm.nil_eq h)
  | a :: A, [], _, _, h => by have := h.length_eq; simp at this
  | a :: A, b :: B, h1, h2, h => by
    have h1' := List.pairwise_cons.1 h1
    have h2' := List.pairwise_cons.1 h2
    have e : a = b := by
      have ha : a ∈ b :: B := h.subset (by simp)
      have hb : b ∈ a :: A := h.symm.subset (by simp)
      rcases List.mem_cons.1 ha with e | ha
      · exact e
      · rcases List.mem_cons.1 hb with e | hb
        · exact e.symm
        · exact leP_anti (h1'.1 b hb) (h2'.1 a ha)
    subst e
    rw [ws_uniq h1'.2 h2'.2 (List.Perm.cons_inv h)]
theorem isort_of {A L : List (List Int)} (h1 : WS A) (h2 : A.Perm L) : A = isortL L := by
  refine ws_uniq h1 (isort_ws L List.Pairwise.nil) (h2.trans ?_)
  have := isort_perm L (A := [])
  rw [List.append_nil] at this
  exact this.symm
theorem swo_rows {n : Nat} (L : List (List Int)) : Go.Sort.SWO (ltOf fun i j : _root_.Fin n => cmpP (L.getD i.1 []) (L.getD j.1 [])) where
  irrefl x := bef_irr
  trans x y z h1 h2 := bef_trans h1 h2
  ntrans x y z h1 h2 := leP_trans (a := L.getD z.1 []) (b := L.getD y.1 []) (c := L.getD x.1 []) h2 h1
/-! ### the sort -/
omit [Amb] [NoQ] in
theorem ext_all {α : Type} (a : Array α) {n : Nat} (h : a.size = n) : a.extract 0 n = a := by subst h; simp
section
open Go.Sort
end
end Go.Gl
