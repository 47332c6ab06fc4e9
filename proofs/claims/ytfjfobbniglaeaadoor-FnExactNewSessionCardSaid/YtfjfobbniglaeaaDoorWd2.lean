/-
  A session at first, in the world's words. Conditions: none.
-/
import Derived.Test.YtfjfobbniglaeaaDoorWd
import Derived.Test.YtfjfobbniglaeaaDoorRpl
set_option linter.unusedSimpArgs false
set_option linter.unusedVariables false
set_option maxRecDepth 20000
set_option linter.unusedSectionVars false
namespace Go.Gl
open Go Go.Proofs Go.RowKit Go.Lib
variable [Amb]
set_option maxHeartbeats 1000000 in
theorem new_impl (w : World) (L : List (List Int)) (b : Bool) (hEB : ∀ w1 : World, Keep w w1 (fun _ => False) → Calls Tryd.prog 53 #[.int .i64 1] w1 fun e w' => ∃ v l, e = .returned (.tuple #[v, .bool b]) ∧ hdrAt l L.length v ∧ Own w' (bL L) l ∧ (∀ B, owns (bL L) l B → w1.heap.size ≤ B) ∧ Keep w1 w' (fun _ => False)) :
    Calls Tryd.prog 23 #[] w fun e w' => ∃ v, e = .returned v ∧ Ses w' w.heap.size v [2, 4, 1, 3] [2, 4, 1, 3] L ∧ Keep w w' (fun _ => False) := by
  go_enter Tryd.func23, Tryd.ntmps23
  go_wp2_with fail
  have hk0 : Keep w (w.alloc (.cells #[Value.slice none 0 0, Value.slice none 0 0, Value.slice none 0 0] 42)) (fun _ => False) := (Pushed.alloc w _).keep _
  refine (hEB _ hk0).mono ?_
  rintro e w2 ⟨v, l, rfl, ⟨va, rfl, hva⟩, ho, hnew, hk⟩
  have hbox : w2.heap[w.heap.size]? = some (.cells #[Value.slice none 0 0, Value.slice none 0 0, Value.slice none 0 0] 42 (0, 0)) := by
    rw [hk.block _ (by rw [(Pushed.alloc w _).size]; omega) (fun h => h)]; exact (Pushed.alloc w _).at
  have hs2 : w.heap.size < w2.heap.size := by have := hk.size; rw [(Pushed.alloc w _).size] at this; omega
  have hX : ∀ w3 : World, Tnd w2 w3 w.heap.size → w3.heap.size = w2.heap.size → ∀ j, j < 3 → ∃ u, ((w3.alloc (.cells #[Value.int .i64 2, Value.int .i64 4, Value.int .i64 1, Value.int .i64 3] 3)).alloc (.cells #[Value.int .i64 2, Value.int .i64 4, Value.int .i64 1, Value.int .i64 3] 3)).cell? ⟨w.heap.size, j, none⟩ = some u ∧ ((w3.alloc (.cells #[Value.int .i64 2, Value.int .i64 4, Value.int .i64 1, Value.int .i64 3] 3)).alloc (.cells #[Value.int .i64 2, Value.int .i64 4, Value.int .i64 1, Value.int .i64 3] 3)).frozen? ⟨w.heap.size, j, none⟩ = false := fun w3 ht hs j hj => by
    obtain ⟨cs', e1, e2⟩ := ht.row _ _ _ hbox
    have e3 : ((w3.alloc (.cells #[Value.int .i64 2, Value.int .i64 4, Value.int .i64 1, Value.int .i64 3] 3)).alloc (.cells #[Value.int .i64 2, Value.int .i64 4, Value.int .i64 1, Value.int .i64 3] 3)).heap[w.heap.size]? = w3.heap[w.heap.size]? := by
      rw [(Pushed.alloc _ _).old (by rw [(Pushed.alloc w3 _).size]; omega), (Pushed.alloc _ _).old (by omega)]
    have e4 : cs'.size = 3 := e2
    refine ⟨cs'[j]'(by omega), ?_, ?_⟩
    · rw [cell?_eq, e3, e1]; exact Array.getElem?_eq_getElem _
    · simp only [World.frozen?, e3, e1]; simp
  have t0 : Tnd w2 w2 w.heap.size := Tnd.drewN w2 _ 0
  have t1 := Tnd.setCell w2 w.heap.size 0 (Value.slice (some ⟨w2.heap.size, 0, none⟩) 4 4)
  have t2 := t1.trans (Tnd.setCell _ w.heap.size 1 (Value.slice (some ⟨w2.heap.size + 1, 0, none⟩) 4 4))
  obtain ⟨u0, hc0, hf0⟩ := hX _ t0 rfl 0 (by omega)
  obtain ⟨u1, hc1, hf1⟩ := hX _ t1 (by simp [World.setCell]) 1 (by omega)
  obtain ⟨u2, hc2, hf2⟩ := hX _ t2 (by simp [World.setCell]) 2 (by omega)
  clear hX t0 t1 t2
  show _
  go_wp2_with fail
  obtain ⟨W3, hW3⟩ : ∃ W3, W3 = w2.setCells w.heap.size 0 [Value.slice (some ⟨w2.heap.size, 0, none⟩) 4 4, Value.slice (some ⟨w2.heap.size + 1, 0, none⟩) 4 4, Value.slice va L.length l.cap] := ⟨_, rfl⟩
  have tW : Tnd w2 W3 w.heap.size := hW3 ▸ Tnd.setCells _ _ _ _
  have sW : W3.heap.size = w2.heap.size := by rw [hW3]; simp [World.setCells, World.setCell]
  have hsm : ∀ j, j < 3 → (w2.cell? ⟨w.heap.size, 0 + j, none⟩).isSome = true := fun j hj => by
    rw [cell?_eq, hbox]; simp only [Nat.zero_add]; rw [Array.getElem?_eq_getElem (by simpa using hj)]; rfl
  have lay := (lay2 (w := w2) (w' := W3) (b := w.heap.size) (p := 0) (q := 3) (xs := [Value.slice (some ⟨w2.heap.size, 0, none⟩) 4 4, Value.slice (some ⟨w2.heap.size + 1, 0, none⟩) 4 4, Value.slice va L.length l.cap]) (ys := []) hW3 (.inl (by simp)) (fun j hj => hsm j (by simpa using hj)) (fun j hj => by simp at hj)).1
  have up : ∀ j, ((W3.alloc (.cells #[Value.int .i64 2, Value.int .i64 4, Value.int .i64 1, Value.int .i64 3] 3)).alloc (.cells #[Value.int .i64 2, Value.int .i64 4, Value.int .i64 1, Value.int .i64 3] 3)).cell? ⟨w.heap.size, j, none⟩ = W3.cell? ⟨w.heap.size, j, none⟩ := fun j => by
    rw [(Pushed.alloc _ _).cell (by rw [(Pushed.alloc W3 _).size]; omega), (Pushed.alloc _ _).cell (by omega)]
  have hr0 := (up 0).trans (lay 0 _ rfl)
  have hr1 := (up 1).trans (lay 1 _ rfl)
  have hr2 := (up 2).trans (lay 2 _ rfl)
  have eW : W3 = ((w2.setCell ⟨w.heap.size, 0, none⟩ (Value.slice (some ⟨w2.heap.size, 0, none⟩) 4 4)).setCell ⟨w.heap.size, 1, none⟩ (Value.slice (some ⟨w2.heap.size + 1, 0, none⟩) 4 4)).setCell ⟨w.heap.size, 2, none⟩ (Value.slice va L.length l.cap) := hW3
  rw [← eW]
  clear hc0 hc1 hc2 hf0 hf1 hf2 lay up eW hsm
  refine bodyPost_ret (v := .agg #[Value.slice (some ⟨w2.heap.size, 0, none⟩) 4 4, Value.slice (some ⟨w2.heap.size + 1, 0, none⟩) 4 4, Value.slice va L.length l.cap]) (by simp [results, Tryd.results23, go_sem, hr0, hr1, hr2]) rfl ?_
  have hnl : ∀ x, owns (bL L) l x → w.heap.size < x ∧ x < w2.heap.size := fun x hx => ⟨by have := hnew x hx; rw [(Pushed.alloc w _).size] at this; omega, ho.lt hx⟩
  have p1 := Pushed.alloc W3 (.cells #[Value.int .i64 2, Value.int .i64 4, Value.int .i64 1, Value.int .i64 3] 3)
  have p2 := Pushed.alloc (W3.alloc (.cells #[Value.int .i64 2, Value.int .i64 4, Value.int .i64 1, Value.int .i64 3] 3)) (.cells #[Value.int .i64 2, Value.int .i64 4, Value.int .i64 1, Value.int .i64 3] 3)
  refine ⟨_, rfl, ⟨_, _, _, ⟨w2.heap.size, 0, 4, 0, noInn⟩, ⟨w2.heap.size + 1, 0, 4, 0, noInn⟩, l, rfl, ⟨⟨_, rfl, .inr rfl⟩, own_lit (a := [2, 4, 1, 3]) (E := 3) ?_ (by decide)⟩, ⟨⟨_, rfl, .inr rfl⟩, own_lit (a := [2, 4, 1, 3]) (E := 3) ?_ (by decide)⟩, ⟨⟨va, rfl, hva⟩, ho.move fun x hx => ?_⟩, ?_, ?_, ?_⟩, ?_⟩
  · rw [p2.old (by rw [p1.size]; omega), ← sW]; exact p1.at
  · have := p2.at
    rw [p1.size, sW] at this; exact this
  · have := hnl x hx
    rw [p2.old (by rw [p1.size]; omega), p1.old (by omega)]
    exact tW.other x (by omega) (by omega)
  · rintro x (⟨_, rfl⟩ | ⟨_, rfl⟩ | hx)
    · show _ ≤ w2.heap.size; omega
    · show _ ≤ w2.heap.size + 1; omega
    · have := hnl x hx; omega
  · rintro x ⟨_, rfl⟩
    refine ⟨fun ⟨_, e⟩ => ?_, fun hx => ?_⟩
    · have e : w2.heap.size + 1 = w2.heap.size := e
      omega
    · have : w2.heap.size < w2.heap.size := (hnl _ hx).2
      omega
  · rintro x ⟨_, rfl⟩ hx
    have : w2.heap.size + 1 < w2.heap.size := (hnl _ hx).2
    omega
  · have k0 := hk0.trans hk
    have k1 : Keep w2 W3 (fun x => x = w.heap.size) := ⟨tW.os, tW.tape, tW.output, tW.size, fun k hk1 hne => tW.other k hk1 hne, fun _ => tW.drawn⟩
    have k2 := (k1.trans (p1.keep _)).trans (p2.keep _)
    refine ⟨k2.os.trans k0.os, k2.tape.trans k0.tape, k2.output.trans k0.output, Nat.le_trans k0.size k2.size, fun k hk1 hn => ?_, fun q => Nat.le_trans (k0.drawn q) (k2.drawn q)⟩
    rw [k2.block k (by omega) (by omega)]; exact k0.block k hk1 hn
set_option maxHeartbeats 1000000 in
theorem new_spec (w : World) (L : List (List Int)) (b : Bool) (hEB : ∀ w1 : World, Keep w w1 (fun _ => False) → Calls Tryd.prog 52 #[.int .i64 1] w1 fun e w' => ∃ v l, e = .returned (.tuple #[v, .bool b]) ∧ hdrAt l L.length v ∧ Own w' (bL L) l ∧ (∀ B, owns (bL L) l B → w1.heap.size ≤ B) ∧ Keep w1 w' (fun _ => False)) :
    Calls Tryd.prog 22 #[] w fun e w' => ∃ v, e = .returned v ∧ Ses w' w.heap.size v [2, 4, 1, 3] [2, 4, 1, 3] L ∧ Keep w w' (fun _ => False) := by
  go_enter Tryd.func22, Tryd.ntmps22
  go_wp2_with fail
  have hk0 : Keep w (w.alloc (.cells #[Value.slice none 0 0, Value.slice none 0 0, Value.slice none 0 0] 42)) (fun _ => False) := (Pushed.alloc w _).keep _
  refine (hEB _ hk0).mono ?_
  rintro e w2 ⟨v, l, rfl, ⟨va, rfl, hva⟩, ho, hnew, hk⟩
  have hbox : w2.heap[w.heap.size]? = some (.cells #[Value.slice none 0 0, Value.slice none 0 0, Value.slice none 0 0] 42 (0, 0)) := by
    rw [hk.block _ (by rw [(Pushed.alloc w _).size]; omega) (fun h => h)]; exact (Pushed.alloc w _).at
  have hs2 : w.heap.size < w2.heap.size := by have := hk.size; rw [(Pushed.alloc w _).size] at this; omega
  have hX : ∀ w3 : World, Tnd w2 w3 w.heap.size → w3.heap.size = w2.heap.size → ∀ j, j < 3 → ∃ u, ((w3.alloc (.cells #[Value.int .i64 2, Value.int .i64 4, Value.int .i64 1, Value.int .i64 3] 3)).alloc (.cells #[Value.int .i64 2, Value.int .i64 4, Value.int .i64 1, Value.int .i64 3] 3)).cell? ⟨w.heap.size, j, none⟩ = some u ∧ ((w3.alloc (.cells #[Value.int .i64 2, Value.int .i64 4, Value.int .i64 1, Value.int .i64 3] 3)).alloc (.cells #[Value.int .i64 2, Value.int .i64 4, Value.int .i64 1, Value.int .i64 3] 3)).frozen? ⟨w.heap.size, j, none⟩ = false := fun w3 ht hs j hj => by
    obtain ⟨cs', e1, e2⟩ := ht.row _ _ _ hbox
    have e3 : ((w3.alloc (.cells #[Value.int .i64 2, Value.int .i64 4, Value.int .i64 1, Value.int .i64 3] 3)).alloc (.cells #[Value.int .i64 2, Value.int .i64 4, Value.int .i64 1, Value.int .i64 3] 3)).heap[w.heap.size]? = w3.heap[w.heap.size]? := by
      rw [(Pushed.alloc _ _).old (by rw [(Pushed.alloc w3 _).size]; omega), (Pushed.alloc _ _).old (by omega)]
    have e4 : cs'.size = 3 := e2
    refine ⟨cs'[j]'(by omega), ?_, ?_⟩
    · rw [cell?_eq, e3, e1]; exact Array.getElem?_eq_getElem _
    · simp only [World.frozen?, e3, e1]; simp
  have t0 : Tnd w2 w2 w.heap.size := Tnd.drewN w2 _ 0
  have t1 := Tnd.setCell w2 w.heap.size 0 (Value.slice (some ⟨w2.heap.size, 0, none⟩) 4 4)
  have t2 := t1.trans (Tnd.setCell _ w.heap.size 1 (Value.slice (some ⟨w2.heap.size + 1, 0, none⟩) 4 4))
  obtain ⟨u0, hc0, hf0⟩ := hX _ t0 rfl 0 (by omega)
  obtain ⟨u1, hc1, hf1⟩ := hX _ t1 (by simp [World.setCell]) 1 (by omega)
  obtain ⟨u2, hc2, hf2⟩ := hX _ t2 (by simp [World.setCell]) 2 (by omega)
  clear hX t0 t1 t2
  show _
  go_wp2_with fail
  obtain ⟨W3, hW3⟩ : ∃ W3, W3 = w2.setCells w.heap.size 0 [Value.slice (some ⟨w2.heap.size, 0, none⟩) 4 4, Value.slice (some ⟨w2.heap.size + 1, 0, none⟩) 4 4, Value.slice va L.length l.cap] := ⟨_, rfl⟩
  have tW : Tnd w2 W3 w.heap.size := hW3 ▸ Tnd.setCells _ _ _ _
  have sW : W3.heap.size = w2.heap.size := by rw [hW3]; simp [World.setCells, World.setCell]
  have hsm : ∀ j, j < 3 → (w2.cell? ⟨w.heap.size, 0 + j, none⟩).isSome = true := fun j hj => by
    rw [cell?_eq, hbox]; simp only [Nat.zero_add]; rw [Array.getElem?_eq_getElem (by simpa using hj)]; rfl
  have lay := (lay2 (w := w2) (w' := W3) (b := w.heap.size) (p := 0) (q := 3) (xs := [Value.slice (some ⟨w2.heap.size, 0, none⟩) 4 4, Value.slice (some ⟨w2.heap.size + 1, 0, none⟩) 4 4, Value.slice va L.length l.cap]) (ys := []) hW3 (.inl (by simp)) (fun j hj => hsm j (by simpa using hj)) (fun j hj => by simp at hj)).1
  have up : ∀ j, ((W3.alloc (.cells #[Value.int .i64 2, Value.int .i64 4, Value.int .i64 1, Value.int .i64 3] 3)).alloc (.cells #[Value.int .i64 2, Value.int .i64 4, Value.int .i64 1, Value.int .i64 3] 3)).cell? ⟨w.heap.size, j, none⟩ = W3.cell? ⟨w.heap.size, j, none⟩ := fun j => by
    rw [(Pushed.alloc _ _).cell (by rw [(Pushed.alloc W3 _).size]; omega), (Pushed.alloc _ _).cell (by omega)]
  have hr0 := (up 0).trans (lay 0 _ rfl)
  have hr1 := (up 1).trans (lay 1 _ rfl)
  have hr2 := (up 2).trans (lay 2 _ rfl)
  have eW : W3 = ((w2.setCell ⟨w.heap.size, 0, none⟩ (Value.slice (some ⟨w2.heap.size, 0, none⟩) 4 4)).setCell ⟨w.heap.size, 1, none⟩ (Value.slice (some ⟨w2.heap.size + 1, 0, none⟩) 4 4)).setCell ⟨w.heap.size, 2, none⟩ (Value.slice va L.length l.cap) := hW3
  rw [← eW]
  clear hc0 hc1 hc2 hf0 hf1 hf2 lay up eW hsm
  refine bodyPost_ret (v := .agg #[Value.slice (some ⟨w2.heap.size, 0, none⟩) 4 4, Value.slice (some ⟨w2.heap.size + 1, 0, none⟩) 4 4, Value.slice va L.length l.cap]) (by simp [results, Tryd.results22, go_sem, hr0, hr1, hr2]) rfl ?_
  have hnl : ∀ x, owns (bL L) l x → w.heap.size < x ∧ x < w2.heap.size := fun x hx => ⟨by have := hnew x hx; rw [(Pushed.alloc w _).size] at this; omega, ho.lt hx⟩
  have p1 := Pushed.alloc W3 (.cells #[Value.int .i64 2, Value.int .i64 4, Value.int .i64 1, Value.int .i64 3] 3)
  have p2 := Pushed.alloc (W3.alloc (.cells #[Value.int .i64 2, Value.int .i64 4, Value.int .i64 1, Value.int .i64 3] 3)) (.cells #[Value.int .i64 2, Value.int .i64 4, Value.int .i64 1, Value.int .i64 3] 3)
  refine ⟨_, rfl, ⟨_, _, _, ⟨w2.heap.size, 0, 4, 0, noInn⟩, ⟨w2.heap.size + 1, 0, 4, 0, noInn⟩, l, rfl, ⟨⟨_, rfl, .inr rfl⟩, own_lit (a := [2, 4, 1, 3]) (E := 3) ?_ (by decide)⟩, ⟨⟨_, rfl, .inr rfl⟩, own_lit (a := [2, 4, 1, 3]) (E := 3) ?_ (by decide)⟩, ⟨⟨va, rfl, hva⟩, ho.move fun x hx => ?_⟩, ?_, ?_, ?_⟩, ?_⟩
  · rw [p2.old (by rw [p1.size]; omega), ← sW]; exact p1.at
  · have := p2.at
    rw [p1.size, sW] at this; exact this
  · have := hnl x hx
    rw [p2.old (by rw [p1.size]; omega), p1.old (by omega)]
    exact tW.other x (by omega) (by omega)
  · rintro x (⟨_, rfl⟩ | ⟨_, rfl⟩ | hx)
    · show _ ≤ w2.heap.size; omega
    · show _ ≤ w2.heap.size + 1; omega
    · have := hnl x hx; omega
  · rintro x ⟨_, rfl⟩
    refine ⟨fun ⟨_, e⟩ => ?_, fun hx => ?_⟩
    · have e : w2.heap.size + 1 = w2.heap.size := e
      omega
    · have : w2.heap.size < w2.heap.size := (hnl _ hx).2
      omega
  · rintro x ⟨_, rfl⟩ hx
    have : w2.heap.size + 1 < w2.heap.size := (hnl _ hx).2
    omega
  · have k0 := hk0.trans hk
    have k1 : Keep w2 W3 (fun x => x = w.heap.size) := ⟨tW.os, tW.tape, tW.output, tW.size, fun k hk1 hne => tW.other k hk1 hne, fun _ => tW.drawn⟩
    have k2 := (k1.trans (p1.keep _)).trans (p2.keep _)
    refine ⟨k2.os.trans k0.os, k2.tape.trans k0.tape, k2.output.trans k0.output, Nat.le_trans k0.size k2.size, fun k hk1 hn => ?_, fun q => Nat.le_trans (k0.drawn q) (k2.drawn q)⟩
    rw [k2.block k (by omega) (by omega)]; exact k0.block k hk1 hn
end Go.Gl
