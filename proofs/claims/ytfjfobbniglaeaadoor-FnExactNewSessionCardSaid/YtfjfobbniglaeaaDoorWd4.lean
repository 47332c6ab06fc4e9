/-
  A session compared, marked, looked at: what is asked of its parts. Conditions: none.
-/
import Derived.Test.YtfjfobbniglaeaaDoorWd2
import Derived.Test.YtfjfobbniglaeaaDoorWd3
import Derived.Test.YtfjfobbniglaeaaDoorLaw2
set_option linter.unusedSimpArgs false
set_option linter.unusedVariables false
set_option maxRecDepth 20000
set_option linter.unusedSectionVars false
namespace Go.Gl
open Go Go.Proofs Go.RowKit Go.Lib
variable [Amb] [NoQ]
/-- The tables told are there, ahead of block z. -/
def AmbW (z : Nat) (w : World) : Prop := ∀ B o, Amb.tb B = some o → w.heap[B]? = some o ∧ B < z
theorem AmbW.keep {z : Nat} {w w' : World} {M : Nat → Prop} (h : AmbW z w) (hk : Keep w w' M) (hM : ∀ x, M x → z ≤ x) : AmbW z w' := fun B o hB => by
  obtain ⟨h1, h2⟩ := h B o hB
  refine ⟨?_, h2⟩
  rw [hk.block B (Array.getElem?_eq_some_iff.1 h1).1 (fun q => by have := hM B q; omega)]; exact h1
theorem AmbW.ha {z : Nat} {w : World} (h : AmbW z w) : ∀ B o, Amb.tb B = some o → w.heap[B]? = some o := fun B o hB => (h B o hB).1
theorem hdr_slice {l : Loc} {n : Nat} {v : Value} (h : hdrAt l n v) : ∃ a, v = .slice a n l.cap := by
  obtain ⟨a, e, _⟩ := h; exact ⟨a, e⟩
theorem Keep.same {w w' : World} (hk : Keep w w' (fun _ => False)) : ∀ B, B < w.heap.size → w'.heap[B]? = w.heap[B]? := fun B hB => hk.block B hB (fun q => q)
/-- Two sessions that hold the same. -/
theorem eq_ses {w : World} {z z1 z2 : Nat} {v u : Value} {a b : List Int} {L : List (List Int)} (hA : AmbW z w) (h : Ses w z1 v a b L) (k : Ses w z2 u a b L) (la : a.length ≤ 1000) (lb : b.length ≤ 1000) (lL : L.length ≤ 100000) (ll : ∀ l ∈ L, l.length ≤ 100000) :
    Calls Tryd.prog 24 #[v, u] w fun e w' => e = .returned (.bool true) ∧ Keep w w' (fun _ => False) := by
  obtain ⟨h0, h1, h2, A, B, C, rfl, ⟨a1, a2⟩, ⟨b1, b2⟩, ⟨c1, c2⟩, _⟩ := h
  obtain ⟨g0, g1, g2, A', B', C', rfl, ⟨d1, d2⟩, ⟨e1, e2⟩, ⟨f1, f2⟩, _⟩ := k
  obtain ⟨x0, rfl⟩ := hdr_slice a1
  obtain ⟨x1, rfl⟩ := hdr_slice b1
  obtain ⟨x2, rfl⟩ := hdr_slice c1
  obtain ⟨y0, rfl⟩ := hdr_slice d1
  obtain ⟨y1, rfl⟩ := hdr_slice e1
  obtain ⟨y2, rfl⟩ := hdr_slice f1
  refine eq_walk w _ _ _ _ _ _ _ _ _ _ _ _ _ _ _ _ _ _ (fun w1 hk => ?_) (fun w1 hk => ?_) (fun w1 hk => ?_)
  · have := Fun.lookB (laws_eqIntS_c (m0 := true) (m1 := true) a a (by omega) (by omega)) w1 (hA.keep hk (fun _ q => q.elim)).ha (vs := [_, _]) (rep_cons (rep_bI (a2.same hk.same) a1) (rep_cons (rep_bI (d2.same hk.same) d1) rep_nil))
    simpa using this
  · have := Fun.lookB (laws_eqIntS_c (m0 := true) (m1 := true) b b (by omega) (by omega)) w1 (hA.keep hk (fun _ q => q.elim)).ha (vs := [_, _]) (rep_cons (rep_bI (b2.same hk.same) b1) (rep_cons (rep_bI (e2.same hk.same) e1) rep_nil))
    simpa using this
  · have := Fun.lookB (laws_eqIntSS_c (m0 := true) (m1 := true) (e0 := true) (e1 := true) L L (by omega) (by omega) (fun l hl => by have := ll l hl; omega) (fun l hl => by have := ll l hl; omega)) w1 (hA.keep hk (fun _ q => q.elim)).ha (vs := [_, _]) (rep_cons (rep_bL (c2.same hk.same) c1) (rep_cons (rep_bL (f2.same hk.same) f1) rep_nil))
    simpa using this
/-- A session looked at. -/
theorem held_ses {w : World} {z z1 : Nat} {v : Value} {na nb : Nat} {ns : List Nat} {k : Int} (hk0 : 0 ≤ k) (hkb : k ≤ 100000) (hA : AmbW z w) (h : Ses w z1 v (markL na k) (markL nb (k + na)) (mkLL ns (k + na + nb))) (la : na ≤ 1000) (lb : nb ≤ 1000) (lL : ns.length ≤ 100000) (ll : sumN ns ≤ 1000000000) :
    Calls Tryd.prog 26 #[v, .int .i64 k] w fun e w' => e = .returned (.int .i64 (k + na + nb + sumN ns)) ∧ Keep w w' (fun _ => False) := by
  obtain ⟨h0, h1, h2, A, B, C, rfl, ⟨a1, a2⟩, ⟨b1, b2⟩, ⟨c1, c2⟩, _⟩ := h
  obtain ⟨x0, rfl⟩ := hdr_slice a1
  obtain ⟨x1, rfl⟩ := hdr_slice b1
  obtain ⟨x2, rfl⟩ := hdr_slice c1
  refine held_walk w _ _ _ _ _ _ _ _ _ k (k + na) (k + na + nb) _ (by omega) (by omega) (by omega) (fun w1 hk => ?_) (fun w1 hk => ?_) (fun w1 hk => ?_)
  · exact Fun.lookI (laws_heldIntS_c (m0 := true) na k (by omega) (by omega) (by omega)) w1 (hA.keep hk (fun _ q => q.elim)).ha (vs := [_, _]) (rep_cons (rep_bI (a2.same hk.same) a1) (rep_cons (rep_i _) rep_nil))
  · exact Fun.lookI (laws_heldIntS_c (m0 := true) nb (k + na) (by omega) (by omega) (by omega)) w1 (hA.keep hk (fun _ q => q.elim)).ha (vs := [_, _]) (rep_cons (rep_bI (b2.same hk.same) b1) (rep_cons (rep_i _) rep_nil))
  · exact Fun.lookI (laws_heldIntSS_c (m0 := true) (e0 := true) ns (k + na + nb) (by omega) (by omega) (by omega)) w1 (hA.keep hk (fun _ q => q.elim)).ha (vs := [_, _]) (rep_cons (rep_bL (c2.same hk.same) c1) (rep_cons (rep_i _) rep_nil))
end Go.Gl
