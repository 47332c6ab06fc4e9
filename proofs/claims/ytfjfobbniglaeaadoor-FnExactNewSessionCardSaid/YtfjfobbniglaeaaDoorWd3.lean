/-
  Sessions compared, marked, looked at, in the world's words. Conditions: none.
-/
import Derived.Test.YtfjfobbniglaeaaDoorWd
set_option linter.unusedSimpArgs false
set_option linter.unusedVariables false
set_option maxRecDepth 20000
set_option linter.unusedSectionVars false
namespace Go.Gl
open Go Go.Proofs Go.RowKit Go.Lib
variable [Amb]
/-- A box of three slices, behind a call that leaves it. -/
theorem box3 {w1 w2 : World} {n : Nat} {x y z : Value} {E : TypeId} {M : Nat → Prop} (h : w1.heap[n]? = some (.cells #[x, y, z] E (0, 0))) (hk : Keep w1 w2 M) (hM : ¬ M n) :
    w2.heap[n]? = some (.cells #[x, y, z] E (0, 0)) ∧ w2.cell? ⟨n, 0, none⟩ = some x ∧ w2.cell? ⟨n, 1, none⟩ = some y ∧ w2.cell? ⟨n, 2, none⟩ = some z := by
  have hn : n < w1.heap.size := by
    rcases Nat.lt_or_ge n w1.heap.size with q | q
    · exact q
    · rw [Array.getElem?_eq_none q] at h; cases h
  have e := (hk.block n hn hM).trans h
  exact ⟨e, by simp only [World.cell?, e]; rfl, by simp only [World.cell?, e]; rfl, by simp only [World.cell?, e]; rfl⟩
set_option maxHeartbeats 1000000 in
theorem eq_walk (w : World) (a0 a1 a2 b0 b1 b2 : Option Addr) (n0 n1 n2 c0 c1 c2 m0 m1 m2 d0 d1 d2 : Nat)
    (H0 : ∀ w1 : World, Keep w w1 (fun _ => False) → Calls Tryd.prog 54 #[.slice a0 n0 c0, .slice b0 m0 d0] w1 fun e w' => e = .returned (.bool true) ∧ Keep w1 w' (fun _ => False))
    (H1 : ∀ w1 : World, Keep w w1 (fun _ => False) → Calls Tryd.prog 54 #[.slice a1 n1 c1, .slice b1 m1 d1] w1 fun e w' => e = .returned (.bool true) ∧ Keep w1 w' (fun _ => False))
    (H2 : ∀ w1 : World, Keep w w1 (fun _ => False) → Calls Tryd.prog 55 #[.slice a2 n2 c2, .slice b2 m2 d2] w1 fun e w' => e = .returned (.bool true) ∧ Keep w1 w' (fun _ => False)) :
    Calls Tryd.prog 24 #[.agg #[.slice a0 n0 c0, .slice a1 n1 c1, .slice a2 n2 c2], .agg #[.slice b0 m0 d0, .slice b1 m1 d1, .slice b2 m2 d2]] w fun e w' => e = .returned (.bool true) ∧ Keep w w' (fun _ => False) := by
  go_enter Tryd.func24, Tryd.ntmps24
  have p1 := Pushed.alloc w (.cells #[Value.slice a0 n0 c0, Value.slice a1 n1 c1, Value.slice a2 n2 c2] 42)
  have p2 := Pushed.alloc (w.alloc (.cells #[Value.slice a0 n0 c0, Value.slice a1 n1 c1, Value.slice a2 n2 c2] 42)) (.cells #[Value.slice b0 m0 d0, Value.slice b1 m1 d1, Value.slice b2 m2 d2] 42)
  have k1 : Keep w ((w.alloc (.cells #[Value.slice a0 n0 c0, Value.slice a1 n1 c1, Value.slice a2 n2 c2] 42)).alloc (.cells #[Value.slice b0 m0 d0, Value.slice b1 m1 d1, Value.slice b2 m2 d2] 42)) (fun _ => False) := (p1.keep _).trans (p2.keep _)
  have e1 : ((w.alloc (.cells #[Value.slice a0 n0 c0, Value.slice a1 n1 c1, Value.slice a2 n2 c2] 42)).alloc (.cells #[Value.slice b0 m0 d0, Value.slice b1 m1 d1, Value.slice b2 m2 d2] 42)).heap[w.heap.size]? = some (.cells #[Value.slice a0 n0 c0, Value.slice a1 n1 c1, Value.slice a2 n2 c2] 42) := by rw [p2.old (by rw [p1.size]; omega)]; exact p1.at
  have e2 : ((w.alloc (.cells #[Value.slice a0 n0 c0, Value.slice a1 n1 c1, Value.slice a2 n2 c2] 42)).alloc (.cells #[Value.slice b0 m0 d0, Value.slice b1 m1 d1, Value.slice b2 m2 d2] 42)).heap[w.heap.size + 1]? = some (.cells #[Value.slice b0 m0 d0, Value.slice b1 m1 d1, Value.slice b2 m2 d2] 42) := by have := p2.at; rwa [p1.size] at this
  go_wp2_with fail
  refine (H0 _ k1).mono ?_
  rintro e w2 ⟨rfl, k2⟩
  obtain ⟨f1, q0, q1, q2⟩ := box3 e1 k2 id
  obtain ⟨f2, r0, r1, r2⟩ := box3 e2 k2 id
  show _
  go_wp2_with fail
  refine (H1 _ (k1.trans k2)).mono ?_
  rintro e w3 ⟨rfl, k3⟩
  obtain ⟨g1, u0, u1, u2⟩ := box3 f1 k3 id
  obtain ⟨g2, v0, v1, v2⟩ := box3 f2 k3 id
  show _
  go_wp2_with fail
  refine (H2 _ ((k1.trans k2).trans k3)).mono ?_
  rintro e w4 ⟨rfl, k4⟩
  show _
  go_wp2_with fail
  go_ret
  exact ⟨rfl, ((k1.trans k2).trans k3).trans k4⟩
set_option maxHeartbeats 1000000 in
theorem mark_walk (w : World) (a0 a1 a2 : Option Addr) (n0 n1 n2 c0 c1 c2 : Nat) (k0 k1 k2 k3 : Int) (M : Nat → Prop) (hM : ∀ x, M x → x < w.heap.size) (P0 P1 P2 P3 : World → Prop) (HP : ∀ w1 : World, Keep w w1 (fun _ => False) → P0 w1)
    (H0 : ∀ w1 : World, P0 w1 → Calls Tryd.prog 56 #[.slice a0 n0 c0, .int .i64 k0] w1 fun e w' => e = .returned (.int .i64 k1) ∧ P1 w' ∧ Keep w1 w' M)
    (H1 : ∀ w1 : World, P1 w1 → Calls Tryd.prog 56 #[.slice a1 n1 c1, .int .i64 k1] w1 fun e w' => e = .returned (.int .i64 k2) ∧ P2 w' ∧ Keep w1 w' M)
    (H2 : ∀ w1 : World, P2 w1 → Calls Tryd.prog 57 #[.slice a2 n2 c2, .int .i64 k2] w1 fun e w' => e = .returned (.int .i64 k3) ∧ P3 w' ∧ Keep w1 w' M) :
    Calls Tryd.prog 25 #[.agg #[.slice a0 n0 c0, .slice a1 n1 c1, .slice a2 n2 c2], .int .i64 k0] w fun e w' => e = .returned (.int .i64 k3) ∧ P3 w' ∧ Keep w w' M := by
  go_enter Tryd.func25, Tryd.ntmps25
  have p1 := Pushed.alloc w (.cells #[Value.slice a0 n0 c0, Value.slice a1 n1 c1, Value.slice a2 n2 c2] 42)
  have e1 := p1.at
  have hn : ¬ M w.heap.size := fun h => by have := hM _ h; omega
  go_wp2_with fail
  refine (H0 _ (HP _ (p1.keep _))).mono ?_
  rintro e w2 ⟨rfl, s2, kk2⟩
  obtain ⟨f1, q0, q1, q2⟩ := box3 e1 kk2 hn
  show _
  go_wp2_with fail
  refine (H1 _ s2).mono ?_
  rintro e w3 ⟨rfl, s3, kk3⟩
  obtain ⟨g1, u0, u1, u2⟩ := box3 f1 kk3 hn
  show _
  go_wp2_with fail
  refine (H2 _ s3).mono ?_
  rintro e w4 ⟨rfl, s4, kk4⟩
  show _
  go_wp2_with fail
  go_ret
  exact ⟨rfl, s4, (((p1.keep M).trans kk2).trans kk3).trans kk4⟩
set_option maxHeartbeats 1000000 in
theorem held_walk (w : World) (a0 a1 a2 : Option Addr) (n0 n1 n2 c0 c1 c2 : Nat) (k0 k1 k2 k3 : Int) (z1 : ¬ k1 < 0) (z2 : ¬ k2 < 0) (z3 : ¬ k3 < 0)
    (H0 : ∀ w1 : World, Keep w w1 (fun _ => False) → Calls Tryd.prog 58 #[.slice a0 n0 c0, .int .i64 k0] w1 fun e w' => e = .returned (.int .i64 k1) ∧ Keep w1 w' (fun _ => False))
    (H1 : ∀ w1 : World, Keep w w1 (fun _ => False) → Calls Tryd.prog 58 #[.slice a1 n1 c1, .int .i64 k1] w1 fun e w' => e = .returned (.int .i64 k2) ∧ Keep w1 w' (fun _ => False))
    (H2 : ∀ w1 : World, Keep w w1 (fun _ => False) → Calls Tryd.prog 59 #[.slice a2 n2 c2, .int .i64 k2] w1 fun e w' => e = .returned (.int .i64 k3) ∧ Keep w1 w' (fun _ => False)) :
    Calls Tryd.prog 26 #[.agg #[.slice a0 n0 c0, .slice a1 n1 c1, .slice a2 n2 c2], .int .i64 k0] w fun e w' => e = .returned (.int .i64 k3) ∧ Keep w w' (fun _ => False) := by
  go_enter Tryd.func26, Tryd.ntmps26
  have p1 := Pushed.alloc w (.cells #[Value.slice a0 n0 c0, Value.slice a1 n1 c1, Value.slice a2 n2 c2] 42)
  have k1 : Keep w (w.alloc (.cells #[Value.slice a0 n0 c0, Value.slice a1 n1 c1, Value.slice a2 n2 c2] 42)) (fun _ => False) := p1.keep _
  have e1 := p1.at
  go_wp2_with fail
  refine (H0 _ k1).mono ?_
  rintro e w2 ⟨rfl, kk2⟩
  obtain ⟨f1, q0, q1, q2⟩ := box3 e1 kk2 id
  show _
  go_wp2_with fail
  refine (H1 _ (k1.trans kk2)).mono ?_
  rintro e w3 ⟨rfl, kk3⟩
  obtain ⟨g1, u0, u1, u2⟩ := box3 f1 kk3 id
  show _
  go_wp2_with fail
  refine (H2 _ ((k1.trans kk2).trans kk3)).mono ?_
  rintro e w4 ⟨rfl, kk4⟩
  show _
  go_wp2_with fail
  go_ret
  exact ⟨rfl, ((k1.trans kk2).trans kk3).trans kk4⟩
end Go.Gl
