/-
  The law of a new session. Conditions: none.
-/
import Derived.Test.YtfjfobbniglaeaaDoorWd5
import Derived.Test.YtfjfobbniglaeaaDoorLawEB
set_option linter.unusedSimpArgs false
set_option linter.unusedVariables false
set_option maxRecDepth 20000
set_option linter.unusedSectionVars false
namespace Go.Gl
open Go Go.Proofs Go.RowKit Go.Lib
variable [Amb] [NoQ]
variable [SplA]
theorem spec_new {z : Nat} {w : World} (h : AmbW z w) : Calls Tryd.prog 22 #[] w fun e w' => ∃ v, e = .returned v ∧ Ses w' w.heap.size v [2, 4, 1, 3] [2, 4, 1, 3] (ebL 1) ∧ Keep w w' (fun _ => False) :=
  new_spec w (ebL 1) (ebOk 1) fun w1 hk => Fun.gives (spec_ExampleBasis_c 1) w1 (h.keep hk (fun _ q => q.elim)).ha
theorem impl_new {z : Nat} {w : World} (h : AmbW z w) : Calls Tryd.prog 23 #[] w fun e w' => ∃ v, e = .returned v ∧ Ses w' w.heap.size v [2, 4, 1, 3] [2, 4, 1, 3] (ebL 1) ∧ Keep w w' (fun _ => False) :=
  new_impl w (ebL 1) (ebOk 1) fun w1 hk => Fun.gives (impl_ExampleBasis_c 1) w1 (h.keep hk (fun _ q => q.elim)).ha
theorem Ses.shape {w : World} {z : Nat} {v : Value} {a b : List Int} {L : List (List Int)} (h : Ses w z v a b L) : ∃ a0 c0 a1 c1 a2 c2, v = .agg #[.slice a0 a.length c0, .slice a1 b.length c1, .slice a2 L.length c2] := by
  obtain ⟨h0, h1, h2, A, B, C, rfl, ⟨a1, a2⟩, ⟨b1, b2⟩, ⟨c1, c2⟩, _⟩ := h
  obtain ⟨x0, rfl⟩ := hdr_slice a1
  obtain ⟨x1, rfl⟩ := hdr_slice b1
  obtain ⟨x2, rfl⟩ := hdr_slice c1
  exact ⟨_, _, _, _, _, _, rfl⟩
theorem keep_new {w w' : World} {M : Nat → Prop} (h : Keep w w' M) (hM : ∀ x, M x → w.heap.size ≤ x) : Keep w w' (fun _ => False) :=
  ⟨h.os, h.tape, h.output, h.size, fun k hk _ => h.block k hk fun q => by have := hM k q; omega, h.drawn⟩
set_option maxHeartbeats 2000000 in
theorem ns_walk (w : World) (hA : AmbW w.heap.size w) : Calls Tryd.prog 4 #[] w fun e w' => e = .returned (.bool true) ∧ Keep w w' (fun _ => False) := by
  have lb1 := (eb_rows (k := 1)).1
  have lb2 := (eb_rows (k := 1)).2
  have lb3 := sumN_bound lb2
  have lb5 : (ebL 1).length * 1000 ≤ 1001 * 1000 := Nat.mul_le_mul_right _ lb1
  have lb4 : ∀ l ∈ ebL 1, l.length ≤ 100000 := fun l h => by have := lb2 l h; omega
  obtain ⟨N, hN⟩ : ∃ N : Int, N = 1 + (([2, 4, 1, 3] : List Int).length : Int) + (([2, 4, 1, 3] : List Int).length : Int) + sumN ((ebL 1).map List.length) := ⟨_, rfl⟩
  have hn : ¬ N < 0 := by rw [hN]; simp only [List.length_cons, List.length_nil]; omega
  go_enter Tryd.func4, Tryd.ntmps4
  go_wp2_with fail
  refine (spec_new hA).mono ?_
  rintro e w1 ⟨v1, rfl, s1, k1⟩
  obtain ⟨x0, c0, x1, c1, x2, c2, rfl⟩ := s1.shape
  have A1 := hA.keep k1 (fun _ q => q.elim)
  have p1 := Pushed.alloc w1 (.cells #[Value.slice x0 4 c0, Value.slice x1 4 c1, Value.slice x2 (ebL 1).length c2] 42)
  have A2 := A1.keep (p1.keep (fun _ => False)) (fun _ q => q.elim)
  show _
  go_wp2_with fail
  refine (impl_new A2).mono ?_
  rintro e w2 ⟨v2, rfl, s2, k2⟩
  obtain ⟨y0, d0, y1, d1, y2, d2, rfl⟩ := s2.shape
  have p2 := Pushed.alloc w2 (.cells #[Value.slice y0 4 d0, Value.slice y1 4 d1, Value.slice y2 (ebL 1).length d2] 42)
  have z0 := k1.size
  have z1 := p1.size
  have z2 := p2.size
  have z12 := k2.size
  have A3 := (A2.keep k2 (fun _ q => q.elim)).keep (p2.keep (fun _ => False)) (fun _ q => q.elim)
  have e1 : (w2.alloc (.cells #[Value.slice y0 4 d0, Value.slice y1 4 d1, Value.slice y2 (ebL 1).length d2] 42)).heap[w1.heap.size]? = some (.cells #[Value.slice x0 4 c0, Value.slice x1 4 c1, Value.slice x2 (ebL 1).length c2] 42) := by
    rw [p2.old (by omega), k2.same _ (by omega)]; exact p1.at
  have e2 := p2.at
  obtain ⟨g1, g2, g3, g4⟩ := box3 p1.at k2 id
  obtain ⟨g5, g6, g7, g8⟩ := box3 p1.at (k2.trans (p2.keep (fun _ => False))) id
  have k13 := ((p1.keep (fun _ => False)).trans k2).trans (p2.keep (fun _ => False))
  have s13 := s1.same (fun B _ hB => k13.same B hB)
  have s23 := s2.same (fun B _ hB => (p2.keep (fun _ => False)).same B hB)
  show _
  go_wp2_with fail
  refine (eq_ses A3 s23 s13 (by simp) (by simp) (by omega) lb4).mono ?_
  rintro e w3 ⟨rfl, k3⟩
  obtain ⟨f1, q0, q1, q2⟩ := box3 e1 k3 id
  obtain ⟨f2, r0, r1, r2⟩ := box3 e2 k3 id
  have A4 := A3.keep k3 (fun _ q => q.elim)
  have z3 := k3.size
  show _
  go_wp2_with fail
  refine (mark_ses (k := 1) (by omega) (by omega) A4 (by omega) s2 (fun B _ hB => by rw [k3.same B (by omega), p2.old hB]) (by omega) (by simp) (by simp) (by omega) (by omega)).mono ?_
  rintro e w4 ⟨rfl, s4, k4⟩
  rw [← hN]
  obtain ⟨h1, u0, u1, u2⟩ := box3 f1 k4 (by omega)
  obtain ⟨h2, v0, v1, v2⟩ := box3 f2 k4 (by omega)
  have A5 := A4.keep k4 (fun x hx => by omega)
  have z4 := k4.size
  show _
  go_wp2_with fail
  refine (held_ses (k := 1) (by omega) (by omega) A5 s4 (by simp) (by simp) (by rw [List.length_map]; omega) (by omega)).mono ?_
  rintro e w5 ⟨rfl, k5⟩
  rw [← hN]
  obtain ⟨h3, u3, u4, u5⟩ := box3 h1 k5 id
  obtain ⟨h4, v3, v4, v5⟩ := box3 h2 k5 id
  have A6 := A5.keep k5 (fun _ q => q.elim)
  have z5 := k5.size
  show _
  go_wp2_with fail
  refine (impl_new A6).mono ?_
  rintro e w6 ⟨vv, rfl, s6, k6⟩
  obtain ⟨t0, b0, t1, b1, t2, b2, rfl⟩ := s6.shape
  have p3 := Pushed.alloc w6 (.cells #[Value.slice t0 4 b0, Value.slice t1 4 b1, Value.slice t2 (ebL 1).length b2] 42)
  obtain ⟨h5, u6, u7, u8⟩ := box3 h3 k6 id
  obtain ⟨h6, v6, v7, v8⟩ := box3 h4 k6 id
  obtain ⟨h7, u9, ua, ub⟩ := box3 h5 (p3.keep (fun _ => False)) id
  obtain ⟨h8, v9, va, vb⟩ := box3 h6 (p3.keep (fun _ => False)) id
  have A7 := (A6.keep k6 (fun _ q => q.elim)).keep (p3.keep (fun _ => False)) (fun _ q => q.elim)
  have z6 := k6.size
  have z7 := p3.size
  have e3 := p3.at
  show _
  go_wp2_with fail
  have k14 : ∀ B, B < w1.heap.size → (w6.alloc (.cells #[Value.slice t0 4 b0, Value.slice t1 4 b1, Value.slice t2 (ebL 1).length b2] 42)).heap[B]? = w1.heap[B]? := fun B hB => by
    rw [p3.old (by omega), k6.same B (by omega), k5.same B (by omega), k4.block B (by omega) (by omega), k3.same B (by omega), k13.same B (by omega)]
  have s17 := s1.same (fun B _ hB => k14 B hB)
  have s67 := s6.same (fun B _ hB => (p3.keep (fun _ => False)).same B hB)
  refine (eq_ses A7 s67 s17 (by simp) (by simp) (by omega) lb4).mono ?_
  rintro e w7 ⟨rfl, k7⟩
  obtain ⟨h9, uc, ud, ue⟩ := box3 h8 k7 id
  have A8 := A7.keep k7 (fun _ q => q.elim)
  have s8 := s4.same (fun B _ hB => show w7.heap[B]? = w4.heap[B]? by rw [k7.same B (by omega), p3.old (by omega), k6.same B (by omega), k5.same B (by omega)])
  show _
  go_wp2_with fail
  refine (held_ses (k := 1) (by omega) (by omega) A8 s8 (by simp) (by simp) (by rw [List.length_map]; omega) (by omega)).mono ?_
  rintro e w8 ⟨rfl, k8⟩
  rw [← hN]
  show _
  go_wp2_with fail
  go_ret
  have kn := (((((keep_wk k13 (M' := fun x => w1.heap.size ≤ x) (fun _ q => q.elim)).trans (keep_wk k3 (fun _ q => q.elim))).trans (keep_wk k4 (fun x hx => by omega))).trans (keep_wk k5 (fun _ q => q.elim))).trans (keep_wk (k6.trans (p3.keep _)) (fun _ q => q.elim))).trans (keep_wk (k7.trans k8) (fun _ q => q.elim))
  exact ⟨rfl, k1.trans (keep_new kn (fun x hx => hx))⟩
theorem laws_FnExactNewSession_c : Fun Tryd.prog 4 [] [(.bool (true))] := by
  refine Fun.of_plain (v := .bool true) Tryd.func4 rfl (by decide) rfl fun w F G vs ha hr => ?_
  obtain rfl : vs = [] := by simpa only [RepL] using hr
  refine (ns_walk w fun B o hB => ⟨ha B o hB, (Array.getElem?_eq_some_iff.1 (ha B o hB)).1⟩).mono ?_
  rintro e w' ⟨rfl, k⟩
  exact ⟨rfl, k.os, k.tape, k.output, k.size, fun B hB => k.same B hB⟩
end Go.Gl
