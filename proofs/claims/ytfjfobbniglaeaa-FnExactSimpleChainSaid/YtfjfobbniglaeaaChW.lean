/-
 The chain of simple permutations, walked in the world's words. Conditions: none.
-/
import Derived.Test.YtfjfobbniglaeaaChC
import Derived.Lib.AppendZeros
set_option linter.unusedSimpArgs false
set_option linter.unusedVariables false
set_option maxRecDepth 20000
set_option linter.unusedSectionVars false
namespace Go.Gl
open Go Go.Proofs Go.RowKit Go.Lib
variable [Amb] [NoQ]
theorem Rd.shape {w : World} {q : List Int} {v : Value} (h : Rd w q v) : ∃ a c, v = .slice a q.length c := by
 obtain ⟨a, c, e, _⟩ : ∃ a c, v = .slice a (q.map (PV.int .i64)).length c ∧ _ := by simpa only [Rd, RepP] using h
 exact ⟨a, c, by rw [e, List.length_map]⟩
/-- One row, in a block of its own. -/
theorem own_one {w : World} {q : List Int} {lq : Loc} {u : Value} {E : TypeId} {n : Nat} (h : w.heap[n]? = some (.cells #[u] E (0, 0))) (hq : Own w (bI q) lq) (hu : hdrAt lq q.length u) (hne : ∀ x, owns (bI q) lq x → x ≠ n) :
  Own w (bL [q]) ⟨n, 0, 1, 1, fun _ => (lq.B, lq.off, lq.cap)⟩ ∧ ∀ x, owns (bL [q]) ⟨n, 0, 1, 1, fun _ => (lq.B, lq.off, lq.cap)⟩ x → x = n ∨ owns (bI q) lq x := by
 have rw0 : ∀ {r : Nat} {c : List PV}, ([q].map fun l => some (l.map (PV.int .i64)))[r]? = some (some c) → r = 0 ∧ c = q.map (PV.int .i64) := fun {r c} hr => by
  cases r with
  | zero => simp at hr; exact ⟨rfl, hr.symm⟩
  | succ r => simp at hr
 refine ⟨⟨rfl, ⟨Nat.le_refl _, by show (1 : Nat) ≤ maxLen; decide, .inr ⟨⟨_, E, 0, 0, h, by simp, .inl (Nat.le_refl _)⟩, trivial, fun j x hx => ?_⟩⟩, fun r c hr => ?_, fun r c r' c' hr hr' hne' _ _ => ?_, fun r c hr _ hc => ?_⟩, fun x hx => ?_⟩
 ·have hj : j < 1 := by have := (List.getElem?_eq_some_iff.1 hx).1; simpa [canon] using this
  obtain rfl : j = 0 := by omega
  obtain rfl : x = .row 0 := by simpa [canon] using hx.symm
  obtain ⟨a, rfl, ha⟩ := hu
  refine ⟨_, by rw [cell?_eq, h]; rfl, rfl, by simp, fun c hc => ?_⟩
  obtain ⟨_, rfl⟩ := rw0 hc
  rw [List.length_map]; exact ⟨a, rfl, ha⟩
 ·obtain ⟨rfl, rfl⟩ := rw0 hr
  exact hq
 ·have := (rw0 hr).1; have := (rw0 hr').1; omega
 ·obtain ⟨rfl, rfl⟩ := rw0 hr
  exact hne _ ⟨hc, rfl⟩
 ·rcases hx with ⟨_, rfl⟩ | ⟨r, c, hr, h0, rfl⟩
  ·exact .inl rfl
  ·exact .inr ⟨h0, rfl⟩
theorem first_row {w : World} {L : List (List Int)} {l : Loc} {v : Value} (h : Own w (bL L) l) (h0 : 0 < L.length) (hv : hdrAt l L.length v) :
  ∃ u, v = .slice (some ⟨l.B, l.off, none⟩) L.length l.cap ∧ w.cell? ⟨l.B, l.off, none⟩ = some u ∧ hdrAt (l.sub 0) (L.getD 0 []).length u ∧ Own w (bI (L.getD 0 [])) (l.sub 0) ∧ ∀ x, owns (bI (L.getD 0 [])) (l.sub 0) x → owns (bL L) l x := by
 obtain ⟨n1, ⟨l1, l2, l3⟩, r1, d1, b1⟩ := h
 have hL : L.length ≤ l.cap := by simpa [canon] using l1
 have hc : l.cap ≠ 0 := by omega
 obtain ⟨_, _, l3⟩ := l3.resolve_left hc
 obtain ⟨u, u1, u2, u3⟩ := l3 0 (.row 0) (by rw [canon, List.getElem?_map, List.getElem?_range h0]; rfl)
 obtain ⟨a, rfl, ha⟩ := hv
 obtain rfl := ha.resolve_left hc
 have := u3.2 _ (row_bL h0)
 rw [List.length_map] at this
 exact ⟨u, rfl, u1, this, r1 0 _ (row_bL h0), fun x ⟨z, e⟩ => .inr ⟨0, _, row_bL h0, z, e⟩⟩
/-- What the loop holds. -/
structure ChI (w : World) (p : List Int) (w1 : World) (q : List Int) (pre : List (List Int)) (d : Nat) (vq vo : Value) (lo : Loc) : Prop where
 pq : isPermB q = true
 sq : isSimB q = true
 qd : q.length ≤ d
 ch : pre ++ chL d q = chL p.length p
 pl : pre.length + q.length ≤ p.length
 rd : Rd w1 q vq
 hd : hdrAt lo (pre.length + 1) vo
 own : Own w1 (bL (pre ++ [q])) lo
 new : ∀ x, owns (bL (pre ++ [q])) lo x → w.heap.size ≤ x
 kp : Keep w w1 (fun _ => False)
def chM (a : Act) : Nat := match (a.tmps[0]? : Option Value) with
 | some (Value.slice _ n _) => n
 | _ => 0
theorem Tb.keep {w w' : World} (h : Tb w) (hk : Keep w w' (fun _ => False)) : Tb w' := fun B o hB => by
 rw [hk.same B (Array.getElem?_eq_some_iff.1 (h B o hB)).1]; exact h B o hB
set_option maxHeartbeats 4000000 in
theorem ch_walk (w : World) (ha : Tb w) (p : List Int) (hl : p.length ≤ 1048576) (v : Value) (hv : Rd w p v) (hp : isPermB p = true) (hs : isSimB p = true) :
  Calls Try.prog 19 #[v] w fun e w' => ∃ v l, e = .returned (.tuple #[v, .bool true]) ∧ hdrAt l (chL p.length p).length v ∧ Own w' (bL (chL p.length p)) l ∧ (∀ B, owns (bL (chL p.length p)) l B → w.heap.size ≤ B) ∧ Keep w w' (fun _ => False) := by
 obtain ⟨pa, pc, rfl⟩ := hv.shape
 have h8 := (isP_8 hp).1
 go_enter Try.func19, Try.ntmps19
 go_wp2_with fail
 refine (smp_call ha hv hl).mono ?_
 rintro e w1 ⟨rfl, k1⟩
 rw [hp, hs, Bool.and_self]
 have ha1 := ha.keep k1
 have hv1 := hv.keep k1.same
 show _
 go_wp2_with fail
 refine (cln_call ha1 hv1 hl).mono ?_
 rintro e w2 ⟨cv, cl, rfl, ch, co, cn, k2⟩
 obtain ⟨cx, rfl⟩ := hdr_slice ch
 have p1 := Pushed.alloc w2 (.cells #[Value.slice cx p.length cl.cap] 22)
 have co2 : Own (w2.alloc (.cells #[Value.slice cx p.length cl.cap] 22)) (bI p) cl := co.same fun B hB => p1.old hB
 have o1 := own_one p1.at co2 ch (fun x hx => by have := co.lt hx; omega)
 have k12 := (k1.trans k2).trans (p1.keep (fun _ => False))
 have i0 : ChI w p (w2.alloc (.cells #[Value.slice cx p.length cl.cap] 22)) p [] p.length (.slice pa p.length pc) (.slice (some ⟨w2.heap.size, 0, none⟩) 1 1) ⟨w2.heap.size, 0, 1, 1, fun _ => (cl.B, cl.off, cl.cap)⟩ :=
  ⟨hp, hs, Nat.le_refl _, by simp, by simp, hv.keep k12.same, ⟨_, rfl, .inr rfl⟩, o1.1, fun x hx => by
   have z1 := k1.size; have z2 := k2.size
   rcases o1.2 x hx with h | h
   ·omega
   ·have := cn x h; omega, k12⟩
 show _
 go_wp2_with fail
 refine wp_loop (fun a w3 => ∃ (q : List Int) (pre : List (List Int)) (d : Nat) (lo : Loc) (qa : Option Addr) (qc : Nat) (oa : Option Addr) (oc m : Nat) (x5 x12 x13 x14 x15 x16 x17 x18 x19 x20 x21 x22 x23 x24 x25 x26 x27 x28 x29 x30 x31 x32 x33 x34 x35 x36 x37 : Value), a = { tmps := ((Value.slice qa q.length qc) :: undef :: (Value.slice none 0 0) :: (Value.bool false) :: (Value.slice oa m oc) :: x5 :: (Value.slice pa p.length pc) :: (Value.bool true) :: (Value.bool false) :: (Value.slice pa p.length pc) :: (Value.slice cx p.length cl.cap) :: (Value.slice (some ⟨w2.heap.size, 0, none⟩) 1 1) :: x12 :: x13 :: x14 :: x15 :: x16 :: x17 :: x18 :: x19 :: x20 :: x21 :: x22 :: x23 :: x24 :: x25 :: x26 :: x27 :: x28 :: x29 :: x30 :: x31 :: x32 :: x33 :: x34 :: x35 :: x36 :: x37 :: []).toArray, defers := [] } ∧ ChI w p w3 q pre d (.slice qa q.length qc) (.slice oa m oc) lo) (fun a _ => chM a) ⟨p, [], p.length, _, _, _, _, _, _, _, _, _, _, _, _, _, _, _, _, _, _, _, _, _, _, _, _, _, _, _, _, _, _, _, _, _, rfl, i0⟩ ?_
 rintro a w3 ⟨q, pre, d, lo, qa, qc, oa, oc, m, x5, x12, x13, x14, x15, x16, x17, x18, x19, x20, x21, x22, x23, x24, x25, x26, x27, x28, x29, x30, x31, x32, x33, x34, x35, x36, x37, rfl, I⟩
 obtain ⟨g8, gq⟩ := isP_8 I.pq
 by_cases h2 : 2 < q.length
 ·have hN := nxS_ok I.pq I.sq h2
  have hM := nxQ_mem I.pq I.sq h2
  obtain ⟨n1, n2, n3, _, _⟩ := hN.2 _ hM
  have q4 := I.ch
  have qd := I.qd
  obtain ⟨d, rfl⟩ : ∃ e, d = e + 1 := ⟨d - 1, by omega⟩
  rw [chL, if_pos h2] at q4
  have h2i : (2 : Int) < (q.length : Int) := by omega
  have ha3 := ha.keep I.kp
  have b1 := lowL_len (p := q)
  have b2 : ∀ l ∈ lowL q, l.length ≤ 8 ∧ ∀ x ∈ l, 0 ≤ x ∧ x ≤ 1048576 := fun l h => ⟨(low_facts gq g8 h).1, (low_facts gq g8 h).2.2⟩
  go_wp2_with fail
  refine (low_call ha3 I.rd g8).mono ?_
  rintro e w4 ⟨lv, ll, rfl, lh, lo4, ln, k4⟩
  obtain ⟨lx, rfl⟩ := hdr_slice lh
  have ha4 := ha3.keep k4
  show _
  go_wp2_with fail
  refine (sms_call ha4 lo4 (fun B o hB ho => by have := ln B ho; have := (Array.getElem?_eq_some_iff.1 (ha3 B o hB)).1; omega) lh (by omega) b2).mono ?_
  rintro e w5 ⟨sv, sl, rfl, sh, so, sn, k5⟩
  have z4 := k4.size
  have z5 := k5.size
  have s35 : ∀ B, B < w3.heap.size → w5.heap[B]? = w3.heap[B]? := fun B hB => by
   rw [k5.block B (by omega) (fun ho => by have := ln B ho; omega), k4.same B hB]
  have sn5 : ∀ x, owns (bL ((lowL q).filter isSimB)) sl x → w3.heap.size ≤ x := fun x hx => by
   rcases sn x hx with h | h
   ·omega
   ·exact ln x h
  by_cases he : smpL q = []
  ·have e0 : ((lowL q).filter isSimB).length = 0 := by rw [← smpL, he]; rfl
   rw [e0] at sh
   obtain ⟨sx, rfl⟩ := hdr_slice sh
   show _
   go_wp2_with fail
   have eN : nxS q = (ptR q (q.length - 2)).filter isSimB := if_pos he
   have hpos : 0 < ((ptR q (q.length - 2)).filter isSimB).length := by rw [← eN]; exact List.length_pos_iff.2 hN.1
   have hK : 0 < (plK q.length (q.length - 2)).length := by
    rcases Nat.eq_zero_or_pos (plK q.length (q.length - 2)).length with e | e
    ·have e' := List.eq_nil_of_length_eq_zero e
     have : ptR q (q.length - 2) = [] := by rw [ptR, e']; rfl
     rw [this] at hpos; simp at hpos
    ·exact e
   have e0i : ((((ptR q (q.length - 2)).filter isSimB).length : Int) == 0) = false := by simp only [beq_eq_false_iff_ne]; omega
   have ha5 : Tb w5 := fun B o hB => by rw [s35 B (Array.getElem?_eq_some_iff.1 (ha3 B o hB)).1]; exact ha3 B o hB
   have cP := pat_call ha5 (I.rd.keep s35) (q.length - 2) I.pq (by omega) hK
   rw [show ((q.length - 2 : Nat) : Int) = (q.length : Int) - 2 by omega] at cP
   have b3 := ptR_len (p := q) (k := q.length - 2) g8 (by omega)
   have b4 := ptR_row (p := q) (k := q.length - 2) g8 (by omega)
   refine cP.mono ?_
   rintro e w6 ⟨pv, pl6, rfl, ph, po, pn, k6⟩
   obtain ⟨px, rfl⟩ := hdr_slice ph
   have ha6 := ha5.keep k6
   have z6 := k6.size
   show _
   go_wp2_with fail
   refine (sms_call ha6 po (fun B o hB ho => by have := pn B ho; have := (Array.getElem?_eq_some_iff.1 (ha3 B o hB)).1; omega) ph (by omega) b4).mono ?_
   rintro e w8 ⟨tv, tl, rfl, th, to8, tn, k8⟩
   have z8 := k8.size
   have s38 : ∀ B, B < w3.heap.size → w8.heap[B]? = w3.heap[B]? := fun B hB => by
    rw [k8.block B (by omega) (fun ho => by have := pn B ho; omega), k6.same B (by omega)]; exact s35 B hB
   have sn8 : ∀ x, owns (bL ((ptR q (q.length - 2)).filter isSimB)) tl x → w3.heap.size ≤ x := fun x hx => by
    rcases tn x hx with h | h
    ·omega
    ·have := pn x h; omega
   obtain ⟨u, ev, uc, uh, uo, us⟩ := first_row to8 hpos th
   have eL : ((ptR q (q.length - 2)).filter isSimB).getD 0 [] = nxQ q := by rw [nxQ, eN]
   rw [eL] at uh uo us
   obtain ⟨ux, rfl⟩ := hdr_slice uh
   subst ev
   have p6 := Pushed.alloc w8 (.cells #[Value.slice ux (nxQ q).length (tl.sub 0).cap] 22)
   have ow3 : ∀ x, owns (bL (pre ++ [q])) lo x → x < w3.heap.size := fun x hx => I.own.lt hx
   have oo6 : Own (w8.alloc (.cells #[Value.slice ux (nxQ q).length (tl.sub 0).cap] 22)) (bL (pre ++ [q])) lo := I.own.move fun x hx => by
    have := ow3 x hx
    rw [p6.old (by omega)]; exact s38 x this
   have uo6 : Own (w8.alloc (.cells #[Value.slice ux (nxQ q).length (tl.sub 0).cap] 22)) (bI (nxQ q)) (tl.sub 0) := uo.same fun B hB => p6.old hB
   have hl1 : (pre ++ [q]).length = pre.length + 1 := by simp
   have hd6 : hdrAt lo (pre ++ [q]).length (.slice oa m oc) := by rw [hl1]; exact I.hd
   have pl := I.pl
   obtain ⟨v7, w7, l7, run7, hh7, ho7, hn7, k7⟩ := run_push (t0 := w8.heap.size) (c0 := 1) oo6 uo6 (fun x hx ho => by have := ow3 x ho; have := sn8 x (us x hx); omega) hd6 uh (by rw [cell?_eq, p6.at]; rfl) (by omega)
   obtain ⟨y7, rfl⟩ := hdr_slice hh7
   have uc0 : w8.cell? ⟨tl.B, tl.off + 0, none⟩ = some (Value.slice ux (nxQ q).length (tl.sub 0).cap) := uc
   show _
   go_wp2_with (at_builtin; refine Lib.wpList_append_run _ rfl _ _ _ _ rfl _ _ rfl rfl _ _ (run7 _) ?_)
   have uo7 := uo6.move (w' := w7) fun x hx => k7.block x (uo6.lt hx) fun ho => by have := ow3 x ho; have := sn8 x (us x hx); omega
   have z3 := I.kp.size
   have z9 := p6.size
   have kk := ((((((keep_wk I.kp (M' := fun x => w.heap.size ≤ x) (fun _ q => q.elim)).trans (keep_wk k4 (fun _ q => q.elim))).trans (keep_wk k5 (fun x hx => by have := ln x hx; omega))).trans (keep_wk k6 (fun _ q => q.elim))).trans (keep_wk k8 (fun x hx => by have := pn x hx; omega))).trans (keep_wk (p6.keep (fun _ => False)) (fun _ q => q.elim))).trans (keep_wk k7 (fun x hx => I.new x hx))
   refine ⟨⟨nxQ q, pre ++ [q], d, l7, ux, (tl.sub 0).cap, y7, l7.cap, _, _, _, _, _, _, _, _, _, _, _, _, _, _, _, _, _, _, _, _, _, _, _, _, _, _, _, _, rfl, n1, n2, by omega, by simpa [List.append_assoc] using q4, by rw [hl1]; omega, rep_bI uo7 uh, (by rw [hl1] at hh7 ⊢; exact hh7), ho7, fun x hx => ?_, keep_new kk (fun x hx => hx)⟩, n3⟩
   rcases hn7 x hx with h | h | h
   ·exact I.new x h
   ·have := sn8 x (us x h); omega
   ·omega
  ·have e0 : ((lowL q).filter isSimB).length ≠ 0 := fun h => he (List.eq_nil_of_length_eq_zero h)
   have eN : nxS q = (lowL q).filter isSimB := if_neg he
   have hpos : 0 < ((lowL q).filter isSimB).length := by omega
   have e0i : ((((lowL q).filter isSimB).length : Int) == 0) = false := by simp only [beq_eq_false_iff_ne]; omega
   obtain ⟨u, ev, uc, uh, uo, us⟩ := first_row so hpos sh
   have eL : ((lowL q).filter isSimB).getD 0 [] = nxQ q := by rw [nxQ, eN]
   rw [eL] at uh uo us
   obtain ⟨ux, rfl⟩ := hdr_slice uh
   subst ev
   have p6 := Pushed.alloc w5 (.cells #[Value.slice ux (nxQ q).length (sl.sub 0).cap] 22)
   have ow3 : ∀ x, owns (bL (pre ++ [q])) lo x → x < w3.heap.size := fun x hx => I.own.lt hx
   have oo6 : Own (w5.alloc (.cells #[Value.slice ux (nxQ q).length (sl.sub 0).cap] 22)) (bL (pre ++ [q])) lo := I.own.move fun x hx => by
    have := ow3 x hx
    rw [p6.old (by omega)]; exact s35 x this
   have uo6 : Own (w5.alloc (.cells #[Value.slice ux (nxQ q).length (sl.sub 0).cap] 22)) (bI (nxQ q)) (sl.sub 0) := uo.same fun B hB => p6.old hB
   have hl1 : (pre ++ [q]).length = pre.length + 1 := by simp
   have hd6 : hdrAt lo (pre ++ [q]).length (.slice oa m oc) := by rw [hl1]; exact I.hd
   have pl := I.pl
   obtain ⟨v7, w7, l7, run7, hh7, ho7, hn7, k7⟩ := run_push (t0 := w5.heap.size) (c0 := 1) oo6 uo6 (fun x hx ho => by have := ow3 x ho; have := sn5 x (us x hx); omega) hd6 uh (by rw [cell?_eq, p6.at]; rfl) (by omega)
   obtain ⟨y7, rfl⟩ := hdr_slice hh7
   have uc0 : w5.cell? ⟨sl.B, sl.off + 0, none⟩ = some (Value.slice ux (nxQ q).length (sl.sub 0).cap) := uc
   show _
   go_wp2_with (at_builtin; refine Lib.wpList_append_run _ rfl _ _ _ _ rfl _ _ rfl rfl _ _ (run7 _) ?_)
   have uo7 := uo6.move (w' := w7) fun x hx => k7.block x (uo6.lt hx) fun ho => by have := ow3 x ho; have := sn5 x (us x hx); omega
   have z3 := I.kp.size
   have z6 := p6.size
   have kk := ((((keep_wk I.kp (M' := fun x => w.heap.size ≤ x) (fun _ q => q.elim)).trans (keep_wk k4 (fun _ q => q.elim))).trans (keep_wk k5 (fun x hx => by have := ln x hx; omega))).trans (keep_wk (p6.keep (fun _ => False)) (fun _ q => q.elim))).trans (keep_wk k7 (fun x hx => I.new x hx))
   refine ⟨⟨nxQ q, pre ++ [q], d, l7, ux, (sl.sub 0).cap, y7, l7.cap, _, _, _, _, _, _, _, _, _, _, _, _, _, _, _, _, _, _, _, _, _, _, _, _, _, _, _, _, rfl, n1, n2, by omega, by simpa [List.append_assoc] using q4, by rw [hl1]; omega, rep_bI uo7 uh, (by rw [hl1] at hh7 ⊢; exact hh7), ho7, fun x hx => ?_, keep_new kk (fun x hx => hx)⟩, n3⟩
   rcases hn7 x hx with h | h | h
   ·exact I.new x h
   ·have := sn5 x (us x h); omega
   ·omega
 ·have e3 := chL_end (d := d) h2
  have q4 := I.ch
  rw [e3] at q4
  have h2i : ¬ (2 : Int) < (q.length : Int) := by omega
  go_wp2_with fail
  go_ret2
  exact ⟨_, rfl, lo, by rw [← q4]; simpa using I.hd, by rw [← q4]; exact I.own, by rw [← q4]; exact I.new, I.kp⟩
set_option maxHeartbeats 1000000 in
theorem ch_no (w : World) (ha : Tb w) (p : List Int) (hl : p.length ≤ 1048576) (v : Value) (hv : Rd w p v) (hn : (isPermB p && isSimB p) = false) :
  Calls Try.prog 19 #[v] w fun e w' => e = .returned (.tuple #[.slice none 0 0, .bool false]) ∧ Keep w w' (fun _ => False) := by
 obtain ⟨pa, pc, rfl⟩ := hv.shape
 go_enter Try.func19, Try.ntmps19
 go_wp2_with fail
 refine (smp_call ha hv hl).mono ?_
 rintro e w1 ⟨rfl, k1⟩
 rw [hn]
 show _
 go_wp2_with fail
 go_ret2
 exact ⟨rfl, k1⟩
theorem impl_SimpleChain_d_c {m0 : Bool} (p : List Int) (hl : p.length ≤ 1048576) : Fun Try.prog 19 [(.sl (.lent m0) (List.map (PV.int .i64) (p)))] [(.dl (List.map (List.map (PV.int .i64)) (chB p))), (.bool ((isPermB p && isSimB p)))] := by
 refine Fun.of_rows Try.func19 rfl (by decide) (by simp [impAll, imps, imp, imp1]) (fun j => ?_) fun w F G vs ha hr => ?_
 ·by_cases e : j = 1
  ·subst e; simp [postH, impWs, impW, impW1, hwsH, Function.comp_def]
  ·simp [postH, impWs, impW, impW1, hwsH, e, outH]
   match j with
   | 0 => rfl
   | 1 => exact absurd rfl e
   | j + 2 => rfl
 ·simp only [RepL] at hr
  obtain ⟨v, _, rfl, hv, rfl⟩ := hr
  have hv : Rd w p v := by
   simp only [Rd, RepP] at hv ⊢
   obtain ⟨a, c, e1, e2, e3, _, e5⟩ := hv
   refine ⟨a, c, e1, e2, e3, (by intro e; cases e), e5.imp id fun ⟨B, off, f1, f2, f3, f4⟩ => ⟨B, off, f1, fun h => h, (by intro e; cases e), rep_any f4⟩⟩
  cases hs : (isPermB p && isSimB p) with
  | true =>
   obtain ⟨h1, h2⟩ := Bool.and_eq_true_iff.1 hs
   rw [show chB p = chL p.length p from if_pos hs]
   refine (ch_walk w ha p hl v hv h1 h2).mono ?_
   rintro e w' ⟨v', l, e1, e2, e3, e4, k⟩
   exact ⟨v', l, e1, e2, e3, e4, k.os, k.tape, k.output, k.size, fun B hB => k.same B hB⟩
  | false =>
   rw [show chB p = [] from if_neg (by rw [hs]; decide)]
   refine (ch_no w ha p hl v hv hs).mono ?_
   rintro e w' ⟨rfl, k⟩
   exact ⟨_, ⟨0, 0, 0, 0, noInn⟩, rfl, ⟨none, rfl, .inl rfl⟩, ⟨rfl, ⟨Nat.le_refl _, Nat.zero_le _, .inl rfl⟩, fun r c h => by simp at h, fun r c r' c' h => by simp at h, fun r c h => by simp at h⟩, fun B h => by
    rcases h with ⟨h, _⟩ | ⟨r, c, h, _⟩
    ·exact absurd rfl h
    ·simp at h, k.os, k.tape, k.output, k.size, fun B hB => k.same B hB⟩
end Go.Gl
