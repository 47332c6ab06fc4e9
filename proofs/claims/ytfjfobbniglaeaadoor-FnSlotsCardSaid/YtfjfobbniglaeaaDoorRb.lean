/-
  A permutation built from its text: both programs. Conditions: none.
-/
import Derived.Test.YtfjfobbniglaeaaDoorRbM
import Derived.Test.YtfjfobbniglaeaaDoorRpl
import Derived.Test.YtfjfobbniglaeaaDoorLib
import Derived.Test.YtfjfobbniglaeaaDoorPerm
import Derived.Test.YtfjfobbniglaeaaDoorMod2
set_option linter.unusedSimpArgs false
set_option linter.unusedVariables false
set_option maxRecDepth 20000
set_option linter.unusedSectionVars false
namespace Go.Gl
open Go Go.Proofs
variable [Amb] [NoQ]
theorem pp_ne {c : UInt8} {v : Int} (h : ppL c v ≠ []) : ((c.toNat : Int) = 102 ∧ ppL c v = [v]) ∨ ((c.toNat : Int) = 108 ∧ ppL c v = [v, 0]) ∨ ((c.toNat : Int) = 114 ∧ ppL c v = [0, v]) ∨ ((c.toNat : Int) = 109 ∧ ppL c v = [0, v, 0]) := by
  unfold ppL at h ⊢; (repeat' split at h) <;> simp_all
theorem pp_yes {c : UInt8} {v : Int} (h : (c.toNat : Int) = 102 ∨ (c.toNat : Int) = 108 ∨ (c.toNat : Int) = 114 ∨ (c.toNat : Int) = 109) : ppL c v ≠ [] := by
  have q : ∀ n : Nat, n < 256 → (c.toNat : Int) = n → c = UInt8.ofNat n := fun n hn e => by
    apply UInt8.toNat_inj.1
    rw [UInt8.toNat_ofNat']; omega
  unfold ppL
  rcases h with h | h | h | h
  · rw [q 102 (by omega) h]; simp
  · rw [q 108 (by omega) h]; simp
  · rw [q 114 (by omega) h]; simp
  · rw [q 109 (by omega) h]; simp
theorem len_a1 {α : Type} {l : List α} {x : α} : (l ++ [x]).length = l.length + 1 := by simp
theorem spec_l33Put_c {m0 : Bool} (L : List Int) (v : Int) (c : UInt8) (s : Int) (hl : L.length ≤ 1000) (hs : -1000 ≤ s) (hs2 : s ≤ 1000) (hp : ppL c v ≠ []) : Fun Tryd.prog 36 [(.sl (.lent m0) (List.map (PV.int .i64) (L))), (.int .i64 (v)), (.int .u8 ((c.toNat : Int))), (.int .i64 (s))] [(.sl .own (List.map (PV.int .i64) (ptL L (ppL c v) s L.length))), (.bool (decide (0 ≤ atF L s L.length)))] := by
  refine fO sg0 [8, 9] Tryd.func36 ?_
  refine dEa trivial ?_
  all_goals try (refine zlf ?_; repeat' first | exact zso | refine And.intro ?_ ?_ | (refine zim ?_; intro zb hc) | (refine zin ?_; intro zb) | intro j')
  all_goals try refine zbx ?_
  refine v_loopB (fun ms1 S1 => ∃ (j : Nat), S1.e 0 = .p (.sl (.lent m0) (List.map (PV.int .i64) (L))) ∧ S1.e 1 = .p (.int .i64 (v)) ∧ S1.e 2 = .p (.int .u8 ((c.toNat : Int))) ∧ S1.e 3 = .p (.int .i64 (s - zcN L j)) ∧ OwnL (S1.e 10) S1.h S1.n (PV.int .i64) ((ptL L (ppL c v) s j).length) (ptL L (ppL c v) s j) ∧ S1.e 11 = .p (.bool (decide (0 ≤ atF L s j))) ∧ S1.e 12 = .p (.int .i64 (j)) ∧ (j ≤ L.length) ∧ ms1 = L.length - j) ((fun (j : Nat) => L.length - j) (0)) ?_ ⟨0, dC trivial ?_⟩
  all_goals try (refine zlf ?_; repeat' first | exact zso | refine And.intro ?_ ?_ | (refine zim ?_; intro zb hc) | (refine zin ?_; intro zb) | intro j')
  all_goals try refine zbx ?_
  rintro ms1 S1 ⟨j, h1_0, h1_1, h1_2, h1_3, o1_10, h1_11, h1_12, c1_0, hm1⟩
  obtain ⟨i1_10, h1_10, b1_10, l1_10⟩ := o1_10.out
  have ni1_10 := znds (x := i1_10) (n := S1.n)
  have fL1 := (And.intro h1_0 (And.intro h1_1 (And.intro h1_2 (And.intro h1_3 (And.intro h1_11 (And.intro h1_12 (And.intro h1_10 (And.intro b1_10 ni1_10))))))))
  have b1 := zcN_r L j
  have b2 := atF_r (L := L) (s := s) j
  have b3 : (ptL L (ppL c v) s j).length ≤ j + 3 := by
    have := ppL_len c v
    rcases ptL_at (ps := ppL c v) (s := s) c1_0 with ⟨_, h⟩ | ⟨i, _, _, h⟩ <;> rw [h] <;> simp <;> omega
  by_cases hj : j < L.length
  · have b4 : ∀ x : Int, (ptL L (ppL c v) s j ++ [x]).length = (ptL L (ppL c v) s j).length + 1 := fun x => len_a1
    have b5 : ∀ x y : Int, (ptL L (ppL c v) s j ++ [x, y]).length = (ptL L (ppL c v) s j).length + 2 := fun x y => by simp
    rcases pp_ne hp with ⟨e1, e2⟩ | ⟨e1, e2⟩ | ⟨e1, e2⟩ | ⟨e1, e2⟩
    all_goals
      refine dEa (And.intro fL1 (And.intro @e1 (And.intro @b4 @b5))) ?_
      all_goals try (refine zlf ?_; repeat' first | exact zso | refine And.intro ?_ ?_ | (refine zim ?_; intro zb hc) | (refine zin ?_; intro zb) | intro j')
      all_goals try refine zbx ?_
      · have p1 : ¬ (L.getD j 0 = 0 ∧ s - zcN L (j + 1) = 0) := fun h => hc h.1
        focus
          refine q_lp_n ((fun (j : Nat) => L.length - j) (j+1)) (dC fL1 ?_) ⟨j+1, dC fL1 ?_⟩
          all_goals try (refine zlf ?_; repeat' first | exact zso | refine And.intro ?_ ?_ | (refine zim ?_; intro zb hc) | (refine zin ?_; intro zb) | intro j')
          all_goals try refine zbx ?_
        all_goals first | (rw [zcN_n hc]; done) | (rw [ptL, if_neg p1]; done) | (rw [ptL, if_neg p1, len_a1]; done) | (rw [atF, if_neg p1]; done) | skip
      · have hz := zb.1
        have p1 : ¬ (L.getD j 0 = 0 ∧ s - zcN L (j + 1) = 0) := fun h => hc (by have := zcN_0 hz; omega)
        focus
          refine q_lp_n ((fun (j : Nat) => L.length - j) (j+1)) (dC fL1 ?_) ⟨j+1, dC fL1 ?_⟩
          all_goals try (refine zlf ?_; repeat' first | exact zso | refine And.intro ?_ ?_ | (refine zim ?_; intro zb hc) | (refine zin ?_; intro zb) | intro j')
          all_goals try refine zbx ?_
        all_goals first | (rw [zcN_0 hz]; omega) | (rw [ptL, if_neg p1, hz]; done) | (rw [ptL, if_neg p1, len_a1]; done) | (rw [atF, if_neg p1]; done) | skip
      · have hz := zb.1
        have p1 : L.getD j 0 = 0 ∧ s - zcN L (j + 1) = 0 := ⟨hz, by have := zcN_0 hz; omega⟩
        focus
          refine q_lp_n ((fun (j : Nat) => L.length - j) (j+1)) (dC fL1 ?_) ⟨j+1, dC fL1 ?_⟩
          all_goals try (refine zlf ?_; repeat' first | exact zso | refine And.intro ?_ ?_ | (refine zim ?_; intro zb hc) | (refine zin ?_; intro zb) | intro j')
          all_goals try refine zbx ?_
        all_goals first | (rw [zcN_0 hz]; omega) | (rw [ptL, if_pos p1, e2]; simp; done) | (rw [ptL, if_pos p1, e2]; done) | (rw [ptL, if_pos p1, e2]; simp; done) | (rw [atF, if_pos p1]; simp; done) | skip
  · obtain rfl : j = L.length := by omega
    refine dEa fL1 ?_
    all_goals try (refine zlf ?_; repeat' first | exact zso | refine And.intro ?_ ?_ | (refine zim ?_; intro zb hc) | (refine zin ?_; intro zb) | intro j')
    all_goals try refine zbx ?_
  all_goals (rw [zcN]; omega)
theorem dg_r (c : UInt8) : -48 ≤ dgI c ∧ dgI c ≤ 207 := by
  have := c.toNat_lt
  unfold dgI; omega
set_option maxHeartbeats 2000000 in
theorem spec_RunBuilding_c (s : List UInt8) (hl : s.length ≤ 1048576) : Fun Tryd.prog 10 [(.str (s))] [(.sl .own (List.map (PV.int .i64) (rbL s))), (.bool (rbB s))] := by
  refine fO sg0 [2, 3] Tryd.func10 ?_
  have cE1 := @spec_l1In_c; have cE2 := @spec_l33Put_c; have cE3 := @spec_l2Has_c
  by_cases hs : s.length % 2 = 0 ∧ 2 ≤ s.length ∧ s.length ≤ 16
  · obtain ⟨N, hN⟩ : ∃ N, s.length = 2 * N := ⟨s.length / 2, by omega⟩
    have t1 : (s.length : Int).tmod 2 = 0 := mod2' hs.1
    have t2 : (s.length : Int).tdiv 2 = N := by rw [Int.tdiv_eq_ediv_of_nonneg (by omega)]; omega
    refine dEa (And.intro @t1 @t2) ?_
    all_goals try (refine zlf ?_; repeat' first | exact zso | refine And.intro ?_ ?_ | (refine zim ?_; intro zb hc) | (refine zin ?_; intro zb) | intro j')
    all_goals try refine zbx ?_
    refine v_loopB (fun ms1 S1 => ∃ (k : Nat) (L : List Int), S1.e 0 = .p (.str (s)) ∧ OwnL (S1.e 4) S1.h S1.n (PV.int .i64) ((L).length) (L) ∧ S1.e 5 = .p (.int .i64 (2 * (k : Int))) ∧ (k ≤ N) ∧ (rbF s k = some L) ∧ ms1 = N - k) ((fun (k : Nat) (L : List Int) => N - k) (0) ([0])) ?_ ⟨0, [0], dC trivial ?_⟩
    all_goals try (refine zlf ?_; repeat' first | exact zso | refine And.intro ?_ ?_ | (refine zim ?_; intro zb hc) | (refine zin ?_; intro zb) | intro j')
    all_goals try refine zbx ?_
    rintro ms1 S1 ⟨k, L, h1_0, o1_4, h1_5, c1_0, c1_1, hm1⟩
    obtain ⟨i1_4, h1_4, b1_4, l1_4⟩ := o1_4.out
    have ni1_4 := znds (x := i1_4) (n := S1.n)
    have fL1 := (And.intro h1_0 (And.intro h1_5 (And.intro h1_4 (And.intro b1_4 ni1_4))))
    have b1 := rbF_b c1_1
    have b2 := dg_r (s.getD (2 * k + 1) 0)
    have b3 := rbF_succ c1_1
    have b4 := (s.getD (2 * k) 0).toNat_lt
    have b5 := (s.getD (2 * k + 1) 0).toNat_lt
    by_cases hk : k < N
    · have t3 : (2 * (k : Int)).tdiv 2 = k := by rw [Int.tdiv_eq_ediv_of_nonneg (by omega)]; omega
      have t4 : (2 * (k : Int)).toNat = 2 * k := by omega
      have t5 : (2 * (k : Int) + 1).toNat = 2 * k + 1 := by omega
      have d0 : ((s.getD (2 * k + 1) 0).toNat : Int) - 48 = dgI (s.getD (2 * k + 1) 0) := rfl
      have u5 : (Tryd.prog.underlying 5).isSome = true := by kernel_rfl
      cases hst : stepR L ((k : Int) + 1) (s.getD (2 * k) 0) (dgI (s.getD (2 * k + 1) 0)) with
      | none =>
        obtain ⟨f1, f2⟩ := rb_fail (b3.trans hst) (by omega)
        by_cases hp : ppL (s.getD (2 * k) 0) ((k : Int) + 1) = []
        · have n1 : ¬ ((s.getD (2 * k) 0).toNat : Int) = 102 := fun e => pp_yes (.inl e) hp
          have n2 : ¬ ((s.getD (2 * k) 0).toNat : Int) = 108 := fun e => pp_yes (.inr (.inl e)) hp
          have n3 : ¬ ((s.getD (2 * k) 0).toNat : Int) = 114 := fun e => pp_yes (.inr (.inr (.inl e))) hp
          have n4 : ¬ ((s.getD (2 * k) 0).toNat : Int) = 109 := fun e => pp_yes (.inr (.inr (.inr e))) hp
          refine dEa (And.intro fL1 (And.intro @t3 (And.intro @t4 (And.intro @t5 (And.intro @d0 (And.intro @u5 (And.intro @n1 (And.intro @n2 (And.intro @n3 (And.intro @n4 (And.intro @f1 @f2))))))))))) ?_
          all_goals try (refine zlf ?_; repeat' first | exact zso | refine And.intro ?_ ?_ | (refine zim ?_; intro zb hc) | (refine zin ?_; intro zb) | intro j')
          all_goals try refine zbx ?_
        · have a1 := stepR_no (by omega) hst hp
          rcases pp_ne hp with ⟨e1, _⟩ | ⟨e1, _⟩ | ⟨e1, _⟩ | ⟨e1, _⟩
          all_goals
            have c1 := spec_l33Put_c (m0 := true) L ((k : Int) + 1) (s.getD (2 * k) 0) (dgI (s.getD (2 * k + 1) 0)) (by omega) (by omega) (by omega) hp
            rw [e1] at c1
            have cE1 := @c1; have cE2 := @spec_l1In_c
            refine dEa (And.intro fL1 (And.intro @t3 (And.intro @t4 (And.intro @t5 (And.intro @d0 (And.intro @u5 (And.intro @e1 (And.intro @a1 (And.intro @f1 @f2))))))))) ?_
            all_goals try (refine zlf ?_; repeat' first | exact zso | refine And.intro ?_ ?_ | (refine zim ?_; intro zb hc) | (refine zin ?_; intro zb) | intro j')
            all_goals try refine zbx ?_
      | some R =>
        obtain ⟨hp, a1, e2⟩ := stepR_yes hst
        obtain ⟨q1, q2, q3, q4, _⟩ := stepR_b (by omega) hst
        rcases pp_ne hp with ⟨e1, _⟩ | ⟨e1, _⟩ | ⟨e1, _⟩ | ⟨e1, _⟩
        all_goals
          have c1 := spec_l33Put_c (m0 := true) L ((k : Int) + 1) (s.getD (2 * k) 0) (dgI (s.getD (2 * k + 1) 0)) (by omega) (by omega) (by omega) hp
          rw [e1, e2] at c1
          have cE1 := @c1; have cE2 := @spec_l1In_c
          refine dEa (And.intro fL1 (And.intro @t3 (And.intro @t4 (And.intro @t5 (And.intro @d0 (And.intro @u5 (And.intro @e1 @a1))))))) ?_
          all_goals try (refine zlf ?_; repeat' first | exact zso | refine And.intro ?_ ?_ | (refine zim ?_; intro zb hc) | (refine zin ?_; intro zb) | intro j')
          all_goals try refine zbx ?_
          focus
            refine q_lp_n ((fun (k : Nat) (L : List Int) => N - k) (k+1) (R)) (dC fL1 ?_) ⟨k+1, R, dC fL1 ?_⟩
            all_goals try (refine zlf ?_; repeat' first | exact zso | refine And.intro ?_ ?_ | (refine zim ?_; intro zb hc) | (refine zin ?_; intro zb) | intro j')
            all_goals try refine zbx ?_
          exact b3.trans hst
    · obtain rfl : k = N := by omega
      by_cases h0 : L.contains 0 = true
      · obtain ⟨f1, f2⟩ := rb_zero c1_1 hN h0
        have cE1 := @spec_l1In_c; have cE2 := @spec_l33Put_c
        refine dEa (And.intro fL1 (And.intro @h0 (And.intro @f1 @f2))) ?_
        all_goals try (refine zlf ?_; repeat' first | exact zso | refine And.intro ?_ ?_ | (refine zim ?_; intro zb hc) | (refine zin ?_; intro zb) | intro j')
        all_goals try refine zbx ?_
      · have h0 : L.contains 0 = false := by simpa using h0
        obtain ⟨f1, f2⟩ := rb_ok c1_1 hN hs.2.1 hs.2.2 h0
        have cE1 := @spec_l1In_c; have cE2 := @spec_l33Put_c
        refine dEa (And.intro fL1 (And.intro @h0 (And.intro @f1 @f2))) ?_
        all_goals try (refine zlf ?_; repeat' first | exact zso | refine And.intro ?_ ?_ | (refine zim ?_; intro zb hc) | (refine zin ?_; intro zb) | intro j')
        all_goals try refine zbx ?_
  · skip
    obtain ⟨f1, f2⟩ := rb_len hs
    by_cases h2 : s.length % 2 = 0
    · have t1 : (s.length : Int).tmod 2 = 0 := mod2' h2
      have t2 : (s.length : Int).tdiv 2 = (s.length / 2 : Nat) := by rw [Int.tdiv_eq_ediv_of_nonneg (by omega)]; omega
      have t3 : ¬ (1 ≤ s.length / 2 ∧ s.length / 2 ≤ 8) := by omega
      have cE1 := @spec_l1In_c; have cE2 := @spec_l33Put_c
      refine dEa (And.intro @t1 (And.intro @t2 (And.intro @f1 @f2))) ?_
      all_goals try (refine zlf ?_; repeat' first | exact zso | refine And.intro ?_ ?_ | (refine zim ?_; intro zb hc) | (refine zin ?_; intro zb) | intro j')
      all_goals try refine zbx ?_
    · have t1 : ¬ (s.length : Int).tmod 2 = 0 := fun e => h2 (mod2 e)
      have cE1 := @spec_l1In_c; have cE2 := @spec_l33Put_c
      refine dEa (And.intro @t1 (And.intro @f1 @f2)) ?_
      all_goals try (refine zlf ?_; repeat' first | exact zso | refine And.intro ?_ ?_ | (refine zim ?_; intro zb hc) | (refine zin ?_; intro zb) | intro j')
      all_goals try refine zbx ?_
theorem mgI {a b : Int} {x : PV} {es : List (PV × PV)} : mget ((.int .u8 a, x) :: es) (.int .u8 b) = if b = a then some x else mget es (.int .u8 b) := by
  simp [mget, kV, kV1, eq_comm]
theorem mgN {q : PV} : mget [] q = none := rfl
theorem ko8 {a : Int} (h0 : 0 ≤ a) (h1 : a ≤ 255) : kOf Tryd.prog 5 (kV (.int .u8 a)) :=
  ⟨_, Maps.keyOf_int_mk (show Tryd.prog.underlying 5 = some (.int .u8) by kernel_rfl) (by simp only [Lit.wf, decide_eq_true_eq, Bool.and_eq_true]; exact ⟨h0, h1⟩)⟩
theorem b_nlf {P : Program} {t : TypeId} {m : Bool} {ys xs : List PV} {V : PV → Prop} : binW P .eql t (.p (.sl (.lent m) ys)) (.p (.sl .own xs)) V = (slcT P t ∧ 0 < ys.length ∧ V (.bool false)) := by cases m <;> rfl
attribute [go_sem] b_nlf
def sgRb : FuncId → List Bool := fun f => if f = 33 then [true] else []
theorem sgRb_eq {f : FuncId} : sgRb f = if f = 33 then [true] else [] := _root_.id rfl
theorem way_sgRb : wayE sgRb = false ∧ wayN sgRb = false ∧ wayS sgRb = false ∧ wayZ sgRb = false ∧ wayM sgRb = false := ⟨rfl, rfl, rfl, rfl, rfl⟩
attribute [go_sem] sgRb_eq way_sgRb
set_option maxHeartbeats 2000000 in
theorem impl_RunBuilding_c (s : List UInt8) (hl : s.length ≤ 1048576) : Fun Tryd.prog 9 [(.str (s))] [(.sl .own (List.map (PV.int .i64) (rbL s))), (.bool (rbB s))] := by
  refine fO sgRb [2, 3] Tryd.func9 ?_
  have cE1 := @slices_Contains_int_int_c
  by_cases hs : s.length % 2 = 0 ∧ 2 ≤ s.length ∧ s.length ≤ 16
  · obtain ⟨N, hN⟩ : ∃ N, s.length = 2 * N := ⟨s.length / 2, by omega⟩
    have t1 : (s.length : Int).tmod 2 = 0 := mod2' hs.1
    refine dEa @t1 ?_
    all_goals try (refine zlf ?_; repeat' first | exact zso | refine And.intro ?_ ?_ | (refine zim ?_; intro zb hc) | (refine zin ?_; intro zb) | intro j')
    all_goals try refine zbx ?_
    refine v_loopB (fun ms1 S1 => ∃ (k : Nat) (L : List Int), S1.e 0 = .p (.str (s)) ∧ OwnL (S1.e 4) S1.h S1.n (PV.int .i64) ((L).length) (L) ∧ S1.e 5 = .p (.int .i64 (2 * (k : Int))) ∧ (k ≤ N) ∧ (rbF s k = some L) ∧ ms1 = N - k) ((fun (k : Nat) (L : List Int) => N - k) (0) ([0])) ?_ ⟨0, [0], dC trivial ?_⟩
    all_goals try (refine zlf ?_; repeat' first | exact zso | refine And.intro ?_ ?_ | (refine zim ?_; intro zb hc) | (refine zin ?_; intro zb) | intro j')
    all_goals try refine zbx ?_
    rintro ms1 S1 ⟨k, L, h1_0, o1_4, h1_5, c1_0, c1_1, hm1⟩
    obtain ⟨i1_4, h1_4, b1_4, l1_4⟩ := o1_4.out
    have ni1_4 := znds (x := i1_4) (n := S1.n)
    have fL1 := (And.intro h1_0 (And.intro h1_5 (And.intro h1_4 (And.intro b1_4 ni1_4))))
    have b1 := rbF_b c1_1
    have b2 := dg_r (s.getD (2 * k + 1) 0)
    have b3 := rbF_succ c1_1
    have b4 := (s.getD (2 * k) 0).toNat_lt
    have b5 := (s.getD (2 * k + 1) 0).toNat_lt
    by_cases hk : k < N
    · have t3 : (2 * (k : Int)).tdiv 2 = k := by rw [Int.tdiv_eq_ediv_of_nonneg (by omega)]; omega
      have t4 : (2 * (k : Int)).toNat = 2 * k := by omega
      have t5 : (2 * (k : Int) + 1).toNat = 2 * k + 1 := by omega
      have d0 : ((s.getD (2 * k + 1) 0).toNat : Int) - 48 = dgI (s.getD (2 * k + 1) 0) := rfl
      have u5 : (Tryd.prog.underlying 5).isSome = true := by kernel_rfl
      refine dEa (And.intro fL1 (And.intro @t3 (And.intro @t4 (And.intro @t5 (And.intro @d0 @u5))))) ?_
      all_goals try (refine zlf ?_; repeat' first | exact zso | refine And.intro ?_ ?_ | (refine zim ?_; intro zb hc) | (refine zin ?_; intro zb) | intro j')
      all_goals try refine zbx ?_
      refine v_loopB (fun ms2 S2 => ∃ (j : Nat), S2.e 0 = .p (.str (s)) ∧ OwnL (S2.e 4) S2.h S2.n (PV.int .i64) ((L).length) (L) ∧ S2.e 5 = .p (.int .i64 (2 * (k : Int))) ∧ S2.e 6 = .p (.int .i64 (dgI (s.getD (2 * k + 1) 0) - zcN L j)) ∧ S2.e 7 = .p (.int .i64 (atF L (dgI (s.getD (2 * k + 1) 0)) j)) ∧ S2.e 39 = S2.e 4 ∧ S2.e 40 = .p (.int .i64 (L.length)) ∧ S2.e 41 = .p (.int .i64 (j)) ∧ (j ≤ L.length) ∧ S1.n ≤ S2.n ∧ ms2 = L.length - j) ((fun (j : Nat) => L.length - j) (0)) ?_ ⟨0, dC fL1 ?_⟩
      all_goals try (refine zlf ?_; repeat' first | exact zso | refine And.intro ?_ ?_ | (refine zim ?_; intro zb hc) | (refine zin ?_; intro zb) | intro j')
      all_goals try refine zbx ?_
      rintro ms2 S2 ⟨j, h2_0, o2_4, h2_5, h2_6, h2_7, h2_39, h2_40, h2_41, c2_0, u2_0, hm2⟩
      obtain ⟨i2_4, h2_4, b2_4, l2_4⟩ := o2_4.out
      have ni2_4 := znds (x := i2_4) (n := S2.n)
      have fL2 := (And.intro h2_0 (And.intro h2_5 (And.intro h2_6 (And.intro h2_7 (And.intro h2_39 (And.intro h2_40 (And.intro h2_41 (And.intro h2_4 (And.intro b2_4 ni2_4)))))))))
      have g1 := zcN_r L j
      have g2 := atF_r (L := L) (s := dgI (s.getD (2 * k + 1) 0)) j
      by_cases hj : j < L.length
      · refine dEa fL2 ?_
        all_goals try (refine zlf ?_; repeat' first | exact zso | refine And.intro ?_ ?_ | (refine zim ?_; intro zb hc) | (refine zin ?_; intro zb) | intro j')
        all_goals try refine zbx ?_
        · have hz := zb.1
          focus
            refine q_lp_n ((fun (j : Nat) => L.length - j) (j+1)) (dC fL2 ?_) ⟨j+1, dC fL2 ?_⟩
            all_goals try (refine zlf ?_; repeat' first | exact zso | refine And.intro ?_ ?_ | (refine zim ?_; intro zb hc) | (refine zin ?_; intro zb) | intro j')
            all_goals try refine zbx ?_
          all_goals first | (rw [zcN_0 hz]; omega) | (rw [atF, if_pos ⟨hz, by have := zcN_0 hz; omega⟩]; done) | skip
        · have hz := zb.1
          focus
            refine q_lp_n ((fun (j : Nat) => L.length - j) (j+1)) (dC fL2 ?_) ⟨j+1, dC fL2 ?_⟩
            all_goals try (refine zlf ?_; repeat' first | exact zso | refine And.intro ?_ ?_ | (refine zim ?_; intro zb hc) | (refine zin ?_; intro zb) | intro j')
            all_goals try refine zbx ?_
          all_goals first | (rw [zcN_0 hz]; omega) | (rw [atF, if_neg fun h => hc (by have := zcN_0 hz; omega)]; done) | skip
        · focus
            refine q_lp_n ((fun (j : Nat) => L.length - j) (j+1)) (dC fL2 ?_) ⟨j+1, dC fL2 ?_⟩
            all_goals try (refine zlf ?_; repeat' first | exact zso | refine And.intro ?_ ?_ | (refine zim ?_; intro zb hc) | (refine zin ?_; intro zb) | intro j')
            all_goals try refine zbx ?_
          all_goals first | (rw [zcN_n hc]; done) | (rw [atF, if_neg fun h => hc h.1]; done) | skip
      · obtain rfl : j = L.length := by omega
        have k8 := @ko8
        cases hst : stepR L ((k : Int) + 1) (s.getD (2 * k) 0) (dgI (s.getD (2 * k + 1) 0)) with
        | none =>
          obtain ⟨f1, f2⟩ := rb_fail (b3.trans hst) (by omega)
          by_cases a1 : atF L (dgI (s.getD (2 * k + 1) 0)) L.length < 0
          · refine dEa (And.intro fL2 (And.intro @t3 (And.intro @t4 (And.intro @t5 (And.intro @d0 (And.intro @u5 (And.intro @a1 (And.intro @f1 @f2)))))))) ?_
            all_goals try (refine zlf ?_; repeat' first | exact zso | refine And.intro ?_ ?_ | (refine zim ?_; intro zb hc) | (refine zin ?_; intro zb) | intro j')
            all_goals try refine zbx ?_
          · have hp : ppL (s.getD (2 * k) 0) ((k : Int) + 1) = [] := by
              by_cases hp : ppL (s.getD (2 * k) 0) ((k : Int) + 1) = []
              · exact hp
              · exact absurd (stepR_no (by omega) hst hp) a1
            have n1 : ¬ ((s.getD (2 * k) 0).toNat : Int) = 102 := fun e => pp_yes (.inl e) hp
            have n2 : ¬ ((s.getD (2 * k) 0).toNat : Int) = 108 := fun e => pp_yes (.inr (.inl e)) hp
            have n3 : ¬ ((s.getD (2 * k) 0).toNat : Int) = 114 := fun e => pp_yes (.inr (.inr (.inl e))) hp
            have n4 : ¬ ((s.getD (2 * k) 0).toNat : Int) = 109 := fun e => pp_yes (.inr (.inr (.inr e))) hp
            have k9 := ko8 (a := ((s.getD (2 * k) 0).toNat : Int)) (by omega) (by omega)
            refine dEa (And.intro fL2 (And.intro @t3 (And.intro @t4 (And.intro @t5 (And.intro @d0 (And.intro @u5 (And.intro @a1 (And.intro @f1 (And.intro @f2 (And.intro @n1 (And.intro @n2 (And.intro @n3 (And.intro @n4 (And.intro @k8 (And.intro @k9 (And.intro @mgI @mgN)))))))))))))))) ?_
            all_goals try (refine zlf ?_; repeat' first | exact zso | refine And.intro ?_ ?_ | (refine zim ?_; intro zb hc) | (refine zin ?_; intro zb) | intro j')
            all_goals try refine zbx ?_
        | some R =>
          obtain ⟨hp, a1, e2⟩ := stepR_yes hst
          obtain ⟨q1, q2, q3, q4, _⟩ := stepR_b (by omega) hst
          obtain ⟨i, hi⟩ : ∃ i : Nat, atF L (dgI (s.getD (2 * k + 1) 0)) L.length = i := ⟨(atF L (dgI (s.getD (2 * k + 1) 0)) L.length).toNat, by omega⟩
          have hR := stepR_at hp hi
          rw [hst] at hR
          have hi2 := (atF_at hi).1
          rcases pp_ne hp with ⟨e1, e3⟩ | ⟨e1, e3⟩ | ⟨e1, e3⟩ | ⟨e1, e3⟩
          all_goals
            rw [e3] at hR
            have c1 := fun m0 => rpl_call (m0 := m0) L (ppL (s.getD (2 * k) 0) ((k : Int) + 1)) i hi2 (List.length_pos_iff.2 hp) (by omega) (by have := ppL_len (s.getD (2 * k) 0) ((k : Int) + 1); omega)
            simp only [e3, List.map_cons, List.map_nil] at c1
            rw [← Option.some.inj hR] at c1
            have l8 : L.length < 100 := by omega
            have l9 : i < L.length := hi2
            have cM1 := @c1
            refine dEa (And.intro fL2 (And.intro @t3 (And.intro @t4 (And.intro @t5 (And.intro @d0 (And.intro @u5 (And.intro @e1 (And.intro @hi (And.intro @k8 (And.intro @mgI @mgN)))))))))) ?_
            all_goals try (refine zlf ?_; repeat' first | exact zso | refine And.intro ?_ ?_ | (refine zim ?_; intro zb hc) | (refine zin ?_; intro zb) | intro j')
            all_goals try refine zbx ?_
            focus
              refine q_lp_n ((fun (k : Nat) (L : List Int) => N - k) (k+1) (R)) (dC fL1 ?_) ⟨k+1, R, dC fL1 ?_⟩
              all_goals try (refine zlf ?_; repeat' first | exact zso | refine And.intro ?_ ?_ | (refine zim ?_; intro zb hc) | (refine zin ?_; intro zb) | intro j')
              all_goals try refine zbx ?_
            exact b3.trans hst
      all_goals (rw [zcN]; omega)
    · skip
      obtain rfl : k = N := by omega
      by_cases h0 : L.contains 0 = true
      · obtain ⟨f1, f2⟩ := rb_zero c1_1 hN h0
        have cM1 := trivial
        refine dEa (And.intro fL1 (And.intro @h0 (And.intro @f1 @f2))) ?_
        all_goals try (refine zlf ?_; repeat' first | exact zso | refine And.intro ?_ ?_ | (refine zim ?_; intro zb hc) | (refine zin ?_; intro zb) | intro j')
        all_goals try refine zbx ?_
      · have h0 : L.contains 0 = false := by simpa using h0
        obtain ⟨f1, f2⟩ := rb_ok c1_1 hN hs.2.1 hs.2.2 h0
        have cM1 := trivial
        refine dEa (And.intro fL1 (And.intro @h0 (And.intro @f1 @f2))) ?_
        all_goals try (refine zlf ?_; repeat' first | exact zso | refine And.intro ?_ ?_ | (refine zim ?_; intro zb hc) | (refine zin ?_; intro zb) | intro j')
        all_goals try refine zbx ?_
  · skip
    obtain ⟨f1, f2⟩ := rb_len hs
    by_cases h2 : s.length % 2 = 0
    · have t1 : (s.length : Int).tmod 2 = 0 := mod2' h2
      have t3 : (s.length : Int) < 2 ∨ 16 < (s.length : Int) := by omega
      have cM1 := trivial
      refine dEa (And.intro @t1 (And.intro @f1 @f2)) ?_
      all_goals try (refine zlf ?_; repeat' first | exact zso | refine And.intro ?_ ?_ | (refine zim ?_; intro zb hc) | (refine zin ?_; intro zb) | intro j')
      all_goals try refine zbx ?_
    · have t1 : ¬ (s.length : Int).tmod 2 = 0 := fun e => h2 (mod2 e)
      have cM1 := trivial
      refine dEa (And.intro @t1 (And.intro @f1 @f2)) ?_
      all_goals try (refine zlf ?_; repeat' first | exact zso | refine And.intro ?_ ?_ | (refine zim ?_; intro zb hc) | (refine zin ?_; intro zb) | intro j')
      all_goals try refine zbx ?_
end Go.Gl
