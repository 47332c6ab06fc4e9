/-
  Draws of grids. Conditions: none.
-/
import Derived.Test.YtknmheddofilbaaDraw
import Derived.Test.YtknmheddofilbaaDg
set_option linter.unusedSimpArgs false
set_option linter.unusedVariables false
set_option maxRecDepth 20000
set_option linter.unusedSectionVars false
namespace Go.Gl
open Go Go.Proofs
variable [Amb]
def sgCuN : FuncId → List Bool := fun f => if f = 148 then [true] else if f = 89 then [true] else if f = 88 then [true] else if f = 134 then [true] else if f = 119 then [true] else if f = 144 then [true] else if f = 180 then [true] else if f = 143 then [true] else if f = 90 then [true] else if f = 4294967297 then [true, false, false] else []
theorem sgCuN_eq {f : FuncId} : sgCuN f = if f = 148 then [true] else if f = 89 then [true] else if f = 88 then [true] else if f = 134 then [true] else if f = 119 then [true] else if f = 144 then [true] else if f = 180 then [true] else if f = 143 then [true] else if f = 90 then [true] else if f = 4294967297 then [true, false, false] else [] := _root_.id rfl
theorem way_sgCuN : wayE sgCuN = false ∧ wayN sgCuN = true ∧ wayS sgCuN = false ∧ wayZ sgCuN = false := ⟨rfl, rfl, rfl, rfl⟩
attribute [go_sem] sgCuN_eq way_sgCuN
theorem ad_d2 {k : Nat} {C : R → Prop} {m : Bool} {U : List (List Int)} {v : Int} {id len j n : Nat} : adB (dk (PV.int .i64) m U) (.deep false [.row 0] [some [PV.int .i64 v]]) id len j n k C = adB (dk (PV.int .i64) m U) (dk (PV.int .i64) false [[v]]) id len j n k C := _root_.id rfl
attribute [go_sem] ad_d2
def pkX (b : List UInt8) (s : Cu) : Int := [1, -1, 1, -1, (0 : Int)].getD (bwX b s 5).toNat 0
theorem pkX_r {b : List UInt8} {s : Cu} : -1 ≤ pkX b s ∧ pkX b s ≤ 1 := by
  have q := bwX_r (b := b) (s := s) (n := 5)
  have h : pkX b s ∈ [1, -1, 1, -1, (0 : Int)] := getD_mem (by simp; omega)
  simp at h; omega
theorem spec_l1PickInt_d {m0 : Bool} (b : List UInt8) (s : Cu) (l : List Int) (hb : b.length ≤ 1048576) (hl : l.length ≤ 256) (h0 : 0 < l.length) : CallT Try.prog false 119 [.mu true (curC b s), .pv (.sl (.lent m0) (List.map (PV.int .i64) l))] [some (curC b (bwS b s l.length)), none] [.int .i64 (l.getD (bwX b s l.length).toNat 0)] := by
  have q := bwX_r (b := b) (s := s) (n := l.length)
  refine fX sgCu [4] Try.func119 ?_
  have cM1 := @spec_l1Below_c
  refine dEa trivial ?_
  all_goals try (refine zlf ?_; repeat' first | exact zso | refine And.intro ?_ ?_ | (refine zim ?_; intro zb hc) | (refine zin ?_; intro zb) | intro j')
  all_goals try refine zbx ?_
theorem pk_c {m0 : Bool} (b : List UInt8) (s : Cu) (hb : b.length ≤ 1048576) : CallT Try.prog false 119 [.mu true (curC b s), .pv (.sl (.lent m0) [.int .i64 1, .int .i64 (-1), .int .i64 1, .int .i64 (-1), .int .i64 0])] [some (curC b (bwS b s 5)), none] [.int .i64 (pkX b s)] :=
  spec_l1PickInt_d (m0 := m0) b s [1, -1, 1, -1, 0] hb (by decide) (by decide)
def rwL (b : List UInt8) (s : Cu) : Nat → List Int × Cu
  | 0 => ([], s)
  | k + 1 => ((rwL b s k).1 ++ [pkX b (rwL b s k).2], bwS b (rwL b s k).2 5)
theorem rwL_p {b : List UInt8} {s : Cu} : ∀ {k : Nat}, (rwL b s k).1.length = k ∧ ∀ x ∈ (rwL b s k).1, -1 ≤ x ∧ x ≤ 1
  | 0 => by simp [rwL]
  | k + 1 => by
    obtain ⟨h1, h2⟩ := rwL_p (b := b) (s := s) (k := k)
    rw [rwL]
    refine ⟨by simp [h1], fun x hx => ?_⟩
    rcases List.mem_append.1 hx with q | q
    · exact h2 x q
    · rw [List.mem_singleton] at q; subst q; exact pkX_r
def gdL (b : List UInt8) (s : Cu) (C : Nat) : Nat → List (List Int) × Cu
  | 0 => ([], s)
  | r + 1 => ((gdL b s C r).1 ++ [(rwL b (gdL b s C r).2 C).1], (rwL b (gdL b s C r).2 C).2)
theorem gdL_p {b : List UInt8} {s : Cu} {C : Nat} : ∀ {r : Nat}, (gdL b s C r).1.length = r ∧ ∀ l ∈ (gdL b s C r).1, l.length = C ∧ ∀ x ∈ l, -1 ≤ x ∧ x ≤ 1
  | 0 => by simp [gdL]
  | r + 1 => by
    obtain ⟨h1, h2⟩ := gdL_p (b := b) (s := s) (C := C) (r := r)
    have h3 := rwL_p (b := b) (s := (gdL b s C r).2) (k := C)
    rw [gdL]
    refine ⟨by simp [h1], fun l hl => ?_⟩
    rcases List.mem_append.1 hl with q | q
    · exact h2 l q
    · rw [List.mem_singleton] at q; subst q; exact h3
/-- A grid, or nearly. -/
structure GrL (m : List (List Int)) : Prop where
  len : m.length ≤ 3
  row : ∀ l ∈ m, l.length ≤ 3
  rg : ∀ l ∈ m, ∀ x ∈ l, -1 ≤ x ∧ x ≤ 2
def gdF (m : List (List Int)) (x : Int) : List (List Int) := if x = 0 then m.set 0 ((m.getD 0 []).set 0 2) else if x = 1 then m ++ [[1]] else if x = 2 then [] else m
theorem gdF_p {m : List (List Int)} {x : Int} (h1 : m.length ≤ 2) (h2 : ∀ l ∈ m, l.length ≤ 3 ∧ ∀ x ∈ l, -1 ≤ x ∧ x ≤ 1) : GrL (gdF m x) := by
  have base : ∀ l ∈ m, l.length ≤ 3 ∧ ∀ x ∈ l, -1 ≤ x ∧ x ≤ 2 := fun l hl => ⟨(h2 l hl).1, fun x hx => by have := (h2 l hl).2 x hx; omega⟩
  have key : (gdF m x).length ≤ 3 ∧ ∀ l ∈ gdF m x, l.length ≤ 3 ∧ ∀ x ∈ l, -1 ≤ x ∧ x ≤ 2 := by
    unfold gdF
    split
    · refine ⟨by rw [List.length_set]; omega, fun l hl => ?_⟩
      rcases List.mem_or_eq_of_mem_set hl with q | q
      · exact base l q
      · subst q
        by_cases hm : 0 < m.length
        · obtain ⟨b1, b2⟩ := base _ (getD_mem (d := []) hm)
          refine ⟨by rw [List.length_set]; exact b1, fun x hx => ?_⟩
          rcases List.mem_or_eq_of_mem_set hx with g | g
          · exact b2 x g
          · omega
        · have : m = [] := List.eq_nil_of_length_eq_zero (by omega)
          subst this; simp
    · split
      · refine ⟨by simp; omega, fun l hl => ?_⟩
        rcases List.mem_append.1 hl with q | q
        · exact base l q
        · rw [List.mem_singleton] at q; subst q; simp
      · split
        · simp
        · exact ⟨by omega, base⟩
  exact ⟨key.1, fun l hl => (key.2 l hl).1, fun l hl => (key.2 l hl).2⟩
set_option maxHeartbeats 1600000 in
theorem spec_l32Draw_x (b : List UInt8) (s : Cu) (hb : b.length ≤ 1048576) : ∃ s' m, CallT Try.prog false 90 [.mu true (curC b s)] [some (curC b s')] [.dl (List.map (List.map (PV.int .i64)) m)] ∧ GrL m := by
  have q1 := bwX_r (b := b) (s := s) (n := 2)
  have q2 := bwX_r (b := b) (s := bwS b s 2) (n := 3)
  obtain ⟨M, hM⟩ : ∃ M : Nat, bwX b s 2 = M := ⟨_, (Int.toNat_of_nonneg q1.1).symm⟩
  obtain ⟨N, hN⟩ : ∃ N : Nat, bwX b (bwS b s 2) 3 = N := ⟨_, (Int.toNat_of_nonneg q2.1).symm⟩
  rw [hM] at q1; rw [hN] at q2
  have hM2 : M ≤ 1 := by omega
  have hN2 : N ≤ 2 := by omega
  obtain ⟨s0, hs0⟩ : ∃ s0, bwS b (bwS b s 2) 3 = s0 := ⟨_, rfl⟩
  obtain ⟨gl, gr⟩ := gdL_p (b := b) (s := s0) (C := N + 1) (r := M + 1)
  obtain ⟨x, hx⟩ : ∃ x, bwX b (gdL b s0 (N + 1) (M + 1)).2 16 = x := ⟨_, rfl⟩
  refine ⟨bwS b (gdL b s0 (N + 1) (M + 1)).2 16, gdF (gdL b s0 (N + 1) (M + 1)).1 x, ?_, gdF_p (by omega) fun l hl => ⟨by rw [(gr l hl).1]; omega, (gr l hl).2⟩⟩
  refine fX sgCuN [2] Try.func90 ?_
  have cM1 := @spec_l1Below_c
  refine dEa (And.intro @hM (And.intro @hN @hs0)) ?_
  all_goals try (refine zlf ?_; repeat' first | exact zso | refine And.intro ?_ ?_ | (refine zim ?_; intro zb hc) | (refine zin ?_; intro zb) | intro j')
  all_goals try refine zbx ?_
  refine v_loopB (fun ms1 S1 => ∃ (r : Nat), S1.e 0 = .ptr 0 0 ∧ S1.h 0 = .live true (curC b (gdL b s0 (N+1) r).2) ∧ 0 < S1.n ∧ DwnL (S1.e 3) S1.h S1.n (PV.int .i64) (((gdL b s0 (N+1) r).1).length) ((gdL b s0 (N+1) r).1) ∧ S1.e 4 = .p (.int .i64 ((1 + (M : Int)))) ∧ S1.e 5 = .p (.int .i64 ((1 + (N : Int)))) ∧ S1.e 6 = .p (.int .i64 (r)) ∧ (r ≤ M + 1) ∧ NId (S1.e 3) (.ref 0 0 0) ∧ ms1 = M + 1 - r) ((fun (r : Nat) => M + 1 - r) (0)) ?_ ⟨0, dC trivial ?_⟩
  all_goals try (refine zlf ?_; repeat' first | exact zso | refine And.intro ?_ ?_ | (refine zim ?_; intro zb hc) | (refine zin ?_; intro zb) | intro j')
  all_goals try refine zbx ?_
  rintro ms1 S1 ⟨r, h1_0, b1_0, l1_0, o1_3, h1_4, h1_5, h1_6, c1_0, u1_0, hm1⟩
  obtain ⟨i1_3, h1_3, b1_3, l1_3⟩ := o1_3.out
  have k1_0 := (u1_0).out h1_3 rfl
  have ni1_3 := znds (x := i1_3) (n := S1.n)
  have n0 := znds (x := 0) (n := S1.n)
  have di1_30 := zdne (x := i1_3) (y := 0)
  have fL1 := (And.intro h1_0 (And.intro b1_0 (And.intro h1_4 (And.intro h1_5 (And.intro h1_6 (And.intro h1_3 (And.intro b1_3 (And.intro ni1_3 (And.intro n0 di1_30)))))))))
  · obtain ⟨w1, w2⟩ := gdL_p (b := b) (s := s0) (C := N + 1) (r := r)
    by_cases hr : r < M + 1
    · refine dEa fL1 ?_
      all_goals try (refine zlf ?_; repeat' first | exact zso | refine And.intro ?_ ?_ | (refine zim ?_; intro zb hc) | (refine zin ?_; intro zb) | intro j')
      all_goals try refine zbx ?_
      refine v_loopB (fun ms2 S2 => ∃ (k : Nat), S2.e 0 = .ptr 0 0 ∧ S2.h 0 = .live true (curC b (rwL b (gdL b s0 (N+1) r).2 k).2) ∧ 0 < S2.n ∧ DwnL (S2.e 3) S2.h S2.n (PV.int .i64) (((gdL b s0 (N+1) r).1).length) ((gdL b s0 (N+1) r).1) ∧ S2.e 4 = .p (.int .i64 ((1 + (M : Int)))) ∧ S2.e 5 = .p (.int .i64 ((1 + (N : Int)))) ∧ S2.e 6 = .p (.int .i64 (r)) ∧ OwnL (S2.e 7) S2.h S2.n (PV.int .i64) (((rwL b (gdL b s0 (N+1) r).2 k).1).length) ((rwL b (gdL b s0 (N+1) r).2 k).1) ∧ S2.e 8 = .p (.int .i64 (k)) ∧ (k ≤ N + 1) ∧ NId (S2.e 7) (S2.e 3) ∧ NId (S2.e 3) (.ref 0 0 0) ∧ NId (S2.e 7) (.ref 0 0 0) ∧ S1.n ≤ S2.n ∧ ms2 = N + 1 - k) ((fun (k : Nat) => N + 1 - k) (0)) ?_ ⟨0, dC fL1 ?_⟩
      all_goals try (refine zlf ?_; repeat' first | exact zso | refine And.intro ?_ ?_ | (refine zim ?_; intro zb hc) | (refine zin ?_; intro zb) | intro j')
      all_goals try refine zbx ?_
      rintro ms2 S2 ⟨k, h2_0, b2_0, l2_0, o2_3, h2_4, h2_5, h2_6, o2_7, h2_8, c2_0, u2_0, u2_1, u2_2, u2_3, hm2⟩
      obtain ⟨i2_3, h2_3, b2_3, l2_3⟩ := o2_3.out
      obtain ⟨i2_7, h2_7, b2_7, l2_7⟩ := o2_7.out
      have k2_0 := (u2_0).out h2_7 h2_3
      have k2_1 := (u2_1).out h2_3 rfl
      have k2_2 := (u2_2).out h2_7 rfl
      have ni2_3 := znds (x := i2_3) (n := S2.n)
      have ni2_7 := znds (x := i2_7) (n := S2.n)
      have n0 := znds (x := 0) (n := S2.n)
      have di2_3i2_7 := zdne (x := i2_3) (y := i2_7)
      have di2_30 := zdne (x := i2_3) (y := 0)
      have di2_70 := zdne (x := i2_7) (y := 0)
      have fL2 := (And.intro h2_0 (And.intro b2_0 (And.intro h2_4 (And.intro h2_5 (And.intro h2_6 (And.intro h2_8 (And.intro h2_3 (And.intro b2_3 (And.intro h2_7 (And.intro b2_7 (And.intro ni2_3 (And.intro ni2_7 (And.intro n0 (And.intro di2_3i2_7 (And.intro di2_30 di2_70)))))))))))))))
      · obtain ⟨v1, v2⟩ := rwL_p (b := b) (s := (gdL b s0 (N + 1) r).2) (k := k)
        by_cases hk : k < N + 1
        · have fc : True := trivial
          repeat' first
            | with_reducible first | refine stp ?_ | refine q_blk_o rfl ?_ | (refine hK _ ?_; clear hK) | (refine hA ?_; clear hA hB) | (refine hB ?_; clear hA hB) | exact v_end0 | exact v_end0' | refine v_gb1 ?_ ?_ | refine v_gb0 ?_ ?_ | refine And.intro ?_ ?_
            | (with_reducible refine p_ok ?_; decide)
            | ((first | with_reducible first | refine v_region rfl rfl (fun K hK => ?_) | refine v_draws rfl rfl (fun K hK => ?_) | refine v_if (fun A B hA hB => ?_) | refine v_end rfl ?_ | refine v_fin1 ?_ | refine v_finC1 ?_ | refine v_finR1 ?_ | refine v_callN (spec_l1Below_c _ _ _ ?_ ?_) rfl ?_ ?_ | refine v_callT (spec_l1Below_c _ _ _ ?_ ?_) rfl ?_ ?_ | refine v_callTd (spec_l1Below_c _ _ _ ?_ ?_) rfl ?_ ?_ | refine v_callR (spec_l1Below_c _ _ _ ?_ ?_) rfl ?_ ?_ | refine v_callN (pk_c _ _ hb) rfl ?_ ?_ | refine v_callT (pk_c _ _ hb) rfl ?_ ?_ | refine v_callTd (pk_c _ _ hb) rfl ?_ ?_ | refine v_callR (pk_c _ _ hb) rfl ?_ ?_ | refine v_callT3 (spec_l1Below_c _ _ _ ?_ ?_) ?_ ?_ | refine v_callT4 (spec_l1Below_c _ _ _ ?_ ?_) ?_ ?_ | refine v_callT3 (pk_c _ _ hb) ?_ ?_ | refine v_callT4 (pk_c _ _ hb) ?_ ?_ | refine v_finO1 rfl ?_ | refine v_finN1 rfl ?_ ?_ | refine v_apj ?_ (fun j' => ?_) | refine v_stz ?_ ?_ ?_ ?_ ?_ | refine v_stq ?_ | refine v_cv1 ?_ ?_ ?_ | (intro hc; replace fc := And.intro hc fc; try simp only [hcs] at hc)) <;> (try simp (config := { maxSteps := 1000000 }) only [go_sem, ↓reduceIte, reduceCtorEq, Nat.reduceEqDiff, Nat.reduceAdd, Nat.reduceMul, Nat.reduceSub, Nat.reduceLeDiff, Int.reduceLT, Int.reduceLE, Int.reduceEq, Int.reduceSub, Int.reduceAdd, Int.reduceMul, Int.reduceNeg, Int.reduceToNat, h2_0, b2_0, h2_4, h2_5, h2_6, h2_8, h2_3, b2_3, h2_7, b2_7, ni2_3, ni2_7, n0, di2_3i2_7, di2_30, di2_70, fc]) <;> (try with_reducible rfl))
          all_goals try exact zaut
          focus
            refine q_lp_n ((fun (k : Nat) => N + 1 - k) (k+1)) (dC fL2 ?_) ⟨k+1, dC fL2 ?_⟩
            all_goals try (refine zlf ?_; repeat' first | exact zso | refine And.intro ?_ ?_ | (refine zim ?_; intro zb hc) | (refine zin ?_; intro zb) | intro j')
            all_goals try refine zbx ?_
          all_goals first | rfl | (rw [rwL]; simp; done) | trace_state
        · obtain rfl : k = N + 1 := by omega
          refine dEa fL2 ?_
          all_goals try (refine zlf ?_; repeat' first | exact zso | refine And.intro ?_ ?_ | (refine zim ?_; intro zb hc) | (refine zin ?_; intro zb) | intro j')
          all_goals try refine zbx ?_
          focus
            refine q_lp_n ((fun (r : Nat) => M + 1 - r) (r+1)) (dC fL2 ?_) ⟨r+1, dC fL2 ?_⟩
            all_goals try (refine zlf ?_; repeat' first | exact zso | refine And.intro ?_ ?_ | (refine zim ?_; intro zb hc) | (refine zin ?_; intro zb) | intro j')
            all_goals try refine zbx ?_
          all_goals first | rfl | (rw [gdL]; simp; done) | trace_state
      all_goals first | rfl | trace_state
    · obtain rfl : r = M + 1 := by omega
      generalize hG : (gdL b s0 (N + 1) (M + 1)).1 = G at *
      generalize hS : (gdL b s0 (N + 1) (M + 1)).2 = S0 at *
      have g0 : (G.getD 0 []).length = N + 1 := (gr _ (getD_mem (by omega))).1
      by_cases x0 : x = 0
      · have e : gdF G x = G.set 0 ((G.getD 0 []).set 0 2) := by rw [gdF, if_pos x0]
        have f0 : (x = 0) = True := eq_true x0
        rw [e]
        refine dEa (And.intro fL1 (And.intro @hx @f0)) ?_
        all_goals try (refine zlf ?_; repeat' first | exact zso | refine And.intro ?_ ?_ | (refine zim ?_; intro zb hc) | (refine zin ?_; intro zb) | intro j')
        all_goals try refine zbx ?_
        all_goals (rw [List.take_of_length_le (by simp)])
      · have f0 : (x = 0) = False := eq_false x0
        by_cases x1 : x = 1
        · have e : gdF G x = G ++ [[1]] := by rw [gdF, if_neg x0, if_pos x1]
          have f1 : (x = 1) = True := eq_true x1
          rw [e]
          refine dEa (And.intro fL1 (And.intro @hx (And.intro @f0 @f1))) ?_
          all_goals try (refine zlf ?_; repeat' first | exact zso | refine And.intro ?_ ?_ | (refine zim ?_; intro zb hc) | (refine zin ?_; intro zb) | intro j')
          all_goals try refine zbx ?_
          all_goals (rw [List.take_of_length_le (by simp)])
        · have f1 : (x = 1) = False := eq_false x1
          by_cases x2 : x = 2
          · have e : gdF G x = [] := by rw [gdF, if_neg x0, if_neg x1, if_pos x2]
            have f2 : (x = 2) = True := eq_true x2
            rw [e]
            refine dEa (And.intro fL1 (And.intro @hx (And.intro @f0 (And.intro @f1 @f2)))) ?_
            all_goals try (refine zlf ?_; repeat' first | exact zso | refine And.intro ?_ ?_ | (refine zim ?_; intro zb hc) | (refine zin ?_; intro zb) | intro j')
            all_goals try refine zbx ?_
            all_goals trace_state
          · have e : gdF G x = G := by rw [gdF, if_neg x0, if_neg x1, if_neg x2]
            have f2 : (x = 2) = False := eq_false x2
            rw [e]
            refine dEa (And.intro fL1 (And.intro @hx (And.intro @f0 (And.intro @f1 @f2)))) ?_
            all_goals try (refine zlf ?_; repeat' first | exact zso | refine And.intro ?_ ?_ | (refine zim ?_; intro zb hc) | (refine zin ?_; intro zb) | intro j')
            all_goals try refine zbx ?_
            all_goals trace_state
  all_goals trace_state
