/-
  Turned grids: what their functions compute. Conditions: none.
-/
import Derived.Test.YtknmheddofilbaaGrid
import Derived.Test.YtknmheddofilbaaLaw2
set_option linter.unusedSimpArgs false
set_option linter.unusedVariables false
set_option maxRecDepth 20000
set_option linter.unusedSectionVars false
namespace Go.Gl
open Go Go.Proofs
variable [Amb]
/-- A row of the turned grid: what stands in a place of each row, the last row first. -/
def tgC (m : List (List Int)) (x j : Nat) : Int := (m.getD (m.length - 1 - j) []).getD x 0
def tgR (m : List (List Int)) (x : Nat) : List Int := (List.range m.length).map (tgC m x)
def tgN (m : List (List Int)) : Nat := (m.getD 0 []).length
def tgL (m : List (List Int)) : List (List Int) := if gridB m = true then (List.range (tgN m)).map fun i => tgR m (tgN m - 1 - i) else []
theorem grid_facts {m : List (List Int)} (h : gridB m = true) : 1 ≤ m.length ∧ m.length ≤ 3 ∧ 1 ≤ tgN m ∧ tgN m ≤ 3 ∧ ∀ i, i < m.length → (m.getD i []).length = tgN m := by
  simp only [gridB, Bool.and_eq_true, decide_eq_true_eq, List.all_eq_true] at h
  obtain ⟨⟨h1, h2⟩, h3⟩ := h
  have h4 := h3 (m.getD 0 []) (getD_mem (by omega))
  simp only [rowB, Bool.and_eq_true, decide_eq_true_eq] at h4
  refine ⟨h1, h2, h4.1.1.2, h4.1.2, fun i hi => ?_⟩
  have h5 := h3 (m.getD i []) (getD_mem hi)
  simp only [rowB, Bool.and_eq_true, decide_eq_true_eq] at h5
  exact h5.1.1.1
attribute [local go_sem] List.length_range
def sgNZ : FuncId → List Bool := fun f => if f = 4294967297 then [true, false, true] else []
theorem sgNZ_eq {f : FuncId} : sgNZ f = if f = 4294967297 then [true, false, true] else [] := _root_.id rfl
theorem way_sgNZ : wayE sgNZ = false ∧ wayN sgNZ = true ∧ wayS sgNZ = false ∧ wayZ sgNZ = true := ⟨rfl, rfl, rfl, rfl⟩
attribute [go_sem] sgNZ_eq way_sgNZ
theorem spec_TurnGrid_c {e0 m0 : Bool} (m : List (List Int)) (hm : m.length ≤ 1099511627776) (hl : ∀ l ∈ m, l.length ≤ 1099511627776) : Fun Try.prog 16 [(.sl (.lent m0) (List.map (elI e0) (m)))] [(.dl (List.map (List.map (PV.int .i64)) (tgL m))), (.bool (gridB m))] := by
  by_cases hg : gridB m = true
  · obtain ⟨g1, g2, g3, g4, g5⟩ := grid_facts hg
    have g6 : (m.getD 0 []).length = tgN m := rfl
    have g7 : tgL m = (List.range (tgN m)).map fun i => tgR m (tgN m - 1 - i) := if_pos hg
    refine fO sgNZ [2, 3] Try.func16 ?_
    have cE1 := @spec_IsGrid_c
    refine dEa (And.intro @hg @g6) ?_
    all_goals try (refine zlf ?_; repeat' first | exact zso | refine And.intro ?_ ?_ | (refine zim ?_; intro zb hc) | (refine zin ?_; intro zb) | intro j')
    all_goals try refine zbx ?_
    refine v_loopB (fun ms1 S1 => ∃ (k : Nat), S1.e 0 = .p (.sl (.lent m0) (List.map (elI e0) (m))) ∧ DwnL (S1.e 4) S1.h S1.n (PV.int .i64) (((List.range k).map (fun i => tgR m (tgN m - 1 - i))).length) ((List.range k).map (fun i => tgR m (tgN m - 1 - i))) ∧ S1.e 5 = .p (.int .i64 ((tgN m - 1 - k))) ∧ (k ≤ tgN m) ∧ ms1 = tgN m - k) ((fun (k : Nat) => tgN m - k) (0)) ?_ ⟨0, dIa trivial ?_⟩
    all_goals try (refine zlf ?_; repeat' first | exact zso | refine And.intro ?_ ?_ | (refine zim ?_; intro zb hc) | (refine zin ?_; intro zb) | intro j')
    all_goals try refine zbx ?_
    rintro ms1 S1 ⟨k, h1_0, o1_4, h1_5, c1_0, hm1⟩
    obtain ⟨i1_4, h1_4, b1_4, l1_4⟩ := o1_4.out
    have ni1_4 := znds (x := i1_4) (n := S1.n)
    have fL1 := (And.intro h1_0 (And.intro h1_5 (And.intro h1_4 (And.intro b1_4 ni1_4))))
    refine dEa (And.intro fL1 (And.intro @hg @g6)) ?_
    all_goals try (refine zlf ?_; repeat' first | exact zso | refine And.intro ?_ ?_ | (refine zim ?_; intro zb hc) | (refine zin ?_; intro zb) | intro j')
    all_goals try refine zbx ?_
    · refine v_loopB (fun ms2 S2 => ∃ (j : Nat), S2.e 0 = .p (.sl (.lent m0) (List.map (elI e0) (m))) ∧ DwnL (S2.e 4) S2.h S2.n (PV.int .i64) (((List.range k).map (fun i => tgR m (tgN m - 1 - i))).length) ((List.range k).map (fun i => tgR m (tgN m - 1 - i))) ∧ S2.e 5 = .p (.int .i64 ((tgN m - 1 - k))) ∧ OwnL (S2.e 6) S2.h S2.n (PV.int .i64) (((List.range j).map (tgC m (tgN m - 1 - k))).length) ((List.range j).map (tgC m (tgN m - 1 - k))) ∧ S2.e 7 = .p (.int .i64 ((m.length - 1 - j))) ∧ (j ≤ m.length) ∧ NId (S2.e 6) (S2.e 4) ∧ S1.n ≤ S2.n ∧ ms2 = m.length - j) ((fun (j : Nat) => m.length - j) (0)) ?_ ⟨0, dIa fL1 ?_⟩
      all_goals try (refine zlf ?_; repeat' first | exact zso | refine And.intro ?_ ?_ | (refine zim ?_; intro zb hc) | (refine zin ?_; intro zb) | intro j')
      all_goals try refine zbx ?_
      rintro ms2 S2 ⟨j, h2_0, o2_4, h2_5, o2_6, h2_7, c2_0, u2_0, u2_1, hm2⟩
      obtain ⟨i2_4, h2_4, b2_4, l2_4⟩ := o2_4.out
      obtain ⟨i2_6, h2_6, b2_6, l2_6⟩ := o2_6.out
      have k2_0 := (u2_0).out h2_6 h2_4
      have ni2_4 := znds (x := i2_4) (n := S2.n)
      have ni2_6 := znds (x := i2_6) (n := S2.n)
      have di2_4i2_6 := zdne (x := i2_4) (y := i2_6)
      have fL2 := (And.intro h2_0 (And.intro h2_5 (And.intro h2_7 (And.intro h2_4 (And.intro b2_4 (And.intro h2_6 (And.intro b2_6 (And.intro ni2_4 (And.intro ni2_6 di2_4i2_6)))))))))
      have q1 : ((m.length : Int) - 1 - j).toNat = m.length - 1 - j := by omega
      have q2 : ((tgN m : Int) - 1 - k).toNat = tgN m - 1 - k := by omega
      have q3 : j < m.length → (m.getD (m.length - 1 - j) []).length = tgN m := fun h => g5 _ (by omega)
      refine dEa (And.intro fL2 (And.intro @hg (And.intro @g6 (And.intro @q1 @q2)))) ?_
      all_goals try (refine zlf ?_; repeat' first | exact zso | refine And.intro ?_ ?_ | (refine zim ?_; intro zb hc) | (refine zin ?_; intro zb) | intro j')
      all_goals try refine zbx ?_
      all_goals try (first | (rw [q3 (by omega)]; omega))
      · focus
          refine q_lp_n ((fun (j : Nat) => m.length - j) (j+1)) (dC fL2 ?_) ⟨j+1, dC fL2 ?_⟩
          all_goals try (refine zlf ?_; repeat' first | exact zso | refine And.intro ?_ ?_ | (refine zim ?_; intro zb hc) | (refine zin ?_; intro zb) | intro j')
          all_goals try refine zbx ?_
        all_goals simp [List.range_succ, tgC]
      · focus
          refine q_lp_n ((fun (k : Nat) => tgN m - k) (k+1)) (dC fL2 ?_) ⟨k+1, dC fL2 ?_⟩
          all_goals try (refine zlf ?_; repeat' first | exact zso | refine And.intro ?_ ?_ | (refine zim ?_; intro zb hc) | (refine zin ?_; intro zb) | intro j')
          all_goals try refine zbx ?_
        all_goals (obtain rfl : j = m.length := by omega)
        all_goals simp [List.range_succ, tgR]
    · obtain rfl : k = tgN m := by omega
      rw [g7, List.take_of_length_le (by simp)]
  · have g7 : tgL m = [] := if_neg hg
    rw [Bool.not_eq_true] at hg
    refine fO sgNZ [2, 3] Try.func16 ?_
    have cE1 := @spec_IsGrid_c
    refine dEa (And.intro @hg @g7) ?_
    all_goals try (refine zlf ?_; repeat' first | exact zso | refine And.intro ?_ ?_ | (refine zim ?_; intro zb hc) | (refine zin ?_; intro zb) | intro j')
    all_goals try refine zbx ?_
theorem impl_TurnGrid_c {e0 m0 : Bool} (m : List (List Int)) (hm : m.length ≤ 1099511627776) (hl : ∀ l ∈ m, l.length ≤ 1099511627776) : Fun Try.prog 15 [(.sl (.lent m0) (List.map (elI e0) (m)))] [(.dl (List.map (List.map (PV.int .i64)) (tgL m))), (.bool (gridB m))] := by
  by_cases hg : gridB m = true
  · obtain ⟨g1, g2, g3, g4, g5⟩ := grid_facts hg
    have g6 : (m.getD 0 []).length = tgN m := rfl
    have g7 : tgL m = (List.range (tgN m)).map fun i => tgR m (tgN m - 1 - i) := if_pos hg
    refine fO sgNZ [2, 3] Try.func15 ?_
    have cE1 := @impl_IsGrid_c
    refine dEa (And.intro @hg @g6) ?_
    all_goals try (refine zlf ?_; repeat' first | exact zso | refine And.intro ?_ ?_ | (refine zim ?_; intro zb hc) | (refine zin ?_; intro zb) | intro j')
    all_goals try refine zbx ?_
    refine v_loopB (fun ms1 S1 => ∃ (k : Nat), S1.e 0 = .p (.sl (.lent m0) (List.map (elI e0) (m))) ∧ DwnL (S1.e 4) S1.h S1.n (PV.int .i64) (((List.range k).map (fun i => tgR m (tgN m - 1 - i))).length) ((List.range k).map (fun i => tgR m (tgN m - 1 - i))) ∧ S1.e 5 = .p (.int .i64 ((tgN m - 1 - k))) ∧ (k ≤ tgN m) ∧ ms1 = tgN m - k) ((fun (k : Nat) => tgN m - k) (0)) ?_ ⟨0, dIa trivial ?_⟩
    all_goals try (refine zlf ?_; repeat' first | exact zso | refine And.intro ?_ ?_ | (refine zim ?_; intro zb hc) | (refine zin ?_; intro zb) | intro j')
    all_goals try refine zbx ?_
    rintro ms1 S1 ⟨k, h1_0, o1_4, h1_5, c1_0, hm1⟩
    obtain ⟨i1_4, h1_4, b1_4, l1_4⟩ := o1_4.out
    have ni1_4 := znds (x := i1_4) (n := S1.n)
    have fL1 := (And.intro h1_0 (And.intro h1_5 (And.intro h1_4 (And.intro b1_4 ni1_4))))
    refine dEa (And.intro fL1 (And.intro @hg @g6)) ?_
    all_goals try (refine zlf ?_; repeat' first | exact zso | refine And.intro ?_ ?_ | (refine zim ?_; intro zb hc) | (refine zin ?_; intro zb) | intro j')
    all_goals try refine zbx ?_
    · refine v_loopB (fun ms2 S2 => ∃ (j : Nat), S2.e 0 = .p (.sl (.lent m0) (List.map (elI e0) (m))) ∧ DwnL (S2.e 4) S2.h S2.n (PV.int .i64) (((List.range k).map (fun i => tgR m (tgN m - 1 - i))).length) ((List.range k).map (fun i => tgR m (tgN m - 1 - i))) ∧ S2.e 5 = .p (.int .i64 ((tgN m - 1 - k))) ∧ OwnL (S2.e 6) S2.h S2.n (PV.int .i64) (((List.range j).map (tgC m (tgN m - 1 - k))).length) ((List.range j).map (tgC m (tgN m - 1 - k))) ∧ S2.e 7 = .p (.int .i64 ((m.length - 1 - j))) ∧ (j ≤ m.length) ∧ NId (S2.e 6) (S2.e 4) ∧ S1.n ≤ S2.n ∧ ms2 = m.length - j) ((fun (j : Nat) => m.length - j) (0)) ?_ ⟨0, dIa fL1 ?_⟩
      all_goals try (refine zlf ?_; repeat' first | exact zso | refine And.intro ?_ ?_ | (refine zim ?_; intro zb hc) | (refine zin ?_; intro zb) | intro j')
      all_goals try refine zbx ?_
      rintro ms2 S2 ⟨j, h2_0, o2_4, h2_5, o2_6, h2_7, c2_0, u2_0, u2_1, hm2⟩
      obtain ⟨i2_4, h2_4, b2_4, l2_4⟩ := o2_4.out
      obtain ⟨i2_6, h2_6, b2_6, l2_6⟩ := o2_6.out
      have k2_0 := (u2_0).out h2_6 h2_4
      have ni2_4 := znds (x := i2_4) (n := S2.n)
      have ni2_6 := znds (x := i2_6) (n := S2.n)
      have di2_4i2_6 := zdne (x := i2_4) (y := i2_6)
      have fL2 := (And.intro h2_0 (And.intro h2_5 (And.intro h2_7 (And.intro h2_4 (And.intro b2_4 (And.intro h2_6 (And.intro b2_6 (And.intro ni2_4 (And.intro ni2_6 di2_4i2_6)))))))))
      have q1 : ((m.length : Int) - 1 - j).toNat = m.length - 1 - j := by omega
      have q2 : ((tgN m : Int) - 1 - k).toNat = tgN m - 1 - k := by omega
      have q3 : j < m.length → (m.getD (m.length - 1 - j) []).length = tgN m := fun h => g5 _ (by omega)
      refine dEa (And.intro fL2 (And.intro @hg (And.intro @g6 (And.intro @q1 @q2)))) ?_
      all_goals try (refine zlf ?_; repeat' first | exact zso | refine And.intro ?_ ?_ | (refine zim ?_; intro zb hc) | (refine zin ?_; intro zb) | intro j')
      all_goals try refine zbx ?_
      all_goals try (first | (rw [q3 (by omega)]; omega))
      · focus
          refine q_lp_n ((fun (j : Nat) => m.length - j) (j+1)) (dC fL2 ?_) ⟨j+1, dC fL2 ?_⟩
          all_goals try (refine zlf ?_; repeat' first | exact zso | refine And.intro ?_ ?_ | (refine zim ?_; intro zb hc) | (refine zin ?_; intro zb) | intro j')
          all_goals try refine zbx ?_
        all_goals simp [List.range_succ, tgC]
      · focus
          refine q_lp_n ((fun (k : Nat) => tgN m - k) (k+1)) (dC fL2 ?_) ⟨k+1, dC fL2 ?_⟩
          all_goals try (refine zlf ?_; repeat' first | exact zso | refine And.intro ?_ ?_ | (refine zim ?_; intro zb hc) | (refine zin ?_; intro zb) | intro j')
          all_goals try refine zbx ?_
        all_goals (obtain rfl : j = m.length := by omega)
        all_goals simp [List.range_succ, tgR]
    · obtain rfl : k = tgN m := by omega
      rw [g7, List.take_of_length_le (by simp)]
  · have g7 : tgL m = [] := if_neg hg
    rw [Bool.not_eq_true] at hg
    refine fO sgNZ [2, 3] Try.func15 ?_
    have cE1 := @impl_IsGrid_c
    refine dEa (And.intro @hg @g7) ?_
    all_goals try (refine zlf ?_; repeat' first | exact zso | refine And.intro ?_ ?_ | (refine zim ?_; intro zb hc) | (refine zin ?_; intro zb) | intro j')
    all_goals try refine zbx ?_
end Go.Gl
