/-
  The numbers of permutations that fit a grid. Conditions: none.
-/
import Derived.Test.YtknmheddofilbaaFindG
import Derived.Test.YtknmheddofilbaaCount
set_option linter.unusedSimpArgs false
set_option linter.unusedVariables false
set_option maxRecDepth 20000
set_option linter.unusedSectionVars false
namespace Go.Gl
open Go Go.Proofs
variable [Amb]
theorem impl_GridCounts_1_c {m0 : Bool} (p : List Int) (m : List (List Int)) {e1 m1 : Bool} (hp : isPermB p = true) (hm : gridB m = true) : Fun Try.prog 96 [(.sl (.lent m0) (List.map (PV.int .i64) (p))), (.pc [.sl (.lent m1) (m.map (elI e1))])] [(.bool ((fndG p m).2))] := by
  refine fO sg0 [3] Try.func96 ?_
  have cE1 := @impl_findGrid_c
  refine dEa trivial ?_
  all_goals try (refine zlf ?_; repeat' first | exact zso | refine And.intro ?_ ?_ | (refine zim ?_; intro zb hc) | (refine zin ?_; intro zb) | intro j')
  all_goals try refine zbx ?_
noncomputable def gcL (m : List (List Int)) (n : Nat) : List Int := (List.range n).map fun k => (cntL (fun p => (fndG p m).2) (permL k) : Int)
theorem gcL_succ {m : List (List Int)} {n : Nat} : gcL m (n + 1) = gcL m n ++ [(cntL (fun p => (fndG p m).2) (permL n) : Int)] := by simp [gcL, List.range_succ]
theorem gcL_len {m : List (List Int)} {n : Nat} : (gcL m n).length = n := by simp [gcL]
noncomputable def gcB (m : List (List Int)) (n : Int) : List Int := if gridB m = true ∧ 0 ≤ n ∧ n ≤ 5 then gcL m (n.toNat + 1) else []
theorem impl_GridCounts_c {e0 m0 : Bool} (m : List (List Int)) (n : Int) (hm : m.length ≤ 1048576) (hml : ∀ l ∈ m, l.length ≤ 1048576) : Fun Try.prog 20 [(.sl (.lent m0) (List.map (elI e0) (m))), (.int .i64 (n))] [(.sl .own (List.map (PV.int .i64) (gcB m n)))] := by
  have hml' : ∀ l ∈ m, l.length ≤ 1099511627776 := fun l h => by have := hml l h; omega
  by_cases hg : gridB m = true
  · by_cases hn : 0 ≤ n ∧ n ≤ 5
    · obtain ⟨N, rfl⟩ : ∃ N : Nat, n = N := ⟨n.toNat, by omega⟩
      have q1 : gcB m N = gcL m (N + 1) := by rw [gcB, if_pos ⟨hg, hn⟩]; rfl
      have q2 := fun (k : Nat) (h : k ≤ 5) => impl_counted_c k 96 [.pc [.sl (.lent m0) (m.map (elI e0))]] (fun p => (fndG p m).2) (by omega) (fun x hx => impl_GridCounts_1_c (m0 := false) x m (permL_isPerm (by omega) hx) hg)
      have q3 := fun (k : Nat) => cntL_le (P := fun p => (fndG p m).2) (L := permL k) (k := (permL k).length) (Nat.le_refl _)
      rw [q1]
      refine fO sg0 [4] Try.func20 ?_
      have cE1 := @impl_IsGrid_c; have cE2 := @impl_counted_c
      refine dEa @hg ?_
      all_goals try (refine zlf ?_; repeat' first | exact zso | refine And.intro ?_ ?_ | (refine zim ?_; intro zb hc) | (refine zin ?_; intro zb) | intro j')
      all_goals try refine zbx ?_
      refine v_loopB (fun ms1 S1 => ∃ (k : Nat), OwnL (S1.e 5) S1.h S1.n (PV.int .i64) ((gcL m k).length) (gcL m k) ∧ S1.e 20 = .p (.int .i64 ((N : Int) + 1)) ∧ S1.e 21 = .p (.int .i64 (k)) ∧ PtrL (S1.e 2) S1.h S1.n (.live false [.sl (.lent m0) (m.map (elI e0))]) ∧ (k ≤ N + 1) ∧ NId (asR (S1.e 2)) (S1.e 5) ∧ ms1 = N + 1 - k) ((fun (k : Nat) => N + 1 - k) (0)) ?_ ⟨0, dC trivial ?_⟩
      all_goals try (refine zlf ?_; repeat' first | exact zso | refine And.intro ?_ ?_ | (refine zim ?_; intro zb hc) | (refine zin ?_; intro zb) | intro j')
      all_goals try refine zbx ?_
      rintro ms1 S1 ⟨k, o1_5, h1_20, h1_21, o1_2, c1_0, u1_0, hm1⟩
      obtain ⟨i1_5, h1_5, b1_5, l1_5⟩ := o1_5.out
      obtain ⟨i1_2, h1_2, b1_2, l1_2⟩ := o1_2.out
      have k1_0 := (u1_0).out (asR_eq h1_2) h1_5
      have ni1_5 := znds (x := i1_5) (n := S1.n)
      have ni1_2 := znds (x := i1_2) (n := S1.n)
      have di1_5i1_2 := zdne (x := i1_5) (y := i1_2)
      have fL1 := (And.intro h1_20 (And.intro h1_21 (And.intro h1_5 (And.intro b1_5 (And.intro h1_2 (And.intro b1_2 (And.intro ni1_5 (And.intro ni1_2 di1_5i1_2))))))))
      have q4 := gcL_len (m := m) (n := k)
      by_cases hk : k < N + 1
      · have q5 := q2 k (by omega)
        have cE1 := @q5; have cE2 := @impl_IsGrid_c; have cE3 := @impl_counted_c
        refine dEa fL1 ?_
        all_goals try (refine zlf ?_; repeat' first | exact zso | refine And.intro ?_ ?_ | (refine zim ?_; intro zb hc) | (refine zin ?_; intro zb) | intro j')
        all_goals try refine zbx ?_
        focus
          refine q_lp_n ((fun (k : Nat) => N + 1 - k) (k+1)) (dC fL1 ?_) ⟨k+1, dC fL1 ?_⟩
          all_goals try (refine zlf ?_; repeat' first | exact zso | refine And.intro ?_ ?_ | (refine zim ?_; intro zb hc) | (refine zin ?_; intro zb) | intro j')
          all_goals try refine zbx ?_
        all_goals (rw [gcL_succ]; try simp)
      · have cE1 := @impl_IsGrid_c; have cE2 := @impl_counted_c; have cE3 := trivial
        refine dEa fL1 ?_
        all_goals try (refine zlf ?_; repeat' first | exact zso | refine And.intro ?_ ?_ | (refine zim ?_; intro zb hc) | (refine zin ?_; intro zb) | intro j')
        all_goals try refine zbx ?_
        obtain rfl : k = N + 1 := by omega
        rfl
    · have q1 : gcB m n = [] := by rw [gcB, if_neg (fun h => hn h.2)]
      rw [q1]
      refine fO sg0 [4] Try.func20 ?_
      have cE1 := @impl_IsGrid_c; have cE2 := @impl_counted_c
      refine dEa @hg ?_
      all_goals try (refine zlf ?_; repeat' first | exact zso | refine And.intro ?_ ?_ | (refine zim ?_; intro zb hc) | (refine zin ?_; intro zb) | intro j')
      all_goals try refine zbx ?_
  · have hg' : gridB m = false := by simpa using hg
    have q1 : gcB m n = [] := by rw [gcB, if_neg (fun h => hg h.1)]
    rw [q1]
    refine fO sg0 [4] Try.func20 ?_
    have cE1 := @impl_IsGrid_c; have cE2 := @impl_counted_c
    refine dEa @hg' ?_
    all_goals try (refine zlf ?_; repeat' first | exact zso | refine And.intro ?_ ?_ | (refine zim ?_; intro zb hc) | (refine zin ?_; intro zb) | intro j')
    all_goals try refine zbx ?_
theorem spec_GridCounts_c {e0 m0 : Bool} (m : List (List Int)) (n : Int) (hm : m.length ≤ 1048576) (hml : ∀ l ∈ m, l.length ≤ 1048576) : Fun Try.prog 21 [(.sl (.lent m0) (List.map (elI e0) (m))), (.int .i64 (n))] [(.sl .own (List.map (PV.int .i64) (gcB m n)))] := by
  have hml' : ∀ l ∈ m, l.length ≤ 1099511627776 := fun l h => by have := hml l h; omega
  by_cases hg : gridB m = true
  · by_cases hn : 0 ≤ n ∧ n ≤ 5
    · obtain ⟨N, rfl⟩ : ∃ N : Nat, n = N := ⟨n.toNat, by omega⟩
      have q1 : gcB m N = gcL m (N + 1) := by rw [gcB, if_pos ⟨hg, hn⟩]; rfl
      rw [q1]
      refine fO sg0 [4] Try.func21 ?_
      have cE1 := @spec_l1In_c; have cE2 := @spec_PermsOf_c; have cE3 := @spec_l1Bit_c; have cE4 := @spec_IsGrid_c; have cE5 := @spec_FindGrid_c
      refine dEa @hg ?_
      all_goals try (refine zlf ?_; repeat' first | exact zso | refine And.intro ?_ ?_ | (refine zim ?_; intro zb hc) | (refine zin ?_; intro zb) | intro j')
      all_goals try refine zbx ?_
      refine v_loopB (fun ms1 S1 => ∃ (k : Nat), S1.e 0 = .p (.sl (.lent m0) (List.map (elI e0) (m))) ∧ S1.e 1 = .p (.int .i64 ((N : Int))) ∧ OwnL (S1.e 5) S1.h S1.n (PV.int .i64) ((gcL m k).length) (gcL m k) ∧ S1.e 6 = .p (.int .i64 (k)) ∧ (k ≤ N + 1) ∧ ms1 = N + 1 - k) ((fun (k : Nat) => N + 1 - k) (0)) ?_ ⟨0, dC trivial ?_⟩
      all_goals try (refine zlf ?_; repeat' first | exact zso | refine And.intro ?_ ?_ | (refine zim ?_; intro zb hc) | (refine zin ?_; intro zb) | intro j')
      all_goals try refine zbx ?_
      rintro ms1 S1 ⟨k, h1_0, h1_1, o1_5, h1_6, c1_0, hm1⟩
      obtain ⟨i1_5, h1_5, b1_5, l1_5⟩ := o1_5.out
      have ni1_5 := znds (x := i1_5) (n := S1.n)
      have fL1 := (And.intro h1_0 (And.intro h1_1 (And.intro h1_6 (And.intro h1_5 (And.intro b1_5 ni1_5)))))
      have q4 := gcL_len (m := m) (n := k)
      have q6 : k ≤ 6 → permsB (k : Int) = permL k := fun h => by rw [permsB, if_pos (by omega)]; rfl
      have b1 := permL_len (n := k)
      by_cases hk : k < N + 1
      · have q7 := q6 (by omega)
        have b2 := b1 (by omega)
        refine dEa (And.intro fL1 @q7) ?_
        all_goals try (refine zlf ?_; repeat' first | exact zso | refine And.intro ?_ ?_ | (refine zim ?_; intro zb hc) | (refine zin ?_; intro zb) | intro j')
        all_goals try refine zbx ?_
        refine v_loopB (fun ms2 S2 => ∃ (j : Nat), S2.e 0 = .p (.sl (.lent m0) (List.map (elI e0) (m))) ∧ S2.e 1 = .p (.int .i64 ((N : Int))) ∧ OwnL (S2.e 5) S2.h S2.n (PV.int .i64) ((gcL m k).length) (gcL m k) ∧ S2.e 6 = .p (.int .i64 (k)) ∧ S2.e 7 = .p (.int .i64 (cntL (fun p => (fndG p m).2) ((permL k).take j))) ∧ OwnL (S2.e 8) S2.h S2.n (elI false) ((permL k).length) (permL k) ∧ S2.e 9 = .p (.int .i64 (j)) ∧ (j ≤ (permL k).length) ∧ NId (S2.e 8) (S2.e 5) ∧ S1.n ≤ S2.n ∧ ms2 = (permL k).length - j) ((fun (j : Nat) => (permL k).length - j) (0)) ?_ ⟨0, dC fL1 ?_⟩
        all_goals try (refine zlf ?_; repeat' first | exact zso | refine And.intro ?_ ?_ | (refine zim ?_; intro zb hc) | (refine zin ?_; intro zb) | intro j')
        all_goals try refine zbx ?_
        rintro ms2 S2 ⟨j, h2_0, h2_1, o2_5, h2_6, h2_7, o2_8, h2_9, c2_0, u2_0, u2_1, hm2⟩
        obtain ⟨i2_5, h2_5, b2_5, l2_5⟩ := o2_5.out
        obtain ⟨i2_8, h2_8, b2_8, l2_8⟩ := o2_8.out
        have k2_0 := (u2_0).out h2_8 h2_5
        have ni2_5 := znds (x := i2_5) (n := S2.n)
        have ni2_8 := znds (x := i2_8) (n := S2.n)
        have di2_5i2_8 := zdne (x := i2_5) (y := i2_8)
        have fL2 := (And.intro h2_0 (And.intro h2_1 (And.intro h2_6 (And.intro h2_7 (And.intro h2_9 (And.intro h2_5 (And.intro b2_5 (And.intro h2_8 (And.intro b2_8 (And.intro ni2_5 (And.intro ni2_8 di2_5i2_8)))))))))))
        have b3 := cntL_le (P := fun p => (fndG p m).2) c2_0
        by_cases hj : j < (permL k).length
        · have b4 := permL_isPerm (show k ≤ 8 by omega) (getD_mem (d := []) hj)
          have b5 := (isPerm_facts b4).1
          have b6 : fndB ((permL k).getD j []) m = fndG ((permL k).getD j []) m := by rw [fndB, b4, hg]; rfl
          have b7 : bitI (fndG ((permL k).getD j []) m).2 ≤ 1 ∧ 0 ≤ bitI (fndG ((permL k).getD j []) m).2 := by unfold bitI; split <;> omega
          refine dEa (And.intro fL2 @b6) ?_
          all_goals try (refine zlf ?_; repeat' first | exact zso | refine And.intro ?_ ?_ | (refine zim ?_; intro zb hc) | (refine zin ?_; intro zb) | intro j')
          all_goals try refine zbx ?_
          focus
            refine q_lp_n ((fun (j : Nat) => (permL k).length - j) (j+1)) (dC fL2 ?_) ⟨j+1, dC fL2 ?_⟩
            all_goals try (refine zlf ?_; repeat' first | exact zso | refine And.intro ?_ ?_ | (refine zim ?_; intro zb hc) | (refine zin ?_; intro zb) | intro j')
            all_goals try refine zbx ?_
          rw [cntL_succ hj]; unfold bitI; split <;> rfl
        · refine dEa fL2 ?_
          all_goals try (refine zlf ?_; repeat' first | exact zso | refine And.intro ?_ ?_ | (refine zim ?_; intro zb hc) | (refine zin ?_; intro zb) | intro j')
          all_goals try refine zbx ?_
          focus
            refine q_lp_n ((fun (k : Nat) => N + 1 - k) (k+1)) (dC fL2 ?_) ⟨k+1, dC fL2 ?_⟩
            all_goals try (refine zlf ?_; repeat' first | exact zso | refine And.intro ?_ ?_ | (refine zim ?_; intro zb hc) | (refine zin ?_; intro zb) | intro j')
            all_goals try refine zbx ?_
          all_goals (first | (rw [gcL_succ, List.take_of_length_le (by omega)]; done) | (rw [gcL_succ]; simp; done))
      · skip
        refine dEa fL1 ?_
        all_goals try (refine zlf ?_; repeat' first | exact zso | refine And.intro ?_ ?_ | (refine zim ?_; intro zb hc) | (refine zin ?_; intro zb) | intro j')
        all_goals try refine zbx ?_
        obtain rfl : k = N + 1 := by omega
        rfl
    · have q1 : gcB m n = [] := by rw [gcB, if_neg (fun h => hn h.2)]
      rw [q1]
      refine fO sg0 [4] Try.func21 ?_
      have cE1 := @spec_l1In_c; have cE2 := @spec_PermsOf_c; have cE3 := @spec_l1Bit_c; have cE4 := @spec_IsGrid_c; have cE5 := @spec_FindGrid_c
      refine dEa @hg ?_
      all_goals try (refine zlf ?_; repeat' first | exact zso | refine And.intro ?_ ?_ | (refine zim ?_; intro zb hc) | (refine zin ?_; intro zb) | intro j')
      all_goals try refine zbx ?_
  · have hg' : gridB m = false := by simpa using hg
    have q1 : gcB m n = [] := by rw [gcB, if_neg (fun h => hg h.1)]
    rw [q1]
    refine fO sg0 [4] Try.func21 ?_
    have cE1 := @spec_l1In_c; have cE2 := @spec_PermsOf_c; have cE3 := @spec_l1Bit_c; have cE4 := @spec_IsGrid_c; have cE5 := @spec_FindGrid_c
    refine dEa @hg' ?_
    all_goals try (refine zlf ?_; repeat' first | exact zso | refine And.intro ?_ ?_ | (refine zim ?_; intro zb hc) | (refine zin ?_; intro zb) | intro j')
    all_goals try refine zbx ?_
end Go.Gl
