/-
  The numbers of all whole orders, the factorial asked for: what their functions compute. Conditions: none.
-/
import Derived.Test.YtknmheddofilbaaFact
set_option linter.unusedSimpArgs false
set_option linter.unusedVariables false
set_option maxRecDepth 20000
set_option linter.unusedSectionVars false
namespace Go.Gl
open Go Go.Proofs
variable [Amb]
def facR (n : Int) : Int := if 0 ≤ n ∧ n ≤ 20 then facI n else -1
theorem impl_FactorialOf_c (n : Int) : Fun Try.prog 54 [(.int .i64 (n))] [(.int .i64 (facR n))] := by
  by_cases h : 0 ≤ n ∧ n ≤ 20
  · rw [show facR n = facI n from if_pos h]
    refine fO sg0 [2] Try.func54 ?_
    have cE1 := @impl_factorial_c
    refine dEa trivial ?_
    all_goals try (refine zlf ?_; repeat' first | exact zso | refine And.intro ?_ ?_ | (refine zim ?_; intro zb hc) | (refine zin ?_; intro zb) | intro j')
    all_goals try refine zbx ?_
  · rw [show facR n = -1 from if_neg h]
    refine fO sg0 [2] Try.func54 ?_
    have cE1 := @impl_factorial_c
    refine dEa trivial ?_
    all_goals try (refine zlf ?_; repeat' first | exact zso | refine And.intro ?_ ?_ | (refine zim ?_; intro zb hc) | (refine zin ?_; intro zb) | intro j')
    all_goals try refine zbx ?_
theorem facN_1 {k : Nat} : facN (k + 1) * ((k : Int) + 2) = facN (k + 2) := by
  rw [facN, Int.mul_comm]; congr 1
theorem spec_FactorialOf_c (n : Int) : Fun Try.prog 55 [(.int .i64 (n))] [(.int .i64 (facR n))] := by
  by_cases h : 0 ≤ n ∧ n ≤ 20
  · rw [show facR n = facI n from if_pos h]
    refine fO sg0 [2] Try.func55 ?_
    have cE1 := @spec_l1In_c
    refine dEa trivial ?_
    all_goals try (refine zlf ?_; repeat' first | exact zso | refine And.intro ?_ ?_ | (refine zim ?_; intro zb hc) | (refine zin ?_; intro zb) | intro j')
    all_goals try refine zbx ?_
    refine v_loopB (fun ms1 S1 => ∃ (k : Nat), S1.e 0 = .p (.int .i64 (n)) ∧ S1.e 3 = .p (.int .i64 (facN (k + 1))) ∧ S1.e 4 = .p (.int .i64 ((k + 2))) ∧ ((k : Int) + 1 ≤ max n 1) ∧ ms1 = n.toNat - k) ((fun (k : Nat) => n.toNat - k) (0)) ?_ ⟨0, dI trivial ?_⟩
    all_goals try (refine zlf ?_; repeat' first | exact zso | refine And.intro ?_ ?_ | (refine zim ?_; intro zb hc) | (refine zin ?_; intro zb) | intro j')
    all_goals try refine zbx ?_
    rintro ms1 S1 ⟨k, h1_0, h1_3, h1_4, c1_0, hm1⟩
    have fL1 := (And.intro h1_0 (And.intro h1_3 h1_4))
    refine dE fL1 ?_
    all_goals try (refine zlf ?_; repeat' first | exact zso | refine And.intro ?_ ?_ | (refine zim ?_; intro zb hc) | (refine zin ?_; intro zb) | intro j')
    all_goals try refine zbx ?_
    all_goals have h2 := facN_pos (k + 1)
    all_goals try have h1 := facN_le (n := k + 2) (by omega)
    all_goals try have h3 := facN_pos (k + 2)
    all_goals have e := facN_1 (k := k)
    all_goals try rw [e]
    all_goals try exact zaut
    · focus
        refine q_lp_n ((fun (k : Nat) => n.toNat - k) (k+1)) (dC fL1 ?_) ⟨k+1, dC fL1 ?_⟩
        all_goals try (refine zlf ?_; repeat' first | exact zso | refine And.intro ?_ ?_ | (refine zim ?_; intro zb hc) | (refine zin ?_; intro zb) | intro j')
        all_goals try refine zbx ?_
    · rw [facI]
      by_cases h0 : n = 0
      · subst h0; obtain rfl : k = 0 := by omega
        rfl
      · congr 1; omega
  · rw [show facR n = -1 from if_neg h]
    refine fO sg0 [2] Try.func55 ?_
    have cE1 := @spec_l1In_c
    refine dEa trivial ?_
    all_goals try (refine zlf ?_; repeat' first | exact zso | refine And.intro ?_ ?_ | (refine zim ?_; intro zb hc) | (refine zin ?_; intro zb) | intro j')
    all_goals try refine zbx ?_
/-- One inner round: from m take what begins with k whole ones. -/
def awIn (xs : List Int) (n : Nat) : Nat → Int
  | 0 => facN n
  | k + 1 => awIn xs n k - xs.getD (k + 1) 0 * facN (n - (k + 1))
/-- The list up to n. -/
def awL : Nat → List Int
  | 0 => [0]
  | n + 1 => awL n ++ [awIn (awL n) (n + 1) n]
theorem awL_len : ∀ {n}, (awL n).length = n + 1
  | 0 => rfl
  | n + 1 => by simp [awL, awL_len (n := n)]
theorem awB : ∀ j, j < 12 → ∀ k, k < 12 → -1000000000000 ≤ awIn (awL j) (j + 1) k ∧ awIn (awL j) (j + 1) k ≤ 1000000000000 ∧
    -1000000000000 ≤ (awL j).getD (k + 1) 0 * facN (j + 1 - (k + 1)) ∧ (awL j).getD (k + 1) 0 * facN (j + 1 - (k + 1)) ≤ 1000000000000 := by decide +kernel
def awR (n : Int) : Int := if 0 ≤ n ∧ n ≤ 12 then (awL n.toNat).getD n.toNat 0 else -1
theorem fac_s {j k : Nat} : facI ((j : Int) + 1 - (k + 1)) = facN (j + 1 - (k + 1)) := by rw [facI]; congr 1; omega
theorem facR_i {n : Int} (h : 0 ≤ n ∧ n ≤ 20) : facR n = facI n := if_pos h
theorem impl_AllWhole_c (n : Int) : Fun Try.prog 52 [(.int .i64 (n))] [(.int .i64 (awR n))] := by
  by_cases h : 0 ≤ n ∧ n ≤ 12
  · rw [show awR n = (awL n.toNat).getD n.toNat 0 from if_pos h]
    obtain ⟨N, rfl⟩ := Int.eq_ofNat_of_zero_le h.1
    rw [Int.toNat_natCast]
    refine fO sg0 [2] Try.func52 ?_
    have cE1 := @impl_factorial_c; have cD1 := zdh [false, false, false, false, false, false, false, false, true, false, false, false] [(0, 8), (1, 8), (2, 8), (3, 8), (4, 8)]
    refine dEa trivial ?_
    all_goals try (refine zlf ?_; repeat' first | exact zso | refine And.intro ?_ ?_ | (refine zim ?_; intro zb hc) | (refine zin ?_; intro zb) | intro j')
    all_goals try refine zbx ?_
    refine v_loopB (fun ms1 S1 => ∃ (j : Nat), S1.e 0 = .p (.int .i64 (N)) ∧ OwnL (S1.e 3) S1.h S1.n (PV.int .i64) ((awL j).length) (awL j) ∧ S1.e 4 = .p (.int .i64 ((j + 1))) ∧ (j ≤ N) ∧ ms1 = N - j) ((fun (j : Nat) => N - j) (0)) ?_ ⟨0, dIa trivial ?_⟩
    all_goals try (refine zlf ?_; repeat' first | exact zso | refine And.intro ?_ ?_ | (refine zim ?_; intro zb hc) | (refine zin ?_; intro zb) | intro j')
    all_goals try refine zbx ?_
    rintro ms1 S1 ⟨j, h1_0, o1_3, h1_4, c1_0, hm1⟩
    obtain ⟨i1_3, h1_3, b1_3, l1_3⟩ := o1_3.out
    have ni1_3 := znds (x := i1_3) (n := S1.n)
    have fL1 := (And.intro h1_0 (And.intro h1_4 (And.intro h1_3 (And.intro b1_3 ni1_3))))
    refine dEa (And.intro fL1 @awL_len) ?_
    all_goals try (refine zlf ?_; repeat' first | exact zso | refine And.intro ?_ ?_ | (refine zim ?_; intro zb hc) | (refine zin ?_; intro zb) | intro j')
    all_goals try refine zbx ?_
    · refine v_loopB (fun ms2 S2 => ∃ (k : Nat), S2.e 0 = .p (.int .i64 (N)) ∧ S2.e 3 = .ref i1_3 0 (awL j).length ∧ S2.h i1_3 = .live false (List.map (PV.int .i64) (awL j)) ∧ S2.e 4 = .p (.int .i64 ((j + 1))) ∧ S2.e 5 = .p (.int .i64 ((awIn (awL j) (j + 1) k))) ∧ S2.e 6 = .p (.int .i64 ((k + 1))) ∧ (k ≤ j) ∧ (j < N) ∧ S1.n ≤ S2.n ∧ ms2 = j - k) ((fun (k : Nat) => j - k) (0)) ?_ ⟨0, dC fL1 ?_⟩
      all_goals try (refine zlf ?_; repeat' first | exact zso | refine And.intro ?_ ?_ | (refine zim ?_; intro zb hc) | (refine zin ?_; intro zb) | intro j')
      all_goals try refine zbx ?_
      rintro ms2 S2 ⟨k, h2_0, h2_3, b2_3, h2_4, h2_5, h2_6, c2_0, c2_1, u2_0, hm2⟩
      have ni1_3 := znds (x := i1_3) (n := S2.n)
      have fL2 := (And.intro h2_0 (And.intro h2_3 (And.intro b2_3 (And.intro h2_4 (And.intro h2_5 (And.intro h2_6 ni1_3))))))
      by_cases hk : k < j
      · have e := fac_s (j := j) (k := k)
        obtain ⟨_, _, b1, b2⟩ := awB j (by omega) k (by omega)
        obtain ⟨b3, b4, _, _⟩ := awB j (by omega) (k + 1) (by omega)
        rw [awIn] at b3 b4
        refine dEa (And.intro fL2 (And.intro @awL_len @e)) ?_
        all_goals try (refine zlf ?_; repeat' first | exact zso | refine And.intro ?_ ?_ | (refine zim ?_; intro zb hc) | (refine zin ?_; intro zb) | intro j')
        all_goals try refine zbx ?_
        focus
          refine q_lp_n ((fun (k : Nat) => j - k) (k+1)) (dC fL2 ?_) ⟨k+1, dC fL2 ?_⟩
          all_goals try (refine zlf ?_; repeat' first | exact zso | refine And.intro ?_ ?_ | (refine zim ?_; intro zb hc) | (refine zin ?_; intro zb) | intro j')
          all_goals try refine zbx ?_
        all_goals rw [awIn]
      · obtain rfl : k = j := by omega
        refine dEa (And.intro fL2 @awL_len) ?_
        all_goals try (refine zlf ?_; repeat' first | exact zso | refine And.intro ?_ ?_ | (refine zim ?_; intro zb hc) | (refine zin ?_; intro zb) | intro j')
        all_goals try refine zbx ?_
        focus
          refine q_lp_n ((fun (j : Nat) => N - j) (k+1)) (dC fL2 ?_) ⟨k+1, dC fL2 ?_⟩
          all_goals try (refine zlf ?_; repeat' first | exact zso | refine And.intro ?_ ?_ | (refine zim ?_; intro zb hc) | (refine zin ?_; intro zb) | intro j')
          all_goals try refine zbx ?_
        all_goals (simp [awL, awL_len])
    · obtain rfl : j = N := by omega
      rfl
  · rw [show awR n = -1 from if_neg h]
    refine fO sg0 [2] Try.func52 ?_
    have cE1 := @impl_factorial_c; have cD1 := zdh [false, false, false, false, false, false, false, false, true, false, false, false] [(0, 8), (1, 8), (2, 8), (3, 8), (4, 8)]
    refine dEa trivial ?_
    all_goals try (refine zlf ?_; repeat' first | exact zso | refine And.intro ?_ ?_ | (refine zim ?_; intro zb hc) | (refine zin ?_; intro zb) | intro j')
    all_goals try refine zbx ?_
theorem spec_AllWhole_c (n : Int) : Fun Try.prog 53 [(.int .i64 (n))] [(.int .i64 (awR n))] := by
  by_cases h : 0 ≤ n ∧ n ≤ 12
  · rw [show awR n = (awL n.toNat).getD n.toNat 0 from if_pos h]
    obtain ⟨N, rfl⟩ := Int.eq_ofNat_of_zero_le h.1
    rw [Int.toNat_natCast]
    refine fO sg0 [2] Try.func53 ?_
    have cE1 := @spec_l1In_c; have cE2 := @spec_FactorialOf_c; have cD1 := zdh [false, false, false, false, false, false, false, false, true, false, false, false] [(0, 8), (1, 8), (2, 8), (3, 8), (4, 8)]
    refine dEa trivial ?_
    all_goals try (refine zlf ?_; repeat' first | exact zso | refine And.intro ?_ ?_ | (refine zim ?_; intro zb hc) | (refine zin ?_; intro zb) | intro j')
    all_goals try refine zbx ?_
    refine v_loopB (fun ms1 S1 => ∃ (j : Nat), S1.e 0 = .p (.int .i64 (N)) ∧ OwnL (S1.e 3) S1.h S1.n (PV.int .i64) ((awL j).length) (awL j) ∧ S1.e 4 = .p (.int .i64 ((j + 1))) ∧ (j ≤ N) ∧ ms1 = N - j) ((fun (j : Nat) => N - j) (0)) ?_ ⟨0, dIa trivial ?_⟩
    all_goals try (refine zlf ?_; repeat' first | exact zso | refine And.intro ?_ ?_ | (refine zim ?_; intro zb hc) | (refine zin ?_; intro zb) | intro j')
    all_goals try refine zbx ?_
    rintro ms1 S1 ⟨j, h1_0, o1_3, h1_4, c1_0, hm1⟩
    obtain ⟨i1_3, h1_3, b1_3, l1_3⟩ := o1_3.out
    have ni1_3 := znds (x := i1_3) (n := S1.n)
    have fL1 := (And.intro h1_0 (And.intro h1_4 (And.intro h1_3 (And.intro b1_3 ni1_3))))
    have e0 : facR ((j : Int) + 1) = facN (j + 1) := if_pos (by omega)
    refine dEa (And.intro fL1 (And.intro @awL_len @e0)) ?_
    all_goals try (refine zlf ?_; repeat' first | exact zso | refine And.intro ?_ ?_ | (refine zim ?_; intro zb hc) | (refine zin ?_; intro zb) | intro j')
    all_goals try refine zbx ?_
    · refine v_loopB (fun ms2 S2 => ∃ (k : Nat), S2.e 0 = .p (.int .i64 (N)) ∧ S2.e 3 = .ref i1_3 0 (awL j).length ∧ S2.h i1_3 = .live false (List.map (PV.int .i64) (awL j)) ∧ S2.e 4 = .p (.int .i64 ((j + 1))) ∧ S2.e 5 = .p (.int .i64 ((awIn (awL j) (j + 1) k))) ∧ S2.e 6 = .p (.int .i64 ((k + 1))) ∧ (k ≤ j) ∧ (j < N) ∧ S1.n ≤ S2.n ∧ ms2 = j - k) ((fun (k : Nat) => j - k) (0)) ?_ ⟨0, dC fL1 ?_⟩
      all_goals try (refine zlf ?_; repeat' first | exact zso | refine And.intro ?_ ?_ | (refine zim ?_; intro zb hc) | (refine zin ?_; intro zb) | intro j')
      all_goals try refine zbx ?_
      rintro ms2 S2 ⟨k, h2_0, h2_3, b2_3, h2_4, h2_5, h2_6, c2_0, c2_1, u2_0, hm2⟩
      have ni1_3 := znds (x := i1_3) (n := S2.n)
      have fL2 := (And.intro h2_0 (And.intro h2_3 (And.intro b2_3 (And.intro h2_4 (And.intro h2_5 (And.intro h2_6 ni1_3))))))
      by_cases hk : k < j
      · have e : facR ((j : Int) + 1 - (k + 1)) = facN (j + 1 - (k + 1)) := by rw [facR_i (by omega), fac_s]
        obtain ⟨_, _, b1, b2⟩ := awB j (by omega) k (by omega)
        obtain ⟨b3, b4, _, _⟩ := awB j (by omega) (k + 1) (by omega)
        rw [awIn] at b3 b4
        refine dEa (And.intro fL2 (And.intro @awL_len @e)) ?_
        all_goals try (refine zlf ?_; repeat' first | exact zso | refine And.intro ?_ ?_ | (refine zim ?_; intro zb hc) | (refine zin ?_; intro zb) | intro j')
        all_goals try refine zbx ?_
        focus
          refine q_lp_n ((fun (k : Nat) => j - k) (k+1)) (dC fL2 ?_) ⟨k+1, dC fL2 ?_⟩
          all_goals try (refine zlf ?_; repeat' first | exact zso | refine And.intro ?_ ?_ | (refine zim ?_; intro zb hc) | (refine zin ?_; intro zb) | intro j')
          all_goals try refine zbx ?_
        all_goals rw [awIn]
      · obtain rfl : k = j := by omega
        refine dEa (And.intro fL2 @awL_len) ?_
        all_goals try (refine zlf ?_; repeat' first | exact zso | refine And.intro ?_ ?_ | (refine zim ?_; intro zb hc) | (refine zin ?_; intro zb) | intro j')
        all_goals try refine zbx ?_
        focus
          refine q_lp_n ((fun (j : Nat) => N - j) (k+1)) (dC fL2 ?_) ⟨k+1, dC fL2 ?_⟩
          all_goals try (refine zlf ?_; repeat' first | exact zso | refine And.intro ?_ ?_ | (refine zim ?_; intro zb hc) | (refine zin ?_; intro zb) | intro j')
          all_goals try refine zbx ?_
        all_goals (simp [awL, awL_len])
    · obtain rfl : j = N := by omega
      rfl
  · rw [show awR n = -1 from if_neg h]
    refine fO sg0 [2] Try.func53 ?_
    have cE1 := @spec_l1In_c; have cE2 := @spec_FactorialOf_c; have cD1 := zdh [false, false, false, false, false, false, false, false, true, false, false, false] [(0, 8), (1, 8), (2, 8), (3, 8), (4, 8)]
    refine dEa trivial ?_
    all_goals try (refine zlf ?_; repeat' first | exact zso | refine And.intro ?_ ?_ | (refine zim ?_; intro zb hc) | (refine zin ?_; intro zb) | intro j')
    all_goals try refine zbx ?_
end Go.Gl
