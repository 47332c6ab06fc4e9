/-
  Known numbers: what their functions compute. Conditions: none.
-/
import Derived.Test.YtfjfobbniglaeaaNum
set_option linter.unusedSimpArgs false
set_option linter.unusedVariables false
set_option maxRecDepth 20000
set_option linter.unusedSectionVars false
namespace Go.Gl
open Go Go.Proofs
variable [Amb]
/-- k factors of the product that chooses. -/
def chG (n : Int) : Nat → Int
  | 0 => 1
  | i + 1 => (chG n i * (n - i)).tdiv (i + 1)
def chR (n k : Int) : Int := if 0 ≤ n ∧ n ≤ 40 ∧ 0 ≤ k ∧ k ≤ n then chG n k.toNat else 0
theorem chG_b : ∀ n, n < 41 → ∀ i, i < 41 → 0 ≤ chG (n : Nat) i ∧ chG (n : Nat) i ≤ 1000000000000 := by decide +kernel
theorem chG_r {n : Int} (h0 : 0 ≤ n) (h1 : n ≤ 40) {i : Nat} (h : i ≤ 40) : 0 ≤ chG n i ∧ chG n i ≤ 1000000000000 := by
  have := chG_b n.toNat (by omega) i (by omega)
  rwa [Int.toNat_of_nonneg h0] at this
theorem ch_m {n c : Int} {i : Nat} (h0 : 0 ≤ c ∧ c ≤ 1000000000000) (h1 : 0 ≤ n ∧ n ≤ 40) (hi : (i : Int) ≤ n) : 0 ≤ c * (n - i) ∧ c * (n - i) ≤ 40000000000000 := by
  have a := Int.mul_nonneg h0.1 (show 0 ≤ n - (i : Int) by omega)
  have b := Int.mul_le_mul h0.2 (show n - (i : Int) ≤ 40 by omega) (by omega) (by omega)
  omega
theorem impl_Choose_c (n k : Int) : Fun Try.prog 78 [(.int .i64 (n)), (.int .i64 (k))] [(.int .i64 (chR n k))] := by
  by_cases h : 0 ≤ n ∧ n ≤ 40 ∧ 0 ≤ k ∧ k ≤ n
  · rw [show chR n k = chG n k.toNat from if_pos h]
    refine fO sg0 [4] Try.func78 ?_
    refine dEa trivial ?_
    all_goals try (refine zlf ?_; repeat' first | exact zso | refine And.intro ?_ ?_ | (refine zim ?_; intro zb hc) | (refine zin ?_; intro zb) | intro j')
    all_goals try refine zbx ?_
    refine v_loopB (fun ms1 S1 => ∃ (i : Nat), S1.e 0 = .p (.int .i64 (n)) ∧ S1.e 1 = .p (.int .i64 (k)) ∧ S1.e 5 = .p (.int .i64 (chG n i)) ∧ S1.e 22 = .p (.int .i64 (k)) ∧ S1.e 23 = .p (.int .i64 (i)) ∧ ((i : Int) ≤ k) ∧ ms1 = k.toNat - i) ((fun (i : Nat) => k.toNat - i) (0)) ?_ ⟨0, dC trivial ?_⟩
    all_goals try (refine zlf ?_; repeat' first | exact zso | refine And.intro ?_ ?_ | (refine zim ?_; intro zb hc) | (refine zin ?_; intro zb) | intro j')
    all_goals try refine zbx ?_
    rintro ms1 S1 ⟨i, h1_0, h1_1, h1_5, h1_22, h1_23, c1_0, hm1⟩
    have fL1 := (And.intro h1_0 (And.intro h1_1 (And.intro h1_5 (And.intro h1_22 h1_23))))
    have b1 := chG_r h.1 h.2.1 (i := i) (by omega)
    have b2 := ch_m b1 ⟨h.1, h.2.1⟩ (i := i) (by omega)
    have b3 := chG_r h.1 h.2.1 (i := min (i + 1) 40) (by omega)
    by_cases hi : (i : Int) < k
    · have e : min (i + 1) 40 = i + 1 := by omega
      rw [e] at b3
      rw [chG] at b3
      refine dEa fL1 ?_
      all_goals try (refine zlf ?_; repeat' first | exact zso | refine And.intro ?_ ?_ | (refine zim ?_; intro zb hc) | (refine zin ?_; intro zb) | intro j')
      all_goals try refine zbx ?_
      focus
        refine q_lp_n ((fun (i : Nat) => k.toNat - i) (i+1)) (dC fL1 ?_) ⟨i+1, dC fL1 ?_⟩
        all_goals try (refine zlf ?_; repeat' first | exact zso | refine And.intro ?_ ?_ | (refine zim ?_; intro zb hc) | (refine zin ?_; intro zb) | intro j')
        all_goals try refine zbx ?_
      all_goals rfl
    · obtain rfl : i = k.toNat := by omega
      refine dEa fL1 ?_
      all_goals try (refine zlf ?_; repeat' first | exact zso | refine And.intro ?_ ?_ | (refine zim ?_; intro zb hc) | (refine zin ?_; intro zb) | intro j')
      all_goals try refine zbx ?_
  · rw [show chR n k = 0 from if_neg h]
    refine fO sg0 [4] Try.func78 ?_
    refine dEa trivial ?_
    all_goals try (refine zlf ?_; repeat' first | exact zso | refine And.intro ?_ ?_ | (refine zim ?_; intro zb hc) | (refine zin ?_; intro zb) | intro j')
    all_goals try refine zbx ?_
theorem spec_Choose_c (n k : Int) : Fun Try.prog 79 [(.int .i64 (n)), (.int .i64 (k))] [(.int .i64 (chR n k))] := by
  by_cases h : 0 ≤ n ∧ n ≤ 40 ∧ 0 ≤ k ∧ k ≤ n
  · rw [show chR n k = chG n k.toNat from if_pos h]
    refine fO sg0 [4] Try.func79 ?_
    have cE1 := @spec_l1In_c
    refine dEa trivial ?_
    all_goals try (refine zlf ?_; repeat' first | exact zso | refine And.intro ?_ ?_ | (refine zim ?_; intro zb hc) | (refine zin ?_; intro zb) | intro j')
    all_goals try refine zbx ?_
    refine v_loopB (fun ms1 S1 => ∃ (i : Nat), S1.e 0 = .p (.int .i64 (n)) ∧ S1.e 1 = .p (.int .i64 (k)) ∧ S1.e 5 = .p (.int .i64 (chG n i)) ∧ S1.e 6 = .p (.int .i64 (i)) ∧ ((i : Int) ≤ k) ∧ ms1 = k.toNat - i) ((fun (i : Nat) => k.toNat - i) (0)) ?_ ⟨0, dC trivial ?_⟩
    all_goals try (refine zlf ?_; repeat' first | exact zso | refine And.intro ?_ ?_ | (refine zim ?_; intro zb hc) | (refine zin ?_; intro zb) | intro j')
    all_goals try refine zbx ?_
    rintro ms1 S1 ⟨i, h1_0, h1_1, h1_5, h1_6, c1_0, hm1⟩
    have fL1 := (And.intro h1_0 (And.intro h1_1 (And.intro h1_5 h1_6)))
    have b1 := chG_r h.1 h.2.1 (i := i) (by omega)
    have b2 := ch_m b1 ⟨h.1, h.2.1⟩ (i := i) (by omega)
    have b3 := chG_r h.1 h.2.1 (i := min (i + 1) 40) (by omega)
    by_cases hi : (i : Int) < k
    · have e : min (i + 1) 40 = i + 1 := by omega
      rw [e] at b3
      rw [chG] at b3
      refine dEa fL1 ?_
      all_goals try (refine zlf ?_; repeat' first | exact zso | refine And.intro ?_ ?_ | (refine zim ?_; intro zb hc) | (refine zin ?_; intro zb) | intro j')
      all_goals try refine zbx ?_
      focus
        refine q_lp_n ((fun (i : Nat) => k.toNat - i) (i+1)) (dC fL1 ?_) ⟨i+1, dC fL1 ?_⟩
        all_goals try (refine zlf ?_; repeat' first | exact zso | refine And.intro ?_ ?_ | (refine zim ?_; intro zb hc) | (refine zin ?_; intro zb) | intro j')
        all_goals try refine zbx ?_
      all_goals rfl
    · obtain rfl : i = k.toNat := by omega
      refine dEa fL1 ?_
      all_goals try (refine zlf ?_; repeat' first | exact zso | refine And.intro ?_ ?_ | (refine zim ?_; intro zb hc) | (refine zin ?_; intro zb) | intro j')
      all_goals try refine zbx ?_
  · rw [show chR n k = 0 from if_neg h]
    refine fO sg0 [4] Try.func79 ?_
    have cE1 := @spec_l1In_c
    refine dEa trivial ?_
    all_goals try (refine zlf ?_; repeat' first | exact zso | refine And.intro ?_ ?_ | (refine zim ?_; intro zb hc) | (refine zin ?_; intro zb) | intro j')
    all_goals try refine zbx ?_
def catR (n : Int) : Int := if 0 ≤ n ∧ n ≤ 20 then (chR (2 * n) n).tdiv (n + 1) else -1
theorem chR_b {n k : Int} : 0 ≤ chR n k ∧ chR n k ≤ 1000000000000 := by
  unfold chR; split
  · exact chG_r (by omega) (by omega) (by omega)
  · omega
theorem td_b {c d : Int} (h0 : 0 ≤ c ∧ c ≤ 1000000000000) (hd : 0 < d) : 0 ≤ c.tdiv d ∧ c.tdiv d ≤ 1000000000000 := by
  have a := Int.tdiv_nonneg h0.1 (Int.le_of_lt hd)
  have b := Int.tdiv_le_self (a := c) d h0.1
  omega
theorem impl_CatalanNumber_c (n : Int) : Fun Try.prog 31 [(.int .i64 (n))] [(.int .i64 (catR n))] := by
  by_cases h : 0 ≤ n ∧ n ≤ 20
  · rw [show catR n = (chR (2 * n) n).tdiv (n + 1) from if_pos h]
    have b1 := chR_b (n := 2 * n) (k := n)
    have b2 := td_b b1 (show 0 < n + 1 by omega)
    refine fO sg0 [2] Try.func31 ?_
    have cE1 := @impl_Choose_c
    refine dEa trivial ?_
    all_goals try (refine zlf ?_; repeat' first | exact zso | refine And.intro ?_ ?_ | (refine zim ?_; intro zb hc) | (refine zin ?_; intro zb) | intro j')
    all_goals try refine zbx ?_
  · rw [show catR n = -1 from if_neg h]
    refine fO sg0 [2] Try.func31 ?_
    have cE1 := @impl_Choose_c
    refine dEa trivial ?_
    all_goals try (refine zlf ?_; repeat' first | exact zso | refine And.intro ?_ ?_ | (refine zim ?_; intro zb hc) | (refine zin ?_; intro zb) | intro j')
    all_goals try refine zbx ?_
theorem spec_CatalanNumber_c (n : Int) : Fun Try.prog 32 [(.int .i64 (n))] [(.int .i64 (catR n))] := by
  by_cases h : 0 ≤ n ∧ n ≤ 20
  · rw [show catR n = (chR (2 * n) n).tdiv (n + 1) from if_pos h]
    have b1 := chR_b (n := 2 * n) (k := n)
    have b2 := td_b b1 (show 0 < n + 1 by omega)
    refine fO sg0 [2] Try.func32 ?_
    have cE1 := @spec_l1In_c; have cE2 := @spec_Choose_c
    refine dEa trivial ?_
    all_goals try (refine zlf ?_; repeat' first | exact zso | refine And.intro ?_ ?_ | (refine zim ?_; intro zb hc) | (refine zin ?_; intro zb) | intro j')
    all_goals try refine zbx ?_
  · rw [show catR n = -1 from if_neg h]
    refine fO sg0 [2] Try.func32 ?_
    have cE1 := @spec_l1In_c; have cE2 := @spec_Choose_c
    refine dEa trivial ?_
    all_goals try (refine zlf ?_; repeat' first | exact zso | refine And.intro ?_ ?_ | (refine zim ?_; intro zb hc) | (refine zin ?_; intro zb) | intro j')
    all_goals try refine zbx ?_
def fibN : Nat → Int × Int
  | 0 => (1, 1)
  | k + 1 => ((fibN k).2, (fibN k).1 + (fibN k).2)
theorem fib_b : ∀ k, k < 42 → (0 ≤ (fibN k).1 ∧ (fibN k).1 ≤ 1000000000) ∧ 0 ≤ (fibN k).2 ∧ (fibN k).2 ≤ 1000000000 := by decide +kernel
def fibR (n : Int) : Int := if 0 ≤ n ∧ n ≤ 40 then (fibN n.toNat).1 else -1
theorem impl_FibonacciNumber_c (n : Int) : Fun Try.prog 35 [(.int .i64 (n))] [(.int .i64 (fibR n))] := by
  by_cases h : 0 ≤ n ∧ n ≤ 40
  · rw [show fibR n = (fibN n.toNat).1 from if_pos h]
    refine fO sg0 [2] Try.func35 ?_
    refine dEa trivial ?_
    all_goals try (refine zlf ?_; repeat' first | exact zso | refine And.intro ?_ ?_ | (refine zim ?_; intro zb hc) | (refine zin ?_; intro zb) | intro j')
    all_goals try refine zbx ?_
    refine v_loopB (fun ms1 S1 => ∃ (i : Nat), S1.e 3 = .p (.int .i64 ((fibN i).1)) ∧ S1.e 4 = .p (.int .i64 ((fibN i).2)) ∧ S1.e 11 = .p (.int .i64 (n)) ∧ S1.e 12 = .p (.int .i64 (i)) ∧ ((i : Int) ≤ n) ∧ ms1 = n.toNat - i) ((fun (i : Nat) => n.toNat - i) (0)) ?_ ⟨0, dC trivial ?_⟩
    all_goals try (refine zlf ?_; repeat' first | exact zso | refine And.intro ?_ ?_ | (refine zim ?_; intro zb hc) | (refine zin ?_; intro zb) | intro j')
    all_goals try refine zbx ?_
    rintro ms1 S1 ⟨i, h1_3, h1_4, h1_11, h1_12, c1_0, hm1⟩
    have fL1 := (And.intro h1_3 (And.intro h1_4 (And.intro h1_11 h1_12)))
    have b1 := fib_b i (by omega)
    by_cases hi : (i : Int) < n
    · refine dEa fL1 ?_
      all_goals try (refine zlf ?_; repeat' first | exact zso | refine And.intro ?_ ?_ | (refine zim ?_; intro zb hc) | (refine zin ?_; intro zb) | intro j')
      all_goals try refine zbx ?_
      focus
        refine q_lp_n ((fun (i : Nat) => n.toNat - i) (i+1)) (dC fL1 ?_) ⟨i+1, dC fL1 ?_⟩
        all_goals try (refine zlf ?_; repeat' first | exact zso | refine And.intro ?_ ?_ | (refine zim ?_; intro zb hc) | (refine zin ?_; intro zb) | intro j')
        all_goals try refine zbx ?_
      all_goals rfl
    · obtain rfl : i = n.toNat := by omega
      refine dEa fL1 ?_
      all_goals try (refine zlf ?_; repeat' first | exact zso | refine And.intro ?_ ?_ | (refine zim ?_; intro zb hc) | (refine zin ?_; intro zb) | intro j')
      all_goals try refine zbx ?_
  · rw [show fibR n = -1 from if_neg h]
    refine fO sg0 [2] Try.func35 ?_
    refine dEa trivial ?_
    all_goals try (refine zlf ?_; repeat' first | exact zso | refine And.intro ?_ ?_ | (refine zim ?_; intro zb hc) | (refine zin ?_; intro zb) | intro j')
    all_goals try refine zbx ?_
theorem spec_FibonacciNumber_c (n : Int) : Fun Try.prog 36 [(.int .i64 (n))] [(.int .i64 (fibR n))] := by
  by_cases h : 0 ≤ n ∧ n ≤ 40
  · rw [show fibR n = (fibN n.toNat).1 from if_pos h]
    refine fO sg0 [2] Try.func36 ?_
    have cE1 := @spec_l1In_c
    refine dEa trivial ?_
    all_goals try (refine zlf ?_; repeat' first | exact zso | refine And.intro ?_ ?_ | (refine zim ?_; intro zb hc) | (refine zin ?_; intro zb) | intro j')
    all_goals try refine zbx ?_
    refine v_loopB (fun ms1 S1 => ∃ (i : Nat), S1.e 0 = .p (.int .i64 (n)) ∧ S1.e 3 = .p (.int .i64 ((fibN i).1)) ∧ S1.e 4 = .p (.int .i64 ((fibN i).2)) ∧ S1.e 5 = .p (.int .i64 ((i + 1))) ∧ ((i : Int) + 1 ≤ max n 1) ∧ ms1 = n.toNat - i) ((fun (i : Nat) => n.toNat - i) (0)) ?_ ⟨0, dC trivial ?_⟩
    all_goals try (refine zlf ?_; repeat' first | exact zso | refine And.intro ?_ ?_ | (refine zim ?_; intro zb hc) | (refine zin ?_; intro zb) | intro j')
    all_goals try refine zbx ?_
    rintro ms1 S1 ⟨i, h1_0, h1_3, h1_4, h1_5, c1_0, hm1⟩
    have fL1 := (And.intro h1_0 (And.intro h1_3 (And.intro h1_4 h1_5)))
    have b1 := fib_b i (by omega)
    by_cases hi : (i : Int) + 1 < n
    · refine dEa fL1 ?_
      all_goals try (refine zlf ?_; repeat' first | exact zso | refine And.intro ?_ ?_ | (refine zim ?_; intro zb hc) | (refine zin ?_; intro zb) | intro j')
      all_goals try refine zbx ?_
      focus
        refine q_lp_n ((fun (i : Nat) => n.toNat - i) (i+1)) (dC fL1 ?_) ⟨i+1, dC fL1 ?_⟩
        all_goals try (refine zlf ?_; repeat' first | exact zso | refine And.intro ?_ ?_ | (refine zim ?_; intro zb hc) | (refine zin ?_; intro zb) | intro j')
        all_goals try refine zbx ?_
      all_goals rfl
    · refine dEa fL1 ?_
      all_goals try (refine zlf ?_; repeat' first | exact zso | refine And.intro ?_ ?_ | (refine zim ?_; intro zb hc) | (refine zin ?_; intro zb) | intro j')
      all_goals try refine zbx ?_
      by_cases h0 : n = 0
      · subst h0; obtain rfl : i = 0 := by omega
        rfl
      · obtain e : n.toNat = i + 1 := by omega
        rw [e, fibN]
  · rw [show fibR n = -1 from if_neg h]
    refine fO sg0 [2] Try.func36 ?_
    have cE1 := @spec_l1In_c
    refine dEa trivial ?_
    all_goals try (refine zlf ?_; repeat' first | exact zso | refine And.intro ?_ ?_ | (refine zim ?_; intro zb hc) | (refine zin ?_; intro zb) | intro j')
    all_goals try refine zbx ?_
/-- One inner round of Schroeder's numbers. -/
def srIn (s : List Int) (m : Nat) : Nat → Int
  | 0 => s.getD m 0
  | k + 1 => srIn s m k + s.getD k 0 * s.getD (m - k) 0
def srL : Nat → List Int
  | 0 => [1]
  | m + 1 => srL m ++ [srIn (srL m) m (m + 1)]
theorem srL_len : ∀ {n}, (srL n).length = n + 1
  | 0 => rfl
  | n + 1 => by simp [srL, srL_len (n := n)]
theorem srB : ∀ m, m < 15 → ∀ k, k < 17 → 0 ≤ srIn (srL m) m k ∧ srIn (srL m) m k ≤ 1000000000000 ∧ 0 ≤ (srL m).getD k 0 * (srL m).getD (m - k) 0 ∧ (srL m).getD k 0 * (srL m).getD (m - k) 0 ≤ 1000000000000 := by decide +kernel
def srR (n : Int) : Int := if 0 ≤ n ∧ n ≤ 15 then (srL n.toNat).getD n.toNat 0 else -1
theorem impl_SchroederNumber_c (n : Int) : Fun Try.prog 33 [(.int .i64 (n))] [(.int .i64 (srR n))] := by
  by_cases h : 0 ≤ n ∧ n ≤ 15
  · rw [show srR n = (srL n.toNat).getD n.toNat 0 from if_pos h]
    obtain ⟨N, rfl⟩ := Int.eq_ofNat_of_zero_le h.1
    rw [Int.toNat_natCast]
    refine fO sg0 [2] Try.func33 ?_
    refine dEa trivial ?_
    all_goals try (refine zlf ?_; repeat' first | exact zso | refine And.intro ?_ ?_ | (refine zim ?_; intro zb hc) | (refine zin ?_; intro zb) | intro j')
    all_goals try refine zbx ?_
    refine v_loopB (fun ms1 S1 => ∃ (j : Nat), S1.e 0 = .p (.int .i64 (N)) ∧ OwnL (S1.e 3) S1.h S1.n (PV.int .i64) ((srL j).length) (srL j) ∧ S1.e 4 = .p (.int .i64 ((j + 1))) ∧ (j ≤ N) ∧ ms1 = N - j) ((fun (j : Nat) => N - j) (0)) ?_ ⟨0, dIa trivial ?_⟩
    all_goals try (refine zlf ?_; repeat' first | exact zso | refine And.intro ?_ ?_ | (refine zim ?_; intro zb hc) | (refine zin ?_; intro zb) | intro j')
    all_goals try refine zbx ?_
    rintro ms1 S1 ⟨j, h1_0, o1_3, h1_4, c1_0, hm1⟩
    obtain ⟨i1_3, h1_3, b1_3, l1_3⟩ := o1_3.out
    have ni1_3 := znds (x := i1_3) (n := S1.n)
    have fL1 := (And.intro h1_0 (And.intro h1_4 (And.intro h1_3 (And.intro b1_3 ni1_3))))
    have e0 : ((j : Int) + 1 - 1).toNat = j := by omega
    refine dEa (And.intro fL1 (And.intro @srL_len @e0)) ?_
    all_goals try (refine zlf ?_; repeat' first | exact zso | refine And.intro ?_ ?_ | (refine zim ?_; intro zb hc) | (refine zin ?_; intro zb) | intro j')
    all_goals try refine zbx ?_
    · refine v_loopB (fun ms2 S2 => ∃ (k : Nat), S2.e 0 = .p (.int .i64 (N)) ∧ S2.e 3 = .ref i1_3 0 (srL j).length ∧ S2.h i1_3 = .live false (List.map (PV.int .i64) (srL j)) ∧ S2.e 4 = .p (.int .i64 ((j + 1))) ∧ S2.e 5 = .p (.int .i64 ((srIn (srL j) j k))) ∧ S2.e 24 = .p (.int .i64 ((j + 1))) ∧ S2.e 25 = .p (.int .i64 (k)) ∧ (k ≤ j + 1) ∧ (j < N) ∧ S1.n ≤ S2.n ∧ ms2 = j + 1 - k) ((fun (k : Nat) => j + 1 - k) (0)) ?_ ⟨0, dC fL1 ?_⟩
      all_goals try (refine zlf ?_; repeat' first | exact zso | refine And.intro ?_ ?_ | (refine zim ?_; intro zb hc) | (refine zin ?_; intro zb) | intro j')
      all_goals try refine zbx ?_
      rintro ms2 S2 ⟨k, h2_0, h2_3, b2_3, h2_4, h2_5, h2_24, h2_25, c2_0, c2_1, u2_0, hm2⟩
      have ni1_3 := znds (x := i1_3) (n := S2.n)
      have fL2 := (And.intro h2_0 (And.intro h2_3 (And.intro b2_3 (And.intro h2_4 (And.intro h2_5 (And.intro h2_24 (And.intro h2_25 ni1_3)))))))
      by_cases hk : k < j + 1
      · have e1 : ((j : Int) + 1 - 1 - k).toNat = j - k := by omega
        obtain ⟨a1, a2, b1, b2⟩ := srB j (by omega) k (by omega)
        obtain ⟨b3, b4, _, _⟩ := srB j (by omega) (k + 1) (by omega)
        rw [srIn] at b3 b4
        refine dEa (And.intro fL2 (And.intro @srL_len @e1)) ?_
        all_goals try (refine zlf ?_; repeat' first | exact zso | refine And.intro ?_ ?_ | (refine zim ?_; intro zb hc) | (refine zin ?_; intro zb) | intro j')
        all_goals try refine zbx ?_
        focus
          refine q_lp_n ((fun (k : Nat) => j + 1 - k) (k+1)) (dC fL2 ?_) ⟨k+1, dC fL2 ?_⟩
          all_goals try (refine zlf ?_; repeat' first | exact zso | refine And.intro ?_ ?_ | (refine zim ?_; intro zb hc) | (refine zin ?_; intro zb) | intro j')
          all_goals try refine zbx ?_
        all_goals rw [srIn]
      · obtain rfl : k = j + 1 := by omega
        refine dEa (And.intro fL2 @srL_len) ?_
        all_goals try (refine zlf ?_; repeat' first | exact zso | refine And.intro ?_ ?_ | (refine zim ?_; intro zb hc) | (refine zin ?_; intro zb) | intro j')
        all_goals try refine zbx ?_
        focus
          refine q_lp_n ((fun (j : Nat) => N - j) (j+1)) (dC fL2 ?_) ⟨j+1, dC fL2 ?_⟩
          all_goals try (refine zlf ?_; repeat' first | exact zso | refine And.intro ?_ ?_ | (refine zim ?_; intro zb hc) | (refine zin ?_; intro zb) | intro j')
          all_goals try refine zbx ?_
        all_goals (simp [srL, srL_len])
      all_goals rfl
    · skip
      obtain rfl : j = N := by omega
      rfl
  · rw [show srR n = -1 from if_neg h]
    refine fO sg0 [2] Try.func33 ?_
    refine dEa trivial ?_
    all_goals try (refine zlf ?_; repeat' first | exact zso | refine And.intro ?_ ?_ | (refine zim ?_; intro zb hc) | (refine zin ?_; intro zb) | intro j')
    all_goals try refine zbx ?_
theorem spec_SchroederNumber_c (n : Int) : Fun Try.prog 34 [(.int .i64 (n))] [(.int .i64 (srR n))] := by
  by_cases h : 0 ≤ n ∧ n ≤ 15
  · rw [show srR n = (srL n.toNat).getD n.toNat 0 from if_pos h]
    obtain ⟨N, rfl⟩ := Int.eq_ofNat_of_zero_le h.1
    rw [Int.toNat_natCast]
    refine fO sg0 [2] Try.func34 ?_
    have cE1 := @spec_l1In_c
    refine dEa trivial ?_
    all_goals try (refine zlf ?_; repeat' first | exact zso | refine And.intro ?_ ?_ | (refine zim ?_; intro zb hc) | (refine zin ?_; intro zb) | intro j')
    all_goals try refine zbx ?_
    refine v_loopB (fun ms1 S1 => ∃ (j : Nat), S1.e 0 = .p (.int .i64 (N)) ∧ OwnL (S1.e 3) S1.h S1.n (PV.int .i64) ((srL j).length) (srL j) ∧ S1.e 4 = .p (.int .i64 ((j + 1))) ∧ (j ≤ N) ∧ ms1 = N - j) ((fun (j : Nat) => N - j) (0)) ?_ ⟨0, dIa trivial ?_⟩
    all_goals try (refine zlf ?_; repeat' first | exact zso | refine And.intro ?_ ?_ | (refine zim ?_; intro zb hc) | (refine zin ?_; intro zb) | intro j')
    all_goals try refine zbx ?_
    rintro ms1 S1 ⟨j, h1_0, o1_3, h1_4, c1_0, hm1⟩
    obtain ⟨i1_3, h1_3, b1_3, l1_3⟩ := o1_3.out
    have ni1_3 := znds (x := i1_3) (n := S1.n)
    have fL1 := (And.intro h1_0 (And.intro h1_4 (And.intro h1_3 (And.intro b1_3 ni1_3))))
    have e0 : ((j : Int) + 1 - 1).toNat = j := by omega
    refine dEa (And.intro fL1 (And.intro @srL_len @e0)) ?_
    all_goals try (refine zlf ?_; repeat' first | exact zso | refine And.intro ?_ ?_ | (refine zim ?_; intro zb hc) | (refine zin ?_; intro zb) | intro j')
    all_goals try refine zbx ?_
    · refine v_loopB (fun ms2 S2 => ∃ (k : Nat), S2.e 0 = .p (.int .i64 (N)) ∧ S2.e 3 = .ref i1_3 0 (srL j).length ∧ S2.h i1_3 = .live false (List.map (PV.int .i64) (srL j)) ∧ S2.e 4 = .p (.int .i64 ((j + 1))) ∧ S2.e 5 = .p (.int .i64 ((srIn (srL j) j k))) ∧ S2.e 6 = .p (.int .i64 (k)) ∧ (k ≤ j + 1) ∧ (j < N) ∧ S1.n ≤ S2.n ∧ ms2 = j + 1 - k) ((fun (k : Nat) => j + 1 - k) (0)) ?_ ⟨0, dC fL1 ?_⟩
      all_goals try (refine zlf ?_; repeat' first | exact zso | refine And.intro ?_ ?_ | (refine zim ?_; intro zb hc) | (refine zin ?_; intro zb) | intro j')
      all_goals try refine zbx ?_
      rintro ms2 S2 ⟨k, h2_0, h2_3, b2_3, h2_4, h2_5, h2_6, c2_0, c2_1, u2_0, hm2⟩
      have ni1_3 := znds (x := i1_3) (n := S2.n)
      have fL2 := (And.intro h2_0 (And.intro h2_3 (And.intro b2_3 (And.intro h2_4 (And.intro h2_5 (And.intro h2_6 ni1_3))))))
      by_cases hk : k < j + 1
      · have e1 : ((j : Int) + 1 - 1 - k).toNat = j - k := by omega
        obtain ⟨a1, a2, b1, b2⟩ := srB j (by omega) k (by omega)
        obtain ⟨b3, b4, _, _⟩ := srB j (by omega) (k + 1) (by omega)
        rw [srIn] at b3 b4
        refine dEa (And.intro fL2 (And.intro @srL_len @e1)) ?_
        all_goals try (refine zlf ?_; repeat' first | exact zso | refine And.intro ?_ ?_ | (refine zim ?_; intro zb hc) | (refine zin ?_; intro zb) | intro j')
        all_goals try refine zbx ?_
        focus
          refine q_lp_n ((fun (k : Nat) => j + 1 - k) (k+1)) (dC fL2 ?_) ⟨k+1, dC fL2 ?_⟩
          all_goals try (refine zlf ?_; repeat' first | exact zso | refine And.intro ?_ ?_ | (refine zim ?_; intro zb hc) | (refine zin ?_; intro zb) | intro j')
          all_goals try refine zbx ?_
        all_goals rw [srIn]
      · obtain rfl : k = j + 1 := by omega
        refine dEa (And.intro fL2 @srL_len) ?_
        all_goals try (refine zlf ?_; repeat' first | exact zso | refine And.intro ?_ ?_ | (refine zim ?_; intro zb hc) | (refine zin ?_; intro zb) | intro j')
        all_goals try refine zbx ?_
        focus
          refine q_lp_n ((fun (j : Nat) => N - j) (j+1)) (dC fL2 ?_) ⟨j+1, dC fL2 ?_⟩
          all_goals try (refine zlf ?_; repeat' first | exact zso | refine And.intro ?_ ?_ | (refine zim ?_; intro zb hc) | (refine zin ?_; intro zb) | intro j')
          all_goals try refine zbx ?_
        all_goals (simp [srL, srL_len])
      all_goals rfl
    · skip
      obtain rfl : j = N := by omega
      rfl
  · rw [show srR n = -1 from if_neg h]
    refine fO sg0 [2] Try.func34 ?_
    have cE1 := @spec_l1In_c
    refine dEa trivial ?_
    all_goals try (refine zlf ?_; repeat' first | exact zso | refine And.intro ?_ ?_ | (refine zim ?_; intro zb hc) | (refine zin ?_; intro zb) | intro j')
    all_goals try refine zbx ?_
end Go.Gl
