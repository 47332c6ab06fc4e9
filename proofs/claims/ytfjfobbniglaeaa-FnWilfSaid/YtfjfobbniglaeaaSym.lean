/-
  The symmetries of a permutation, written. Conditions: none.
-/
import Derived.Test.YtfjfobbniglaeaaOrd
import Derived.Test.YtfjfobbniglaeaaPat
import Derived.Test.YtfjfobbniglaeaaRev
set_option linter.unusedSimpArgs false
set_option linter.unusedVariables false
set_option maxRecDepth 20000
set_option linter.unusedSectionVars false
namespace Go.Gl
open Go Go.Proofs
variable [Amb]
theorem spec_l2Inverse_c {m0 : Bool} (p : List Int) (h8 : p.length ≤ 8) (hp : permB p = true) : Fun Try.prog 130 [(.sl (.lent m0) (List.map (PV.int .i64) (p)))] [(.sl .own (List.map (PV.int .i64) (inv p)))] := by
  refine fO sg0 [2] Try.func130 ?_
  refine dEa trivial ?_
  all_goals try (refine zlf ?_; repeat' first | exact zso | refine And.intro ?_ ?_ | (refine zim ?_; intro zb hc) | (refine zin ?_; intro zb) | intro j')
  all_goals try refine zbx ?_
  refine v_loopB (fun ms1 S1 => ∃ (k : Nat), S1.e 0 = .p (.sl (.lent m0) (List.map (PV.int .i64) (p))) ∧ OwnL (S1.e 3) S1.h S1.n (PV.int .i64) ((invL p k).length) (invL p k) ∧ S1.e 4 = .p (.int .i64 (k)) ∧ (k ≤ p.length) ∧ ms1 = p.length - k) ((fun (k : Nat) => p.length - k) (0)) ?_ ⟨0, dIa trivial ?_⟩
  all_goals try (refine zlf ?_; repeat' first | exact zso | refine And.intro ?_ ?_ | (refine zim ?_; intro zb hc) | (refine zin ?_; intro zb) | intro j')
  all_goals try refine zbx ?_
  rintro ms1 S1 ⟨k, h1_0, o1_3, h1_4, c1_0, hm1⟩
  obtain ⟨i1_3, h1_3, b1_3, l1_3⟩ := o1_3.out
  have ni1_3 := znds (x := i1_3) (n := S1.n)
  have fL1 := (And.intro h1_0 (And.intro h1_4 (And.intro h1_3 (And.intro b1_3 ni1_3))))
  have b1 : (invL p k).length = p.length := invL_len
  have b2 := fun h => perm_at hp (i := k) h
  refine dEa fL1 ?_
  all_goals try (refine zlf ?_; repeat' first | exact zso | refine And.intro ?_ ?_ | (refine zim ?_; intro zb hc) | (refine zin ?_; intro zb) | intro j')
  all_goals try refine zbx ?_
  · focus
      refine q_lp_n ((fun (k : Nat) => p.length - k) (k+1)) (dC fL1 ?_) ⟨k+1, dC fL1 ?_⟩
      all_goals try (refine zlf ?_; repeat' first | exact zso | refine And.intro ?_ ?_ | (refine zim ?_; intro zb hc) | (refine zin ?_; intro zb) | intro j')
      all_goals try refine zbx ?_
    all_goals first | (rw [invL_len, invL_len]; done) | skip
  · obtain rfl : k = p.length := by omega
    rfl
  · exact invL_len.symm
/-- The k-th symmetry. -/
def s1L (p : List Int) (k : Nat) : List Int := if k % 2 = 1 then inv p else p
def s2L (p : List Int) (k : Nat) : List Int := if k / 2 % 2 = 1 then (s1L p k).reverse else s1L p k
def symL (p : List Int) (k : Nat) : List Int := if 4 ≤ k then cplL (s2L p k) else s2L p k
theorem inv_b {p : List Int} : ∀ {k : Nat}, k ≤ p.length → ∀ x ∈ invL p k, 0 ≤ x ∧ x ≤ p.length
  | 0, _, x, h => by have := List.eq_of_mem_replicate h; subst this; omega
  | k + 1, hk, x, h => by
    rw [invL] at h
    rcases List.mem_or_eq_of_mem_set h with h | rfl
    · exact inv_b (by omega) x h
    · omega
theorem s2L_b {p : List Int} {k : Nat} (h8 : p.length ≤ 8) (hp : permB p = true) : ∀ x ∈ s2L p k, 0 ≤ x ∧ x ≤ 1048576 := by
  have h1 : ∀ x ∈ s1L p k, 0 ≤ x ∧ x ≤ 1048576 := fun x hx => by
    unfold s1L at hx
    split at hx
    · have := inv_b (Nat.le_refl _) x hx; omega
    · have := (permB_iff.1 hp).1 x hx; omega
  intro x hx
  unfold s2L at hx
  split at hx
  · exact h1 x (List.mem_reverse.1 hx)
  · exact h1 x hx
theorem s1L_len {p : List Int} {k : Nat} : (s1L p k).length = p.length := by unfold s1L; split; exact inv_len; rfl
theorem s2L_len {p : List Int} {k : Nat} : (s2L p k).length = p.length := by unfold s2L; split; rw [List.length_reverse, s1L_len]; exact s1L_len
theorem symL_len {p : List Int} {k : Nat} : (symL p k).length = p.length := by unfold symL; split; rw [cplL_len, s2L_len]; exact s2L_len
theorem s2L_b' {p : List Int} {k : Nat} (h8 : p.length ≤ 8) (hp : permB p = true) {q : List Int} (h : q = s2L p k) : ∀ x ∈ q, 0 ≤ x ∧ x ≤ 1048576 := by subst h; exact s2L_b h8 hp
theorem inR_td {k : Nat} (h : k < 8) : inR .i64 ((k : Int).tdiv 2) := by
  show (-9223372036854775808 : Int) ≤ _ ∧ _ ≤ (9223372036854775807 : Int)
  rw [Int.tdiv_eq_ediv_of_nonneg (by omega)]; omega
theorem spec_l3Symmetry_c {m0 : Bool} (p : List Int) (k : Nat) (hk : k < 8) (h8 : p.length ≤ 8) (hp : permB p = true) : Fun Try.prog 110 [(.sl (.lent m0) (List.map (PV.int .i64) (p))), (.int .i64 (k))] [(.sl .own (List.map (PV.int .i64) (symL p k)))] := by
  refine fO sg0 [4] Try.func110 ?_
  have cE1 := @spec_l2Inverse_c; have cE2 := @spec_l3Reverse_c; have cE3 := @spec_l3Complement_c
  have i1 : (inv p).length = p.length := inv_len
  have i2 : List.take p.length (inv p) = inv p := List.take_of_length_le (by omega)
  by_cases a1 : k % 2 = 1
  · have f1 : ((k : Int).tmod 2 = 1) = True := eq_true (by rw [Int.tmod_eq_emod_of_nonneg (by omega)]; omega)
    by_cases a2 : k / 2 % 2 = 1
    · have f2 : (((k : Int).tdiv 2).tmod 2 = 1) = True := eq_true (by rw [Int.tdiv_eq_ediv_of_nonneg (by omega), Int.tmod_eq_emod_of_nonneg (by omega)]; omega)
      by_cases a3 : 4 ≤ k
      · have f3 : (4 ≤ (k : Int)) = True := eq_true (by omega)
        have q2 : s2L p k = s2L p k := rfl
        conv at q2 => lhs; simp only [s2L, s1L, a1, a2, if_true, if_false]
        refine dEa (And.intro @f1 (And.intro @f2 (And.intro @f3 (And.intro @i1 @i2)))) ?_
        all_goals try (refine zlf ?_; repeat' first | exact zso | refine And.intro ?_ ?_ | (refine zim ?_; intro zb hc) | (refine zin ?_; intro zb) | intro j')
        all_goals try refine zbx ?_
        all_goals first | exact s2L_b' h8 hp q2 | (simp only [List.length_reverse, i1]; omega) | (simp only [symL, s2L, s1L, a1, a2, a3, if_true, if_false]; done) | exact hp | exact inR_td hk | skip
      · have f3 : (4 ≤ (k : Int)) = False := eq_false (by omega)
        have q2 : s2L p k = s2L p k := rfl
        conv at q2 => lhs; simp only [s2L, s1L, a1, a2, if_true, if_false]
        refine dEa (And.intro @f1 (And.intro @f2 (And.intro @f3 (And.intro @i1 @i2)))) ?_
        all_goals try (refine zlf ?_; repeat' first | exact zso | refine And.intro ?_ ?_ | (refine zim ?_; intro zb hc) | (refine zin ?_; intro zb) | intro j')
        all_goals try refine zbx ?_
        all_goals first | exact s2L_b' h8 hp q2 | (simp only [List.length_reverse, i1]; omega) | (simp only [symL, s2L, s1L, a1, a2, a3, if_true, if_false]; done) | exact hp | exact inR_td hk | skip
    · have f2 : (((k : Int).tdiv 2).tmod 2 = 1) = False := eq_false (by rw [Int.tdiv_eq_ediv_of_nonneg (by omega), Int.tmod_eq_emod_of_nonneg (by omega)]; omega)
      by_cases a3 : 4 ≤ k
      · have f3 : (4 ≤ (k : Int)) = True := eq_true (by omega)
        have q2 : s2L p k = s2L p k := rfl
        conv at q2 => lhs; simp only [s2L, s1L, a1, a2, if_true, if_false]
        refine dEa (And.intro @f1 (And.intro @f2 (And.intro @f3 (And.intro @i1 @i2)))) ?_
        all_goals try (refine zlf ?_; repeat' first | exact zso | refine And.intro ?_ ?_ | (refine zim ?_; intro zb hc) | (refine zin ?_; intro zb) | intro j')
        all_goals try refine zbx ?_
        all_goals first | exact s2L_b' h8 hp q2 | (simp only [List.length_reverse, i1]; omega) | (simp only [symL, s2L, s1L, a1, a2, a3, if_true, if_false]; done) | exact hp | exact inR_td hk | skip
      · have f3 : (4 ≤ (k : Int)) = False := eq_false (by omega)
        have q2 : s2L p k = s2L p k := rfl
        conv at q2 => lhs; simp only [s2L, s1L, a1, a2, if_true, if_false]
        refine dEa (And.intro @f1 (And.intro @f2 (And.intro @f3 (And.intro @i1 @i2)))) ?_
        all_goals try (refine zlf ?_; repeat' first | exact zso | refine And.intro ?_ ?_ | (refine zim ?_; intro zb hc) | (refine zin ?_; intro zb) | intro j')
        all_goals try refine zbx ?_
        all_goals first | exact s2L_b' h8 hp q2 | (simp only [List.length_reverse, i1]; omega) | (simp only [symL, s2L, s1L, a1, a2, a3, if_true, if_false]; done) | exact hp | exact inR_td hk | skip
  · have f1 : ((k : Int).tmod 2 = 1) = False := eq_false (by rw [Int.tmod_eq_emod_of_nonneg (by omega)]; omega)
    by_cases a2 : k / 2 % 2 = 1
    · have f2 : (((k : Int).tdiv 2).tmod 2 = 1) = True := eq_true (by rw [Int.tdiv_eq_ediv_of_nonneg (by omega), Int.tmod_eq_emod_of_nonneg (by omega)]; omega)
      by_cases a3 : 4 ≤ k
      · have f3 : (4 ≤ (k : Int)) = True := eq_true (by omega)
        have q2 : s2L p k = s2L p k := rfl
        conv at q2 => lhs; simp only [s2L, s1L, a1, a2, if_true, if_false]
        refine dEa (And.intro @f1 (And.intro @f2 (And.intro @f3 (And.intro @i1 @i2)))) ?_
        all_goals try (refine zlf ?_; repeat' first | exact zso | refine And.intro ?_ ?_ | (refine zim ?_; intro zb hc) | (refine zin ?_; intro zb) | intro j')
        all_goals try refine zbx ?_
        all_goals first | exact s2L_b' h8 hp q2 | (simp only [List.length_reverse, i1]; omega) | (simp only [symL, s2L, s1L, a1, a2, a3, if_true, if_false]; done) | exact hp | exact inR_td hk | skip
      · have f3 : (4 ≤ (k : Int)) = False := eq_false (by omega)
        have q2 : s2L p k = s2L p k := rfl
        conv at q2 => lhs; simp only [s2L, s1L, a1, a2, if_true, if_false]
        refine dEa (And.intro @f1 (And.intro @f2 (And.intro @f3 (And.intro @i1 @i2)))) ?_
        all_goals try (refine zlf ?_; repeat' first | exact zso | refine And.intro ?_ ?_ | (refine zim ?_; intro zb hc) | (refine zin ?_; intro zb) | intro j')
        all_goals try refine zbx ?_
        all_goals first | exact s2L_b' h8 hp q2 | (simp only [List.length_reverse, i1]; omega) | (simp only [symL, s2L, s1L, a1, a2, a3, if_true, if_false]; done) | exact hp | exact inR_td hk | skip
    · have f2 : (((k : Int).tdiv 2).tmod 2 = 1) = False := eq_false (by rw [Int.tdiv_eq_ediv_of_nonneg (by omega), Int.tmod_eq_emod_of_nonneg (by omega)]; omega)
      by_cases a3 : 4 ≤ k
      · have f3 : (4 ≤ (k : Int)) = True := eq_true (by omega)
        have q2 : s2L p k = s2L p k := rfl
        conv at q2 => lhs; simp only [s2L, s1L, a1, a2, if_true, if_false]
        refine dEa (And.intro @f1 (And.intro @f2 (And.intro @f3 (And.intro @i1 @i2)))) ?_
        all_goals try (refine zlf ?_; repeat' first | exact zso | refine And.intro ?_ ?_ | (refine zim ?_; intro zb hc) | (refine zin ?_; intro zb) | intro j')
        all_goals try refine zbx ?_
        all_goals first | exact s2L_b' h8 hp q2 | (simp only [List.length_reverse, i1]; omega) | (simp only [symL, s2L, s1L, a1, a2, a3, if_true, if_false]; done) | exact hp | exact inR_td hk | skip
      · have f3 : (4 ≤ (k : Int)) = False := eq_false (by omega)
        have q2 : s2L p k = s2L p k := rfl
        conv at q2 => lhs; simp only [s2L, s1L, a1, a2, if_true, if_false]
        refine dEa (And.intro @f1 (And.intro @f2 (And.intro @f3 (And.intro @i1 @i2)))) ?_
        all_goals try (refine zlf ?_; repeat' first | exact zso | refine And.intro ?_ ?_ | (refine zim ?_; intro zb hc) | (refine zin ?_; intro zb) | intro j')
        all_goals try refine zbx ?_
        all_goals first | exact s2L_b' h8 hp q2 | (simp only [List.length_reverse, i1]; omega) | (simp only [symL, s2L, s1L, a1, a2, a3, if_true, if_false]; done) | exact hp | exact inR_td hk | skip
end Go.Gl
