/-
 The patterns of a length in a permutation: what the reference computes. Conditions: none.
-/
import Derived.Test.YtfjfobbniglaeaaPatI
set_option linter.unusedSimpArgs false
set_option linter.unusedVariables false
set_option maxRecDepth 20000
set_option linter.unusedSectionVars false
namespace Go.Gl
open Go Go.Proofs
variable [Amb] [NoQ]
theorem bit_all : ∀ s, s < 256 → ∀ i, i < 8 → (s / 2 ^ i) &&& 1 = s / 2 ^ i % 2 := by decide
theorem bit_one {s i : Nat} : ((s : Int).fdiv (2 ^ i)) = ((s / 2 ^ i : Nat) : Int) := by
 rw [Int.fdiv_eq_ediv_of_nonneg _ (by exact_mod_cast Nat.zero_le _)]
 push_cast; rfl
theorem pow_8 : ∀ n, n < 9 → (1 : Int) * 2 ^ n = ((2 ^ n : Nat) : Int) ∧ 2 ^ n ≤ 256 := by decide
theorem n_6 {n : Int} : inR .u64 n = (0 ≤ n ∧ n ≤ 18446744073709551615) := by simp only [inR]; rfl
def sgPI : FuncId → List Bool := fun f => if f = 95 then [true] else []
theorem sgPI_eq {f : FuncId} : sgPI f = if f = 95 then [true] else [] := _root_.id rfl
theorem way_sgPI : wayE sgPI = false ∧ wayN sgPI = false ∧ wayS sgPI = false ∧ wayZ sgPI = false ∧ wayM sgPI = false := ⟨rfl, rfl, rfl, rfl, rfl⟩
attribute [go_sem] sgPI_eq way_sgPI
theorem spec_PatternsIn_c {m0 : Bool} (p : List Int) (k : Nat) (hp : isPermB p = true) (hk : k ≤ p.length) : Fun Try.prog 55 [(.sl (.lent m0) (List.map (PV.int .i64) (p))), (.int .i64 (k))] [(.sl .own (List.map (elI false) (spS p k (2 ^ p.length))))] := by
 refine fO sgPI [4] Try.func55 ?_
 have cE1 := @spec_l1In_c; have cE2 := @spec_IsPerm_c; have cE3 := @spec_l2Pattern_c; have cM1 := @spec_l3Put_c
 obtain ⟨h8, hq⟩ := isP_8 hp
 have u3 : (Try.prog.underlying 3).isSome = true := by rw [Try.underlying3]; rfl
 obtain ⟨e1, e2⟩ := pow_8 p.length (by omega)
 refine dEa @hp ?_
 all_goals try (refine zlf ?_; repeat' first | exact zso | refine And.intro ?_ ?_ | (refine zim ?_; intro zb hc) | (refine zin ?_; intro zb) | intro j')
 all_goals try refine zbx ?_
 refine v_loopB (fun ms1 S1 => ∃ (s : Nat), S1.e 0 = .p (.sl (.lent m0) (List.map (PV.int .i64) (p))) ∧ S1.e 1 = .p (.int .i64 (k)) ∧ OwnL (S1.e 5) S1.h S1.n (elI false) ((spS p k s).length) (spS p k s) ∧ S1.e 6 = .p (.int .i64 (s)) ∧ (s ≤ 2 ^ p.length) ∧ ms1 = 2 ^ p.length - s) ((fun (s : Nat) => 2 ^ p.length - s) (0)) ?_ ⟨0, dC trivial ?_⟩
 all_goals try (refine zlf ?_; repeat' first | exact zso | refine And.intro ?_ ?_ | (refine zim ?_; intro zb hc) | (refine zin ?_; intro zb) | intro j')
 all_goals try refine zbx ?_
 rintro ms1 S1 ⟨s, h1_0, h1_1, o1_5, h1_6, c1_0, hm1⟩
 obtain ⟨i1_5, h1_5, b1_5, l1_5⟩ := o1_5.out
 have ni1_5 := znds (x := i1_5) (n := S1.n)
 have fL1 := (And.intro h1_0 (And.intro h1_1 (And.intro h1_6 (And.intro h1_5 (And.intro b1_5 ni1_5)))))
 ·have b1 := spS_len (p := p) (k := k) (s := s)
  have b2 : ∀ l ∈ spS p k s, l.length ≤ 1048576 := fun l h => by have := spS_row l h; omega
  by_cases hs : s < 2 ^ p.length
  ·have hs' : ((s : Int) < 1 * 2 ^ p.length) = True := eq_true (by rw [e1]; omega)
   refine dEa (And.intro fL1 (And.intro @u3 @hs')) ?_
   all_goals try (refine zlf ?_; repeat' first | exact zso | refine And.intro ?_ ?_ | (refine zim ?_; intro zb hc) | (refine zin ?_; intro zb) | intro j')
   all_goals try refine zbx ?_
   ·rw [n_6]; omega
   refine v_loopB (fun ms2 S2 => ∃ (i : Nat), S2.e 0 = .p (.sl (.lent m0) (List.map (PV.int .i64) (p))) ∧ S2.e 1 = .p (.int .i64 (k)) ∧ OwnL (S2.e 5) S2.h S2.n (elI false) ((spS p k s).length) (spS p k s) ∧ S2.e 6 = .p (.int .i64 (s)) ∧ OwnL (S2.e 7) S2.h S2.n (PV.int .i64) ((selN p s i).length) (selN p s i) ∧ S2.e 8 = .p (.int .i64 (i)) ∧ (i ≤ p.length) ∧ NId (S2.e 7) (S2.e 5) ∧ S1.n ≤ S2.n ∧ ms2 = p.length - i) ((fun (i : Nat) => p.length - i) (0)) ?_ ⟨0, dC fL1 ?_⟩
   all_goals try (refine zlf ?_; repeat' first | exact zso | refine And.intro ?_ ?_ | (refine zim ?_; intro zb hc) | (refine zin ?_; intro zb) | intro j')
   all_goals try refine zbx ?_
   rintro ms2 S2 ⟨i, h2_0, h2_1, o2_5, h2_6, o2_7, h2_8, c2_0, u2_0, u2_1, hm2⟩
   obtain ⟨i2_5, h2_5, b2_5, l2_5⟩ := o2_5.out
   obtain ⟨i2_7, h2_7, b2_7, l2_7⟩ := o2_7.out
   have k2_0 := (u2_0).out h2_7 h2_5
   have ni2_5 := znds (x := i2_5) (n := S2.n)
   have ni2_7 := znds (x := i2_7) (n := S2.n)
   have di2_5i2_7 := zdne (x := i2_5) (y := i2_7)
   have fL2 := (And.intro h2_0 (And.intro h2_1 (And.intro h2_6 (And.intro h2_8 (And.intro h2_5 (And.intro b2_5 (And.intro h2_7 (And.intro b2_7 (And.intro ni2_5 (And.intro ni2_7 di2_5i2_7))))))))))
   ·have b3 := selN_len (p := p) (s := s) (i := i)
    by_cases hi : i < p.length
    ·have e3 := bit_one (s := s) (i := i)
     have e4 := bit_all s (Nat.lt_of_lt_of_le hs e2) i (by omega)
     have e5 := Nat.div_le_self s (2 ^ i)
     have s8 : s < 256 := Nat.lt_of_lt_of_le hs e2
     refine dEa (And.intro fL2 (And.intro @u3 (And.intro @e3 @e4))) ?_
     all_goals try (refine zlf ?_; repeat' first | exact zso | refine And.intro ?_ ?_ | (refine zim ?_; intro zb hc) | (refine zin ?_; intro zb) | intro j')
     all_goals try refine zbx ?_
     ·rw [n_6]; omega
     ·exact Int.natCast_nonneg _
     ·have e6 : ((s / 2 ^ i : Nat) : Int) ≤ 256 := Int.ofNat_le.2 (Nat.le_trans e5 (Nat.le_of_lt s8))
      have e7 : (0 : Int) ≤ ((s / 2 ^ i : Nat) : Int) := Int.natCast_nonneg _
      rw [n_i64]
      generalize ((s / 2 ^ i : Nat) : Int) = z at e6 e7 ⊢
      omega
     ·focus
       refine q_lp_n ((fun (i : Nat) => p.length - i) (i+1)) (dC fL2 ?_) ⟨i+1, dC fL2 ?_⟩
       all_goals try (refine zlf ?_; repeat' first | exact zso | refine And.intro ?_ ?_ | (refine zim ?_; intro zb hc) | (refine zin ?_; intro zb) | intro j')
       all_goals try refine zbx ?_
      all_goals (rw [selN, if_pos (by omega)])
      all_goals first | (simp; done) | trace_state
     ·focus
       refine q_lp_n ((fun (i : Nat) => p.length - i) (i+1)) (dC fL2 ?_) ⟨i+1, dC fL2 ?_⟩
       all_goals try (refine zlf ?_; repeat' first | exact zso | refine And.intro ?_ ?_ | (refine zim ?_; intro zb hc) | (refine zin ?_; intro zb) | intro j')
       all_goals try refine zbx ?_
      all_goals (rw [selN, if_neg (by omega), List.append_nil])
    ·obtain rfl : i = p.length := by omega
     have b5 : (patL (selN p s p.length)).length ≤ 8 := by rw [patL_len]; omega
     refine dEa (And.intro fL2 @u3) ?_
     all_goals try (refine zlf ?_; repeat' first | exact zso | refine And.intro ?_ ?_ | (refine zim ?_; intro zb hc) | (refine zin ?_; intro zb) | intro j')
     all_goals try refine zbx ?_
     ·focus
       refine q_lp_n ((fun (s : Nat) => 2 ^ p.length - s) (s+1)) (dC fL2 ?_) ⟨s+1, dC fL2 ?_⟩
       all_goals try (refine zlf ?_; repeat' first | exact zso | refine And.intro ?_ ?_ | (refine zim ?_; intro zb hc) | (refine zin ?_; intro zb) | intro j')
       all_goals try refine zbx ?_
      all_goals (rw [spS, if_pos (by omega)])
     ·focus
       refine q_lp_n ((fun (s : Nat) => 2 ^ p.length - s) (s+1)) (dC fL2 ?_) ⟨s+1, dC fL2 ?_⟩
       all_goals try (refine zlf ?_; repeat' first | exact zso | refine And.intro ?_ ?_ | (refine zim ?_; intro zb hc) | (refine zin ?_; intro zb) | intro j')
       all_goals try refine zbx ?_
      all_goals (rw [spS, if_neg (by omega)])
   all_goals trace_state
  ·have hs' : ((s : Int) < 1 * 2 ^ p.length) = False := eq_false (by rw [e1]; omega)
   obtain rfl : s = 2 ^ p.length := by omega
   refine dEa (And.intro fL1 (And.intro @u3 @hs')) ?_
   all_goals try (refine zlf ?_; repeat' first | exact zso | refine And.intro ?_ ?_ | (refine zim ?_; intro zb hc) | (refine zin ?_; intro zb) | intro j')
   all_goals try refine zbx ?_
   ·rw [n_6]; omega
   all_goals trace_state
 all_goals first | exact Nat.zero_le _ | trace_state
end Go.Gl
