/-
 A row put into rows in order: what the reference's function computes. Conditions: none.
-/
import Derived.Test.YtfjfobbniglaeaaSrtP
import Derived.Test.YtfjfobbniglaeaaClone
set_option linter.unusedSimpArgs false
set_option linter.unusedVariables false
set_option maxRecDepth 20000
set_option linter.unusedSectionVars false
namespace Go.Gl
open Go Go.Proofs
variable [Amb] [NoQ]
theorem tk_mid {L D : List (List Int)} {p : List Int} {j : Nat} (h : j ≤ L.length) : List.take (j + 1) (L.take j ++ p :: D) = L.take j ++ [p] := by
 rw [List.take_append, List.take_of_length_le (by simp; omega), List.length_take, Nat.min_eq_left h, Nat.add_sub_cancel_left]; rfl
theorem put_at {L : List (List Int)} {p : List Int} {j : Nat} (h1 : j ≤ L.length) (h2 : ∀ q, j ≤ q → q < L.length → befB p (L.getD q []) = true) (h3 : 0 < j → befB p (L.getD (j - 1) []) = false) (h4 : 0 < j → ¬ L.getD (j - 1) [] = p) : putP L p = L.take j ++ p :: L.drop j := by
 have e := atP_uniq h1 h2 h3
 rw [putP, insS, e, if_neg fun h => h4 h.1 h.2]; rfl
theorem put_in {L : List (List Int)} {p : List Int} {j : Nat} (h1 : j ≤ L.length) (h2 : ∀ q, j ≤ q → q < L.length → befB p (L.getD q []) = true) (h3 : 0 < j → befB p (L.getD (j - 1) []) = false) (h4 : 0 < j) (h5 : L.getD (j - 1) [] = p) : putP L p = L := by
 have e := atP_uniq h1 h2 h3
 rw [putP, e, if_pos ⟨h4, h5⟩]
theorem bef_dn {L : List (List Int)} {p : List Int} {j : Nat} (h2 : ∀ q, j ≤ q → q < L.length → befB p (L.getD q []) = true) (h3 : befB p (L.getD (j - 1) []) = true) : ∀ q, j - 1 ≤ q → q < L.length → befB p (L.getD q []) = true := fun q a b => by
 by_cases e : q = j - 1
 ·rw [e]; exact h3
 ·exact h2 q (by omega) b
theorem spec_l3Put_c {m1 : Bool} (L : List (List Int)) (p : List Int) (hL : L.length ≤ 1000000000) (hl : ∀ l ∈ L, l.length ≤ 1048576) (hp : p.length ≤ 1048576) : CallT Try.prog true 95 [.mu false (List.map (elI false) (L)), .pv (.sl (.lent m1) (List.map (PV.int .i64) (p)))] [none, none] [(.sl .own (List.map (elI false) (putP L p)))] := by
 refine fX sg0 [4] Try.func95 ?_
 have cE1 := @spec_l2Before_c; have cE2 := @spec_l2Same_c; have cD1 := zdh [false, false, false, true, false, true, true, true, false, true, false] [(0, 3), (1, 3), (2, 3), (3, 4), (0, 5), (1, 5), (2, 5), (0, 6), (1, 6), (2, 6), (3, 8), (5, 8), (6, 8), (7, 8)]
 refine dTa trivial ?_
 all_goals try (refine zlf ?_; repeat' first | exact zso | refine And.intro ?_ ?_ | (refine zim ?_; intro zb hc; repeat (have zc := zb.1; replace zb := zb.2)) | (refine zin ?_; intro zb) | intro j')
 all_goals try refine zbx ?_
 refine v_loopB (fun ms1 S1 => ∃ (j : Nat), S1.e 0 = .ref 0 0 (L).length ∧ S1.h 0 = .live true (List.map (elI false) (L)) ∧ 0 < S1.n ∧ S1.e 1 = .p (.sl (.lent m1) (List.map (PV.int .i64) (p))) ∧ S1.e 5 = .p (.int .i64 (j)) ∧ (j ≤ L.length) ∧ (∀ q, j ≤ q → q < L.length → befB p (L.getD q []) = true) ∧ ms1 = j) ((fun (j : Nat) => j) (L.length)) ?_ ⟨L.length, dC trivial ?_⟩
 all_goals try (refine zlf ?_; repeat' first | exact zso | refine And.intro ?_ ?_ | (refine zim ?_; intro zb hc; repeat (have zc := zb.1; replace zb := zb.2)) | (refine zin ?_; intro zb) | intro j')
 all_goals try refine zbx ?_
 rintro ms1 S1 ⟨j, h1_0, b1_0, l1_0, h1_1, h1_5, c1_0, c1_1, hm1⟩
 have n0 := znds (x := 0) (n := S1.n)
 have fL1 := (And.intro h1_0 (And.intro b1_0 (And.intro h1_1 (And.intro h1_5 n0))))
 ·have e1 : ((j : Int) - 1).toNat = j - 1 := by omega
  have e3 : List.take (L.length - j) (List.drop j L) = L.drop j := List.take_of_length_le (by simp)
  by_cases hj : 0 < j
  ·have e2 := hl (L.getD (j - 1) []) (getD_mem (by omega))
   have gg : ((0 : Int) < (j : Int)) = True := eq_true (by omega)
   by_cases h0 : j = L.length
   ·have h0' := h0
    subst h0'
    have e4 : List.drop L.length L = [] := List.drop_length
    have e5 : List.take L.length L = L := List.take_length
    have f1 : (L.length + 1 = (L ++ [p]).length) = True := eq_true (by simp)
    refine dTa (And.intro fL1 (And.intro @e1 (And.intro @e3 (And.intro @e4 (And.intro @e5 (And.intro @f1 @gg)))))) ?_
    all_goals try (refine zlf ?_; repeat' first | exact zso | refine And.intro ?_ ?_ | (refine zim ?_; intro zb hc; repeat (have zc := zb.1; replace zb := zb.2)) | (refine zin ?_; intro zb) | intro j')
    all_goals try refine zbx ?_
    ·focus
      refine q_lp_n ((fun (j : Nat) => j) (L.length - 1)) (dC fL1 ?_) ⟨L.length - 1, dC fL1 ?_⟩
      all_goals try (refine zlf ?_; repeat' first | exact zso | refine And.intro ?_ ?_ | (refine zim ?_; intro zb hc; repeat (have zc := zb.1; replace zb := zb.2)) | (refine zin ?_; intro zb) | intro j')
      all_goals try refine zbx ?_
     exact bef_dn c1_1 hc
    ·exact (put_in (Nat.le_refl _) c1_1 (fun _ => by assumption) hj hc).symm
    ·rw [put_at (Nat.le_refl _) c1_1 (fun _ => by assumption) (fun _ => by assumption), List.take_of_length_le (by simp)]; simp
   ·have f0 : (j = L.length) = False := eq_false h0
    have f1 : (j + 1 ≤ L.length) = True := eq_true (by omega)
    have f2 : (List.take j L ++ p :: List.drop (j + 1) L).length = L.length := by simp; omega
    have f3 : (List.drop j L).length = L.length - j := by simp
    by_cases h1 : j + 1 = L.length
    ·have f4 : (j + 1 = L.length) = True := eq_true h1
     refine dTa (And.intro fL1 (And.intro @e1 (And.intro @e3 (And.intro @f0 (And.intro @f1 (And.intro @f2 (And.intro @f3 (And.intro @f4 @gg)))))))) ?_
     all_goals try (refine zlf ?_; repeat' first | exact zso | refine And.intro ?_ ?_ | (refine zim ?_; intro zb hc; repeat (have zc := zb.1; replace zb := zb.2)) | (refine zin ?_; intro zb) | intro j')
     all_goals try refine zbx ?_
     ·focus
       refine q_lp_n ((fun (j : Nat) => j) (j - 1)) (dC fL1 ?_) ⟨j - 1, dC fL1 ?_⟩
       all_goals try (refine zlf ?_; repeat' first | exact zso | refine And.intro ?_ ?_ | (refine zim ?_; intro zb hc; repeat (have zc := zb.1; replace zb := zb.2)) | (refine zin ?_; intro zb) | intro j')
       all_goals try refine zbx ?_
      exact bef_dn c1_1 hc
     ·exact (put_in c1_0 c1_1 (fun _ => by assumption) hj hc).symm
     ·rw [put_at c1_0 c1_1 (fun _ => by assumption) (fun _ => by assumption), List.drop_of_length_le (i := j + 1) (by omega), List.nil_append, List.take_of_length_le (by simp; omega)]
    ·have f4 : (j + 1 = L.length) = False := eq_false h1
     have f5 : (j + (1 + (L.length - j)) ≤ L.length) = False := eq_false (by omega)
     refine dTa (And.intro fL1 (And.intro @e1 (And.intro @e3 (And.intro @f0 (And.intro @f1 (And.intro @f2 (And.intro @f3 (And.intro @f4 (And.intro @f5 @gg))))))))) ?_
     all_goals try (refine zlf ?_; repeat' first | exact zso | refine And.intro ?_ ?_ | (refine zim ?_; intro zb hc; repeat (have zc := zb.1; replace zb := zb.2)) | (refine zin ?_; intro zb) | intro j')
     all_goals try refine zbx ?_
     ·focus
       refine q_lp_n ((fun (j : Nat) => j) (j - 1)) (dC fL1 ?_) ⟨j - 1, dC fL1 ?_⟩
       all_goals try (refine zlf ?_; repeat' first | exact zso | refine And.intro ?_ ?_ | (refine zim ?_; intro zb hc; repeat (have zc := zb.1; replace zb := zb.2)) | (refine zin ?_; intro zb) | intro j')
       all_goals try refine zbx ?_
      exact bef_dn c1_1 hc
     ·exact (put_in c1_0 c1_1 (fun _ => by assumption) hj hc).symm
     ·rw [put_at c1_0 c1_1 (fun _ => by assumption) (fun _ => by assumption), tk_mid (by omega), List.take_of_length_le (by simp; omega), List.append_assoc]; rfl
  ·have gg : ((0 : Int) < (j : Int)) = False := eq_false (by omega)
   by_cases h0 : j = L.length
   ·have h0' := h0
    subst h0'
    have e4 : List.drop L.length L = [] := List.drop_length
    have e5 : List.take L.length L = L := List.take_length
    have f1 : (L.length + 1 = (L ++ [p]).length) = True := eq_true (by simp)
    refine dTa (And.intro fL1 (And.intro @e1 (And.intro @e3 (And.intro @e4 (And.intro @e5 (And.intro @f1 @gg)))))) ?_
    all_goals try (refine zlf ?_; repeat' first | exact zso | refine And.intro ?_ ?_ | (refine zim ?_; intro zb hc; repeat (have zc := zb.1; replace zb := zb.2)) | (refine zin ?_; intro zb) | intro j')
    all_goals try refine zbx ?_
    rw [put_at (Nat.le_refl _) c1_1 (fun h => absurd h hj) (fun h => absurd h hj), List.take_of_length_le (by simp)]; simp
   ·have f0 : (j = L.length) = False := eq_false h0
    have f1 : (j + 1 ≤ L.length) = True := eq_true (by omega)
    have f2 : (List.take j L ++ p :: List.drop (j + 1) L).length = L.length := by simp; omega
    have f3 : (List.drop j L).length = L.length - j := by simp
    by_cases h1 : j + 1 = L.length
    ·have f4 : (j + 1 = L.length) = True := eq_true h1
     refine dTa (And.intro fL1 (And.intro @e1 (And.intro @e3 (And.intro @f0 (And.intro @f1 (And.intro @f2 (And.intro @f3 (And.intro @f4 @gg)))))))) ?_
     all_goals try (refine zlf ?_; repeat' first | exact zso | refine And.intro ?_ ?_ | (refine zim ?_; intro zb hc; repeat (have zc := zb.1; replace zb := zb.2)) | (refine zin ?_; intro zb) | intro j')
     all_goals try refine zbx ?_
     rw [put_at c1_0 c1_1 (fun h => absurd h hj) (fun h => absurd h hj), List.drop_of_length_le (i := j + 1) (by omega), List.nil_append, List.take_of_length_le (by simp; omega)]
    ·have f4 : (j + 1 = L.length) = False := eq_false h1
     have f5 : (j + (1 + (L.length - j)) ≤ L.length) = False := eq_false (by omega)
     refine dTa (And.intro fL1 (And.intro @e1 (And.intro @e3 (And.intro @f0 (And.intro @f1 (And.intro @f2 (And.intro @f3 (And.intro @f4 (And.intro @f5 @gg))))))))) ?_
     all_goals try (refine zlf ?_; repeat' first | exact zso | refine And.intro ?_ ?_ | (refine zim ?_; intro zb hc; repeat (have zc := zb.1; replace zb := zb.2)) | (refine zin ?_; intro zb) | intro j')
     all_goals try refine zbx ?_
     rw [put_at c1_0 c1_1 (fun h => absurd h hj) (fun h => absurd h hj), tk_mid (by omega), List.take_of_length_le (by simp; omega), List.append_assoc]; rfl
 all_goals trace_state
theorem isortL_len {L : List (List Int)} : (isortL L).length = L.length := by unfold isortL; rw [isort_len]; simp
theorem isortL_mem {L : List (List Int)} {x : List Int} : x ∈ isortL L ↔ x ∈ L := by unfold isortL; rw [isort_mem]; simp
theorem put_lens {L : List (List Int)} {n : Nat} (h : ∀ l ∈ L, l.length ≤ n) : ∀ l ∈ putL L, l.length ≤ n := fun l hl => by
 rw [putL, put_mem] at hl
 rcases hl with hl | hl
 ·exact h l hl
 ·cases hl
theorem putL_len {L : List (List Int)} : (putL L).length ≤ L.length := by have := put_len L (A := []); rw [List.length_nil, Nat.add_zero] at this; exact this
theorem putL_snoc {f : Nat → List Int} {k : Nat} : putL ((List.range (k + 1)).map f) = putP (putL ((List.range k).map f)) (f k) := by
 rw [List.range_succ, List.map_append, putL, List.foldl_append]; rfl
theorem isP_8 {p : List Int} (h : isPermB p = true) : p.length ≤ 8 ∧ permB p = true := by simpa [isPermB] using h
end Go.Gl
