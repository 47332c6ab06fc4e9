/-
 Rows in order, each once: what the library's compacting and the reference's putting in compute. Conditions: none.
-/
import Derived.Test.YtfjfobbniglaeaaSrt
import Derived.Test.YtfjfobbniglaeaaPut
import Derived.Test.YtfjfobbniglaeaaClone
set_option linter.unusedSimpArgs false
set_option linter.unusedVariables false
set_option maxRecDepth 20000
set_option linter.unusedSectionVars false
namespace Go.Gl
open Go Go.Proofs
variable [Amb] [NoQ]
theorem cptF_same {L : List (List Int)} : ∀ {j : Nat}, j ≤ L.length → (∀ i, 0 < i → i < j → L.getD i [] ≠ L.getD (i - 1) []) → cptF L j = L.take j
 | 0, _, _ => by simp [cptF]
 | j + 1, h, h1 => by
  rw [cptF, cptF_same (by omega) fun i a b => h1 i a (by omega), if_neg (fun q => h1 j q.1 (by omega) q.2), ← take_getD (by omega)]
theorem slices_CompactFunc_LLint_int_c (Z : List (List Int)) (hl : Z.length ≤ 1099511627776) (hz : ∀ l ∈ Z, l.length ≤ 1099511627776) : CallT Try.prog true 126 [.mu false (List.map (elI false) (Z)), .pv (.fn 71 [] [])] [none, none] [(.sl .own (List.map (elI false) (cptF Z Z.length)))] := by
 refine fX sg0 [4] Try.func126 ?_
 have cD1 := zdh [false, false, false, false, false, false, false, false, false, false, true] []; have cD2 := zdh [false, false, false, false, false, false, false, false, false, false, true, false] []
 have e0 : Z.length < 2 → cptF Z Z.length = Z := fun h => by
  rw [cptF_same (Nat.le_refl _) (fun i a b => by omega), List.take_length]
 refine dTa trivial ?_
 all_goals try (refine zlf ?_; repeat' first | exact zso | refine And.intro ?_ ?_ | (refine zim ?_; intro zb hc) | (refine zin ?_; intro zb) | intro j')
 all_goals try refine zbx ?_
 ·exact (e0 (by omega)).symm
 refine v_loopB (fun ms1 S1 => ∃ (k : Nat), S1.e 0 = .ref 0 0 (Z).length ∧ S1.h 0 = .live true (List.map (elI false) (Z)) ∧ 0 < S1.n ∧ S1.e 1 = .p (.fn 71 [] []) ∧ S1.e 5 = .p (.int .i64 (k)) ∧ (1 ≤ k) ∧ (k ≤ Z.length) ∧ (∀ i, 0 < i → i < k → Z.getD i [] ≠ Z.getD (i - 1) []) ∧ ms1 = Z.length - k) ((fun (k : Nat) => Z.length - k) (1)) ?_ ⟨1, dC trivial ?_⟩
 all_goals try (refine zlf ?_; repeat' first | exact zso | refine And.intro ?_ ?_ | (refine zim ?_; intro zb hc) | (refine zin ?_; intro zb) | intro j')
 all_goals try refine zbx ?_
 rintro ms1 S1 ⟨k, h1_0, b1_0, l1_0, h1_1, h1_5, c1_0, c1_1, c1_2, hm1⟩
 have n0 := znds (x := 0) (n := S1.n)
 have fL1 := (And.intro h1_0 (And.intro b1_0 (And.intro h1_1 (And.intro h1_5 n0))))
 ·by_cases hk : k < Z.length
  ·have e1 : ((k : Int) - 1).toNat = k - 1 := by omega
   have e2 := hz (Z.getD k []) (getD_mem hk)
   have e3 := hz (Z.getD (k - 1) []) (getD_mem (by omega))
   have cE1 := @slices_Equal_int_int_c
   refine dTa (And.intro fL1 @e1) ?_
   all_goals try (refine zlf ?_; repeat' first | exact zso | refine And.intro ?_ ?_ | (refine zim ?_; intro zb hc) | (refine zin ?_; intro zb) | intro j')
   all_goals try refine zbx ?_
   rotate_left
   ·focus
     refine q_lp_n ((fun (k : Nat) => Z.length - k) (k+1)) (dC fL1 ?_) ⟨k+1, dC fL1 ?_⟩
     all_goals try (refine zlf ?_; repeat' first | exact zso | refine And.intro ?_ ?_ | (refine zim ?_; intro zb hc) | (refine zin ?_; intro zb) | intro j')
     all_goals try refine zbx ?_
    intro i h1 h2
    by_cases h3 : i = k
    ·subst h3; exact hc
    ·exact c1_2 i h1 (by omega)
   ·have f1 := cptF_same (L := Z) (j := k) (by omega) c1_2
    have f2 : cptF Z (k + 1) = Z.take k := by rw [cptF, if_pos ⟨by omega, hc⟩, List.append_nil, f1]
    have f3 : (Z.take k).length = k := by simp; omega
    refine v_loopB (fun ms2 S2 => ∃ (j : Nat) (Y : List (List Int)), S2.e 0 = .ref 0 0 (Y).length ∧ S2.h 0 = .live true (List.map (elI false) (Y)) ∧ 0 < S2.n ∧ S2.e 1 = .p (.fn 71 [] []) ∧ S2.e 5 = .p (.int .i64 ((cptF Z (k + j)).length)) ∧ S2.e 6 = .ref 0 k (Z.length - k) ∧ S2.e 7 = .p (.int .i64 (j)) ∧ (1 ≤ j) ∧ (k + j ≤ Z.length) ∧ (Y.length = Z.length) ∧ (Y.take (cptF Z (k + j)).length = cptF Z (k + j)) ∧ ((cptF Z (k + j)).length < k + j) ∧ (∀ q, k + j ≤ q + 1 → q < Z.length → Y.getD q [] = Z.getD q []) ∧ S1.n ≤ S2.n ∧ ms2 = Z.length - k - j) ((fun (j : Nat) (Y : List (List Int)) => Z.length - k - j) (1) (Z)) ?_ ⟨1, Z, dC fL1 ?_⟩
    all_goals try (refine zlf ?_; repeat' first | exact zso | refine And.intro ?_ ?_ | (refine zim ?_; intro zb hc) | (refine zin ?_; intro zb) | intro j')
    all_goals try refine zbx ?_
    rintro ms2 S2 ⟨j, Y, h2_0, b2_0, l2_0, h2_1, h2_5, h2_6, h2_7, c2_0, c2_1, c2_2, c2_3, c2_4, c2_5, u2_0, hm2⟩
    have n0 := znds (x := 0) (n := S2.n)
    have fL2 := (And.intro h2_0 (And.intro b2_0 (And.intro h2_1 (And.intro h2_5 (And.intro h2_6 (And.intro h2_7 n0))))))
    ·by_cases hj : k + j < Z.length
     ·have g1 := c2_5 (k + j) (by omega) hj
      have g2 := c2_5 (k + j - 1) (by omega) (by omega)
      have g3 := hz (Z.getD (k + j) []) (getD_mem hj)
      have g4 := hz (Z.getD (k + j - 1) []) (getD_mem (by omega))
      have g5 : ((j : Int) - 1).toNat = j - 1 := by omega
      have g6 : k + (j - 1) = k + j - 1 := by omega
      have cE1 := @slices_Equal_int_int_c
      refine dTa (And.intro fL2 (And.intro @g1 (And.intro @g2 (And.intro @g5 (And.intro @g6 @c2_2))))) ?_
      all_goals try (refine zlf ?_; repeat' first | exact zso | refine And.intro ?_ ?_ | (refine zim ?_; intro zb hc) | (refine zin ?_; intro zb) | intro j')
      all_goals try refine zbx ?_
      ·have s1 : cptF Z (k + (j + 1)) = cptF Z (k + j) ++ [Z.getD (k + j) []] := by rw [show k + (j + 1) = k + j + 1 from rfl, cptF, if_neg (fun q => hc q.2)]
       have s2 : (cptF Z (k + (j + 1))).length = (cptF Z (k + j)).length + 1 := by rw [s1, List.length_append]; rfl
       focus
        refine q_lp_n ((fun (j : Nat) (Y : List (List Int)) => Z.length - k - j) (j+1) (Y.set (cptF Z (k + j)).length (Z.getD (k + j) []))) (dC fL2 ?_) ⟨j+1, Y.set (cptF Z (k + j)).length (Z.getD (k + j) []), dC fL2 ?_⟩
        all_goals try (refine zlf ?_; repeat' first | exact zso | refine And.intro ?_ ?_ | (refine zim ?_; intro zb hc) | (refine zin ?_; intro zb) | intro j')
        all_goals try refine zbx ?_
       all_goals first | (rw [s2, set_take' (by omega), c2_3, s1]; done) | omega | skip
       all_goals try (intro q h5 h6; rw [List.getD_eq_getElem?_getD, List.getElem?_set_ne (by omega), ← List.getD_eq_getElem?_getD]; exact c2_5 q (by omega) h6)
      ·have s1 : cptF Z (k + (j + 1)) = cptF Z (k + j) := by rw [show k + (j + 1) = k + j + 1 from rfl, cptF, if_pos ⟨by omega, hc⟩, List.append_nil]
       focus
        refine q_lp_n ((fun (j : Nat) (Y : List (List Int)) => Z.length - k - j) (j+1) (Y)) (dC fL2 ?_) ⟨j+1, Y, dC fL2 ?_⟩
        all_goals try (refine zlf ?_; repeat' first | exact zso | refine And.intro ?_ ?_ | (refine zim ?_; intro zb hc) | (refine zin ?_; intro zb) | intro j')
        all_goals try refine zbx ?_
       ·rw [s1]
       ·rw [s1]; exact c2_3
       ·rw [s1]; omega
       ·intro q h5 h6; exact c2_5 q (by omega) h6
     ·have cE1 := trivial
      refine dTa (And.intro fL2 @c2_2) ?_
      all_goals try (refine zlf ?_; repeat' first | exact zso | refine And.intro ?_ ?_ | (refine zim ?_; intro zb hc) | (refine zin ?_; intro zb) | intro j')
      all_goals try refine zbx ?_
      obtain e9 : k + j = Z.length := by omega
      rw [List.take_append_of_le_length (by simp; omega), List.take_take, Nat.min_self, c2_3, e9]
    ·rw [f2, f3]
    ·rw [f2, f3]
    ·rw [f2, f3]; omega
  ·have cE1 := trivial
   refine dTa fL1 ?_
   all_goals try (refine zlf ?_; repeat' first | exact zso | refine And.intro ?_ ?_ | (refine zim ?_; intro zb hc) | (refine zin ?_; intro zb) | intro j')
   all_goals try refine zbx ?_
   obtain rfl : k = Z.length := by omega
   rw [cptF_same (Nat.le_refl _) c1_2, List.take_length]
def sgOrd : FuncId → List Bool := fun f => if f = 125 then [true] else if f = 126 then [true] else []
theorem sgOrd_eq {f : FuncId} : sgOrd f = if f = 125 then [true] else if f = 126 then [true] else [] := _root_.id rfl
theorem way_sgOrd : wayE sgOrd = false ∧ wayN sgOrd = false ∧ wayS sgOrd = false ∧ wayZ sgOrd = false ∧ wayM sgOrd = false := ⟨rfl, rfl, rfl, rfl, rfl⟩
attribute [go_sem] sgOrd_eq way_sgOrd
theorem impl_ordered_c {e0 m0 : Bool} (L : List (List Int)) (hL : L.length ≤ 12) (hl : ∀ l ∈ L, l.length ≤ 1048576) : Fun Try.prog 103 [(.sl (.lent m0) (List.map (elI e0) (L)))] [(.sl .own (List.map (elI false) (putL L)))] := by
 refine fO sgOrd [2] Try.func103 ?_
 have cE1 := @slices_Clone_c; have cE2 := @impl_comparePerms_c; have cE3 := @slices_Equal_int_int_c; have cM1 := @slices_SortFunc_LLint_int_c; have cM2 := @slices_CompactFunc_LLint_int_c
 refine dEa trivial ?_
 all_goals try (refine zlf ?_; repeat' first | exact zso | refine And.intro ?_ ?_ | (refine zim ?_; intro zb hc) | (refine zin ?_; intro zb) | intro j')
 all_goals try refine zbx ?_
 refine v_loopB (fun ms1 S1 => ∃ (k : Nat), S1.e 7 = .p (.sl (.lent m0) (List.map (elI e0) (L))) ∧ S1.e 8 = .p (.int .i64 (L.length)) ∧ OwnL (S1.e 3) S1.h S1.n (elI false) ((L.take k).length) (L.take k) ∧ S1.e 9 = .p (.int .i64 (k)) ∧ (k ≤ L.length) ∧ ms1 = L.length - k) ((fun (k : Nat) => L.length - k) (0)) ?_ ⟨0, dC trivial ?_⟩
 all_goals try (refine zlf ?_; repeat' first | exact zso | refine And.intro ?_ ?_ | (refine zim ?_; intro zb hc) | (refine zin ?_; intro zb) | intro j')
 all_goals try refine zbx ?_
 rintro ms1 S1 ⟨k, h1_7, h1_8, o1_3, h1_9, c1_0, hm1⟩
 obtain ⟨i1_3, h1_3, b1_3, l1_3⟩ := o1_3.out
 have ni1_3 := znds (x := i1_3) (n := S1.n)
 have fL1 := (And.intro h1_7 (And.intro h1_8 (And.intro h1_9 (And.intro h1_3 (And.intro b1_3 ni1_3)))))
 ·have b1 : k < L.length → (L.getD k []).length ≤ 1048576 := fun h => hl _ (getD_mem h)
  refine dE fL1 ?_
  all_goals try (refine zlf ?_; repeat' first | exact zso | refine And.intro ?_ ?_ | (refine zim ?_; intro zb hc) | (refine zin ?_; intro zb) | intro j')
  all_goals try refine zbx ?_
  all_goals try have b3 := b1 (by omega)
  all_goals try exact zaut
  ·focus
    refine q_lp_n ((fun (k : Nat) => L.length - k) (k+1)) (dC fL1 ?_) ⟨k+1, dC fL1 ?_⟩
    all_goals try (refine zlf ?_; repeat' first | exact zso | refine And.intro ?_ ?_ | (refine zim ?_; intro zb hc) | (refine zin ?_; intro zb) | intro j')
    all_goals try refine zbx ?_
   rw [take_getD (d := []) (by omega)]
  ·intro l h; exact hl l (List.mem_of_mem_take h)
  ·rw [isortL_len]
  ·rw [isortL_len]; simp; omega
  ·intro l h; have := hl l (List.mem_of_mem_take (isortL_mem.1 h)); omega
  ·rw [List.take_of_length_le (by omega), ord_eq]
 all_goals trace_state
end Go.Gl
