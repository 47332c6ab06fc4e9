/-
 Rows in order: what the library's sorting and compacting and the reference's putting in compute. Conditions: none.
-/
import Derived.Test.YtfjfobbniglaeaaSrtP
import Derived.Test.YtfjfobbniglaeaaShelfS
set_option linter.unusedSimpArgs false
set_option linter.unusedVariables false
set_option maxRecDepth 20000
set_option linter.unusedSectionVars false
namespace Go.Gl
open Go Go.Proofs
variable [Amb] [NoQ]
theorem bits_Len64_c (n : Int) (h0 : 0 ≤ n) (h1 : n ≤ 255) : Fun Try.prog 159 [.int .u64 n] [.int .i64 (Lib.bitLen n.toNat : Int)] := by
 refine Fun.of_plain Try.func159 rfl rfl rfl ?_
 intro w F G vs _ hv
 simp only [RepL] at hv
 obtain ⟨a, vs1, rfl, ha, rfl⟩ := hv
 have ha := repP_i ha
 subst ha
 exact (Try.bits_Len64 n w h0 (by omega)).mono fun e w' h => ⟨h.1, h.2 ▸ Go.RowKit.Below.refl _ _⟩
--%reg math/bits.Len64 bits_Len64_c _ ?_ ?_
theorem slices_insertionSortCmpFunc_int_c (Z : List (List Int)) (hl : Z.length ≤ 12) (hz : ∀ l ∈ Z, l.length ≤ 1048576) : CallT Try.prog false 150 [.mu false (List.map (elI false) (Z)), .pv (.int .i64 (0)), .pv (.int .i64 ((Z.length : Int))), .pv (.fn 118 [] [])] [some (List.map (elI false) (isortL Z)), none, none, none] [] := by
 refine fX sg0 [] Try.func150 ?_
 have cD1 := zdh [false, false, false, false, false, false, false, false, false, false, false, false, false, false, true, false, false] []; have cD2 := zdh [false, false, false, false, false, false, false, false, false, false, false, false, false, false, false, true, false, true] [(2, 15), (3, 15), (4, 15)]
 refine dEa trivial ?_
 all_goals try (refine zlf ?_; repeat' first | exact zso | refine And.intro ?_ ?_ | (refine zim ?_; intro zb hc) | (refine zin ?_; intro zb) | intro j')
 all_goals try refine zbx ?_
 refine v_loopB (fun ms1 S1 => ∃ (i : Nat), S1.e 0 = .ref 0 0 (isortL (Z.take i) ++ Z.drop i).length ∧ S1.h 0 = .live true (List.map (elI false) (isortL (Z.take i) ++ Z.drop i)) ∧ 0 < S1.n ∧ S1.e 1 = .p (.int .i64 (0)) ∧ S1.e 2 = .p (.int .i64 ((Z.length : Int))) ∧ S1.e 3 = .p (.fn 118 [] []) ∧ S1.e 8 = .p (.int .i64 (i)) ∧ (i ≤ Z.length ∨ (Z.length = 0 ∧ i = 1)) ∧ (1 ≤ i) ∧ ms1 = Z.length - i) ((fun (i : Nat) => Z.length - i) (1)) ?_ ⟨1, dC trivial ?_⟩
 all_goals try (refine zlf ?_; repeat' first | exact zso | refine And.intro ?_ ?_ | (refine zim ?_; intro zb hc) | (refine zin ?_; intro zb) | intro j')
 all_goals try refine zbx ?_
 rintro ms1 S1 ⟨i, h1_0, b1_0, l1_0, h1_1, h1_2, h1_3, h1_8, c1_0, c1_1, hm1⟩
 have n0 := znds (x := 0) (n := S1.n)
 have fL1 := (And.intro h1_0 (And.intro b1_0 (And.intro h1_1 (And.intro h1_2 (And.intro h1_3 (And.intro h1_8 n0))))))
 ·by_cases hi : i < Z.length
  ·have e0 := isort_tl (L := Z) (i := i) (by omega)
   refine dEa fL1 ?_
   all_goals try (refine zlf ?_; repeat' first | exact zso | refine And.intro ?_ ?_ | (refine zim ?_; intro zb hc) | (refine zin ?_; intro zb) | intro j')
   all_goals try refine zbx ?_
   refine v_loopB (fun ms2 S2 => ∃ (j : Nat), S2.e 0 = .ref 0 0 (insK (isortL (Z.take i)) (Z.getD i []) j ++ Z.drop (i + 1)).length ∧ S2.h 0 = .live true (List.map (elI false) (insK (isortL (Z.take i)) (Z.getD i []) j ++ Z.drop (i + 1))) ∧ 0 < S2.n ∧ S2.e 1 = .p (.int .i64 (0)) ∧ S2.e 2 = .p (.int .i64 ((Z.length : Int))) ∧ S2.e 3 = .p (.fn 118 [] []) ∧ S2.e 8 = .p (.int .i64 (i)) ∧ S2.e 9 = .p (.int .i64 (j)) ∧ (j ≤ i) ∧ (∀ q, j ≤ q → q < i → befB (Z.getD i []) ((isortL (Z.take i)).getD q []) = true) ∧ S1.n ≤ S2.n ∧ ms2 = j) ((fun (j : Nat) => j) (i)) ?_ ⟨i, dC fL1 ?_⟩
   all_goals try (refine zlf ?_; repeat' first | exact zso | refine And.intro ?_ ?_ | (refine zim ?_; intro zb hc) | (refine zin ?_; intro zb) | intro j')
   all_goals try refine zbx ?_
   rintro ms2 S2 ⟨j, h2_0, b2_0, l2_0, h2_1, h2_2, h2_3, h2_8, h2_9, c2_0, c2_1, u2_0, hm2⟩
   have n0 := znds (x := 0) (n := S2.n)
   have fL2 := (And.intro h2_0 (And.intro b2_0 (And.intro h2_1 (And.intro h2_2 (And.intro h2_3 (And.intro h2_8 (And.intro h2_9 n0)))))))
   ·have e4 := insK_len (L := isortL (Z.take i)) (p := Z.getD i []) (j := j)
    have e1 : (insK (isortL (Z.take i)) (Z.getD i []) j ++ Z.drop (i + 1)).getD j [] = Z.getD i [] := by rw [getD_app1 (by omega), insK_at (by omega)]
    have e5 := hz (Z.getD i []) (getD_mem hi)
    by_cases hj : 0 < j
    ·have e3 : ((j : Int) - 1).toNat = j - 1 := by omega
     have e2 : (insK (isortL (Z.take i)) (Z.getD i []) j ++ Z.drop (i + 1)).getD (j - 1) [] = (isortL (Z.take i)).getD (j - 1) [] := by rw [getD_app1 (by omega), insK_lo (by omega) (by omega)]
     have e6 := hz ((isortL (Z.take i)).getD (j - 1) []) (isort_sub (getD_mem (by omega)))
     have e7 := insK_swap (L := isortL (Z.take i)) (p := Z.getD i []) (j := j) hj (by omega) (R := Z.drop (i + 1))
     have cE1 := @impl_comparePerms_c
     refine dEa (And.intro fL2 (And.intro @e1 (And.intro @e2 (And.intro @e3 @e7)))) ?_
     all_goals try (refine zlf ?_; repeat' first | exact zso | refine And.intro ?_ ?_ | (refine zim ?_; intro zb hc) | (refine zin ?_; intro zb) | intro j')
     all_goals try refine zbx ?_
     ·focus
       refine q_lp_n ((fun (j : Nat) => j) (j-1)) (dC fL2 ?_) ⟨j-1, dC fL2 ?_⟩
       all_goals try (refine zlf ?_; repeat' first | exact zso | refine And.intro ?_ ?_ | (refine zim ?_; intro zb hc) | (refine zin ?_; intro zb) | intro j')
       all_goals try refine zbx ?_
      all_goals try (intro q h1 h2; by_cases h3 : q = j - 1)
      all_goals try (subst h3; exact decide_eq_true hc)
      all_goals try (exact c2_1 q (by omega) h2)
      rw [List.length_append, List.length_append, insK_len, insK_len]
     ·have e8 : atP (isortL (Z.take i)) (Z.getD i []) (isortL (Z.take i)).length = j := atP_uniq (by omega) (fun q a b => c2_1 q a (by omega)) fun _ => decide_eq_false (by omega)
      have e9 : insK (isortL (Z.take i)) (Z.getD i []) j = isortL (Z.take (i + 1)) := by rw [isort_snoc hi, insS, e8]
      focus
       refine q_lp_n ((fun (i : Nat) => Z.length - i) (i+1)) (dC fL2 ?_) ⟨i+1, dC fL2 ?_⟩
       all_goals try (refine zlf ?_; repeat' first | exact zso | refine And.intro ?_ ?_ | (refine zim ?_; intro zb hc) | (refine zin ?_; intro zb) | intro j')
       all_goals try refine zbx ?_
      all_goals rw [e9]
    ·obtain rfl : j = 0 := by omega
     have cE1 := trivial
     refine dEa fL2 ?_
     all_goals try (refine zlf ?_; repeat' first | exact zso | refine And.intro ?_ ?_ | (refine zim ?_; intro zb hc) | (refine zin ?_; intro zb) | intro j')
     all_goals try refine zbx ?_
     have e8 : atP (isortL (Z.take i)) (Z.getD i []) (isortL (Z.take i)).length = 0 := atP_uniq (by omega) (fun q a b => c2_1 q a (by omega)) fun h => absurd h (by omega)
     have e9 : insK (isortL (Z.take i)) (Z.getD i []) 0 = isortL (Z.take (i + 1)) := by rw [isort_snoc hi, insS, e8]
     focus
      refine q_lp_n ((fun (i : Nat) => Z.length - i) (i+1)) (dC fL2 ?_) ⟨i+1, dC fL2 ?_⟩
      all_goals try (refine zlf ?_; repeat' first | exact zso | refine And.intro ?_ ?_ | (refine zim ?_; intro zb hc) | (refine zin ?_; intro zb) | intro j')
      all_goals try refine zbx ?_
     all_goals rw [e9]
   ·rw [List.length_append, List.length_append, insK_len, e0, List.length_drop, List.length_drop]; omega
   ·have e1 := insK_end (L := isortL (Z.take i)) (p := Z.getD i [])
    rw [e0] at e1
    rw [e1, List.append_assoc, dropL_at hi]; rfl
  ·have e1 : isortL (Z.take i) ++ Z.drop i = isortL Z := by
    rcases c1_0 with h | ⟨h, _⟩
    ·rw [List.take_of_length_le (by omega), List.drop_of_length_le (by omega), List.append_nil]
    ·rw [List.take_of_length_le (by omega), List.drop_of_length_le (by omega), List.append_nil]
   have cE1 := trivial
   refine dEa (And.intro fL1 @e1) ?_
   all_goals try (refine zlf ?_; repeat' first | exact zso | refine And.intro ?_ ?_ | (refine zim ?_; intro zb hc) | (refine zin ?_; intro zb) | intro j')
   all_goals try refine zbx ?_
 ·rw [isort_1, List.take_append_drop]
 ·rw [isort_1, List.take_append_drop]
theorem math_bits_Len_c (n : Int) (h0 : 0 ≤ n) (h1 : n ≤ 255) : Fun Try.prog 141 [(.int .u64 (n))] [(.int .i64 ((Lib.bitLen n.toNat : Int)))] := by
 refine fO sg0 [2] Try.func141 ?_
 have cE1 := @bits_Len64_c
 refine dEa trivial ?_
 all_goals try (refine zlf ?_; repeat' first | exact zso | refine And.intro ?_ ?_ | (refine zim ?_; intro zb hc) | (refine zin ?_; intro zb) | intro j')
 all_goals try refine zbx ?_
def sgPdq : FuncId → List Bool := fun f => if f = 150 then [true] else []
theorem sgPdq_eq {f : FuncId} : sgPdq f = if f = 150 then [true] else [] := _root_.id rfl
theorem way_sgPdq : wayE sgPdq = false ∧ wayN sgPdq = false ∧ wayS sgPdq = false ∧ wayZ sgPdq = false ∧ wayM sgPdq = false := ⟨rfl, rfl, rfl, rfl, rfl⟩
attribute [go_sem] sgPdq_eq way_sgPdq
theorem slices_pdqsortCmpFunc_int_c (Z : List (List Int)) (b : Int) (hl : Z.length ≤ 12) (hz : ∀ l ∈ Z, l.length ≤ 1048576) : CallT Try.prog false 140 [.mu false (List.map (elI false) (Z)), .pv (.int .i64 (0)), .pv (.int .i64 ((Z.length : Int))), .pv (.int .i64 (b)), .pv (.fn 118 [] [])] [some (List.map (elI false) (isortL Z)), none, none, none, none] [] := by
 refine fX sgPdq [] Try.func140 ?_
 have cM1 := @slices_insertionSortCmpFunc_int_c; have cD1 := zdh [false, false, false, false, false, false, false, false, false, false, false, false, false, true, false, false, false] []
 refine dE trivial ?_
 all_goals try (refine zlf ?_; repeat' first | exact zso | refine And.intro ?_ ?_ | (refine zim ?_; intro zb hc) | (refine zin ?_; intro zb) | intro j')
 all_goals try refine zbx ?_
 refine v_loopB (fun ms1 S1 => ∃ (u : Nat), S1.e 0 = .ref 0 0 (Z).length ∧ S1.h 0 = .live true (List.map (elI false) (Z)) ∧ 0 < S1.n ∧ S1.e 1 = .p (.int .i64 (0)) ∧ S1.e 2 = .p (.int .i64 ((Z.length : Int))) ∧ S1.e 3 = .p (.int .i64 (b)) ∧ S1.e 4 = .p (.fn 118 [] []) ∧ S1.e 10 = .p (.bool (true)) ∧ S1.e 11 = .p (.bool (true)) ∧ ms1 = u) ((fun (u : Nat) => u) (0)) ?_ ⟨0, dC trivial ?_⟩
 all_goals try (refine zlf ?_; repeat' first | exact zso | refine And.intro ?_ ?_ | (refine zim ?_; intro zb hc) | (refine zin ?_; intro zb) | intro j')
 all_goals try refine zbx ?_
 rintro ms1 S1 ⟨u, h1_0, b1_0, l1_0, h1_1, h1_2, h1_3, h1_4, h1_10, h1_11, hm1⟩
 have n0 := znds (x := 0) (n := S1.n)
 have fL1 := (And.intro h1_0 (And.intro b1_0 (And.intro h1_1 (And.intro h1_2 (And.intro h1_3 (And.intro h1_4 (And.intro h1_10 (And.intro h1_11 n0))))))))
 ·have e1 : ((Z.length : Int) - 0 ≤ 12) = True := eq_true (by omega)
  refine dEa (And.intro fL1 @e1) ?_
  all_goals try (refine zlf ?_; repeat' first | exact zso | refine And.intro ?_ ?_ | (refine zim ?_; intro zb hc) | (refine zin ?_; intro zb) | intro j')
  all_goals try refine zbx ?_
def sgSrf : FuncId → List Bool := fun f => if f = 140 then [true] else []
theorem sgSrf_eq {f : FuncId} : sgSrf f = if f = 140 then [true] else [] := _root_.id rfl
theorem way_sgSrf : wayE sgSrf = false ∧ wayN sgSrf = false ∧ wayS sgSrf = false ∧ wayZ sgSrf = false ∧ wayM sgSrf = false := ⟨rfl, rfl, rfl, rfl, rfl⟩
attribute [go_sem] sgSrf_eq way_sgSrf
theorem slices_SortFunc_LLint_int_c (Z : List (List Int)) (hl : Z.length ≤ 12) (hz : ∀ l ∈ Z, l.length ≤ 1048576) : CallT Try.prog false 125 [.mu false (List.map (elI false) (Z)), .pv (.fn 118 [] [])] [some (List.map (elI false) (isortL Z)), none] [] := by
 refine fX sgSrf [] Try.func125 ?_
 have cE1 := @math_bits_Len_c; have cM1 := @slices_pdqsortCmpFunc_int_c
 have u3 : (Try.prog.underlying 3).isSome = true := by rw [Try.underlying3]; rfl
 refine dEa @u3 ?_
 all_goals try (refine zlf ?_; repeat' first | exact zso | refine And.intro ?_ ?_ | (refine zim ?_; intro zb hc) | (refine zin ?_; intro zb) | intro j')
 all_goals try refine zbx ?_
 ·show (0 : Int) ≤ _ ∧ _ ≤ (18446744073709551615 : Int); omega
end Go.Gl
