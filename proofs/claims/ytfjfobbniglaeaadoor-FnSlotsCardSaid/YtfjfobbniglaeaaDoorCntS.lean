/-
  Permutations with few slots, counted. Conditions: none.
-/
import Derived.Test.YtfjfobbniglaeaaDoorSlots2
import Derived.Test.YtfjfobbniglaeaaDoorCount
set_option linter.unusedSimpArgs false
set_option linter.unusedVariables false
set_option maxRecDepth 20000
set_option linter.unusedSectionVars false
namespace Go.Gl
open Go Go.Proofs
variable [Amb] [NoQ]
variable [TabA]
def csB (n k : Int) : Int := if (0 ≤ n ∧ n ≤ 6) ∧ 0 ≤ k ∧ k ≤ 8 then (cntL (fun p => decide (gsI p ≤ k)) (permL n.toNat) : Int) else -1
theorem impl_CountSlots_1_c {m0 : Bool} (p : List Int) (k : Int) (hl : p.length ≤ 1048576) : Fun Tryd.prog 45 [(.sl (.lent m0) (List.map (PV.int .i64) (p))), (.pc [.int .i64 k])] [(.bool (decide (gsI p ≤ k)))] := by
  refine fO sg0 [3] Tryd.func45 ?_
  have cE1 := @impl_GreatestSlots_c; have cD1 := zdh [false, true, false, false, false] [(1, 2)]
  refine dEa trivial ?_
  all_goals try (refine zlf ?_; repeat' first | exact zso | refine And.intro ?_ ?_ | (refine zim ?_; intro zb hc) | (refine zin ?_; intro zb) | intro j')
  all_goals try refine zbx ?_
theorem impl_CountSlots_c (n k : Int) : Fun Tryd.prog 15 [(.int .i64 (n)), (.int .i64 (k))] [(.int .i64 (csB n k))] := by
  by_cases hn : (0 ≤ n ∧ n ≤ 6) ∧ 0 ≤ k ∧ k ≤ 8
  · obtain ⟨N, rfl⟩ : ∃ N : Nat, n = N := ⟨n.toNat, by omega⟩
    rw [csB, if_pos hn, Int.toNat_natCast]
    have c := impl_counted_c N 45 [.pc [.int .i64 k]] (fun p => decide (gsI p ≤ k)) (by omega) (fun x hx => impl_CountSlots_1_c (m0 := false) x k (by rw [permL_row _ hx]; omega))
    refine fO sg0 [4] Tryd.func15 ?_
    have cE1 := @impl_isSix_c; have cE2 := @impl_counted_c
    have cE1 := @c; have cE2 := @impl_isSix_c; have cE3 := @impl_counted_c
    refine dEa trivial ?_
    all_goals try (refine zlf ?_; repeat' first | exact zso | refine And.intro ?_ ?_ | (refine zim ?_; intro zb hc) | (refine zin ?_; intro zb) | intro j')
    all_goals try refine zbx ?_
    all_goals trace_state
  · rw [csB, if_neg hn]
    refine fO sg0 [4] Tryd.func15 ?_
    have cE1 := @impl_isSix_c; have cE2 := @impl_counted_c
    refine dEa trivial ?_
    all_goals try (refine zlf ?_; repeat' first | exact zso | refine And.intro ?_ ?_ | (refine zim ?_; intro zb hc) | (refine zin ?_; intro zb) | intro j')
    all_goals try refine zbx ?_
    all_goals trace_state
theorem spec_CountSlots_c (n k : Int) : Fun Tryd.prog 16 [(.int .i64 (n)), (.int .i64 (k))] [(.int .i64 (csB n k))] := by
  by_cases hn : (0 ≤ n ∧ n ≤ 6) ∧ 0 ≤ k ∧ k ≤ 8
  · obtain ⟨N, rfl⟩ : ∃ N : Nat, n = N := ⟨n.toNat, by omega⟩
    rw [csB, if_pos hn, Int.toNat_natCast]
    have q6 : permsB (N : Int) = permL N := by rw [permsB, if_pos hn.1]; rfl
    have b1 := permL_len (n := N) (by omega)
    refine fO sg0 [4] Tryd.func16 ?_
    have cE1 := @spec_l1In_c; have cE2 := @spec_PermsOf_c; have cE3 := @spec_l1Bit_c; have cE4 := @spec_GreatestSlots_c
    refine dEa @q6 ?_
    all_goals try (refine zlf ?_; repeat' first | exact zso | refine And.intro ?_ ?_ | (refine zim ?_; intro zb hc; repeat (have zc := zb.1; replace zb := zb.2)) | (refine zin ?_; intro zb) | intro j')
    all_goals try refine zbx ?_
    refine v_loopB (fun ms1 S1 => ∃ (j : Nat), S1.e 0 = .p (.int .i64 ((N : Int))) ∧ S1.e 1 = .p (.int .i64 (k)) ∧ S1.e 5 = .p (.int .i64 (cntL (fun p => decide (gsI p ≤ k)) ((permL N).take j))) ∧ OwnL (S1.e 6) S1.h S1.n (elI false) ((permL N).length) (permL N) ∧ S1.e 7 = .p (.int .i64 (j)) ∧ (j ≤ (permL N).length) ∧ ms1 = (permL N).length - j) ((fun (j : Nat) => (permL N).length - j) (0)) ?_ ⟨0, dC trivial ?_⟩
    all_goals try (refine zlf ?_; repeat' first | exact zso | refine And.intro ?_ ?_ | (refine zim ?_; intro zb hc; repeat (have zc := zb.1; replace zb := zb.2)) | (refine zin ?_; intro zb) | intro j')
    all_goals try refine zbx ?_
    rintro ms1 S1 ⟨j, h1_0, h1_1, h1_5, o1_6, h1_7, c1_0, hm1⟩
    obtain ⟨i1_6, h1_6, b1_6, l1_6⟩ := o1_6.out
    have ni1_6 := znds (x := i1_6) (n := S1.n)
    have fL1 := (And.intro h1_0 (And.intro h1_1 (And.intro h1_5 (And.intro h1_7 (And.intro h1_6 (And.intro b1_6 ni1_6))))))
    have b3 := cntL_le (P := fun p => decide (gsI p ≤ k)) c1_0
    have c0 := bitI_r (decide (gsI ((permL N).getD j []) ≤ k))
    have b5 : j < (permL N).length → ((permL N).getD j []).length ≤ 1048576 := fun h => by rw [permL_row _ (getD_mem h)]; omega
    by_cases hj : j < (permL N).length
    · refine dEa fL1 ?_
      all_goals try (refine zlf ?_; repeat' first | exact zso | refine And.intro ?_ ?_ | (refine zim ?_; intro zb hc; repeat (have zc := zb.1; replace zb := zb.2)) | (refine zin ?_; intro zb) | intro j')
      all_goals try refine zbx ?_
      focus
        refine q_lp_n ((fun (j : Nat) => (permL N).length - j) (j+1)) (dC fL1 ?_) ⟨j+1, dC fL1 ?_⟩
        all_goals try (refine zlf ?_; repeat' first | exact zso | refine And.intro ?_ ?_ | (refine zim ?_; intro zb hc; repeat (have zc := zb.1; replace zb := zb.2)) | (refine zin ?_; intro zb) | intro j')
        all_goals try refine zbx ?_
      all_goals (rw [cntL_succ hj]; unfold bitI; split <;> simp_all)
    · refine dEa fL1 ?_
      all_goals try (refine zlf ?_; repeat' first | exact zso | refine And.intro ?_ ?_ | (refine zim ?_; intro zb hc; repeat (have zc := zb.1; replace zb := zb.2)) | (refine zin ?_; intro zb) | intro j')
      all_goals try refine zbx ?_
      rw [List.take_of_length_le (by omega)]
  · rw [csB, if_neg hn]
    refine fO sg0 [4] Tryd.func16 ?_
    have cE1 := @spec_l1In_c; have cE2 := @spec_PermsOf_c; have cE3 := @spec_l1Bit_c; have cE4 := @spec_GreatestSlots_c
    refine dEa trivial ?_
    all_goals try (refine zlf ?_; repeat' first | exact zso | refine And.intro ?_ ?_ | (refine zim ?_; intro zb hc; repeat (have zc := zb.1; replace zb := zb.2)) | (refine zin ?_; intro zb) | intro j')
    all_goals try refine zbx ?_
    all_goals trace_state
end Go.Gl
