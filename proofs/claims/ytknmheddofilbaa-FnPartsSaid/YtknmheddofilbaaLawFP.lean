/-
  The law of parts. Conditions: none.
-/
import Derived.Test.YtknmheddofilbaaPartM
set_option linter.unusedSimpArgs false
set_option linter.unusedVariables false
set_option maxRecDepth 20000
set_option linter.unusedSectionVars false
namespace Go.Gl
open Go Go.Proofs
variable [Amb]
theorem dsI {a : List Int} : decide (a = a) = true := by simp
theorem isI {a : Int} : decide (a = a) = true := by simp
set_option maxHeartbeats 8000000 in
theorem laws_FnParts_c (b : List UInt8) : Fun Try.prog 7 [(.sl (.lent false) (List.map u8P (b)))] [(.bool (true))] := by
  by_cases hs : b.length ≤ 1048576
  · obtain ⟨L, n, d1, hL, hn⟩ := spec_DrawWholeCounts_x b hs
    obtain ⟨c, m, d2, hc', hm⟩ := spec_DrawPartCounts_x b hs
    obtain ⟨w, k, d3, hw⟩ := spec_DrawSumCounts_x b hs
    obtain ⟨x, d4, hx⟩ := spec_DrawAllWhole_x b hs
    obtain ⟨y, d5, hy⟩ := spec_DrawFactorialOf_x b hs
    have l1 := hL.len
    have l2 : ∀ l ∈ L, l.length ≤ 1048576 := fun l h => Nat.le_trans (hL.row l h).len (by decide)
    have l3 := hc'.len
    have l4 : ∀ l ∈ c, l.length ≤ 1048576 := fun l h => Nat.le_trans (hc'.row l h).len (by decide)
    have g1 := partsB_len (c := c) (m := m)
    have g2 : (wholesB L n).length ≤ 7 := by
      unfold wholesB; split
      · simp; omega
      · simp
    have g3 : (partsB c m).length ≤ 7 := by omega
    have g4 := partsB_b (c := c) (m := m)
    have g5 : (scR w k).length ≤ 11 := by
      unfold scR; split
      · rename_i h; simp [scOk] at h; rw [scL_len]; omega
      · simp
    have g6 : (scR (wholesB L n) n).length ≤ 11 := by
      unfold scR; split
      · rename_i h; simp [scOk] at h; rw [scL_len]; omega
      · simp
    have g7 : (ccR L n).length ≤ 7 := by
      unfold ccR; split
      · simp; omega
      · simp
    have g8 : decide (0 ≤ x) = true → decide (x ≤ 5) = true → (wholesB [] x).length = x.toNat + 1 := fun h1 h2 => whole0_len (of_decide_eq_true h1) (of_decide_eq_true h2)
    have f1 : decide ((0 : Int) < ((partsB c m).length : Int)) = true → sumI (partsB c m) = ((classB c m).length : Int) := fun h => parts_sum (by have := of_decide_eq_true h; omega)
    have f2 : decide ((0 : Int) < ((partsB c m).length : Int)) = true → decide (0 < m) = true → (partsB c m).getD 1 0 = (wholesB c m).getD m.toNat 0 := fun h h2 => parts_one (by have := of_decide_eq_true h; omega) (of_decide_eq_true h2)
    have f3 : decide (0 ≤ x) = true → decide (x ≤ 5) = true → awR x = (wholesB [] x).getD x.toNat 0 := fun h1 h2 => all_whole (of_decide_eq_true h1) (of_decide_eq_true h2)
    have f4 : decide (((wholesB L n).length : Int) = 0) = false → scB L = true → scR (wholesB L n) n = ccR L n := fun h1 h2 => sum_counts (by have := of_decide_eq_false h1; omega) h2
    have c1 : ∀ m0 : Bool, Fun Try.prog 42 [.sl (.lent m0) [], .int .i64 x] [.sl .own (List.map (PV.int .i64) (wholesB [] x))] := fun m0 => impl_WholeCounts_c (e0 := false) (m0 := m0) [] x (by decide) (by simp)
    refine fO sg0 [2] Try.func7 ?_
    have cE1 := @laws_big_c; have cE2 := @impl_AllWhole_c; have cE3 := @spec_AllWhole_c; have cE4 := @impl_FactorialOf_c; have cE5 := @spec_FactorialOf_c; have cE6 := @impl_WholeCounts_c
    have cE7 := @impl_PartCounts_c; have cE8 := @spec_WholeCounts_c; have cE9 := @laws_sameInts_c; have cE10 := @spec_PartCounts_c; have cE11 := @impl_SumCounts_c; have cE12 := @spec_SumCounts_c
    have cE13 := @laws_total_c; have cE14 := @spec_ClassOf_c; have cE15 := @spec_IsSumClosed_c; have cE16 := @spec_ClassCounts_c; have cD1 := zdh [false, false, false, false, false, true, false, false, true, false, false, false, false, false, false, false, false, false, false, false, true, false, false, false, false, false, false, false] [(5, 6), (5, 7), (15, 20), (16, 20), (17, 20), (20, 21)]
    have cE1 := @d1; have cE2 := @d2; have cE3 := @d3; have cE4 := @d4; have cE5 := @d5; have cE6 := @c1
    have cE7 := @laws_big_c; have cE8 := @impl_AllWhole_c; have cE9 := @spec_AllWhole_c; have cE10 := @impl_FactorialOf_c; have cE11 := @spec_FactorialOf_c; have cE12 := @impl_WholeCounts_c
    have cE13 := @impl_PartCounts_c; have cE14 := @spec_WholeCounts_c; have cE15 := @laws_sameInts_c; have cE16 := @spec_PartCounts_c; have cE17 := @impl_SumCounts_c; have cE18 := @spec_SumCounts_c
    have cE19 := @laws_total_c; have cE20 := @spec_ClassOf_c; have cE21 := @spec_IsSumClosed_c; have cE22 := @spec_ClassCounts_c
    refine dEa (And.intro @dsI (And.intro @isI (And.intro @f1 (And.intro @f2 (And.intro @f3 @f4))))) ?_
    all_goals try (refine zlf ?_; repeat' first | exact zso | refine And.intro ?_ ?_ | (refine zim ?_; intro zb hc; repeat (have zc := zb.1; replace zb := zb.2)) | (refine zin ?_; intro zb) | intro j')
    all_goals try refine zbx ?_
    all_goals first | exact decide_eq_true (sum_counts (by omega) ‹scB L = true›) | (have h9 := whole0_len (x := x) (by omega) (by omega); omega)
  · refine fO sg0 [2] Try.func7 ?_
    have cE1 := @laws_big_c; have cE2 := @impl_AllWhole_c; have cE3 := @spec_AllWhole_c; have cE4 := @impl_FactorialOf_c; have cE5 := @spec_FactorialOf_c; have cE6 := @impl_WholeCounts_c
    have cE7 := @impl_PartCounts_c; have cE8 := @spec_WholeCounts_c; have cE9 := @laws_sameInts_c; have cE10 := @spec_PartCounts_c; have cE11 := @impl_SumCounts_c; have cE12 := @spec_SumCounts_c
    have cE13 := @laws_total_c; have cE14 := @spec_ClassOf_c; have cE15 := @spec_IsSumClosed_c; have cE16 := @spec_ClassCounts_c; have cD1 := zdh [false, false, false, false, false, true, false, false, true, false, false, false, false, false, false, false, false, false, false, false, true, false, false, false, false, false, false, false] [(5, 6), (5, 7), (15, 20), (16, 20), (17, 20), (20, 21)]
    have c1 : decide ((1048576 : Int) < b.length) = true := decide_eq_true (by omega)
    refine dE @c1 ?_
    all_goals try (refine zlf ?_; repeat' first | exact zso | refine And.intro ?_ ?_ | (refine zim ?_; intro zb hc; repeat (have zc := zb.1; replace zb := zb.2)) | (refine zin ?_; intro zb) | intro j')
    all_goals try refine zbx ?_
end Go.Gl
