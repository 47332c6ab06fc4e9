/-
  Texts that are turned by a draw. Conditions: none.
-/
import Derived.Test.YtfjfobbniglaeaaDoorDraw
set_option linter.unusedSimpArgs false
set_option linter.unusedVariables false
set_option maxRecDepth 20000
set_option linter.unusedSectionVars false
namespace Go.Gl
open Go Go.Proofs
variable [Amb] [NoQ]
theorem spec_l1Turned_x {m0 : Bool} (b : List UInt8) (s : Cu) (t : List UInt8) (l : List (List UInt8)) (hb : b.length ≤ 1048576) (ht : t.length ≤ 1048576) (hl : l.length ≤ 256) (h0 : l ≠ []) (hx : ∀ x ∈ l, x.length ≤ 16) : ∃ s' u, CallT Tryd.prog false 31 [.mu true (curC b s), .pv (.str t), .pv (.sl (.lent m0) (List.map PV.str l))] [some (curC b s'), none, none] [.str u] ∧ u.length ≤ t.length + 16 := by
  have q := bwX_r (b := b) (s := s) (n := (t.length : Int) + 1)
  obtain ⟨j, hj⟩ : ∃ j : Nat, bwX b s ((t.length : Int) + 1) = j := ⟨_, (Int.toNat_of_nonneg q.1).symm⟩
  rw [hj] at q
  obtain ⟨x, hxx⟩ : ∃ x, bwX b (bwS b s ((t.length : Int) + 1)) 6 = x := ⟨_, rfl⟩
  by_cases g0 : x = 0
  · obtain ⟨s3, y, c3, hy⟩ := spec_l1Pick_x (m0 := m0) b (bwS b (bwS b s ((t.length : Int) + 1)) 6) l hb hl h0
    have hy2 := hx y hy
    refine ⟨s3, (t.take j ++ y) ++ t.drop j, ?_, by simp; omega⟩
    subst g0
    refine fX sgCu [6] Tryd.func31 ?_
    have cM1 := @spec_l1Below_c; have cD1 := zdh [false, false, false, false, false, true, false, false, false, false, false, false] [(0, 5), (1, 5), (2, 5), (5, 7), (5, 8), (5, 9)]
    have cM2 := @c3
    refine dEa (And.intro @hj @hxx) ?_
    all_goals try (refine zlf ?_; repeat' first | exact zso | refine And.intro ?_ ?_ | (refine zim ?_; intro zb hc) | (refine zin ?_; intro zb) | intro j')
    all_goals try refine zbx ?_
    all_goals trace_state
  · have f0 : (x = 0) = False := eq_false g0
    by_cases g1 : x = 1
    · refine ⟨bwS b (bwS b s ((t.length : Int) + 1)) 6, t.take j, ?_, by simp; omega⟩
      subst g1
      refine fX sgCu [6] Tryd.func31 ?_
      have cM1 := @spec_l1Below_c; have cD1 := zdh [false, false, false, false, false, true, false, false, false, false, false, false] [(0, 5), (1, 5), (2, 5), (5, 7), (5, 8), (5, 9)]
      refine dEa (And.intro @hj @hxx) ?_
      all_goals try (refine zlf ?_; repeat' first | exact zso | refine And.intro ?_ ?_ | (refine zim ?_; intro zb hc) | (refine zin ?_; intro zb) | intro j')
      all_goals try refine zbx ?_
      all_goals trace_state
    · have f1 : (x = 1) = False := eq_false g1
      refine ⟨bwS b (bwS b s ((t.length : Int) + 1)) 6, t, ?_, by omega⟩
      refine fX sgCu [6] Tryd.func31 ?_
      have cM1 := @spec_l1Below_c; have cD1 := zdh [false, false, false, false, false, true, false, false, false, false, false, false] [(0, 5), (1, 5), (2, 5), (5, 7), (5, 8), (5, 9)]
      refine dEa (And.intro @hj (And.intro @hxx (And.intro @f0 @f1))) ?_
      all_goals try (refine zlf ?_; repeat' first | exact zso | refine And.intro ?_ ?_ | (refine zim ?_; intro zb hc) | (refine zin ?_; intro zb) | intro j')
      all_goals try refine zbx ?_
      all_goals trace_state
end Go.Gl
