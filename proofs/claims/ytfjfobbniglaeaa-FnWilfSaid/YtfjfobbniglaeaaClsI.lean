/-
  The counts of a class: what the program computes is what is told length by length. Conditions: none.
-/
import Derived.Test.YtfjfobbniglaeaaPatM
set_option linter.unusedSimpArgs false
set_option linter.unusedVariables false
set_option maxRecDepth 20000
set_option linter.unusedSectionVars false
namespace Go.Gl
open Go Go.Proofs
variable [Amb]
def ciN (L : List (List Int)) (k : Nat) : Int := ((classL L k).length : Int)
theorem ci_cc {L : List (List Int)} {n : Int} (h : basisB L = true ∧ 0 ≤ n ∧ n ≤ 6) : ccR L n = (List.range (n.toNat + 1)).map (ciN L) := by
  rw [ccR, if_pos h]
  exact List.map_congr_left fun k _ => by rw [cls_count h.1, ciN]
theorem impl_ClassCounts_c {e0 m0 : Bool} (L : List (List Int)) (n : Int) (hL : L.length ≤ 1048576) (hl : ∀ q ∈ L, q.length ≤ 1048576) : Fun Try.prog 68 [(.sl (.lent m0) (List.map (elI e0) (L))), (.int .i64 (n))] [(.sl .own (List.map (PV.int .i64) (ccR L n)))] := by
  by_cases hc0 : basisB L = true ∧ 0 ≤ n ∧ n ≤ 6
  · have e1 := ci_cc hc0
    have hb := basis_row hc0.1
    have e3 := hc0.1
    rw [e1]
    refine fO sg0 [4] Try.func68 ?_
    have cE1 := @impl_isSix_c; have cE2 := @impl_IsBasis_c; have cE3 := @impl_class_c
    refine dEa @e3 ?_
    all_goals try (refine zlf ?_; repeat' first | exact zso | refine And.intro ?_ ?_ | (refine zim ?_; intro zb hc; repeat (have zc := zb.1; replace zb := zb.2)) | (refine zin ?_; intro zb) | intro j')
    all_goals try refine zbx ?_
    refine v_loopB (fun ms1 S1 => ∃ (k : Nat), S1.e 0 = .p (.sl (.lent m0) (List.map (elI e0) (L))) ∧ OwnL (S1.e 5) S1.h S1.n (PV.int .i64) (((List.range k).map (ciN L)).length) ((List.range k).map (ciN L)) ∧ S1.e 17 = .p (.int .i64 ((n + 1))) ∧ S1.e 18 = .p (.int .i64 (k)) ∧ ((k : Int) ≤ n + 1) ∧ ms1 = n.toNat + 1 - k) ((fun (k : Nat) => n.toNat + 1 - k) (0)) ?_ ⟨0, dC trivial ?_⟩
    all_goals try (refine zlf ?_; repeat' first | exact zso | refine And.intro ?_ ?_ | (refine zim ?_; intro zb hc; repeat (have zc := zb.1; replace zb := zb.2)) | (refine zin ?_; intro zb) | intro j')
    all_goals try refine zbx ?_
    rintro ms1 S1 ⟨k, h1_0, o1_5, h1_17, h1_18, c1_0, hm1⟩
    obtain ⟨i1_5, h1_5, b1_5, l1_5⟩ := o1_5.out
    have ni1_5 := znds (x := i1_5) (n := S1.n)
    have fL1 := (And.intro h1_0 (And.intro h1_17 (And.intro h1_18 (And.intro h1_5 (And.intro b1_5 ni1_5)))))
    by_cases hk : (k : Int) < n + 1
    · have b1 := class_len (L := L) (n := k) (by omega)
      refine dEa fL1 ?_
      all_goals try (refine zlf ?_; repeat' first | exact zso | refine And.intro ?_ ?_ | (refine zim ?_; intro zb hc; repeat (have zc := zb.1; replace zb := zb.2)) | (refine zin ?_; intro zb) | intro j')
      all_goals try refine zbx ?_
      focus
        refine q_lp_n ((fun (k : Nat) => n.toNat + 1 - k) (k+1)) (dC fL1 ?_) ⟨k+1, dC fL1 ?_⟩
        all_goals try (refine zlf ?_; repeat' first | exact zso | refine And.intro ?_ ?_ | (refine zim ?_; intro zb hc; repeat (have zc := zb.1; replace zb := zb.2)) | (refine zin ?_; intro zb) | intro j')
        all_goals try refine zbx ?_
      all_goals simp [List.range_succ, ciN]
    · obtain rfl : k = n.toNat + 1 := by omega
      refine dEa fL1 ?_
      all_goals try (refine zlf ?_; repeat' first | exact zso | refine And.intro ?_ ?_ | (refine zim ?_; intro zb hc; repeat (have zc := zb.1; replace zb := zb.2)) | (refine zin ?_; intro zb) | intro j')
      all_goals try refine zbx ?_
      all_goals (rw [List.take_of_length_le (by simp)])
  · rw [show ccR L n = [] from if_neg hc0]
    refine fO sg0 [4] Try.func68 ?_
    have cE1 := @impl_isSix_c; have cE2 := @impl_IsBasis_c; have cE3 := @impl_class_c
    refine dEa trivial ?_
    all_goals try (refine zlf ?_; repeat' first | exact zso | refine And.intro ?_ ?_ | (refine zim ?_; intro zb hc; repeat (have zc := zb.1; replace zb := zb.2)) | (refine zin ?_; intro zb) | intro j')
    all_goals try refine zbx ?_
    all_goals exact absurd ⟨by assumption, by assumption⟩ hc0
end Go.Gl
