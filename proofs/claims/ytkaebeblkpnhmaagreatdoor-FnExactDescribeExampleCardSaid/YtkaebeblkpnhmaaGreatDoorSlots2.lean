/-
  The letters of the building and its slots, as the reference says them. Conditions: none.
-/
import Derived.Test.YtkaebeblkpnhmaaGreatDoorSlots
set_option linter.unusedSimpArgs false
set_option linter.unusedVariables false
set_option maxRecDepth 20000
set_option linter.unusedSectionVars false
namespace Go.Gl
open Go Go.Proofs
variable [Amb]
variable [TabA]
theorem slL_f {p : List Int} {v : Int} {k : Nat} (hk : k < p.length) (h : p.getD k 0 < v) : slL (fL p v) (k + 1) = slL (fL p v) k := by
  rw [slL, fL_at hk, decide_eq_true h]; simp [bitI]
theorem slL_o {p : List Int} {v : Int} {k : Nat} (hk : k < p.length) (h : ¬ p.getD k 0 < v) : slL (fL p v) (k + 1) = slL (fL p v) k + bitI ((fL p v).getD k false) := by
  rw [slL, fL_at hk, decide_eq_false h]; rfl
def gsI (p : List Int) : Int := if isPermB p = true then mxB p p.length else 0
theorem spec_GreatestSlots_c {m0 : Bool} (p : List Int) (hl : p.length ≤ 1048576) : Fun Tryz.prog 60 [(.sl (.lent m0) (List.map (PV.int .i64) (p)))] [(.int .i64 (gsI p))] := by
  by_cases hp : isPermB p = true
  · have pf := isPerm_facts hp
    have h8 := pf.1
    rw [gsI, if_pos hp]
    refine fO sg0 [2] Tryz.func60 ?_
    have cE1 := @spec_l1Bit_c; have cE2 := @spec_l1Max_c; have cE3 := @spec_IsPerm_c
    refine dEa @hp ?_
    all_goals try (refine zlf ?_; repeat' first | exact zso | refine And.intro ?_ ?_ | (refine zim ?_; intro zb hc; repeat (have zc := zb.1; replace zb := zb.2)) | (refine zin ?_; intro zb) | intro j')
    all_goals try refine zbx ?_
    · rw [show p.length = 0 by omega, max0 (by omega)]
    · have hn : 0 < p.length := by omega
      refine v_loopB (fun ms1 S1 => ∃ (v : Nat), S1.e 0 = .p (.sl (.lent m0) (List.map (PV.int .i64) (p))) ∧ S1.e 3 = .p (.int .i64 (mxB p v)) ∧ S1.e 4 = .p (.int .i64 ((v + 1))) ∧ (v ≤ p.length) ∧ ms1 = p.length - v) ((fun (v : Nat) => p.length - v) (0)) ?_ ⟨0, dC trivial ?_⟩
      all_goals try (refine zlf ?_; repeat' first | exact zso | refine And.intro ?_ ?_ | (refine zim ?_; intro zb hc; repeat (have zc := zb.1; replace zb := zb.2)) | (refine zin ?_; intro zb) | intro j')
      all_goals try refine zbx ?_
      rintro ms1 S1 ⟨v, h1_0, h1_3, h1_4, c1_0, hm1⟩
      have fL1 := (And.intro h1_0 (And.intro h1_3 h1_4))
      · have b4 := mxB_r (p := p) (v := v)
        by_cases hv : v < p.length
        · refine dEa fL1 ?_
          all_goals try (refine zlf ?_; repeat' first | exact zso | refine And.intro ?_ ?_ | (refine zim ?_; intro zb hc; repeat (have zc := zb.1; replace zb := zb.2)) | (refine zin ?_; intro zb) | intro j')
          all_goals try refine zbx ?_
          refine v_loopB (fun ms2 S2 => ∃ (k : Nat), S2.e 0 = .p (.sl (.lent m0) (List.map (PV.int .i64) (p))) ∧ S2.e 3 = .p (.int .i64 (mxB p v)) ∧ S2.e 4 = .p (.int .i64 ((v + 1))) ∧ S2.e 5 = .p (.int .i64 (slL (fL p ((v : Int) + 2)) k)) ∧ S2.e 6 = .p (.int .i64 (k)) ∧ (k ≤ p.length) ∧ S1.n ≤ S2.n ∧ ms2 = p.length - k) ((fun (k : Nat) => p.length - k) (0)) ?_ ⟨0, dC fL1 ?_⟩
          all_goals try (refine zlf ?_; repeat' first | exact zso | refine And.intro ?_ ?_ | (refine zim ?_; intro zb hc; repeat (have zc := zb.1; replace zb := zb.2)) | (refine zin ?_; intro zb) | intro j')
          all_goals try refine zbx ?_
          rintro ms2 S2 ⟨k, h2_0, h2_3, h2_4, h2_5, h2_6, c2_0, u2_0, hm2⟩
          have fL2 := (And.intro h2_0 (And.intro h2_3 (And.intro h2_4 (And.intro h2_5 h2_6))))
          have b5 := slL_r (fL p ((v : Int) + 2)) k
          have s1 : k < p.length → ¬ (v : Int) + 1 < p.getD k 0 → slL (fL p ((v : Int) + 2)) (k + 1) = slL (fL p ((v : Int) + 2)) k := fun h h1 => slL_f h (by omega)
          have s2 : k < p.length → (v : Int) + 1 < p.getD k 0 → slL (fL p ((v : Int) + 2)) (k + 1) = slL (fL p ((v : Int) + 2)) k + bitI ((fL p ((v : Int) + 2)).getD k false) := fun h h1 => slL_o h (by omega)
          have q5 : mxB p (v + 1) = max (mxB p v) (slL (fL p ((v : Int) + 2)) p.length) := rfl
          have s3 : k < p.length → ¬ (k : Int) = 0 → (fL p ((v : Int) + 2)).getD k false = decide (p.getD ((k : Int) - 1).toNat 0 ≤ (v : Int) + 1) := fun h h1 => by
            obtain ⟨j, rfl⟩ : ∃ j, k = j + 1 := ⟨k - 1, by omega⟩
            rw [fL_at (by omega), show (((j + 1 : Nat) : Int) - 1).toNat = j by omega]
            congr 1; simp only [eq_iff_iff]; omega
          have s4 : (k : Int) = 0 → (fL p ((v : Int) + 2)).getD k false = true := fun h => by
            obtain rfl : k = 0 := by omega
            exact fL_0
          have c0 := bitI_r false
          have c1 := bitI_r true
          have c2 := bitI_r (decide (p.getD ((k : Int) - 1).toNat 0 ≤ (v : Int) + 1))
          by_cases hk : k < p.length
          · refine dEa fL2 ?_
            all_goals try (refine zlf ?_; repeat' first | exact zso | refine And.intro ?_ ?_ | (refine zim ?_; intro zb hc; repeat (have zc := zb.1; replace zb := zb.2)) | (refine zin ?_; intro zb) | intro j')
            all_goals try refine zbx ?_
            · focus
                refine q_lp_n ((fun (k : Nat) => p.length - k) (k+1)) (dC fL2 ?_) ⟨k+1, dC fL2 ?_⟩
                all_goals try (refine zlf ?_; repeat' first | exact zso | refine And.intro ?_ ?_ | (refine zim ?_; intro zb hc; repeat (have zc := zb.1; replace zb := zb.2)) | (refine zin ?_; intro zb) | intro j')
                all_goals try refine zbx ?_
              all_goals (rw [s2 ‹_› ‹_›, s3 ‹_› hc])
            · focus
                refine q_lp_n ((fun (k : Nat) => p.length - k) (k+1)) (dC fL2 ?_) ⟨k+1, dC fL2 ?_⟩
                all_goals try (refine zlf ?_; repeat' first | exact zso | refine And.intro ?_ ?_ | (refine zim ?_; intro zb hc; repeat (have zc := zb.1; replace zb := zb.2)) | (refine zin ?_; intro zb) | intro j')
                all_goals try refine zbx ?_
              all_goals (rw [s2 ‹_› ‹_›, s4 hc])
            · focus
                refine q_lp_n ((fun (k : Nat) => p.length - k) (k+1)) (dC fL2 ?_) ⟨k+1, dC fL2 ?_⟩
                all_goals try (refine zlf ?_; repeat' first | exact zso | refine And.intro ?_ ?_ | (refine zim ?_; intro zb hc; repeat (have zc := zb.1; replace zb := zb.2)) | (refine zin ?_; intro zb) | intro j')
                all_goals try refine zbx ?_
              all_goals (rw [s1 ‹_› (by omega)]; simp [bitI])
          · refine dEa fL2 ?_
            all_goals try (refine zlf ?_; repeat' first | exact zso | refine And.intro ?_ ?_ | (refine zim ?_; intro zb hc; repeat (have zc := zb.1; replace zb := zb.2)) | (refine zin ?_; intro zb) | intro j')
            all_goals try refine zbx ?_
            focus
              refine q_lp_n ((fun (v : Nat) => p.length - v) (v+1)) (dC fL2 ?_) ⟨v+1, dC fL2 ?_⟩
              all_goals try (refine zlf ?_; repeat' first | exact zso | refine And.intro ?_ ?_ | (refine zim ?_; intro zb hc; repeat (have zc := zb.1; replace zb := zb.2)) | (refine zin ?_; intro zb) | intro j')
              all_goals try refine zbx ?_
            all_goals (rw [q5, show k = p.length by omega])
        · skip
          refine dEa fL1 ?_
          all_goals try (refine zlf ?_; repeat' first | exact zso | refine And.intro ?_ ?_ | (refine zim ?_; intro zb hc; repeat (have zc := zb.1; replace zb := zb.2)) | (refine zin ?_; intro zb) | intro j')
          all_goals try refine zbx ?_
          all_goals ((obtain rfl : v = p.length := (by omega)); rfl)
      all_goals exact (max1 hn).symm
  · have hp' : isPermB p = false := by simpa using hp
    rw [gsI, if_neg hp]
    refine fO sg0 [2] Tryz.func60 ?_
    have cE1 := @spec_l1Bit_c; have cE2 := @spec_l1Max_c; have cE3 := @spec_IsPerm_c
    refine dEa @hp' ?_
    all_goals try (refine zlf ?_; repeat' first | exact zso | refine And.intro ?_ ?_ | (refine zim ?_; intro zb hc; repeat (have zc := zb.1; replace zb := zb.2)) | (refine zin ?_; intro zb) | intro j')
    all_goals try refine zbx ?_
theorem impl_GreatestSlots_c {m0 : Bool} (p : List Int) (hl : p.length ≤ 1048576) : Fun Tryz.prog 76 [(.sl (.lent m0) (List.map (PV.int .i64) (p)))] [(.int .i64 (gsI p))] := by
  by_cases hp : isPermB p = true
  · have pf := isPerm_facts hp
    rw [gsI, if_pos hp]
    refine fO sg0 [2] Tryz.func76 ?_
    have cE1 := @impl_IsPerm_c; have cE2 := @impl_building_c
    refine dE @hp ?_
    all_goals try (refine zlf ?_; repeat' first | exact zso | refine And.intro ?_ ?_ | (refine zim ?_; intro zb hc) | (refine zin ?_; intro zb) | intro j')
    all_goals try refine zbx ?_
    all_goals first | exact pf.1 | exact pf.2 | skip
    all_goals try exact zaut
  · have hp' : isPermB p = false := by simpa using hp
    rw [gsI, if_neg hp]
    refine fO sg0 [2] Tryz.func76 ?_
    have cE1 := @impl_IsPerm_c; have cE2 := @impl_building_c
    refine dEa @hp' ?_
    all_goals try (refine zlf ?_; repeat' first | exact zso | refine And.intro ?_ ?_ | (refine zim ?_; intro zb hc) | (refine zin ?_; intro zb) | intro j')
    all_goals try refine zbx ?_
end Go.Gl
