/-
  The greatest number of slots in a class. Conditions: none.
-/
import Derived.Test.YtfjfobbniglaeaaDoorSlots2
import Derived.Test.YtfjfobbniglaeaaDoorPClass
import Derived.Test.YtfjfobbniglaeaaDoorLaw2
set_option linter.unusedSimpArgs false
set_option linter.unusedVariables false
set_option maxRecDepth 20000
set_option linter.unusedSectionVars false
namespace Go.Gl
open Go Go.Proofs
variable [Amb] [NoQ]
variable [TabA]
theorem gs_r8 {p : List Int} : 0 ≤ gsI p ∧ gsI p ≤ 8 := by
  unfold gsI; split
  · rename_i h
    have := (isPerm_facts h).1
    have := mxB_r (p := p) (v := p.length); omega
  · omega
def mxR (b : Int) (R : List (List Int)) : Nat → Int
  | 0 => b
  | j + 1 => max (mxR b R j) (gsI (R.getD j []))
def suN (L : List (List Int)) : Nat → Int
  | 0 => 0
  | m + 1 => mxR (suN L m) (classL L m) (classL L m).length
theorem mxR_r {b : Int} {R : List (List Int)} (h : 0 ≤ b ∧ b ≤ 8) : ∀ {j : Nat}, 0 ≤ mxR b R j ∧ mxR b R j ≤ 8
  | 0 => h
  | j + 1 => by
    have := mxR_r (R := R) h (j := j)
    have := gs_r8 (p := R.getD j [])
    rw [mxR]; omega
theorem suN_r {L : List (List Int)} : ∀ {m : Nat}, 0 ≤ suN L m ∧ suN L m ≤ 8
  | 0 => by simp [suN]
  | m + 1 => mxR_r suN_r
def suB (L : List (List Int)) (n : Int) : Int := if basisB L = true ∧ 0 ≤ n ∧ n ≤ 6 then suN L (n.toNat + 1) else -1
theorem impl_SlotsUpTo_c {e0 m0 : Bool} (L : List (List Int)) (n : Int) (hL : L.length ≤ 1048576) (hl : ∀ l ∈ L, l.length ≤ 1048576) : Fun Tryd.prog 17 [(.sl (.lent m0) (List.map (elI e0) (L))), (.int .i64 (n))] [(.int .i64 (suB L n))] := by
  by_cases hc0 : basisB L = true ∧ 0 ≤ n ∧ n ≤ 6
  · obtain ⟨k, rfl⟩ : ∃ k : Nat, n = k := ⟨n.toNat, by omega⟩
    have e1 : suB L k = suN L (k + 1) := by rw [suB, if_pos hc0, Int.toNat_natCast]
    have hb := basis_row hc0.1
    have e3 := hc0.1
    rw [e1]
    refine fO sg0 [4] Tryd.func17 ?_
    have cE1 := @impl_isSix_c; have cE2 := @impl_IsBasis_c; have cE3 := @impl_class_c; have cE4 := @impl_GreatestSlots_c
    refine dEa @e3 ?_
    all_goals try (refine zlf ?_; repeat' first | exact zso | refine And.intro ?_ ?_ | (refine zim ?_; intro zb hc; repeat (have zc := zb.1; replace zb := zb.2)) | (refine zin ?_; intro zb) | intro j')
    all_goals try refine zbx ?_
    refine v_loopB (fun ms1 S1 => ∃ (m : Nat), S1.e 0 = .p (.sl (.lent m0) (List.map (elI e0) (L))) ∧ S1.e 1 = .p (.int .i64 ((k : Int))) ∧ S1.e 5 = .p (.int .i64 (suN L m)) ∧ S1.e 18 = .p (.int .i64 (((k : Int) + 1))) ∧ S1.e 19 = .p (.int .i64 (m)) ∧ (m ≤ k + 1) ∧ ms1 = k + 1 - m) ((fun (m : Nat) => k + 1 - m) (0)) ?_ ⟨0, dC trivial ?_⟩
    all_goals try (refine zlf ?_; repeat' first | exact zso | refine And.intro ?_ ?_ | (refine zim ?_; intro zb hc; repeat (have zc := zb.1; replace zb := zb.2)) | (refine zin ?_; intro zb) | intro j')
    all_goals try refine zbx ?_
    rintro ms1 S1 ⟨m, h1_0, h1_1, h1_5, h1_18, h1_19, c1_0, hm1⟩
    have fL1 := (And.intro h1_0 (And.intro h1_1 (And.intro h1_5 (And.intro h1_18 h1_19))))
    have b1 := class_len (L := L) (n := m)
    have b2 := suN_r (L := L) (m := m)
    by_cases hm : m < k + 1
    · refine dEa fL1 ?_
      all_goals try (refine zlf ?_; repeat' first | exact zso | refine And.intro ?_ ?_ | (refine zim ?_; intro zb hc; repeat (have zc := zb.1; replace zb := zb.2)) | (refine zin ?_; intro zb) | intro j')
      all_goals try refine zbx ?_
      refine v_loopB (fun ms2 S2 => ∃ (j : Nat), S2.e 0 = .p (.sl (.lent m0) (List.map (elI e0) (L))) ∧ S2.e 1 = .p (.int .i64 ((k : Int))) ∧ S2.e 5 = .p (.int .i64 (mxR (suN L m) (classL L m) j)) ∧ S2.e 18 = .p (.int .i64 (((k : Int) + 1))) ∧ S2.e 19 = .p (.int .i64 (m)) ∧ OwnL (S2.e 24) S2.h S2.n (elI false) ((classL L m).length) (classL L m) ∧ S2.e 25 = .p (.int .i64 ((classL L m).length)) ∧ S2.e 26 = .p (.int .i64 (j)) ∧ (j ≤ (classL L m).length) ∧ S1.n ≤ S2.n ∧ ms2 = (classL L m).length - j) ((fun (j : Nat) => (classL L m).length - j) (0)) ?_ ⟨0, dC fL1 ?_⟩
      all_goals try (refine zlf ?_; repeat' first | exact zso | refine And.intro ?_ ?_ | (refine zim ?_; intro zb hc; repeat (have zc := zb.1; replace zb := zb.2)) | (refine zin ?_; intro zb) | intro j')
      all_goals try refine zbx ?_
      rintro ms2 S2 ⟨j, h2_0, h2_1, h2_5, h2_18, h2_19, o2_24, h2_25, h2_26, c2_0, u2_0, hm2⟩
      obtain ⟨i2_24, h2_24, b2_24, l2_24⟩ := o2_24.out
      have ni2_24 := znds (x := i2_24) (n := S2.n)
      have fL2 := (And.intro h2_0 (And.intro h2_1 (And.intro h2_5 (And.intro h2_18 (And.intro h2_19 (And.intro h2_25 (And.intro h2_26 (And.intro h2_24 (And.intro b2_24 ni2_24)))))))))
      have b4 := mxR_r (R := classL L m) b2 (j := j)
      have b5 := gs_r8 (p := (classL L m).getD j [])
      by_cases hj : j < (classL L m).length
      · have b3 := class_perm (show m ≤ 8 by omega) (getD_mem (d := []) hj)
        refine dEa fL2 ?_
        all_goals try (refine zlf ?_; repeat' first | exact zso | refine And.intro ?_ ?_ | (refine zim ?_; intro zb hc; repeat (have zc := zb.1; replace zb := zb.2)) | (refine zin ?_; intro zb) | intro j')
        all_goals try refine zbx ?_
        focus
          refine q_lp_n ((fun (j : Nat) => (classL L m).length - j) (j+1)) (dC fL2 ?_) ⟨j+1, dC fL2 ?_⟩
          all_goals try (refine zlf ?_; repeat' first | exact zso | refine And.intro ?_ ?_ | (refine zim ?_; intro zb hc; repeat (have zc := zb.1; replace zb := zb.2)) | (refine zin ?_; intro zb) | intro j')
          all_goals try refine zbx ?_
      · refine dEa fL2 ?_
        all_goals try (refine zlf ?_; repeat' first | exact zso | refine And.intro ?_ ?_ | (refine zim ?_; intro zb hc; repeat (have zc := zb.1; replace zb := zb.2)) | (refine zin ?_; intro zb) | intro j')
        all_goals try refine zbx ?_
        focus
          refine q_lp_n ((fun (m : Nat) => k + 1 - m) (m+1)) (dC fL2 ?_) ⟨m+1, dC fL2 ?_⟩
          all_goals try (refine zlf ?_; repeat' first | exact zso | refine And.intro ?_ ?_ | (refine zim ?_; intro zb hc; repeat (have zc := zb.1; replace zb := zb.2)) | (refine zin ?_; intro zb) | intro j')
          all_goals try refine zbx ?_
        all_goals ((obtain rfl : j = (classL L m).length := (by omega)); rfl)
    · skip
      refine dEa fL1 ?_
      all_goals try (refine zlf ?_; repeat' first | exact zso | refine And.intro ?_ ?_ | (refine zim ?_; intro zb hc; repeat (have zc := zb.1; replace zb := zb.2)) | (refine zin ?_; intro zb) | intro j')
      all_goals try refine zbx ?_
      all_goals ((obtain rfl : m = k + 1 := (by omega)); rfl)
  · have e1 : suB L n = -1 := if_neg hc0
    rw [e1]
    refine fO sg0 [4] Tryd.func17 ?_
    have cE1 := @impl_isSix_c; have cE2 := @impl_IsBasis_c; have cE3 := @impl_class_c; have cE4 := @impl_GreatestSlots_c
    refine dEa trivial ?_
    all_goals try (refine zlf ?_; repeat' first | exact zso | refine And.intro ?_ ?_ | (refine zim ?_; intro zb hc; repeat (have zc := zb.1; replace zb := zb.2)) | (refine zin ?_; intro zb) | intro j')
    all_goals try refine zbx ?_
    all_goals exact absurd ⟨by assumption, by assumption⟩ hc0
theorem spec_SlotsUpTo_c {e0 m0 : Bool} (L : List (List Int)) (n : Int) (hL : L.length ≤ 1048576) (hl : ∀ l ∈ L, l.length ≤ 1048576) : Fun Tryd.prog 18 [(.sl (.lent m0) (List.map (elI e0) (L))), (.int .i64 (n))] [(.int .i64 (suB L n))] := by
  by_cases hc0 : basisB L = true ∧ 0 ≤ n ∧ n ≤ 6
  · obtain ⟨k, rfl⟩ : ∃ k : Nat, n = k := ⟨n.toNat, by omega⟩
    have e1 : suB L k = suN L (k + 1) := by rw [suB, if_pos hc0, Int.toNat_natCast]
    have e3 := hc0.1
    rw [e1]
    refine fO sg0 [4] Tryd.func18 ?_
    have cE1 := @spec_l1In_c; have cE2 := @spec_l1Max_c; have cE3 := @spec_IsBasis_c; have cE4 := @spec_ClassOf_c; have cE5 := @spec_GreatestSlots_c
    refine dEa @e3 ?_
    all_goals try (refine zlf ?_; repeat' first | exact zso | refine And.intro ?_ ?_ | (refine zim ?_; intro zb hc; repeat (have zc := zb.1; replace zb := zb.2)) | (refine zin ?_; intro zb) | intro j')
    all_goals try refine zbx ?_
    refine v_loopB (fun ms1 S1 => ∃ (m : Nat), S1.e 0 = .p (.sl (.lent m0) (List.map (elI e0) (L))) ∧ S1.e 1 = .p (.int .i64 ((k : Int))) ∧ S1.e 5 = .p (.int .i64 (suN L m)) ∧ S1.e 6 = .p (.int .i64 (m)) ∧ (m ≤ k + 1) ∧ ms1 = k + 1 - m) ((fun (m : Nat) => k + 1 - m) (0)) ?_ ⟨0, dC trivial ?_⟩
    all_goals try (refine zlf ?_; repeat' first | exact zso | refine And.intro ?_ ?_ | (refine zim ?_; intro zb hc; repeat (have zc := zb.1; replace zb := zb.2)) | (refine zin ?_; intro zb) | intro j')
    all_goals try refine zbx ?_
    rintro ms1 S1 ⟨m, h1_0, h1_1, h1_5, h1_6, c1_0, hm1⟩
    have fL1 := (And.intro h1_0 (And.intro h1_1 (And.intro h1_5 h1_6)))
    have b1 := class_len (L := L) (n := m)
    have b2 := suN_r (L := L) (m := m)
    by_cases hm : m < k + 1
    · have e2 : classB L m = classL L m := by rw [classB, if_pos ⟨e3, by omega⟩, Int.toNat_natCast]
      refine dEa (And.intro fL1 @e2) ?_
      all_goals try (refine zlf ?_; repeat' first | exact zso | refine And.intro ?_ ?_ | (refine zim ?_; intro zb hc; repeat (have zc := zb.1; replace zb := zb.2)) | (refine zin ?_; intro zb) | intro j')
      all_goals try refine zbx ?_
      refine v_loopB (fun ms2 S2 => ∃ (j : Nat), S2.e 0 = .p (.sl (.lent m0) (List.map (elI e0) (L))) ∧ S2.e 1 = .p (.int .i64 ((k : Int))) ∧ S2.e 5 = .p (.int .i64 (mxR (suN L m) (classL L m) j)) ∧ S2.e 6 = .p (.int .i64 (m)) ∧ OwnL (S2.e 7) S2.h S2.n (elI false) ((classL L m).length) (classL L m) ∧ S2.e 8 = .p (.int .i64 (j)) ∧ (j ≤ (classL L m).length) ∧ S1.n ≤ S2.n ∧ ms2 = (classL L m).length - j) ((fun (j : Nat) => (classL L m).length - j) (0)) ?_ ⟨0, dC fL1 ?_⟩
      all_goals try (refine zlf ?_; repeat' first | exact zso | refine And.intro ?_ ?_ | (refine zim ?_; intro zb hc; repeat (have zc := zb.1; replace zb := zb.2)) | (refine zin ?_; intro zb) | intro j')
      all_goals try refine zbx ?_
      rintro ms2 S2 ⟨j, h2_0, h2_1, h2_5, h2_6, o2_7, h2_8, c2_0, u2_0, hm2⟩
      obtain ⟨i2_7, h2_7, b2_7, l2_7⟩ := o2_7.out
      have ni2_7 := znds (x := i2_7) (n := S2.n)
      have fL2 := (And.intro h2_0 (And.intro h2_1 (And.intro h2_5 (And.intro h2_6 (And.intro h2_8 (And.intro h2_7 (And.intro b2_7 ni2_7)))))))
      have b4 := mxR_r (R := classL L m) b2 (j := j)
      have b5 := gs_r8 (p := (classL L m).getD j [])
      by_cases hj : j < (classL L m).length
      · have b3 := class_perm (show m ≤ 8 by omega) (getD_mem (d := []) hj)
        refine dEa fL2 ?_
        all_goals try (refine zlf ?_; repeat' first | exact zso | refine And.intro ?_ ?_ | (refine zim ?_; intro zb hc; repeat (have zc := zb.1; replace zb := zb.2)) | (refine zin ?_; intro zb) | intro j')
        all_goals try refine zbx ?_
        focus
          refine q_lp_n ((fun (j : Nat) => (classL L m).length - j) (j+1)) (dC fL2 ?_) ⟨j+1, dC fL2 ?_⟩
          all_goals try (refine zlf ?_; repeat' first | exact zso | refine And.intro ?_ ?_ | (refine zim ?_; intro zb hc; repeat (have zc := zb.1; replace zb := zb.2)) | (refine zin ?_; intro zb) | intro j')
          all_goals try refine zbx ?_
      · refine dEa fL2 ?_
        all_goals try (refine zlf ?_; repeat' first | exact zso | refine And.intro ?_ ?_ | (refine zim ?_; intro zb hc; repeat (have zc := zb.1; replace zb := zb.2)) | (refine zin ?_; intro zb) | intro j')
        all_goals try refine zbx ?_
        focus
          refine q_lp_n ((fun (m : Nat) => k + 1 - m) (m+1)) (dC fL2 ?_) ⟨m+1, dC fL2 ?_⟩
          all_goals try (refine zlf ?_; repeat' first | exact zso | refine And.intro ?_ ?_ | (refine zim ?_; intro zb hc; repeat (have zc := zb.1; replace zb := zb.2)) | (refine zin ?_; intro zb) | intro j')
          all_goals try refine zbx ?_
        all_goals ((obtain rfl : j = (classL L m).length := (by omega)); rfl)
    · skip
      refine dEa fL1 ?_
      all_goals try (refine zlf ?_; repeat' first | exact zso | refine And.intro ?_ ?_ | (refine zim ?_; intro zb hc; repeat (have zc := zb.1; replace zb := zb.2)) | (refine zin ?_; intro zb) | intro j')
      all_goals try refine zbx ?_
      all_goals ((obtain rfl : m = k + 1 := (by omega)); rfl)
  · have e1 : suB L n = -1 := if_neg hc0
    rw [e1]
    refine fO sg0 [4] Tryd.func18 ?_
    have cE1 := @spec_l1In_c; have cE2 := @spec_l1Max_c; have cE3 := @spec_IsBasis_c; have cE4 := @spec_ClassOf_c; have cE5 := @spec_GreatestSlots_c
    refine dEa trivial ?_
    all_goals try (refine zlf ?_; repeat' first | exact zso | refine And.intro ?_ ?_ | (refine zim ?_; intro zb hc; repeat (have zc := zb.1; replace zb := zb.2)) | (refine zin ?_; intro zb) | intro j')
    all_goals try refine zbx ?_
    all_goals exact absurd ⟨by assumption, by assumption⟩ hc0
end Go.Gl
