/-
  The letters of the building and its slots, as the reference says them. Conditions: none.
-/
import Derived.Test.YtfjfobbniglaeaaDoorSlots
set_option linter.unusedSimpArgs false
set_option linter.unusedVariables false
set_option maxRecDepth 20000
set_option linter.unusedSectionVars false
namespace Go.Gl
open Go Go.Proofs
variable [Amb] [NoQ]
variable [TabA]
theorem slL_f {p : List Int} {v : Int} {k : Nat} (hk : k < p.length) (h : p.getD k 0 < v) : slL (fL p v) (k + 1) = slL (fL p v) k := by
  rw [slL, fL_at hk, decide_eq_true h]; simp [bitI]
theorem slL_o {p : List Int} {v : Int} {k : Nat} (hk : k < p.length) (h : ¬ p.getD k 0 < v) : slL (fL p v) (k + 1) = slL (fL p v) k + bitI ((fL p v).getD k false) := by
  rw [slL, fL_at hk, decide_eq_false h]; rfl
theorem fL_2 {p : List Int} {v : Int} {k : Nat} (hk : k < p.length) : (fL p v).getD (k + 2) false = if k + 1 < p.length then decide (p.getD (k + 1) 0 < v) else true := by
  split
  · exact fL_at (by assumption)
  · rw [show k + 2 = p.length + 1 by omega]; exact fL_end
theorem ltT_eq {p : List Int} (hp : permB p = true) {v k : Nat} (h1 : 1 ≤ v) (h2 : v ≤ p.length) (hk : k < p.length) (he : p.getD k 0 = v) :
    ltT p v = ltL (!(fL p v).getD k false) (if k + 1 < p.length then decide ((v : Int) < p.getD (k + 1) 0) else false) :: fmtI (slL (fL p v) k + bitI ((fL p v).getD k false)) := by
  obtain ⟨q1, q2, q3⟩ := psI_eq hp h1 h2
  obtain rfl : psI p v = k := perm_inj hp q1 hk (by rw [q2, he])
  rw [ltT, slL_o hk (by omega), fL_2 hk]
  congr 2
  split
  · rename_i h
    have : p.getD (psI p v + 1) 0 ≠ (v : Int) := fun e => by have := perm_inj hp h hk (by rw [e, he]); omega
    rw [← decide_not]; congr 1; simp only [eq_iff_iff]; omega
  · rfl
theorem spec_l33Letter_c {m0 : Bool} (p : List Int) (V : Int) (h8 : p.length ≤ 8) (hp : permB p = true) (h1 : 1 ≤ V) (h2 : V ≤ p.length) : Fun Tryd.prog 42 [(.sl (.lent m0) (List.map (PV.int .i64) (p))), (.int .i64 (V))] [(.str (ltT p V.toNat))] := by
  refine fO sg0 [4] Tryd.func42 ?_
  have cE1 := @spec_FormatInt_c
  obtain ⟨v, rfl⟩ : ∃ v : Nat, V = v := ⟨V.toNat, by omega⟩
  rw [Int.toNat_natCast]
  have h1 : 1 ≤ v := by omega
  have h2 : v ≤ p.length := by omega
  obtain ⟨q1, q2, q3⟩ := psI_eq hp h1 h2
  refine dE trivial ?_
  all_goals try (refine zlf ?_; repeat' first | exact zso | refine And.intro ?_ ?_ | (refine zim ?_; intro zb hc; repeat (have zc := zb.1; replace zb := zb.2)) | (refine zin ?_; intro zb) | intro j')
  all_goals try refine zbx ?_
  refine v_loopB (fun ms1 S1 => ∃ (k : Nat) (f : Int), S1.e 0 = .p (.sl (.lent m0) (List.map (PV.int .i64) (p))) ∧ S1.e 1 = .p (.int .i64 ((v : Int))) ∧ S1.e 5 = .p (.int .i64 (slL (fL p v) k)) ∧ S1.e 6 = .p (.int .i64 (f)) ∧ S1.e 7 = .p (.int .i64 (k)) ∧ (k ≤ psI p v) ∧ (-1 ≤ f) ∧ (f < k) ∧ ((f < 0 ↔ (fL p v).getD k false = true)) ∧ ms1 = p.length - k) ((fun (k : Nat) (f : Int) => p.length - k) (0) (-1)) ?_ ⟨0, -1, dIa trivial ?_⟩
  all_goals try (refine zlf ?_; repeat' first | exact zso | refine And.intro ?_ ?_ | (refine zim ?_; intro zb hc; repeat (have zc := zb.1; replace zb := zb.2)) | (refine zin ?_; intro zb) | intro j')
  all_goals try refine zbx ?_
  rintro ms1 S1 ⟨k, f, h1_0, h1_1, h1_5, h1_6, h1_7, c1_0, c1_1, c1_2, c1_3, hm1⟩
  have fL1 := (And.intro h1_0 (And.intro h1_1 (And.intro h1_5 (And.intro h1_6 h1_7))))
  have b1 := slL_r (fL p v) k
  have b2 := perm_at hp (i := k)
  have b3 : k < p.length → k ≠ psI p v → p.getD k 0 ≠ v := fun h hn e => hn (perm_inj hp h q1 (by rw [e, q2]))
  have b7 := fmtI_len (n := slL (fL p v) k) (by omega) (by omega)
  have b8 := fmtI_len (n := slL (fL p v) k + 1) (by omega) (by omega)
  have b9 : k < p.length → p.getD k 0 ≠ v → k ≠ psI p v := fun _ h e => h (e ▸ q2)
  have e9 := fun a b => ltT_eq hp h1 h2 (k := k) a b
  have w1 : f < 0 → (fL p v).getD k false = true := c1_3.1
  have w2 : 0 ≤ f → (fL p v).getD k false = false := fun h => by
    cases e : (fL p v).getD k false with
    | false => rfl
    | true => have := c1_3.2 e; omega
  refine dEa fL1 ?_
  all_goals try (refine zlf ?_; repeat' first | exact zso | refine And.intro ?_ ?_ | (refine zim ?_; intro zb hc; repeat (have zc := zb.1; replace zb := zb.2)) | (refine zin ?_; intro zb) | intro j')
  all_goals try refine zbx ?_
  all_goals try (first
    | (rw [e9 ‹_› ‹_›, w1 (by assumption), if_pos (by omega), decide_eq_true (by omega)]; simp [bitI, ltL]; done)
    | (rw [e9 ‹_› ‹_›, w1 (by assumption), if_pos (by omega), decide_eq_false (by omega)]; simp [bitI, ltL]; done)
    | (rw [e9 ‹_› ‹_›, w1 (by assumption), if_neg (by omega)]; simp [bitI, ltL]; done)
    | (rw [e9 ‹_› ‹_›, w2 (by assumption), if_pos (by omega), decide_eq_true (by omega)]; simp [bitI, ltL]; done)
    | (rw [e9 ‹_› ‹_›, w2 (by assumption), if_pos (by omega), decide_eq_false (by omega)]; simp [bitI, ltL]; done)
    | (rw [e9 ‹_› ‹_›, w2 (by assumption), if_neg (by omega)]; simp [bitI, ltL]; done))
  · focus
      refine q_lp_n ((fun (k : Nat) (f : Int) => p.length - k) (k+1) (-1)) (dC fL1 ?_) ⟨k+1, -1, dC fL1 ?_⟩
      all_goals try (refine zlf ?_; repeat' first | exact zso | refine And.intro ?_ ?_ | (refine zim ?_; intro zb hc; repeat (have zc := zb.1; replace zb := zb.2)) | (refine zin ?_; intro zb) | intro j')
      all_goals try refine zbx ?_
    all_goals first | omega | (rw [slL_f ‹_› hc]; done) | (rw [fL_at ‹_›, decide_eq_true hc]; simp; done) | skip
  · focus
      refine q_lp_n ((fun (k : Nat) (f : Int) => p.length - k) (k+1) (k)) (dC fL1 ?_) ⟨k+1, k, dC fL1 ?_⟩
      all_goals try (refine zlf ?_; repeat' first | exact zso | refine And.intro ?_ ?_ | (refine zim ?_; intro zb hc; repeat (have zc := zb.1; replace zb := zb.2)) | (refine zin ?_; intro zb) | intro j')
      all_goals try refine zbx ?_
    all_goals first | omega | (rw [slL_o ‹_› (by omega), w1 ‹_›]; rfl) | (rw [fL_at ‹_›, decide_eq_false (by omega)]; simp; done) | skip
  · focus
      refine q_lp_n ((fun (k : Nat) (f : Int) => p.length - k) (k+1) (f)) (dC fL1 ?_) ⟨k+1, f, dC fL1 ?_⟩
      all_goals try (refine zlf ?_; repeat' first | exact zso | refine And.intro ?_ ?_ | (refine zim ?_; intro zb hc; repeat (have zc := zb.1; replace zb := zb.2)) | (refine zin ?_; intro zb) | intro j')
      all_goals try refine zbx ?_
    all_goals first | omega | (rw [slL_o ‹_› (by omega), w2 ‹_›]; simp [bitI]; done) | (rw [fL_at ‹_›, decide_eq_false (by omega)]; simp; omega) | skip
  all_goals exact ⟨fun _ => fL_0, fun _ => trivial⟩
def bldT (p : List Int) : List UInt8 := if isPermB p = true then txB p p.length else []
def gsI (p : List Int) : Int := if isPermB p = true then mxB p p.length else 0
theorem spec_BuildingOf_c {m0 : Bool} (p : List Int) (hl : p.length ≤ 1048576) : Fun Tryd.prog 13 [(.sl (.lent m0) (List.map (PV.int .i64) (p)))] [(.str (bldT p))] := by
  by_cases hp : isPermB p = true
  · have pf := isPerm_facts hp
    have h8 := pf.1
    rw [bldT, if_pos hp]
    refine fO sg0 [2] Tryd.func13 ?_
    have cE1 := @spec_IsPerm_c; have cE2 := @spec_l33Letter_c
    refine dE trivial ?_
    all_goals try (refine zlf ?_; repeat' first | exact zso | refine And.intro ?_ ?_ | (refine zim ?_; intro zb hc) | (refine zin ?_; intro zb) | intro j')
    all_goals try refine zbx ?_
    refine v_loopB (fun ms1 S1 => ∃ (v : Nat), S1.e 0 = .p (.sl (.lent m0) (List.map (PV.int .i64) (p))) ∧ S1.e 3 = .p (.str (txB p v)) ∧ S1.e 4 = .p (.int .i64 ((v + 1))) ∧ (v ≤ p.length) ∧ ms1 = p.length - v) ((fun (v : Nat) => p.length - v) (0)) ?_ ⟨0, dC trivial ?_⟩
    all_goals try (refine zlf ?_; repeat' first | exact zso | refine And.intro ?_ ?_ | (refine zim ?_; intro zb hc) | (refine zin ?_; intro zb) | intro j')
    all_goals try refine zbx ?_
    rintro ms1 S1 ⟨v, h1_0, h1_3, h1_4, c1_0, hm1⟩
    have fL1 := (And.intro h1_0 (And.intro h1_3 h1_4))
    have b3 := txB_len pf.2 pf.1 c1_0
    by_cases hv : v < p.length
    · have b4 := ltT_len (p := p) (v := v + 1) (by have := (psI_eq pf.2 (v := v + 1) (by omega) (by omega)).1; omega)
      have e0 : ((v : Int) + 1).toNat = v + 1 := by omega
      refine dE (And.intro fL1 (And.intro @hp @e0)) ?_
      all_goals try (refine zlf ?_; repeat' first | exact zso | refine And.intro ?_ ?_ | (refine zim ?_; intro zb hc) | (refine zin ?_; intro zb) | intro j')
      all_goals try refine zbx ?_
      all_goals try exact pf.2
      all_goals try exact zaut
      focus
        refine q_lp_n ((fun (v : Nat) => p.length - v) (v+1)) (dC fL1 ?_) ⟨v+1, dC fL1 ?_⟩
        all_goals try (refine zlf ?_; repeat' first | exact zso | refine And.intro ?_ ?_ | (refine zim ?_; intro zb hc) | (refine zin ?_; intro zb) | intro j')
        all_goals try refine zbx ?_
    · skip
      refine dEa fL1 ?_
      all_goals try (refine zlf ?_; repeat' first | exact zso | refine And.intro ?_ ?_ | (refine zim ?_; intro zb hc) | (refine zin ?_; intro zb) | intro j')
      all_goals try refine zbx ?_
      all_goals ((obtain rfl : v = p.length := (by omega)); rfl)
  · have hp' : isPermB p = false := by simpa using hp
    rw [bldT, if_neg hp]
    refine fO sg0 [2] Tryd.func13 ?_
    have cE1 := @spec_IsPerm_c; have cE2 := @spec_l33Letter_c
    refine dE trivial ?_
    all_goals try (refine zlf ?_; repeat' first | exact zso | refine And.intro ?_ ?_ | (refine zim ?_; intro zb hc) | (refine zin ?_; intro zb) | intro j')
    all_goals try refine zbx ?_
    refine v_loopB (fun ms1 S1 => ∃ (v : Nat), S1.e 0 = .p (.sl (.lent m0) (List.map (PV.int .i64) (p))) ∧ S1.e 3 = .p (.str ([])) ∧ S1.e 4 = .p (.int .i64 (1)) ∧ (v = 0) ∧ ms1 = 0) ((fun (v : Nat) => 0) (0)) ?_ ⟨0, dIa trivial ?_⟩
    all_goals try (refine zlf ?_; repeat' first | exact zso | refine And.intro ?_ ?_ | (refine zim ?_; intro zb hc) | (refine zin ?_; intro zb) | intro j')
    all_goals try refine zbx ?_
    rintro ms1 S1 ⟨v, h1_0, h1_3, h1_4, c1_0, hm1⟩
    have fL1 := (And.intro h1_0 (And.intro h1_3 h1_4))
    refine dEa (And.intro fL1 @hp') ?_
    all_goals try (refine zlf ?_; repeat' first | exact zso | refine And.intro ?_ ?_ | (refine zim ?_; intro zb hc) | (refine zin ?_; intro zb) | intro j')
    all_goals try refine zbx ?_
theorem spec_GreatestSlots_c {m0 : Bool} (p : List Int) (hl : p.length ≤ 1048576) : Fun Tryd.prog 20 [(.sl (.lent m0) (List.map (PV.int .i64) (p)))] [(.int .i64 (gsI p))] := by
  by_cases hp : isPermB p = true
  · have pf := isPerm_facts hp
    have h8 := pf.1
    rw [gsI, if_pos hp]
    refine fO sg0 [2] Tryd.func20 ?_
    have cE1 := @spec_l1Bit_c; have cE2 := @spec_l1Max_c; have cE3 := @spec_IsPerm_c
    refine dEa @hp ?_
    all_goals try (refine zlf ?_; repeat' first | exact zso | refine And.intro ?_ ?_ | (refine zim ?_; intro zb hc; repeat (have zc := zb.1; replace zb := zb.2)) | (refine zin ?_; intro zb) | intro j')
    all_goals try refine zbx ?_
    · rw [show p.length = 0 by omega, max0 (by omega)]
    · have hn : 0 < p.length := by omega
      refine v_loopB (fun ms1 S1 => ∃ (v : Nat), S1.e 0 = .p (.sl (.lent m0) (List.map (PV.int .i64) (p))) ∧ S1.e 3 = .p (.int .i64 (mxB p v)) ∧ S1.e 4 = .p (.int .i64 ((v + 1))) ∧ (v ≤ p.length) ∧ ms1 = p.length - v) ((fun (v : Nat) => p.length - v) (0)) ?_ ⟨0, dC trivial ?_⟩
      all_goals try (refine zlf ?_; repeat' first | exact zso | refine And.intro ?_ ?_ | (refine zim ?_; intro zb hc; repeat (have zc := zb.1; replace zb := zb.2)) | (refine zin ?_; intro zb) | intro j')
      all_goals try refine zbx ?_
      rintro ms1 S1 ⟨v, h1_0, h1_3, h1_4, c1_0, hm1⟩
      have fL1 := (And.intro h1_0 (And.intro h1_3 h1_4))
      · have b4 := mxB_r (p := p) (v := v)
        by_cases hv : v < p.length
        · refine dEa fL1 ?_
          all_goals try (refine zlf ?_; repeat' first | exact zso | refine And.intro ?_ ?_ | (refine zim ?_; intro zb hc; repeat (have zc := zb.1; replace zb := zb.2)) | (refine zin ?_; intro zb) | intro j')
          all_goals try refine zbx ?_
          refine v_loopB (fun ms2 S2 => ∃ (k : Nat), S2.e 0 = .p (.sl (.lent m0) (List.map (PV.int .i64) (p))) ∧ S2.e 3 = .p (.int .i64 (mxB p v)) ∧ S2.e 4 = .p (.int .i64 ((v + 1))) ∧ S2.e 5 = .p (.int .i64 (slL (fL p ((v : Int) + 2)) k)) ∧ S2.e 6 = .p (.int .i64 (k)) ∧ (k ≤ p.length) ∧ S1.n ≤ S2.n ∧ ms2 = p.length - k) ((fun (k : Nat) => p.length - k) (0)) ?_ ⟨0, dC fL1 ?_⟩
          all_goals try (refine zlf ?_; repeat' first | exact zso | refine And.intro ?_ ?_ | (refine zim ?_; intro zb hc; repeat (have zc := zb.1; replace zb := zb.2)) | (refine zin ?_; intro zb) | intro j')
          all_goals try refine zbx ?_
          rintro ms2 S2 ⟨k, h2_0, h2_3, h2_4, h2_5, h2_6, c2_0, u2_0, hm2⟩
          have fL2 := (And.intro h2_0 (And.intro h2_3 (And.intro h2_4 (And.intro h2_5 h2_6))))
          have b5 := slL_r (fL p ((v : Int) + 2)) k
          have s1 : k < p.length → ¬ (v : Int) + 1 < p.getD k 0 → slL (fL p ((v : Int) + 2)) (k + 1) = slL (fL p ((v : Int) + 2)) k := fun h h1 => slL_f h (by omega)
          have s2 : k < p.length → (v : Int) + 1 < p.getD k 0 → slL (fL p ((v : Int) + 2)) (k + 1) = slL (fL p ((v : Int) + 2)) k + bitI ((fL p ((v : Int) + 2)).getD k false) := fun h h1 => slL_o h (by omega)
          have q5 : mxB p (v + 1) = max (mxB p v) (slL (fL p ((v : Int) + 2)) p.length) := rfl
          have s3 : k < p.length → ¬ (k : Int) = 0 → (fL p ((v : Int) + 2)).getD k false = decide (p.getD ((k : Int) - 1).toNat 0 ≤ (v : Int) + 1) := fun h h1 => by
            obtain ⟨j, rfl⟩ : ∃ j, k = j + 1 := ⟨k - 1, by omega⟩
            rw [fL_at (by omega), show (((j + 1 : Nat) : Int) - 1).toNat = j by omega]
            congr 1; simp only [eq_iff_iff]; omega
          have s4 : (k : Int) = 0 → (fL p ((v : Int) + 2)).getD k false = true := fun h => by
            obtain rfl : k = 0 := by omega
            exact fL_0
          have c0 := bitI_r false
          have c1 := bitI_r true
          have c2 := bitI_r (decide (p.getD ((k : Int) - 1).toNat 0 ≤ (v : Int) + 1))
          by_cases hk : k < p.length
          · refine dEa fL2 ?_
            all_goals try (refine zlf ?_; repeat' first | exact zso | refine And.intro ?_ ?_ | (refine zim ?_; intro zb hc; repeat (have zc := zb.1; replace zb := zb.2)) | (refine zin ?_; intro zb) | intro j')
            all_goals try refine zbx ?_
            · focus
                refine q_lp_n ((fun (k : Nat) => p.length - k) (k+1)) (dC fL2 ?_) ⟨k+1, dC fL2 ?_⟩
                all_goals try (refine zlf ?_; repeat' first | exact zso | refine And.intro ?_ ?_ | (refine zim ?_; intro zb hc; repeat (have zc := zb.1; replace zb := zb.2)) | (refine zin ?_; intro zb) | intro j')
                all_goals try refine zbx ?_
              all_goals (rw [s2 ‹_› ‹_›, s3 ‹_› hc])
            · focus
                refine q_lp_n ((fun (k : Nat) => p.length - k) (k+1)) (dC fL2 ?_) ⟨k+1, dC fL2 ?_⟩
                all_goals try (refine zlf ?_; repeat' first | exact zso | refine And.intro ?_ ?_ | (refine zim ?_; intro zb hc; repeat (have zc := zb.1; replace zb := zb.2)) | (refine zin ?_; intro zb) | intro j')
                all_goals try refine zbx ?_
              all_goals (rw [s2 ‹_› ‹_›, s4 hc])
            · focus
                refine q_lp_n ((fun (k : Nat) => p.length - k) (k+1)) (dC fL2 ?_) ⟨k+1, dC fL2 ?_⟩
                all_goals try (refine zlf ?_; repeat' first | exact zso | refine And.intro ?_ ?_ | (refine zim ?_; intro zb hc; repeat (have zc := zb.1; replace zb := zb.2)) | (refine zin ?_; intro zb) | intro j')
                all_goals try refine zbx ?_
              all_goals (rw [s1 ‹_› (by omega)]; simp [bitI])
          · refine dEa fL2 ?_
            all_goals try (refine zlf ?_; repeat' first | exact zso | refine And.intro ?_ ?_ | (refine zim ?_; intro zb hc; repeat (have zc := zb.1; replace zb := zb.2)) | (refine zin ?_; intro zb) | intro j')
            all_goals try refine zbx ?_
            focus
              refine q_lp_n ((fun (v : Nat) => p.length - v) (v+1)) (dC fL2 ?_) ⟨v+1, dC fL2 ?_⟩
              all_goals try (refine zlf ?_; repeat' first | exact zso | refine And.intro ?_ ?_ | (refine zim ?_; intro zb hc; repeat (have zc := zb.1; replace zb := zb.2)) | (refine zin ?_; intro zb) | intro j')
              all_goals try refine zbx ?_
            all_goals (rw [q5, show k = p.length by omega])
        · skip
          refine dEa fL1 ?_
          all_goals try (refine zlf ?_; repeat' first | exact zso | refine And.intro ?_ ?_ | (refine zim ?_; intro zb hc; repeat (have zc := zb.1; replace zb := zb.2)) | (refine zin ?_; intro zb) | intro j')
          all_goals try refine zbx ?_
          all_goals ((obtain rfl : v = p.length := (by omega)); rfl)
      all_goals exact (max1 hn).symm
  · have hp' : isPermB p = false := by simpa using hp
    rw [gsI, if_neg hp]
    refine fO sg0 [2] Tryd.func20 ?_
    have cE1 := @spec_l1Bit_c; have cE2 := @spec_l1Max_c; have cE3 := @spec_IsPerm_c
    refine dEa @hp' ?_
    all_goals try (refine zlf ?_; repeat' first | exact zso | refine And.intro ?_ ?_ | (refine zim ?_; intro zb hc; repeat (have zc := zb.1; replace zb := zb.2)) | (refine zin ?_; intro zb) | intro j')
    all_goals try refine zbx ?_
theorem impl_BuildingOf_c {m0 : Bool} (p : List Int) (hl : p.length ≤ 1048576) : Fun Tryd.prog 7 [(.sl (.lent m0) (List.map (PV.int .i64) (p)))] [(.str (bldT p))] := by
  by_cases hp : isPermB p = true
  · have pf := isPerm_facts hp
    rw [bldT, if_pos hp]
    refine fO sg0 [2] Tryd.func7 ?_
    have cE1 := @impl_IsPerm_c; have cE2 := @impl_building_c
    refine dE @hp ?_
    all_goals try (refine zlf ?_; repeat' first | exact zso | refine And.intro ?_ ?_ | (refine zim ?_; intro zb hc) | (refine zin ?_; intro zb) | intro j')
    all_goals try refine zbx ?_
    all_goals first | exact pf.1 | exact pf.2 | skip
    all_goals try exact zaut
  · have hp' : isPermB p = false := by simpa using hp
    rw [bldT, if_neg hp]
    refine fO sg0 [2] Tryd.func7 ?_
    have cE1 := @impl_IsPerm_c; have cE2 := @impl_building_c
    refine dEa @hp' ?_
    all_goals try (refine zlf ?_; repeat' first | exact zso | refine And.intro ?_ ?_ | (refine zim ?_; intro zb hc) | (refine zin ?_; intro zb) | intro j')
    all_goals try refine zbx ?_
theorem impl_GreatestSlots_c {m0 : Bool} (p : List Int) (hl : p.length ≤ 1048576) : Fun Tryd.prog 19 [(.sl (.lent m0) (List.map (PV.int .i64) (p)))] [(.int .i64 (gsI p))] := by
  by_cases hp : isPermB p = true
  · have pf := isPerm_facts hp
    rw [gsI, if_pos hp]
    refine fO sg0 [2] Tryd.func19 ?_
    have cE1 := @impl_IsPerm_c; have cE2 := @impl_building_c
    refine dE @hp ?_
    all_goals try (refine zlf ?_; repeat' first | exact zso | refine And.intro ?_ ?_ | (refine zim ?_; intro zb hc) | (refine zin ?_; intro zb) | intro j')
    all_goals try refine zbx ?_
    all_goals first | exact pf.1 | exact pf.2 | skip
    all_goals try exact zaut
  · have hp' : isPermB p = false := by simpa using hp
    rw [gsI, if_neg hp]
    refine fO sg0 [2] Tryd.func19 ?_
    have cE1 := @impl_IsPerm_c; have cE2 := @impl_building_c
    refine dEa @hp' ?_
    all_goals try (refine zlf ?_; repeat' first | exact zso | refine And.intro ?_ ?_ | (refine zim ?_; intro zb hc) | (refine zin ?_; intro zb) | intro j')
    all_goals try refine zbx ?_
end Go.Gl
