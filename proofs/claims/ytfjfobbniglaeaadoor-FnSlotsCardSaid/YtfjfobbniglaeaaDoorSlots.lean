/-
  The building of a permutation, its letters and its slots. Conditions: none.
-/
import Derived.Test.YtfjfobbniglaeaaDoorItoa
import Derived.Test.YtfjfobbniglaeaaDoorPermF
import Derived.Test.YtfjfobbniglaeaaDoorPat
import Derived.Test.YtfjfobbniglaeaaDoorPerm
set_option linter.unusedSimpArgs false
set_option linter.unusedVariables false
set_option maxRecDepth 20000
set_option linter.unusedSectionVars false
namespace Go.Gl
open Go Go.Proofs
variable [Amb] [NoQ]
variable [TabA]
/-- The starts of open parts among the first places. -/
def slL (l : List Bool) : Nat → Int
  | 0 => 0
  | j + 1 => slL l j + bitI (!l.getD (j + 1) false && l.getD j false)
theorem slL_r (l : List Bool) : ∀ j : Nat, 0 ≤ slL l j ∧ slL l j ≤ j
  | 0 => by simp [slL]
  | j + 1 => by
    have := slL_r l j
    have := bitI_r (!l.getD (j + 1) false && l.getD j false)
    rw [slL]; omega
theorem slL_take {l : List Bool} {m : Nat} : ∀ {j : Nat}, j < m → slL (l.take m) j = slL l j
  | 0, _ => rfl
  | j + 1, h => by
    rw [slL, slL, slL_take (by omega)]
    have e : ∀ i, i < m → (l.take m).getD i false = l.getD i false := fun i hi => by
      simp only [List.getD_eq_getElem?_getD, List.getElem?_take, if_pos hi]
    rw [e _ h, e _ (by omega)]
theorem impl_slots_c {m0 : Bool} (l : List Bool) (hl : l.length ≤ 1048576) : Fun Tryd.prog 62 [(.sl (.lent m0) (List.map PV.bool (l)))] [(.int .i64 (slL l (l.length - 1)))] := by
  refine fO sg0 [2] Tryd.func62 ?_
  refine dE trivial ?_
  all_goals try (refine zlf ?_; repeat' first | exact zso | refine And.intro ?_ ?_ | (refine zim ?_; intro zb hc; repeat (have zc := zb.1; replace zb := zb.2)) | (refine zin ?_; intro zb) | intro j')
  all_goals try refine zbx ?_
  refine v_loopB (fun ms1 S1 => ∃ (j : Nat), S1.e 0 = .p (.sl (.lent m0) (List.map PV.bool (l))) ∧ S1.e 3 = .p (.int .i64 (slL l j)) ∧ S1.e 4 = .p (.int .i64 ((j + 1))) ∧ (j = 0 ∨ j + 1 ≤ l.length) ∧ ms1 = l.length - j) ((fun (j : Nat) => l.length - j) (0)) ?_ ⟨0, dIa trivial ?_⟩
  all_goals try (refine zlf ?_; repeat' first | exact zso | refine And.intro ?_ ?_ | (refine zim ?_; intro zb hc; repeat (have zc := zb.1; replace zb := zb.2)) | (refine zin ?_; intro zb) | intro j')
  all_goals try refine zbx ?_
  rintro ms1 S1 ⟨j, h1_0, h1_3, h1_4, c1_0, hm1⟩
  have fL1 := (And.intro h1_0 (And.intro h1_3 h1_4))
  have b1 := slL_r l j
  refine dEa fL1 ?_
  all_goals try (refine zlf ?_; repeat' first | exact zso | refine And.intro ?_ ?_ | (refine zim ?_; intro zb hc; repeat (have zc := zb.1; replace zb := zb.2)) | (refine zin ?_; intro zb) | intro j')
  all_goals try refine zbx ?_
  all_goals try rw [show ((j : Int) + 1 - 1).toNat = j by omega] at hc
  · focus
      refine q_lp_n ((fun (j : Nat) => l.length - j) (j+1)) (dC fL1 ?_) ⟨j+1, dC fL1 ?_⟩
      all_goals try (refine zlf ?_; repeat' first | exact zso | refine And.intro ?_ ?_ | (refine zim ?_; intro zb hc; repeat (have zc := zb.1; replace zb := zb.2)) | (refine zin ?_; intro zb) | intro j')
      all_goals try refine zbx ?_
    all_goals first | omega | (rw [slL, ‹l.getD (j + 1) false = false›, hc]; rfl)
  · focus
      refine q_lp_n ((fun (j : Nat) => l.length - j) (j+1)) (dC fL1 ?_) ⟨j+1, dC fL1 ?_⟩
      all_goals try (refine zlf ?_; repeat' first | exact zso | refine And.intro ?_ ?_ | (refine zim ?_; intro zb hc; repeat (have zc := zb.1; replace zb := zb.2)) | (refine zin ?_; intro zb) | intro j')
      all_goals try refine zbx ?_
    all_goals first | omega | (rw [slL, ‹l.getD (j + 1) false = false›, hc]; simp [bitI]; done)
  · focus
      refine q_lp_n ((fun (j : Nat) => l.length - j) (j+1)) (dC fL1 ?_) ⟨j+1, dC fL1 ?_⟩
      all_goals try (refine zlf ?_; repeat' first | exact zso | refine And.intro ?_ ?_ | (refine zim ?_; intro zb hc; repeat (have zc := zb.1; replace zb := zb.2)) | (refine zin ?_; intro zb) | intro j')
      all_goals try refine zbx ?_
    all_goals first | omega | (rw [slL, hc]; simp [bitI]; done)
  · rw [show l.length - 1 = j by omega]
/-! ### the places that are filled -/
/-- The row of places ahead of the number v: filled or open; both ends count as filled. -/
def fL (p : List Int) (v : Int) : List Bool := true :: (p.map (fun x => decide (x < v)) ++ [true])
theorem fL_len {p : List Int} {v : Int} : (fL p v).length = p.length + 2 := by simp [fL]
theorem fL_0 {p : List Int} {v : Int} : (fL p v).getD 0 false = true := rfl
theorem fL_at {p : List Int} {v : Int} {k : Nat} (h : k < p.length) : (fL p v).getD (k + 1) false = decide (p.getD k 0 < v) := by
  simp only [fL, List.getD_eq_getElem?_getD, List.getElem?_cons_succ]
  rw [List.getElem?_append_left (by simpa using h), List.getElem?_map, List.getElem?_eq_getElem h]; rfl
theorem fL_end {p : List Int} {v : Int} : (fL p v).getD (p.length + 1) false = true := by
  simp only [fL, List.getD_eq_getElem?_getD, List.getElem?_cons_succ]
  rw [List.getElem?_append_right (by simp)]; simp
theorem slL_end {p : List Int} {v : Int} : slL (fL p v) (p.length + 1) = slL (fL p v) p.length := by
  rw [slL, fL_end]; simp [bitI]
theorem fL_set {p : List Int} (hp : permB p = true) {v : Nat} {i : Nat} (hi : i < p.length) (e : p.getD i 0 = v) : (fL p v).set (i + 1) true = fL p ((v : Int) + 1) := by
  refine List.ext_getElem? fun j => ?_
  rw [List.getElem?_set]
  by_cases hj : i + 1 = j
  · subst hj
    rw [if_pos rfl, fL_len, if_pos (by omega)]
    have h1 : (fL p ((v : Int) + 1)).getD (i + 1) false = true := by rw [fL_at hi, e]; exact decide_eq_true (by omega)
    rw [List.getD_eq_getElem?_getD, List.getElem?_eq_getElem (by rw [fL_len]; omega)] at h1
    rw [List.getElem?_eq_getElem (by rw [fL_len]; omega)]
    simpa using h1.symm
  · rw [if_neg hj]
    cases j with
    | zero => rfl
    | succ k =>
      simp only [fL, List.getElem?_cons_succ]
      by_cases hk : k < p.length
      · rw [List.getElem?_append_left (by simpa using hk), List.getElem?_append_left (by simpa using hk), List.getElem?_map, List.getElem?_map, List.getElem?_eq_getElem hk]
        simp only [Option.map_some, Option.some.injEq, decide_eq_decide]
        have h2 : p[k] ≠ (v : Int) := fun h3 => hj (by
          rw [perm_inj hp hi hk (by rw [e, ← h3, List.getD_eq_getElem?_getD, List.getElem?_eq_getElem hk]; rfl)])
        omega
      · rw [List.getElem?_append_right (by simpa using hk), List.getElem?_append_right (by simpa using hk)]; simp
/-! ### each number's place -/
/-- The place of a number, from 0 on. -/
def psI (p : List Int) (v : Nat) : Nat := ((inv p).getD (v - 1) 0 - 1).toNat
theorem psI_eq {p : List Int} (hp : permB p = true) {v : Nat} (h1 : 1 ≤ v) (h2 : v ≤ p.length) : psI p v < p.length ∧ p.getD (psI p v) 0 = v ∧ (inv p).getD (v - 1) 0 = (psI p v : Int) + 1 := by
  obtain ⟨i, hi, e⟩ := perm_spot hp (v := v) (by omega) (by omega)
  have h3 := invL_at hp (Nat.le_refl _) i hi
  rw [e, show ((v : Int) - 1).toNat = v - 1 by omega] at h3
  have h4 : psI p v = i := by unfold psI inv; rw [h3]; omega
  rw [h4]; exact ⟨hi, e, h3⟩
theorem fL_1 {p : List Int} (hp : permB p = true) : ((List.replicate (p.length + 2) false).set 0 true).set (p.length + 1) true = fL p 1 := by
  refine List.ext_getElem? fun j => ?_
  rw [List.getElem?_set, List.getElem?_set]
  cases j with
  | zero => simp [fL]
  | succ k =>
    simp only [fL, List.getElem?_cons_succ]
    by_cases hk : k < p.length
    · rw [List.getElem?_append_left (by simpa using hk), List.getElem?_map, List.getElem?_eq_getElem hk, if_neg (by omega), if_neg (by omega), List.getElem?_replicate, if_pos (by omega)]
      have := perm_at hp hk
      rw [List.getD_eq_getElem?_getD, List.getElem?_eq_getElem hk] at this
      simp only [Option.getD_some] at this
      simp; omega
    · rw [List.getElem?_append_right (by simpa using hk)]
      by_cases e : k = p.length
      · subst e; simp
      · rw [if_neg (by omega), if_neg (by omega), List.getElem?_replicate, if_neg (by omega)]; simp; omega
def ltL (b a : Bool) : UInt8 := if b && a then 109 else if b then 114 else if a then 108 else 102
/-- The letter and the slot of a number. -/
def ltT (p : List Int) (v : Nat) : List UInt8 := ltL (!(fL p v).getD (psI p v) false) (!(fL p v).getD (psI p v + 2) false) :: fmtI (slL (fL p v) (psI p v + 1))
def txB (p : List Int) : Nat → List UInt8
  | 0 => []
  | v + 1 => txB p v ++ ltT p (v + 1)
def mxB (p : List Int) : Nat → Int
  | 0 => if p.length = 0 then 0 else 1
  | v + 1 => max (mxB p v) (slL (fL p ((v : Int) + 2)) p.length)
theorem mxB_r {p : List Int} : ∀ {v : Nat}, 0 ≤ mxB p v ∧ mxB p v ≤ max 1 p.length
  | 0 => by rw [mxB]; split <;> omega
  | v + 1 => by
    have := mxB_r (p := p) (v := v)
    have := slL_r (fL p ((v : Int) + 2)) p.length
    rw [mxB]; omega
theorem ltT_len {p : List Int} {v : Nat} (hl : psI p v ≤ 8) : (ltT p v).length ≤ 22 := by
  have h1 := slL_r (fL p v) (psI p v + 1)
  have := fmtI_len (n := slL (fL p v) (psI p v + 1)) (by omega) (by omega)
  rw [ltT, List.length_cons]; omega
theorem txB_len {p : List Int} (hp : permB p = true) (h8 : p.length ≤ 8) : ∀ {v : Nat}, v ≤ p.length → (txB p v).length ≤ v * 22
  | 0, _ => by simp [txB]
  | v + 1, h => by
    have h1 := txB_len hp h8 (v := v) (by omega)
    have h2 := ltT_len (p := p) (v := v + 1) (by have := (psI_eq hp (v := v + 1) (by omega) h).1; omega)
    rw [txB, List.length_append]; omega
theorem max1 {p : List Int} (hc : 0 < p.length) : mxB p 0 = 1 := by rw [mxB, if_neg (by omega)]
theorem max0 {p : List Int} (hc : ¬ 0 < p.length) : mxB p 0 = 0 := by rw [mxB, if_pos (by omega)]
set_option maxHeartbeats 1600000 in
theorem impl_building_c {m0 : Bool} (p : List Int) (h8 : p.length ≤ 8) (hp : permB p = true) : Fun Tryd.prog 30 [(.sl (.lent m0) (List.map (PV.int .i64) (p)))] [(.str (txB p p.length)), (.int .i64 (mxB p p.length))] := by
  have b1 : (inv p).length = p.length := inv_len
  by_cases hz : p = []
  · have hz0 : p.length = 0 := by rw [hz]; rfl
    refine fO sg0 [2, 3] Tryd.func30 ?_
    have cE1 := @impl_inverse_c; have cE2 := @impl_slots_c; have cE3 := @impl_FormatInt_c
    refine dEa trivial ?_
    all_goals try (refine zlf ?_; repeat' first | exact zso | refine And.intro ?_ ?_ | (refine zim ?_; intro zb hc; repeat (have zc := zb.1; replace zb := zb.2)) | (refine zin ?_; intro zb) | intro j')
    all_goals try refine zbx ?_
    refine v_loopB (fun ms1 S1 => ∃ (v : Nat), S1.e 0 = .p (.sl (.lent m0) (List.map (PV.int .i64) (p))) ∧ OwnL (S1.e 4) S1.h S1.n (PV.int .i64) ((inv p).length) (inv p) ∧ S1.e 5 = .p (.str (txB p v)) ∧ S1.e 6 = .p (.int .i64 (mxB p v)) ∧ OwnL (S1.e 7) S1.h S1.n PV.bool ((fL p ((v : Int) + 1)).length) (fL p ((v : Int) + 1)) ∧ S1.e 8 = .p (.int .i64 ((v + 1))) ∧ (v ≤ p.length) ∧ NId (S1.e 7) (S1.e 4) ∧ ms1 = p.length - v) ((fun (v : Nat) => p.length - v) (0)) ?_ ⟨0, dC trivial ?_⟩
    all_goals try (refine zlf ?_; repeat' first | exact zso | refine And.intro ?_ ?_ | (refine zim ?_; intro zb hc; repeat (have zc := zb.1; replace zb := zb.2)) | (refine zin ?_; intro zb) | intro j')
    all_goals try refine zbx ?_
    rintro ms1 S1 ⟨v, h1_0, o1_4, h1_5, h1_6, o1_7, h1_8, c1_0, u1_0, hm1⟩
    obtain ⟨i1_4, h1_4, b1_4, l1_4⟩ := o1_4.out
    obtain ⟨i1_7, h1_7, b1_7, l1_7⟩ := o1_7.out
    have k1_0 := (u1_0).out h1_7 h1_4
    have ni1_4 := znds (x := i1_4) (n := S1.n)
    have ni1_7 := znds (x := i1_7) (n := S1.n)
    have di1_4i1_7 := zdne (x := i1_4) (y := i1_7)
    have fL1 := (And.intro h1_0 (And.intro h1_5 (And.intro h1_6 (And.intro h1_8 (And.intro h1_4 (And.intro b1_4 (And.intro h1_7 (And.intro b1_7 (And.intro ni1_4 (And.intro ni1_7 di1_4i1_7))))))))))
    · have b2 : (fL p ((v : Int) + 1)).length = p.length + 2 := fL_len
      refine dEa fL1 ?_
      all_goals try (refine zlf ?_; repeat' first | exact zso | refine And.intro ?_ ?_ | (refine zim ?_; intro zb hc; repeat (have zc := zb.1; replace zb := zb.2)) | (refine zin ?_; intro zb) | intro j')
      all_goals try refine zbx ?_
      all_goals ((obtain rfl : v = p.length := (by omega)); rfl)
    · exact (max0 (by omega)).symm
    · rw [fL_len]; omega
    · rw [show ((p.length : Int) + 2).toNat = p.length + 2 by omega]; exact fL_1 hp
  · have hn : 0 < (p.length : Int) := by cases p with | nil => exact absurd rfl hz | cons => simp
    refine fO sg0 [2, 3] Tryd.func30 ?_
    have cE1 := @impl_inverse_c; have cE2 := @impl_slots_c; have cE3 := @impl_FormatInt_c
    refine dEa trivial ?_
    all_goals try (refine zlf ?_; repeat' first | exact zso | refine And.intro ?_ ?_ | (refine zim ?_; intro zb hc; repeat (have zc := zb.1; replace zb := zb.2)) | (refine zin ?_; intro zb) | intro j')
    all_goals try refine zbx ?_
    refine v_loopB (fun ms1 S1 => ∃ (v : Nat), S1.e 0 = .p (.sl (.lent m0) (List.map (PV.int .i64) (p))) ∧ OwnL (S1.e 4) S1.h S1.n (PV.int .i64) ((inv p).length) (inv p) ∧ S1.e 5 = .p (.str (txB p v)) ∧ S1.e 6 = .p (.int .i64 (mxB p v)) ∧ OwnL (S1.e 7) S1.h S1.n PV.bool ((fL p ((v : Int) + 1)).length) (fL p ((v : Int) + 1)) ∧ S1.e 8 = .p (.int .i64 ((v + 1))) ∧ (v ≤ p.length) ∧ NId (S1.e 7) (S1.e 4) ∧ ms1 = p.length - v) ((fun (v : Nat) => p.length - v) (0)) ?_ ⟨0, dC trivial ?_⟩
    all_goals try (refine zlf ?_; repeat' first | exact zso | refine And.intro ?_ ?_ | (refine zim ?_; intro zb hc; repeat (have zc := zb.1; replace zb := zb.2)) | (refine zin ?_; intro zb) | intro j')
    all_goals try refine zbx ?_
    rintro ms1 S1 ⟨v, h1_0, o1_4, h1_5, h1_6, o1_7, h1_8, c1_0, u1_0, hm1⟩
    obtain ⟨i1_4, h1_4, b1_4, l1_4⟩ := o1_4.out
    obtain ⟨i1_7, h1_7, b1_7, l1_7⟩ := o1_7.out
    have k1_0 := (u1_0).out h1_7 h1_4
    have ni1_4 := znds (x := i1_4) (n := S1.n)
    have ni1_7 := znds (x := i1_7) (n := S1.n)
    have di1_4i1_7 := zdne (x := i1_4) (y := i1_7)
    have fL1 := (And.intro h1_0 (And.intro h1_5 (And.intro h1_6 (And.intro h1_8 (And.intro h1_4 (And.intro b1_4 (And.intro h1_7 (And.intro b1_7 (And.intro ni1_4 (And.intro ni1_7 di1_4i1_7))))))))))
    have b2 : (fL p ((v : Int) + 1)).length = p.length + 2 := fL_len
    have b3 := txB_len hp h8 c1_0
    have b4 := mxB_r (p := p) (v := v)
    by_cases hk : v < p.length
    · obtain ⟨q1, q2, q3⟩ := psI_eq hp (v := v + 1) (by omega) (by omega)
      have q4 : txB p (v + 1) = txB p v ++ ltT p (v + 1) := rfl
      have q5 : mxB p (v + 1) = max (mxB p v) (slL (fL p ((v : Int) + 2)) p.length) := rfl
      rw [ltT, show ((v + 1 : Nat) : Int) = (v : Int) + 1 by omega] at q4
      obtain ⟨i, hi⟩ : ∃ i, i = psI p (v + 1) := ⟨_, rfl⟩
      rw [← hi] at q1 q2 q3 q4
      have b5 := slL_r (fL p ((v : Int) + 1)) (i + 1)
      have b6 := slL_r (fL p ((v : Int) + 2)) p.length
      have e0 : ((v : Int) + 1 - 1).toNat = v := by omega
      have e1 : (inv p).getD v 0 = (i : Int) + 1 := q3
      have e2 : ((i : Int) + 1 + 1).toNat = i + 2 := by omega
      have e3 : ((i : Int) + 1 - 1).toNat = i := by omega
      have e3b : ((i : Int) + 1).toNat = i + 1 := by omega
      have e4 : slL ((fL p ((v : Int) + 1)).take (i + 2)) (((fL p ((v : Int) + 1)).take (i + 2)).length - 1) = slL (fL p ((v : Int) + 1)) (i + 1) := by
        rw [List.length_take, b2, show min (i + 2) (p.length + 2) - 1 = i + 1 by omega, slL_take (by omega)]
      have e6 : (fL p ((v : Int) + 1)).set (i + 1) true = fL p ((v : Int) + 2) := by
        have := fL_set hp (v := v + 1) q1 q2
        rw [show (((v + 1 : Nat) : Int)) = (v : Int) + 1 by omega, show (v : Int) + 1 + 1 = (v : Int) + 2 by omega] at this
        exact this
      have e7 : (fL p ((v : Int) + 2)).length = p.length + 2 := fL_len
      have e5 : slL (fL p ((v : Int) + 2)) ((fL p ((v : Int) + 2)).length - 1) = slL (fL p ((v : Int) + 2)) p.length := by
        rw [e7, show p.length + 2 - 1 = p.length + 1 by omega, slL_end]
      have b7 := fmtI_len (n := slL (fL p ((v : Int) + 1)) (i + 1)) (by omega) (by omega)
      have b8 : ((i + 2 : Nat) : Int) ≤ (fL p ((v : Int) + 1)).length := by rw [b2]; omega
      refine dEa (And.intro fL1 (And.intro @e0 (And.intro @e1 (And.intro @e2 (And.intro @e3 (And.intro @e3b (And.intro @e4 (And.intro @e6 @e5)))))))) ?_
      all_goals try (refine zlf ?_; repeat' first | exact zso | refine And.intro ?_ ?_ | (refine zim ?_; intro zb hc; repeat (have zc := zb.1; replace zb := zb.2)) | (refine zin ?_; intro zb) | intro j')
      all_goals try refine zbx ?_
      · rw [‹(fL p ((v : Int) + 1)).getD i false = false›, hc] at q4
        focus
          refine q_lp_n ((fun (v : Nat) => p.length - v) (v+1)) (dC fL1 ?_) ⟨v+1, dC fL1 ?_⟩
          all_goals try (refine zlf ?_; repeat' first | exact zso | refine And.intro ?_ ?_ | (refine zim ?_; intro zb hc; repeat (have zc := zb.1; replace zb := zb.2)) | (refine zin ?_; intro zb) | intro j')
          all_goals try refine zbx ?_
        all_goals first | (rw [q4]; rfl) | (rw [List.take_of_length_le (by rw [b2, e7]; omega), e5, q5]; done) | (rw [fL_len, fL_len]; done) | skip
      · rw [‹(fL p ((v : Int) + 1)).getD i false = false›, hc] at q4
        focus
          refine q_lp_n ((fun (v : Nat) => p.length - v) (v+1)) (dC fL1 ?_) ⟨v+1, dC fL1 ?_⟩
          all_goals try (refine zlf ?_; repeat' first | exact zso | refine And.intro ?_ ?_ | (refine zim ?_; intro zb hc; repeat (have zc := zb.1; replace zb := zb.2)) | (refine zin ?_; intro zb) | intro j')
          all_goals try refine zbx ?_
        all_goals first | (rw [q4]; rfl) | (rw [List.take_of_length_le (by rw [b2, e7]; omega), e5, q5]; done) | (rw [fL_len, fL_len]; done) | skip
      · rw [‹(fL p ((v : Int) + 1)).getD i false = true›, hc] at q4
        focus
          refine q_lp_n ((fun (v : Nat) => p.length - v) (v+1)) (dC fL1 ?_) ⟨v+1, dC fL1 ?_⟩
          all_goals try (refine zlf ?_; repeat' first | exact zso | refine And.intro ?_ ?_ | (refine zim ?_; intro zb hc; repeat (have zc := zb.1; replace zb := zb.2)) | (refine zin ?_; intro zb) | intro j')
          all_goals try refine zbx ?_
        all_goals first | (rw [q4]; rfl) | (rw [List.take_of_length_le (by rw [b2, e7]; omega), e5, q5]; done) | (rw [fL_len, fL_len]; done) | skip
      · rw [‹(fL p ((v : Int) + 1)).getD i false = true›, hc] at q4
        focus
          refine q_lp_n ((fun (v : Nat) => p.length - v) (v+1)) (dC fL1 ?_) ⟨v+1, dC fL1 ?_⟩
          all_goals try (refine zlf ?_; repeat' first | exact zso | refine And.intro ?_ ?_ | (refine zim ?_; intro zb hc; repeat (have zc := zb.1; replace zb := zb.2)) | (refine zin ?_; intro zb) | intro j')
          all_goals try refine zbx ?_
        all_goals first | (rw [q4]; rfl) | (rw [List.take_of_length_le (by rw [b2, e7]; omega), e5, q5]; done) | (rw [fL_len, fL_len]; done) | skip
    · skip
      refine dEa fL1 ?_
      all_goals try (refine zlf ?_; repeat' first | exact zso | refine And.intro ?_ ?_ | (refine zim ?_; intro zb hc; repeat (have zc := zb.1; replace zb := zb.2)) | (refine zin ?_; intro zb) | intro j')
      all_goals try refine zbx ?_
      all_goals ((obtain rfl : v = p.length := (by omega)); rfl)
    · exact (max1 (by omega)).symm
    · rw [fL_len]; omega
    · rw [show ((p.length : Int) + 2).toNat = p.length + 2 by omega]; exact fL_1 hp
end Go.Gl
