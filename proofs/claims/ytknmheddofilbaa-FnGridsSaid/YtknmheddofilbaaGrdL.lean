/-
  Grids: what is found fits, what is below too; lists compared. Conditions: none.
-/
import Derived.Test.YtknmheddofilbaaGrdM
import Derived.Test.YtknmheddofilbaaGCnt
import Derived.Test.YtknmheddofilbaaSame
import Derived.Test.YtknmheddofilbaaSym
set_option linter.unusedSimpArgs false
set_option linter.unusedVariables false
set_option maxRecDepth 20000
set_option linter.unusedSectionVars false
namespace Go.Gl
open Go Go.Proofs
variable [Amb]
theorem spec_InversePerm_c {m0 : Bool} (p : List Int) (hl : p.length ≤ 1048576) : Fun Try.prog 27 [(.sl (.lent m0) (List.map (PV.int .i64) (p)))] [(.sl .own (List.map (PV.int .i64) ((if isPermB p then inv p else [])))), (.bool (isPermB p))] := by
  by_cases hp : isPermB p = true
  · obtain ⟨h8, hq⟩ := isP_8 hp
    rw [if_pos hp, hp]
    refine fO sg0 [2, 3] Try.func27 ?_
    have cE1 := @spec_IsPerm_c; have cE2 := @spec_l2Inverse_c
    refine dEa @hp ?_
    all_goals try (refine zlf ?_; repeat' first | exact zso | refine And.intro ?_ ?_ | (refine zim ?_; intro zb hc) | (refine zin ?_; intro zb) | intro j')
    all_goals try refine zbx ?_
  · rw [if_neg hp]
    rw [Bool.not_eq_true] at hp
    rw [hp]
    refine fO sg0 [2, 3] Try.func27 ?_
    have cE1 := @spec_IsPerm_c; have cE2 := @spec_l2Inverse_c
    refine dEa @hp ?_
    all_goals try (refine zlf ?_; repeat' first | exact zso | refine And.intro ?_ ?_ | (refine zim ?_; intro zb hc) | (refine zin ?_; intro zb) | intro j')
    all_goals try refine zbx ?_
theorem mem_gdI {l : List Int} {x : Int} (h : x ∈ l) : ∃ i, i < l.length ∧ l.getD i 0 = x := by
  obtain ⟨i, hi, e⟩ := List.getElem_of_mem h
  exact ⟨i, hi, by rw [List.getD_eq_getElem?_getD, List.getElem?_eq_getElem hi]; exact e⟩
theorem inv_perm {p : List Int} (hp : permB p = true) : permB (inv p) = true := by
  have hl : (inv p).length = p.length := inv_len
  have at' : ∀ k, k < p.length → ∃ i, i < p.length ∧ (p.getD i 0 - 1).toNat = k ∧ (inv p).getD k 0 = (i : Int) + 1 := fun k hk => by
    obtain ⟨i, hi, e⟩ := at_val hp hk
    exact ⟨i, hi, e, by rw [← e]; exact inv_at hp hi⟩
  rw [permB_iff, hl]
  constructor
  · intro v hv
    obtain ⟨k, hk, rfl⟩ := mem_gdI hv
    obtain ⟨i, hi, _, e⟩ := at' k (by omega)
    omega
  · refine List.nodup_iff_pairwise_ne.2 ?_
    rw [List.pairwise_iff_getElem]
    intro i j hi hj hij e
    have e' : (inv p).getD i 0 = (inv p).getD j 0 := by rw [List.getD_eq_getElem?_getD, List.getD_eq_getElem?_getD, List.getElem?_eq_getElem hi, List.getElem?_eq_getElem hj]; simpa using e
    obtain ⟨a, ha, a1, a2⟩ := at' i (by omega)
    obtain ⟨c, hc, c1, c2⟩ := at' j (by omega)
    have : a = c := by omega
    subst this; omega
theorem grid_turn {m : List (List Int)} (hm : gridB m = true) : gridB (tgL m) = true := by
  obtain ⟨g1, g2, g3, g4, g5⟩ := grid_facts hm
  have e1 : (tgL m).length = tgN m := tg_len hm
  have row : ∀ i, i < tgN m → (tgL m).getD i [] = tgR m (tgN m - 1 - i) := fun i hi => by
    rw [tgL, if_pos hm, List.getD_eq_getElem?_getD, List.getElem?_map, List.getElem?_range hi]; rfl
  have hall : m.all (rowB (m.getD 0 []).length) = true := by
    simp only [gridB, Bool.and_eq_true] at hm; exact hm.2
  rw [List.all_eq_true] at hall
  have ent : ∀ a b, a < tgN m → b < m.length → -1 ≤ tgC m a b ∧ tgC m a b ≤ 1 := fun a b ha hb => by
    have h1 := hall _ (getD_mem (d := []) (show m.length - 1 - b < m.length by omega))
    simp only [rowB, Bool.and_eq_true, List.all_eq_true] at h1
    have h2 := h1.2 _ (getD_mem (d := 0) (show a < (m.getD (m.length - 1 - b) []).length by rw [g5 _ (by omega)]; exact ha))
    simp only [decide_eq_true_eq] at h2
    exact h2
  have r0 : ((tgL m).getD 0 []).length = m.length := by rw [row 0 (by omega)]; simp [tgR]
  simp only [gridB, Bool.and_eq_true, decide_eq_true_eq, List.all_eq_true]
  refine ⟨⟨by omega, by omega⟩, fun l hl => ?_⟩
  rw [tgL, if_pos hm] at hl
  obtain ⟨i, hi, rfl⟩ := List.mem_map.1 hl
  rw [List.mem_range] at hi
  simp only [rowB, Bool.and_eq_true, decide_eq_true_eq, List.all_eq_true, r0]
  refine ⟨⟨⟨by simp [tgR], by simp [tgR]; omega⟩, by simp [tgR]; omega⟩, fun x hx => ?_⟩
  simp only [tgR, List.mem_map, List.mem_range] at hx
  obtain ⟨b, hb, rfl⟩ := hx
  exact ent _ b (by omega) hb
theorem laws_sameLists_c {e0 m0 e1 m1 : Bool} (X Y : List (List Int)) (ha : X.length ≤ 1048576) (hb : Y.length ≤ 1048576) (h1 : ∀ l ∈ X, l.length ≤ 1048576) (h2 : ∀ l ∈ Y, l.length ≤ 1048576) : Fun Try.prog 22 [(.sl (.lent m0) (List.map (elI e0) (X))), (.sl (.lent m1) (List.map (elI e1) (Y)))] [(.bool (decide (X = Y)))] := by
  refine fO sg0 [4] Try.func22 ?_
  have cE1 := @laws_sameInts_c; have cD1 := zdh [false, false, false, false, false, false, false, false, true, false] []
  refine dE trivial ?_
  all_goals try (refine zlf ?_; repeat' first | exact zso | refine And.intro ?_ ?_ | (refine zim ?_; intro zb hc) | (refine zin ?_; intro zb) | intro j')
  all_goals try refine zbx ?_
  · rw [decide_eq_false]; intro e; subst e; exact hc rfl
  refine v_loopB (fun ms1 S1 => ∃ (k : Nat), S1.e 0 = .p (.sl (.lent m0) (List.map (elI e0) (X))) ∧ S1.e 1 = .p (.sl (.lent m1) (List.map (elI e1) (Y))) ∧ S1.e 5 = .p (.int .i64 (k)) ∧ (k ≤ X.length) ∧ (X.take k = Y.take k) ∧ ms1 = X.length - k) ((fun (k : Nat) => X.length - k) (0)) ?_ ⟨0, dC trivial ?_⟩
  all_goals try (refine zlf ?_; repeat' first | exact zso | refine And.intro ?_ ?_ | (refine zim ?_; intro zb hc) | (refine zin ?_; intro zb) | intro j')
  all_goals try refine zbx ?_
  rintro ms1 S1 ⟨k, h1_0, h1_1, h1_5, c1_0, c1_1, hm1⟩
  have fL1 := (And.intro h1_0 (And.intro h1_1 h1_5))
  have q1 : k < X.length → (X.getD k []).length ≤ 1048576 := fun h => h1 _ (getD_mem h)
  have q2 : k < Y.length → (Y.getD k []).length ≤ 1048576 := fun h => h2 _ (getD_mem h)
  by_cases hk : k < X.length
  · by_cases he : X.getD k [] = Y.getD k []
    · have f0 : decide (X.getD k [] = Y.getD k []) = true := decide_eq_true he
      refine dEa (And.intro fL1 @f0) ?_
      all_goals try (refine zlf ?_; repeat' first | exact zso | refine And.intro ?_ ?_ | (refine zim ?_; intro zb hc) | (refine zin ?_; intro zb) | intro j')
      all_goals try refine zbx ?_
      focus
        refine q_lp_n ((fun (k : Nat) => X.length - k) (k+1)) (dC fL1 ?_) ⟨k+1, dC fL1 ?_⟩
        all_goals try (refine zlf ?_; repeat' first | exact zso | refine And.intro ?_ ?_ | (refine zim ?_; intro zb hc) | (refine zin ?_; intro zb) | intro j')
        all_goals try refine zbx ?_
      all_goals (rw [take_getD (d := []) hk, take_getD (d := []) (by omega), c1_1, he])
    · have f0 : decide (X.getD k [] = Y.getD k []) = false := decide_eq_false he
      refine dEa (And.intro fL1 @f0) ?_
      all_goals try (refine zlf ?_; repeat' first | exact zso | refine And.intro ?_ ?_ | (refine zim ?_; intro zb hc) | (refine zin ?_; intro zb) | intro j')
      all_goals try refine zbx ?_
      all_goals (exact (decide_eq_false (fun e => he (by rw [e]))).symm)
  · refine dEa fL1 ?_
    all_goals try (refine zlf ?_; repeat' first | exact zso | refine And.intro ?_ ?_ | (refine zim ?_; intro zb hc) | (refine zin ?_; intro zb) | intro j')
    all_goals try refine zbx ?_
    all_goals (rw [List.take_of_length_le (by omega), List.take_of_length_le (by omega)] at c1_1; exact (decide_eq_true c1_1).symm)
theorem wo_perm {p : List Int} (hp : isPermB p = true) {j : Nat} (hj : j < p.length) : isPermB (woL p j) = true := by
  obtain ⟨h8, hq⟩ := isP_8 hp
  have h1 := woL_len hj
  simp only [isPermB, woL_perm hq, Bool.and_true, decide_eq_true_eq]; omega
theorem low_fit {p : List Int} {m : List (List Int)} (h : (fndB p m).2 = true) {l : List Int} (hl : l ∈ lowL p) : (fndB l m).2 = true := by
  have h' := h
  unfold fndB at h'
  split at h'
  · rename_i hb
    simp only [Bool.and_eq_true] at hb
    obtain ⟨j, hj, rfl⟩ := low_mem hl
    rw [fndB, wo_perm hb.1 hj, hb.2]
    exact fnd_low hb.1 hj h'
  · cases h'
theorem fit_found {p : List Int} {m : List (List Int)} (h : (fndB p m).2 = true) : isPermB p = true ∧ gridB m = true ∧ fitsB p m (fndB p m).1.1 (fndB p m).1.2 = true := by
  have h' := h
  unfold fndB at h'
  split at h'
  · rename_i hb
    simp only [Bool.and_eq_true] at hb
    obtain ⟨h8, hq⟩ := isP_8 hb.1
    refine ⟨hb.1, hb.2, ?_⟩
    have e : fndB p m = fndG p m := by rw [fndB, hb.1, hb.2]; rfl
    rw [e]
    obtain ⟨g1, g2, g3, g4, g5⟩ := grid_facts hb.2
    cases ef : fCol p m (allC p.length (m.length - 1)) (allC p.length ((m.getD 0 []).length - 1)) with
    | none => rw [fndG_none ef] at h'; cases h'
    | some x =>
      obtain ⟨c, r⟩ := x
      rw [fndG_some ef]
      obtain ⟨h1, h2, h3⟩ := fCol_mem ef
      obtain ⟨a1, a2⟩ := allC_gd h8 c h1
      obtain ⟨a3, a4⟩ := allC_gd h8 r h2
      have b1 := allC_le c h1
      have b2 := allC_le r h2
      have gn : tgN m = (m.getD 0 []).length := rfl
      have cut : ∀ {q : List Int} {n : Int}, srtB q = true → (q.length : Int) = n → (∀ x ∈ q, 0 ≤ x ∧ x ≤ (p.length : Int)) → cutB q n p.length = true := fun {q n} s l b => by
        simp only [cutB, Bool.and_eq_true, decide_eq_true_eq, List.all_eq_true]
        exact ⟨⟨l, s⟩, b⟩
      simp only [fitsB, Bool.and_eq_true]
      exact ⟨⟨⟨⟨hb.1, hb.2⟩, cut a1.1 (by omega) b1⟩, cut a3.1 (by omega) b2⟩, h3⟩
  · cases h'
theorem turn_same {p : List Int} {m : List (List Int)} (hp : isPermB p = true) (hm : gridB m = true) : (fndB (inv p) (tgL m)).2 = (fndB p m).2 := by
  obtain ⟨h8, hq⟩ := isP_8 hp
  have hi := inv_perm hq
  have hl : (inv p).length = p.length := inv_len
  have h1 : isPermB (inv p) = true := by simp only [isPermB, hi, Bool.and_true, decide_eq_true_eq]; omega
  have e1 : fndB p m = fndG p m := by rw [fndB, hp, hm]; rfl
  have e2 : fndB (inv p) (tgL m) = fndG (inv p) (tgL m) := by rw [fndB, h1, grid_turn hm]; rfl
  rw [e1, e2]; exact fnd_turn hp hi hm
end Go.Gl
