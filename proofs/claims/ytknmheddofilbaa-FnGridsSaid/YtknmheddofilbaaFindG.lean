/-
  The first cuts with which a permutation fits a grid. Conditions: none.
-/
import Derived.Test.YtknmheddofilbaaCuts
set_option linter.unusedSimpArgs false
set_option linter.unusedVariables false
set_option maxRecDepth 20000
set_option linter.unusedSectionVars false
namespace Go.Gl
open Go Go.Proofs
variable [Amb]
noncomputable def fRow (p : List Int) (m : List (List Int)) (c : List Int) : List (List Int) → Option (List Int)
  | [] => none
  | r :: R => if gfB p m c r = true then some r else fRow p m c R
noncomputable def fCol (p : List Int) (m : List (List Int)) (R : List (List Int)) : List (List Int) → Option (List Int × List Int)
  | [] => none
  | c :: C => match fRow p m c R with
    | some r => some (c, r)
    | none => fCol p m R C
noncomputable def fndG (p : List Int) (m : List (List Int)) : (List Int × List Int) × Bool :=
  match fCol p m (allC p.length (m.length - 1)) (allC p.length ((m.getD 0 []).length - 1)) with
  | some x => (x, true)
  | none => (([], []), false)
theorem fRow_mem {p : List Int} {m : List (List Int)} {c r : List Int} : ∀ {R : List (List Int)}, fRow p m c R = some r → r ∈ R ∧ gfB p m c r = true
  | [], h => by cases h
  | x :: R, h => by
    rw [fRow] at h
    split at h
    · rename_i hx; cases h; exact ⟨by simp, hx⟩
    · have := fRow_mem h; exact ⟨List.mem_cons_of_mem _ this.1, this.2⟩
theorem fCol_mem {p : List Int} {m : List (List Int)} {R : List (List Int)} {c r : List Int} : ∀ {C : List (List Int)}, fCol p m R C = some (c, r) → c ∈ C ∧ r ∈ R ∧ gfB p m c r = true
  | [], h => by cases h
  | x :: C, h => by
    rw [fCol] at h
    split at h
    · rename_i hx; cases h; have := fRow_mem hx; exact ⟨by simp, this.1, this.2⟩
    · have := fCol_mem h; exact ⟨List.mem_cons_of_mem _ this.1, this.2⟩
theorem fndG_some {p : List Int} {m : List (List Int)} {x : List Int × List Int} (h : fCol p m (allC p.length (m.length - 1)) (allC p.length ((m.getD 0 []).length - 1)) = some x) : fndG p m = (x, true) := by rw [fndG, h]
theorem fndG_none {p : List Int} {m : List (List Int)} (h : fCol p m (allC p.length (m.length - 1)) (allC p.length ((m.getD 0 []).length - 1)) = none) : fndG p m = (([], []), false) := by rw [fndG, h]
theorem impl_findGrid_c {m0 e1 m1 : Bool} (p : List Int) (m : List (List Int)) (hp : isPermB p = true) (hm : gridB m = true) : Fun Try.prog 83 [(.sl (.lent m0) (List.map (PV.int .i64) (p))), (.sl (.lent m1) (List.map (elI e1) (m)))] [(.sl .own (List.map (PV.int .i64) ((fndG p m).1.1))), (.sl .own (List.map (PV.int .i64) ((fndG p m).1.2))), (.bool ((fndG p m).2))] := by
  refine fO sg0 [4, 5, 6] Try.func83 ?_
  have cE1 := @impl_allCuts_c; have cE2 := @impl_fitsGrid_c
  have hl := (isPerm_facts hp).1
  obtain ⟨g1, g2, g3, g4, g5⟩ := grid_rows hm
  have a1 := allC_gd (n := p.length) (k := (m.getD 0 []).length - 1) hl
  have a2 := allC_len (n := p.length) (k := (m.getD 0 []).length - 1) hl (by omega)
  have a3 := allC_gd (n := p.length) (k := m.length - 1) hl
  have a4 := allC_len (n := p.length) (k := m.length - 1) hl (by omega)
  have a5 := fun x => fndG_some (p := p) (m := m) (x := x)
  have a6 := fndG_none (p := p) (m := m)
  have a7 := impl_allCuts_c ((m.getD 0 []).length - 1) p.length (by omega) hl
  have a8 := impl_allCuts_c (m.length - 1) p.length (by omega) hl
  rw [show (((m.getD 0 []).length - 1 : Nat) : Int) = ((m.getD 0 []).length : Int) - 1 by omega] at a7
  rw [show ((m.length - 1 : Nat) : Int) = (m.length : Int) - 1 by omega] at a8
  revert a1 a2 a3 a4 a5 a6 a7 a8
  generalize allC p.length ((m.getD 0 []).length - 1) = C
  generalize allC p.length (m.length - 1) = R
  intro a1 a2 a3 a4 a5 a6 a7 a8
  have cE1 := @a7; have cE2 := @a8; have cE3 := @impl_allCuts_c; have cE4 := @impl_fitsGrid_c
  refine dEa trivial ?_
  all_goals try (refine zlf ?_; repeat' first | exact zso | refine And.intro ?_ ?_ | (refine zim ?_; intro zb hc) | (refine zin ?_; intro zb) | intro j')
  all_goals try refine zbx ?_
  refine v_loopB (fun ms1 S1 => ∃ (k : Nat), S1.e 0 = .p (.sl (.lent m0) (List.map (PV.int .i64) (p))) ∧ S1.e 1 = .p (.sl (.lent m1) (List.map (elI e1) (m))) ∧ DwnL (S1.e 18) S1.h S1.n (PV.int .i64) ((C).length) (C) ∧ S1.e 19 = .p (.int .i64 (C.length)) ∧ S1.e 20 = .p (.int .i64 (k)) ∧ (k ≤ C.length) ∧ (fCol p m R C = fCol p m R (C.drop k)) ∧ ms1 = C.length - k) ((fun (k : Nat) => C.length - k) (0)) ?_ ⟨0, dIa trivial ?_⟩
  all_goals try (refine zlf ?_; repeat' first | exact zso | refine And.intro ?_ ?_ | (refine zim ?_; intro zb hc) | (refine zin ?_; intro zb) | intro j')
  all_goals try refine zbx ?_
  rintro ms1 S1 ⟨k, h1_0, h1_1, o1_18, h1_19, h1_20, c1_0, c1_1, hm1⟩
  obtain ⟨i1_18, h1_18, b1_18, l1_18⟩ := o1_18.out
  have ni1_18 := znds (x := i1_18) (n := S1.n)
  have fL1 := (And.intro h1_0 (And.intro h1_1 (And.intro h1_19 (And.intro h1_20 (And.intro h1_18 (And.intro b1_18 ni1_18))))))
  have cE1 := @a7; have cE2 := @a8
  refine dEa fL1 ?_
  all_goals try (refine zlf ?_; repeat' first | exact zso | refine And.intro ?_ ?_ | (refine zim ?_; intro zb hc) | (refine zin ?_; intro zb) | intro j')
  all_goals try refine zbx ?_
  · refine v_loopB (fun ms2 S2 => ∃ (j : Nat), S2.e 0 = .p (.sl (.lent m0) (List.map (PV.int .i64) (p))) ∧ S2.e 1 = .p (.sl (.lent m1) (List.map (elI e1) (m))) ∧ DwnL (S2.e 18) S2.h S2.n (PV.int .i64) ((C).length) (C) ∧ S2.e 19 = .p (.int .i64 (C.length)) ∧ S2.e 20 = .p (.int .i64 (k)) ∧ InnL (S2.e 8) (S2.e 18) (k) ((C.getD k []).length) ∧ DwnL (S2.e 29) S2.h S2.n (PV.int .i64) ((R).length) (R) ∧ S2.e 30 = .p (.int .i64 (R.length)) ∧ S2.e 31 = .p (.int .i64 (j)) ∧ (j ≤ R.length) ∧ (k < C.length) ∧ (fRow p m (C.getD k []) R = fRow p m (C.getD k []) (R.drop j)) ∧ NId (S2.e 29) (S2.e 18) ∧ S1.n ≤ S2.n ∧ ms2 = R.length - j) ((fun (j : Nat) => R.length - j) (0)) ?_ ⟨0, dC fL1 ?_⟩
    all_goals try (refine zlf ?_; repeat' first | exact zso | refine And.intro ?_ ?_ | (refine zim ?_; intro zb hc) | (refine zin ?_; intro zb) | intro j')
    all_goals try refine zbx ?_
    rintro ms2 S2 ⟨j, h2_0, h2_1, o2_18, h2_19, h2_20, o2_8, o2_29, h2_30, h2_31, c2_0, c2_1, c2_2, u2_0, u2_1, hm2⟩
    obtain ⟨i2_18, h2_18, b2_18, l2_18⟩ := o2_18.out
    obtain ⟨i2_29, h2_29, b2_29, l2_29⟩ := o2_29.out
    have h2_8 := (o2_8).out h2_18
    have k2_0 := (u2_0).out h2_29 h2_18
    have ni2_18 := znds (x := i2_18) (n := S2.n)
    have ni2_29 := znds (x := i2_29) (n := S2.n)
    have di2_18i2_29 := zdne (x := i2_18) (y := i2_29)
    have fL2 := (And.intro h2_8 (And.intro h2_0 (And.intro h2_1 (And.intro h2_19 (And.intro h2_20 (And.intro h2_30 (And.intro h2_31 (And.intro h2_18 (And.intro b2_18 (And.intro h2_29 (And.intro b2_29 (And.intro ni2_18 (And.intro ni2_29 di2_18i2_29)))))))))))))
    have b1 := a1 _ (getD_mem (d := []) c2_1)
    have b2 : j < R.length → gdC (R.getD j []) ∧ (R.getD j []).length = m.length - 1 := fun h => a3 _ (getD_mem h)
    by_cases hj : j < R.length
    · have b3 := b2 hj
      have b4 := b1.1.1
      have b5 := b3.1.1
      have e1 := c2_2
      rw [dropL_at hj, fRow] at e1
      have e2 := c1_1
      rw [dropL_at c2_1, fCol] at e2
      have cE1 := @impl_allCuts_c; have cE2 := @impl_fitsGrid_c; have cE3 := trivial; have cE4 := trivial
      refine dEa fL2 ?_
      all_goals try (refine zlf ?_; repeat' first | exact zso | refine And.intro ?_ ?_ | (refine zim ?_; intro zb hc) | (refine zin ?_; intro zb) | intro j')
      all_goals try refine zbx ?_
      · rw [a5 _ (by rw [e2, e1, if_pos hc])]
      · rw [a5 _ (by rw [e2, e1, if_pos hc])]
      · rw [a5 _ (by rw [e2, e1, if_pos hc])]
      · focus
          refine q_lp_n ((fun (j : Nat) => R.length - j) (j+1)) (dC fL2 ?_) ⟨j+1, dC fL2 ?_⟩
          all_goals try (refine zlf ?_; repeat' first | exact zso | refine And.intro ?_ ?_ | (refine zim ?_; intro zb hc) | (refine zin ?_; intro zb) | intro j')
          all_goals try refine zbx ?_
        rw [e1, if_neg (by rw [hc]; decide)]
    · have cE1 := @impl_allCuts_c; have cE2 := @impl_fitsGrid_c; have cE3 := trivial; have cE4 := trivial
      refine dEa fL2 ?_
      all_goals try (refine zlf ?_; repeat' first | exact zso | refine And.intro ?_ ?_ | (refine zim ?_; intro zb hc) | (refine zin ?_; intro zb) | intro j')
      all_goals try refine zbx ?_
      have e1 := c2_2
      rw [List.drop_of_length_le (by omega), fRow] at e1
      have e2 := c1_1
      rw [dropL_at c2_1, fCol, e1] at e2
      focus
        refine q_lp_n ((fun (k : Nat) => C.length - k) (k+1)) (dC fL2 ?_) ⟨k+1, dC fL2 ?_⟩
        all_goals try (refine zlf ?_; repeat' first | exact zso | refine And.intro ?_ ?_ | (refine zim ?_; intro zb hc) | (refine zin ?_; intro zb) | intro j')
        all_goals try refine zbx ?_
      all_goals exact e2
  · have e2 := c1_1
    rw [List.drop_of_length_le (by omega), fCol] at e2
    (rw [a6 e2] <;> rfl)
  · have e2 := c1_1
    rw [List.drop_of_length_le (by omega), fCol] at e2
    (rw [a6 e2] <;> rfl)
  · have e2 := c1_1
    rw [List.drop_of_length_le (by omega), fCol] at e2
    rw [a6 e2]
theorem fndG_len {p : List Int} {m : List (List Int)} (hp : isPermB p = true) (hm : gridB m = true) : (fndG p m).1.1.length ≤ 2 ∧ (fndG p m).1.2.length ≤ 2 := by
  obtain ⟨g1, g2, g3, g4, g5⟩ := grid_rows hm
  have hl := (isPerm_facts hp).1
  cases h : fCol p m (allC p.length (m.length - 1)) (allC p.length ((m.getD 0 []).length - 1)) with
  | none => rw [fndG_none h]; simp
  | some x =>
    obtain ⟨c, r⟩ := x
    have h1 := fCol_mem h
    have h2 := (allC_gd hl c h1.1).2
    have h3 := (allC_gd hl r h1.2.1).2
    rw [fndG_some h]
    exact ⟨by simp only []; omega, by simp only []; omega⟩
noncomputable def fndB (p : List Int) (m : List (List Int)) : (List Int × List Int) × Bool := if isPermB p && gridB m then fndG p m else (([], []), false)
theorem impl_FindGrid_c {m0 e1 m1 : Bool} (p : List Int) (m : List (List Int)) (hl : p.length ≤ 1048576) (hm : m.length ≤ 1048576) (hml : ∀ l ∈ m, l.length ≤ 1048576) : Fun Try.prog 11 [(.sl (.lent m0) (List.map (PV.int .i64) (p))), (.sl (.lent m1) (List.map (elI e1) (m)))] [(.sl .own (List.map (PV.int .i64) ((fndB p m).1.1))), (.sl .own (List.map (PV.int .i64) ((fndB p m).1.2))), (.bool ((fndB p m).2))] := by
  have hml' : ∀ l ∈ m, l.length ≤ 1099511627776 := fun l h => by have := hml l h; omega
  by_cases hp : isPermB p = true
  · by_cases hg : gridB m = true
    · have q1 : fndB p m = fndG p m := by rw [fndB, hp, hg]; rfl
      have q2 := fndG_len hp hg
      rw [q1]
      refine fO sg0 [4, 5, 6] Try.func11 ?_
      have cE1 := @impl_IsPerm_c; have cE2 := @impl_IsGrid_c; have cE3 := @impl_findGrid_c; have cE4 := @slices_Clone_c
      refine dEa (And.intro @hp @hg) ?_
      all_goals try (refine zlf ?_; repeat' first | exact zso | refine And.intro ?_ ?_ | (refine zim ?_; intro zb hc) | (refine zin ?_; intro zb) | intro j')
      all_goals try refine zbx ?_
    · have hg' : gridB m = false := by simpa using hg
      have q1 : fndB p m = (([], []), false) := by rw [fndB, hp, hg']; rfl
      rw [q1]
      refine fO sg0 [4, 5, 6] Try.func11 ?_
      have cE1 := @impl_IsPerm_c; have cE2 := @impl_IsGrid_c; have cE3 := @impl_findGrid_c; have cE4 := @slices_Clone_c
      refine dEa (And.intro @hp @hg') ?_
      all_goals try (refine zlf ?_; repeat' first | exact zso | refine And.intro ?_ ?_ | (refine zim ?_; intro zb hc) | (refine zin ?_; intro zb) | intro j')
      all_goals try refine zbx ?_
  · have hp' : isPermB p = false := by simpa using hp
    have q1 : fndB p m = (([], []), false) := by rw [fndB, hp']; rfl
    rw [q1]
    refine fO sg0 [4, 5, 6] Try.func11 ?_
    have cE1 := @impl_IsPerm_c; have cE2 := @impl_IsGrid_c; have cE3 := @impl_findGrid_c; have cE4 := @slices_Clone_c
    refine dEa @hp' ?_
    all_goals try (refine zlf ?_; repeat' first | exact zso | refine And.intro ?_ ?_ | (refine zim ?_; intro zb hc) | (refine zin ?_; intro zb) | intro j')
    all_goals try refine zbx ?_
theorem spec_FindGrid_c {m0 e1 m1 : Bool} (p : List Int) (m : List (List Int)) (hl : p.length ≤ 1048576) (hm : m.length ≤ 1048576) (hml : ∀ l ∈ m, l.length ≤ 1048576) : Fun Try.prog 12 [(.sl (.lent m0) (List.map (PV.int .i64) (p))), (.sl (.lent m1) (List.map (elI e1) (m)))] [(.sl (.lent false) (List.map (PV.int .i64) ((fndB p m).1.1))), (.sl (.lent false) (List.map (PV.int .i64) ((fndB p m).1.2))), (.bool ((fndB p m).2))] := by
  have hml' : ∀ l ∈ m, l.length ≤ 1099511627776 := fun l h => by have := hml l h; omega
  by_cases hp : isPermB p = true
  · by_cases hg : gridB m = true
    · have q1 : fndB p m = fndG p m := by rw [fndB, hp, hg]; rfl
      obtain ⟨g1, g2, g3, g4, g5⟩ := grid_rows hg
      have hl := (isPerm_facts hp).1
      have a1 := allC_gd (n := p.length) (k := (m.getD 0 []).length - 1) hl
      have a2 := allC_len (n := p.length) (k := (m.getD 0 []).length - 1) hl (by omega)
      have a3 := allC_gd (n := p.length) (k := m.length - 1) hl
      have a4 := allC_len (n := p.length) (k := m.length - 1) hl (by omega)
      have a5 := fun x => fndG_some (p := p) (m := m) (x := x)
      have a6 := fndG_none (p := p) (m := m)
      have p9 : 9 ^ ((m.getD 0 []).length - 1) ≤ 9 ^ 2 := Nat.pow_le_pow_right (by omega) (by omega)
      have p8 : 9 ^ (m.length - 1) ≤ 9 ^ 2 := Nat.pow_le_pow_right (by omega) (by omega)
      have a7 := spec_l32All_c p.length (m.getD 0 []).length hl g4 ((m.getD 0 []).length - 1) [] [] gd_nil (by simp only [List.length_nil]; omega) (by simp only [List.length_nil]; omega)
      have a8 := spec_l32All_c p.length m.length hl g2 (m.length - 1) [] [] gd_nil (by simp only [List.length_nil]; omega) (by simp only [List.length_nil]; omega)
      simp only [List.map_nil, List.nil_append] at a7 a8
      rw [show lvlC p.length ((m.getD 0 []).length - 1) [[]] = allC p.length ((m.getD 0 []).length - 1) from rfl] at a7
      rw [show lvlC p.length (m.length - 1) [[]] = allC p.length (m.length - 1) from rfl] at a8
      rw [q1]
      revert a1 a2 a3 a4 a5 a6 a7 a8
      generalize allC p.length ((m.getD 0 []).length - 1) = C
      generalize allC p.length (m.length - 1) = R
      intro a1 a2 a3 a4 a5 a6 a7 a8
      refine fO sgAl [4, 5, 6] Try.func12 ?_
      have cE1 := @spec_IsPerm_c; have cE2 := @spec_IsGrid_c; have cE3 := @spec_l32Fits_c; have cD1 := zdh [false, false, false, false, false, false, false, false, false, false, true] []; have cD2 := zdh [false, false, false, false, true, false, false, false, false, true, false, false, false] [(0, 4), (1, 4), (2, 4), (3, 4), (4, 5), (4, 6), (4, 7), (4, 8), (0, 9), (1, 9), (2, 9), (3, 9)]
      have cM1 := @a7; have cM2 := @a8
      refine dEa (And.intro @hp @hg) ?_
      all_goals try (refine zlf ?_; repeat' first | exact zso | refine And.intro ?_ ?_ | (refine zim ?_; intro zb hc) | (refine zin ?_; intro zb) | intro j')
      all_goals try refine zbx ?_
      refine v_loopB (fun ms1 S1 => ∃ (k : Nat), S1.e 0 = .p (.sl (.lent m0) (List.map (PV.int .i64) (p))) ∧ S1.e 1 = .p (.sl (.lent m1) (List.map (elI e1) (m))) ∧ OwnL (S1.e 7) S1.h S1.n (elI false) ((C).length) (C) ∧ OwnL (S1.e 8) S1.h S1.n (elI false) ((R).length) (R) ∧ S1.e 9 = .p (.int .i64 (k)) ∧ (k ≤ C.length) ∧ (fCol p m R C = fCol p m R (C.drop k)) ∧ NId (S1.e 8) (S1.e 7) ∧ ms1 = C.length - k) ((fun (k : Nat) => C.length - k) (0)) ?_ ⟨0, dIa trivial ?_⟩
      all_goals try (refine zlf ?_; repeat' first | exact zso | refine And.intro ?_ ?_ | (refine zim ?_; intro zb hc) | (refine zin ?_; intro zb) | intro j')
      all_goals try refine zbx ?_
      rintro ms1 S1 ⟨k, h1_0, h1_1, o1_7, o1_8, h1_9, c1_0, c1_1, u1_0, hm1⟩
      obtain ⟨i1_7, h1_7, b1_7, l1_7⟩ := o1_7.out
      obtain ⟨i1_8, h1_8, b1_8, l1_8⟩ := o1_8.out
      have k1_0 := (u1_0).out h1_8 h1_7
      have ni1_7 := znds (x := i1_7) (n := S1.n)
      have ni1_8 := znds (x := i1_8) (n := S1.n)
      have di1_7i1_8 := zdne (x := i1_7) (y := i1_8)
      have fL1 := (And.intro h1_0 (And.intro h1_1 (And.intro h1_9 (And.intro h1_7 (And.intro b1_7 (And.intro h1_8 (And.intro b1_8 (And.intro ni1_7 (And.intro ni1_8 di1_7i1_8)))))))))
      have cM1 := trivial; have cM2 := trivial
      refine dEa fL1 ?_
      all_goals try (refine zlf ?_; repeat' first | exact zso | refine And.intro ?_ ?_ | (refine zim ?_; intro zb hc) | (refine zin ?_; intro zb) | intro j')
      all_goals try refine zbx ?_
      · refine v_loopB (fun ms2 S2 => ∃ (j : Nat), S2.e 0 = .p (.sl (.lent m0) (List.map (PV.int .i64) (p))) ∧ S2.e 1 = .p (.sl (.lent m1) (List.map (elI e1) (m))) ∧ OwnL (S2.e 7) S2.h S2.n (elI false) ((C).length) (C) ∧ OwnL (S2.e 8) S2.h S2.n (elI false) ((R).length) (R) ∧ S2.e 9 = .p (.int .i64 (k)) ∧ S2.e 10 = .p (.int .i64 (j)) ∧ (j ≤ R.length) ∧ (k < C.length) ∧ (fRow p m (C.getD k []) R = fRow p m (C.getD k []) (R.drop j)) ∧ NId (S2.e 8) (S2.e 7) ∧ S1.n ≤ S2.n ∧ ms2 = R.length - j) ((fun (j : Nat) => R.length - j) (0)) ?_ ⟨0, dC fL1 ?_⟩
        all_goals try (refine zlf ?_; repeat' first | exact zso | refine And.intro ?_ ?_ | (refine zim ?_; intro zb hc) | (refine zin ?_; intro zb) | intro j')
        all_goals try refine zbx ?_
        rintro ms2 S2 ⟨j, h2_0, h2_1, o2_7, o2_8, h2_9, h2_10, c2_0, c2_1, c2_2, u2_0, u2_1, hm2⟩
        obtain ⟨i2_7, h2_7, b2_7, l2_7⟩ := o2_7.out
        obtain ⟨i2_8, h2_8, b2_8, l2_8⟩ := o2_8.out
        have k2_0 := (u2_0).out h2_8 h2_7
        have ni2_7 := znds (x := i2_7) (n := S2.n)
        have ni2_8 := znds (x := i2_8) (n := S2.n)
        have di2_7i2_8 := zdne (x := i2_7) (y := i2_8)
        have fL2 := (And.intro h2_0 (And.intro h2_1 (And.intro h2_9 (And.intro h2_10 (And.intro h2_7 (And.intro b2_7 (And.intro h2_8 (And.intro b2_8 (And.intro ni2_7 (And.intro ni2_8 di2_7i2_8))))))))))
        have b1 := a1 _ (getD_mem (d := []) c2_1)
        have b2 : j < R.length → gdC (R.getD j []) ∧ (R.getD j []).length = m.length - 1 := fun h => a3 _ (getD_mem h)
        by_cases hj : j < R.length
        · have b3 := b2 hj
          have e1 := c2_2
          rw [dropL_at hj, fRow] at e1
          have e2 := c1_1
          rw [dropL_at c2_1, fCol] at e2
          have cM1 := trivial; have cM2 := trivial
          refine dEa fL2 ?_
          all_goals try (refine zlf ?_; repeat' first | exact zso | refine And.intro ?_ ?_ | (refine zim ?_; intro zb hc) | (refine zin ?_; intro zb) | intro j')
          all_goals try refine zbx ?_
          all_goals (try rw [a5 _ (by rw [e2, e1, if_pos hc])])
          focus
            refine q_lp_n ((fun (j : Nat) => R.length - j) (j+1)) (dC fL2 ?_) ⟨j+1, dC fL2 ?_⟩
            all_goals try (refine zlf ?_; repeat' first | exact zso | refine And.intro ?_ ?_ | (refine zim ?_; intro zb hc) | (refine zin ?_; intro zb) | intro j')
            all_goals try refine zbx ?_
          rw [e1, if_neg (by rw [hc]; decide)]
        · have cM1 := trivial; have cM2 := trivial
          refine dEa fL2 ?_
          all_goals try (refine zlf ?_; repeat' first | exact zso | refine And.intro ?_ ?_ | (refine zim ?_; intro zb hc) | (refine zin ?_; intro zb) | intro j')
          all_goals try refine zbx ?_
          have e1 := c2_2
          rw [List.drop_of_length_le (by omega), fRow] at e1
          have e2 := c1_1
          rw [dropL_at c2_1, fCol, e1] at e2
          focus
            refine q_lp_n ((fun (k : Nat) => C.length - k) (k+1)) (dC fL2 ?_) ⟨k+1, dC fL2 ?_⟩
            all_goals try (refine zlf ?_; repeat' first | exact zso | refine And.intro ?_ ?_ | (refine zim ?_; intro zb hc) | (refine zin ?_; intro zb) | intro j')
            all_goals try refine zbx ?_
          all_goals exact e2
      all_goals (have e2 := c1_1; rw [List.drop_of_length_le (by omega), fCol] at e2; rw [a6 e2] <;> rfl)
    · have hg' : gridB m = false := by simpa using hg
      have q1 : fndB p m = (([], []), false) := by rw [fndB, hp, hg']; rfl
      rw [q1]
      refine fO sg0 [4, 5, 6] Try.func12 ?_
      have cE1 := @spec_IsPerm_c; have cE2 := @spec_IsGrid_c; have cE3 := @spec_l32Fits_c; have cD1 := zdh [false, false, false, false, false, false, false, false, false, false, true] []; have cD2 := zdh [false, false, false, false, true, false, false, false, false, true, false, false, false] [(0, 4), (1, 4), (2, 4), (3, 4), (4, 5), (4, 6), (4, 7), (4, 8), (0, 9), (1, 9), (2, 9), (3, 9)]
      refine dEa (And.intro @hp @hg') ?_
      all_goals try (refine zlf ?_; repeat' first | exact zso | refine And.intro ?_ ?_ | (refine zim ?_; intro zb hc) | (refine zin ?_; intro zb) | intro j')
      all_goals try refine zbx ?_
  · have hp' : isPermB p = false := by simpa using hp
    have q1 : fndB p m = (([], []), false) := by rw [fndB, hp']; rfl
    rw [q1]
    refine fO sg0 [4, 5, 6] Try.func12 ?_
    have cE1 := @spec_IsPerm_c; have cE2 := @spec_IsGrid_c; have cE3 := @spec_l32Fits_c; have cD1 := zdh [false, false, false, false, false, false, false, false, false, false, true] []; have cD2 := zdh [false, false, false, false, true, false, false, false, false, true, false, false, false] [(0, 4), (1, 4), (2, 4), (3, 4), (4, 5), (4, 6), (4, 7), (4, 8), (0, 9), (1, 9), (2, 9), (3, 9)]
    refine dEa @hp' ?_
    all_goals try (refine zlf ?_; repeat' first | exact zso | refine And.intro ?_ ?_ | (refine zim ?_; intro zb hc) | (refine zin ?_; intro zb) | intro j')
    all_goals try refine zbx ?_
end Go.Gl
