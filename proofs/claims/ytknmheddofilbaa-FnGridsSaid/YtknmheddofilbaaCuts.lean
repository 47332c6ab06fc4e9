/-
  All lists of cuts, and the first that fit. Conditions: none.
-/
import Derived.Test.YtknmheddofilbaaFit
import Derived.Test.YtknmheddofilbaaClone
set_option linter.unusedSimpArgs false
set_option linter.unusedVariables false
set_option maxRecDepth 20000
set_option linter.unusedSectionVars false
namespace Go.Gl
open Go Go.Proofs
variable [Amb]
def lastI (p : List Int) : Int := if p.length = 0 then 0 else p.getD (p.length - 1) 0
/-- A list with a number behind it: some of those from its last one on. -/
def extC (p : List Int) (i : Nat) : List (List Int) := (List.range i).map fun t : Nat => p ++ [lastI p + (t : Int)]
theorem extC_succ {p : List Int} {i : Nat} : extC p (i + 1) = extC p i ++ [p ++ [lastI p + (i : Int)]] := by simp [extC, List.range_succ]
theorem extC_len {p : List Int} {i : Nat} : (extC p i).length = i := by simp [extC]
def cntC (n : Nat) (p : List Int) : Nat := n + 1 - (lastI p).toNat
def lvlC (n : Nat) : Nat → List (List Int) → List (List Int)
  | 0, L => L
  | k + 1, L => lvlC n k (L.flatMap fun p => extC p (cntC n p))
theorem lvlC_app {n : Nat} : ∀ {k : Nat} {A B : List (List Int)}, lvlC n k (A ++ B) = lvlC n k A ++ lvlC n k B
  | 0, _, _ => rfl
  | k + 1, A, B => by simp only [lvlC, List.flatMap_append, lvlC_app]
theorem lvlC_succ {n : Nat} : ∀ {k : Nat} {L : List (List Int)}, lvlC n (k + 1) L = (lvlC n k L).flatMap fun p => extC p (cntC n p)
  | 0, _ => rfl
  | k + 1, L => by rw [lvlC, lvlC_succ (k := k), ← lvlC]
theorem lvlC_nil {n : Nat} : ∀ {k : Nat}, lvlC n k [] = []
  | 0 => rfl
  | k + 1 => by rw [lvlC]; exact lvlC_nil
theorem flatC_len {n : Nat} : ∀ {L : List (List Int)}, (L.flatMap fun p => extC p (cntC n p)).length ≤ L.length * (n + 1)
  | [] => by simp
  | p :: L => by
    have := flatC_len (n := n) (L := L)
    have h1 : (extC p (cntC n p)).length ≤ n + 1 := by rw [extC_len, cntC]; omega
    simp only [List.flatMap_cons, List.length_append, List.length_cons, Nat.succ_mul]; omega
theorem lvlC_len {n : Nat} (hn : n ≤ 8) : ∀ {k : Nat} {L : List (List Int)}, (lvlC n k L).length ≤ L.length * 9 ^ k
  | 0, L => by simp [lvlC]
  | k + 1, L => by
    rw [lvlC, Nat.pow_succ]
    refine Nat.le_trans (lvlC_len hn) ?_
    have h1 := flatC_len (n := n) (L := L)
    have h2 : L.length * (n + 1) ≤ L.length * 9 := Nat.mul_le_mul_left _ (by omega)
    calc _ ≤ (L.length * 9) * 9 ^ k := Nat.mul_le_mul_right _ (Nat.le_trans h1 h2)
      _ = _ := by rw [Nat.mul_assoc, Nat.mul_comm 9]
/-- Right cuts. -/
def gdC (p : List Int) : Prop := srtB p = true ∧ ∀ x ∈ p, 0 ≤ x ∧ x ≤ 8
theorem lastI_b {p : List Int} (h : gdC p) : 0 ≤ lastI p ∧ lastI p ≤ 8 := by
  unfold lastI; split
  · omega
  · exact h.2 _ (getD_mem (by omega))
theorem gdC_ext {p : List Int} (h : gdC p) {x : Int} (h1 : lastI p ≤ x) (h2 : x ≤ 8) : gdC (p ++ [x]) := by
  have h0 := lastI_b h
  refine ⟨srtB_iff.2 fun i hi hi0 => ?_, fun y hy => ?_⟩
  · simp only [List.length_append, List.length_cons, List.length_nil] at hi
    by_cases e : i = p.length
    · subst e
      rw [lastI, if_neg (by omega)] at h1
      simp only [List.getD_eq_getElem?_getD] at h1 ⊢
      rw [List.getElem?_append_left (by omega), List.getElem?_concat_length]
      exact h1
    · have := srtB_iff.1 h.1 i (by omega) hi0
      simp only [List.getD_eq_getElem?_getD] at this ⊢
      rw [List.getElem?_append_left (by omega), List.getElem?_append_left (by omega)]
      exact this
  · rcases List.mem_append.1 hy with hy | hy
    · exact h.2 y hy
    · simp only [List.mem_singleton] at hy; subst hy; omega
theorem extC_gd {n : Nat} (hn : n ≤ 8) {p : List Int} (h : gdC p) : ∀ q ∈ extC p (cntC n p), gdC q ∧ q.length = p.length + 1 := fun q hq => by
  obtain ⟨t, ht, rfl⟩ := List.mem_map.1 hq
  have := List.mem_range.1 ht
  have h0 := lastI_b h
  unfold cntC at this
  exact ⟨gdC_ext h (by omega) (by omega), by simp⟩
theorem lvlC_gd {n : Nat} (hn : n ≤ 8) : ∀ {k m : Nat} {L : List (List Int)}, (∀ l ∈ L, gdC l ∧ l.length = m) → ∀ l ∈ lvlC n k L, gdC l ∧ l.length = m + k
  | 0, m, L, h, l, hl => by simpa [lvlC] using h l hl
  | k + 1, m, L, h, l, hl => by
    rw [lvlC] at hl
    have := lvlC_gd hn (k := k) (m := m + 1) (fun q hq => by
      simp only [List.mem_flatMap] at hq
      obtain ⟨p, hp, hq⟩ := hq
      have h1 := extC_gd hn (h p hp).1 q hq
      exact ⟨h1.1, by rw [h1.2, (h p hp).2]⟩) l hl
    exact ⟨this.1, by omega⟩
theorem gd_nil : gdC [] := ⟨rfl, fun x hx => by cases hx⟩
/-- All lists of k cuts. -/
def allC (n k : Nat) : List (List Int) := lvlC n k [[]]
theorem allC_gd {n k : Nat} (hn : n ≤ 8) : ∀ l ∈ allC n k, gdC l ∧ l.length = k := fun l hl => by
  have := lvlC_gd hn (k := k) (m := 0) (L := [[]]) (fun l hl => by simp at hl; subst hl; exact ⟨gd_nil, rfl⟩) l hl
  simpa using this
theorem allC_len {n k : Nat} (hn : n ≤ 8) (hk : k ≤ 2) : (allC n k).length ≤ 81 := by
  have h1 := lvlC_len hn (k := k) (L := [[]])
  have h2 : 9 ^ k ≤ 9 ^ 2 := Nat.pow_le_pow_right (by omega) hk
  simp only [allC, List.length_singleton, Nat.one_mul] at h1 ⊢; omega
def sgAC : FuncId → List Bool := fun f => if f = 4294967297 then [true, false, false] else []
theorem sgAC_eq {f : FuncId} : sgAC f = if f = 4294967297 then [true, false, false] else [] := _root_.id rfl
theorem way_sgAC : wayE sgAC = false ∧ wayN sgAC = true ∧ wayS sgAC = false ∧ wayZ sgAC = false := ⟨rfl, rfl, rfl, rfl⟩
attribute [go_sem] sgAC_eq way_sgAC
theorem impl_allCuts_c (k : Nat) (n : Nat) (hk : k ≤ 2) (hn : n ≤ 8) : Fun Try.prog 146 [(.int .i64 (k)), (.int .i64 (n))] [(.dl (List.map (List.map (PV.int .i64)) (allC n k)))] := by
  refine fO sgAC [4] Try.func146 ?_
  have cE1 := @slices_Clone_c
  refine dEa trivial ?_
  all_goals try (refine zlf ?_; repeat' first | exact zso | refine And.intro ?_ ?_ | (refine zim ?_; intro zb hc) | (refine zin ?_; intro zb) | intro j')
  all_goals try refine zbx ?_
  refine v_loopB (fun ms1 S1 => ∃ (i : Nat), S1.e 1 = .p (.int .i64 (n)) ∧ DwnL (S1.e 5) S1.h S1.n (PV.int .i64) ((lvlC n i [[]]).length) (lvlC n i [[]]) ∧ S1.e 13 = .p (.int .i64 (k)) ∧ S1.e 14 = .p (.int .i64 (i)) ∧ (i ≤ k) ∧ ms1 = k - i) ((fun (i : Nat) => k - i) (0)) ?_ ⟨0, dIa trivial ?_⟩
  all_goals try (refine zlf ?_; repeat' first | exact zso | refine And.intro ?_ ?_ | (refine zim ?_; intro zb hc) | (refine zin ?_; intro zb) | intro j')
  all_goals try refine zbx ?_
  rintro ms1 S1 ⟨i, h1_1, o1_5, h1_13, h1_14, c1_0, hm1⟩
  obtain ⟨i1_5, h1_5, b1_5, l1_5⟩ := o1_5.out
  have ni1_5 := znds (x := i1_5) (n := S1.n)
  have fL1 := (And.intro h1_1 (And.intro h1_13 (And.intro h1_14 (And.intro h1_5 (And.intro b1_5 ni1_5)))))
  have b1 : (allC n i).length ≤ 81 := allC_len hn (by omega)
  have b2 := allC_gd (k := i) hn
  unfold allC at b1 b2
  refine dEa fL1 ?_
  all_goals try (refine zlf ?_; repeat' first | exact zso | refine And.intro ?_ ?_ | (refine zim ?_; intro zb hc) | (refine zin ?_; intro zb) | intro j')
  all_goals try refine zbx ?_
  · refine v_loopB (fun ms2 S2 => ∃ (j : Nat), S2.e 1 = .p (.int .i64 (n)) ∧ DwnL (S2.e 17) S2.h S2.n (PV.int .i64) ((lvlC n i [[]]).length) (lvlC n i [[]]) ∧ DwnL (S2.e 6) S2.h S2.n (PV.int .i64) ((((lvlC n i [[]]).take j).flatMap (fun p => extC p (cntC n p))).length) (((lvlC n i [[]]).take j).flatMap (fun p => extC p (cntC n p))) ∧ S2.e 13 = .p (.int .i64 (k)) ∧ S2.e 14 = .p (.int .i64 (i)) ∧ S2.e 18 = .p (.int .i64 ((lvlC n i [[]]).length)) ∧ S2.e 19 = .p (.int .i64 (j)) ∧ (j ≤ (lvlC n i [[]]).length) ∧ (i < k) ∧ NId (S2.e 6) (S2.e 17) ∧ S1.n ≤ S2.n ∧ ms2 = (lvlC n i [[]]).length - j) ((fun (j : Nat) => (lvlC n i [[]]).length - j) (0)) ?_ ⟨0, dC fL1 ?_⟩
    all_goals try (refine zlf ?_; repeat' first | exact zso | refine And.intro ?_ ?_ | (refine zim ?_; intro zb hc) | (refine zin ?_; intro zb) | intro j')
    all_goals try refine zbx ?_
    rintro ms2 S2 ⟨j, h2_1, o2_17, o2_6, h2_13, h2_14, h2_18, h2_19, c2_0, c2_1, u2_0, u2_1, hm2⟩
    obtain ⟨i2_17, h2_17, b2_17, l2_17⟩ := o2_17.out
    obtain ⟨i2_6, h2_6, b2_6, l2_6⟩ := o2_6.out
    have k2_0 := (u2_0).out h2_6 h2_17
    have ni2_17 := znds (x := i2_17) (n := S2.n)
    have ni2_6 := znds (x := i2_6) (n := S2.n)
    have di2_17i2_6 := zdne (x := i2_17) (y := i2_6)
    have fL2 := (And.intro h2_1 (And.intro h2_13 (And.intro h2_14 (And.intro h2_18 (And.intro h2_19 (And.intro h2_17 (And.intro b2_17 (And.intro h2_6 (And.intro b2_6 (And.intro ni2_17 (And.intro ni2_6 di2_17i2_6)))))))))))
    have b3 := flatC_len (n := n) (L := (lvlC n i [[]]).take j)
    have b4 : ((lvlC n i [[]]).take j).length * (n + 1) ≤ 81 * 9 := Nat.mul_le_mul (by simp; omega) (by omega)
    have b5 : j < (lvlC n i [[]]).length → gdC ((lvlC n i [[]]).getD j []) ∧ ((lvlC n i [[]]).getD j []).length = i := fun h => b2 _ (getD_mem h)
    by_cases hj : j < (lvlC n i [[]]).length
    · obtain ⟨b6, b7⟩ := b5 hj
      have b8 := lastI_b b6
      by_cases h0 : ((lvlC n i [[]]).getD j []).length = 0
      · have e0 : lastI ((lvlC n i [[]]).getD j []) = 0 := by rw [lastI, if_pos h0]
        refine dEa fL2 ?_
        all_goals try (refine zlf ?_; repeat' first | exact zso | refine And.intro ?_ ?_ | (refine zim ?_; intro zb hc) | (refine zin ?_; intro zb) | intro j')
        all_goals try refine zbx ?_
        refine v_loopB (fun ms3 S3 => ∃ (t : Nat), S3.e 1 = .p (.int .i64 (n)) ∧ DwnL (S3.e 17) S3.h S3.n (PV.int .i64) ((lvlC n i [[]]).length) (lvlC n i [[]]) ∧ DwnL (S3.e 6) S3.h S3.n (PV.int .i64) ((((lvlC n i [[]]).take j).flatMap (fun p => extC p (cntC n p)) ++ extC ((lvlC n i [[]]).getD j []) t).length) (((lvlC n i [[]]).take j).flatMap (fun p => extC p (cntC n p)) ++ extC ((lvlC n i [[]]).getD j []) t) ∧ InnL (S3.e 8) (S3.e 17) (j) (((lvlC n i [[]]).getD j []).length) ∧ S3.e 10 = .p (.int .i64 (lastI ((lvlC n i [[]]).getD j []) + t)) ∧ S3.e 13 = .p (.int .i64 (k)) ∧ S3.e 14 = .p (.int .i64 (i)) ∧ S3.e 18 = .p (.int .i64 ((lvlC n i [[]]).length)) ∧ S3.e 19 = .p (.int .i64 (j)) ∧ (t ≤ cntC n ((lvlC n i [[]]).getD j [])) ∧ (j < (lvlC n i [[]]).length) ∧ (i < k) ∧ NId (S3.e 6) (S3.e 17) ∧ S2.n ≤ S3.n ∧ ms3 = cntC n ((lvlC n i [[]]).getD j []) - t) ((fun (t : Nat) => cntC n ((lvlC n i [[]]).getD j []) - t) (0)) ?_ ⟨0, dIa fL2 ?_⟩
        all_goals try (refine zlf ?_; repeat' first | exact zso | refine And.intro ?_ ?_ | (refine zim ?_; intro zb hc) | (refine zin ?_; intro zb) | intro j')
        all_goals try refine zbx ?_
        rintro ms3 S3 ⟨t, h3_1, o3_17, o3_6, o3_8, h3_10, h3_13, h3_14, h3_18, h3_19, c3_0, c3_1, c3_2, u3_0, u3_1, hm3⟩
        obtain ⟨i3_17, h3_17, b3_17, l3_17⟩ := o3_17.out
        obtain ⟨i3_6, h3_6, b3_6, l3_6⟩ := o3_6.out
        have h3_8 := (o3_8).out h3_17
        have k3_0 := (u3_0).out h3_6 h3_17
        have ni3_17 := znds (x := i3_17) (n := S3.n)
        have ni3_6 := znds (x := i3_6) (n := S3.n)
        have di3_17i3_6 := zdne (x := i3_17) (y := i3_6)
        have fL3 := (And.intro h3_8 (And.intro h3_1 (And.intro h3_10 (And.intro h3_13 (And.intro h3_14 (And.intro h3_18 (And.intro h3_19 (And.intro h3_17 (And.intro b3_17 (And.intro h3_6 (And.intro b3_6 (And.intro ni3_17 (And.intro ni3_6 di3_17i3_6)))))))))))))
        have b10 := extC_len (p := (lvlC n i [[]]).getD j []) (i := t)
        have b11 : cntC n ((lvlC n i [[]]).getD j []) = n + 1 - (lastI ((lvlC n i [[]]).getD j [])).toNat := rfl
        refine dEa (And.intro fL3 @tk1) ?_
        all_goals try (refine zlf ?_; repeat' first | exact zso | refine And.intro ?_ ?_ | (refine zim ?_; intro zb hc) | (refine zin ?_; intro zb) | intro j')
        all_goals try refine zbx ?_
        · focus
            refine q_lp_n ((fun (t : Nat) => cntC n ((lvlC n i [[]]).getD j []) - t) (t+1)) (dC fL3 ?_) ⟨t+1, dC fL3 ?_⟩
            all_goals try (refine zlf ?_; repeat' first | exact zso | refine And.intro ?_ ?_ | (refine zim ?_; intro zb hc) | (refine zin ?_; intro zb) | intro j')
            all_goals try refine zbx ?_
          all_goals (rw [extC_succ]; try simp only [List.append_assoc, List.length_append, Nat.add_assoc]; try rfl)
        · focus
            refine q_lp_n ((fun (j : Nat) => (lvlC n i [[]]).length - j) (j+1)) (dC fL3 ?_) ⟨j+1, dC fL3 ?_⟩
            all_goals try (refine zlf ?_; repeat' first | exact zso | refine And.intro ?_ ?_ | (refine zim ?_; intro zb hc) | (refine zin ?_; intro zb) | intro j')
            all_goals try refine zbx ?_
          all_goals (obtain rfl : t = cntC n ((lvlC n i [[]]).getD j []) := by omega)
          all_goals (rw [take_getD (d := []) (by omega), List.flatMap_append]; simp)
        all_goals (simp [extC])
      · skip
        have e0 : ((lvlC n i [[]]).getD j []).getD (((lvlC n i [[]]).getD j []).length - 1 : Int).toNat 0 = lastI ((lvlC n i [[]]).getD j []) := by rw [lastI, if_neg h0]; congr 1; omega
        refine dEa (And.intro fL2 @e0) ?_
        all_goals try (refine zlf ?_; repeat' first | exact zso | refine And.intro ?_ ?_ | (refine zim ?_; intro zb hc) | (refine zin ?_; intro zb) | intro j')
        all_goals try refine zbx ?_
        refine v_loopB (fun ms3 S3 => ∃ (t : Nat), S3.e 1 = .p (.int .i64 (n)) ∧ DwnL (S3.e 17) S3.h S3.n (PV.int .i64) ((lvlC n i [[]]).length) (lvlC n i [[]]) ∧ DwnL (S3.e 6) S3.h S3.n (PV.int .i64) ((((lvlC n i [[]]).take j).flatMap (fun p => extC p (cntC n p)) ++ extC ((lvlC n i [[]]).getD j []) t).length) (((lvlC n i [[]]).take j).flatMap (fun p => extC p (cntC n p)) ++ extC ((lvlC n i [[]]).getD j []) t) ∧ InnL (S3.e 8) (S3.e 17) (j) (((lvlC n i [[]]).getD j []).length) ∧ S3.e 10 = .p (.int .i64 (lastI ((lvlC n i [[]]).getD j []) + t)) ∧ S3.e 13 = .p (.int .i64 (k)) ∧ S3.e 14 = .p (.int .i64 (i)) ∧ S3.e 18 = .p (.int .i64 ((lvlC n i [[]]).length)) ∧ S3.e 19 = .p (.int .i64 (j)) ∧ (t ≤ cntC n ((lvlC n i [[]]).getD j [])) ∧ (j < (lvlC n i [[]]).length) ∧ (i < k) ∧ NId (S3.e 6) (S3.e 17) ∧ S2.n ≤ S3.n ∧ ms3 = cntC n ((lvlC n i [[]]).getD j []) - t) ((fun (t : Nat) => cntC n ((lvlC n i [[]]).getD j []) - t) (0)) ?_ ⟨0, dIa fL2 ?_⟩
        all_goals try (refine zlf ?_; repeat' first | exact zso | refine And.intro ?_ ?_ | (refine zim ?_; intro zb hc) | (refine zin ?_; intro zb) | intro j')
        all_goals try refine zbx ?_
        rintro ms3 S3 ⟨t, h3_1, o3_17, o3_6, o3_8, h3_10, h3_13, h3_14, h3_18, h3_19, c3_0, c3_1, c3_2, u3_0, u3_1, hm3⟩
        obtain ⟨i3_17, h3_17, b3_17, l3_17⟩ := o3_17.out
        obtain ⟨i3_6, h3_6, b3_6, l3_6⟩ := o3_6.out
        have h3_8 := (o3_8).out h3_17
        have k3_0 := (u3_0).out h3_6 h3_17
        have ni3_17 := znds (x := i3_17) (n := S3.n)
        have ni3_6 := znds (x := i3_6) (n := S3.n)
        have di3_17i3_6 := zdne (x := i3_17) (y := i3_6)
        have fL3 := (And.intro h3_8 (And.intro h3_1 (And.intro h3_10 (And.intro h3_13 (And.intro h3_14 (And.intro h3_18 (And.intro h3_19 (And.intro h3_17 (And.intro b3_17 (And.intro h3_6 (And.intro b3_6 (And.intro ni3_17 (And.intro ni3_6 di3_17i3_6)))))))))))))
        have b10 := extC_len (p := (lvlC n i [[]]).getD j []) (i := t)
        have b11 : cntC n ((lvlC n i [[]]).getD j []) = n + 1 - (lastI ((lvlC n i [[]]).getD j [])).toNat := rfl
        refine dEa (And.intro fL3 @tk1) ?_
        all_goals try (refine zlf ?_; repeat' first | exact zso | refine And.intro ?_ ?_ | (refine zim ?_; intro zb hc) | (refine zin ?_; intro zb) | intro j')
        all_goals try refine zbx ?_
        · focus
            refine q_lp_n ((fun (t : Nat) => cntC n ((lvlC n i [[]]).getD j []) - t) (t+1)) (dC fL3 ?_) ⟨t+1, dC fL3 ?_⟩
            all_goals try (refine zlf ?_; repeat' first | exact zso | refine And.intro ?_ ?_ | (refine zim ?_; intro zb hc) | (refine zin ?_; intro zb) | intro j')
            all_goals try refine zbx ?_
          all_goals (rw [extC_succ]; try simp only [List.append_assoc, List.length_append, Nat.add_assoc]; try rfl)
        · focus
            refine q_lp_n ((fun (j : Nat) => (lvlC n i [[]]).length - j) (j+1)) (dC fL3 ?_) ⟨j+1, dC fL3 ?_⟩
            all_goals try (refine zlf ?_; repeat' first | exact zso | refine And.intro ?_ ?_ | (refine zim ?_; intro zb hc) | (refine zin ?_; intro zb) | intro j')
            all_goals try refine zbx ?_
          all_goals (obtain rfl : t = cntC n ((lvlC n i [[]]).getD j []) := by omega)
          all_goals (rw [take_getD (d := []) (by omega), List.flatMap_append]; simp)
        all_goals (simp [extC])
    · skip
      refine dEa fL2 ?_
      all_goals try (refine zlf ?_; repeat' first | exact zso | refine And.intro ?_ ?_ | (refine zim ?_; intro zb hc) | (refine zin ?_; intro zb) | intro j')
      all_goals try refine zbx ?_
      focus
        refine q_lp_n ((fun (i : Nat) => k - i) (i+1)) (dC fL2 ?_) ⟨i+1, dC fL2 ?_⟩
        all_goals try (refine zlf ?_; repeat' first | exact zso | refine And.intro ?_ ?_ | (refine zim ?_; intro zb hc) | (refine zin ?_; intro zb) | intro j')
        all_goals try refine zbx ?_
      all_goals (rw [lvlC_succ, List.take_of_length_le (by omega)])
  · obtain rfl : i = k := by omega
    rfl
def sgAl : FuncId → List Bool := fun f => if f = 85 then [false, false, false, true] else if f = 8589934677 then [false, false, true] else []
theorem sgAl_eq {f : FuncId} : sgAl f = if f = 85 then [false, false, false, true] else if f = 8589934677 then [false, false, true] else [] := _root_.id rfl
theorem way_sgAl : wayE sgAl = false ∧ wayN sgAl = false ∧ wayS sgAl = false ∧ wayZ sgAl = false := ⟨rfl, rfl, rfl, rfl⟩
attribute [go_sem] sgAl_eq way_sgAl
theorem spec_l32All_c (n parts : Nat) (h8 : n ≤ 8) (h3 : parts ≤ 3) : ∀ (d : Nat) (head : List Int) (out : List (List Int)), gdC head → head.length + d + 1 = parts → out.length + 9 ^ d ≤ 1099511627776 → CallT Try.prog true 85 [.pv (.int .i64 parts), .pv (.int .i64 n), .pv (.sl (.lent false) (List.map (PV.int .i64) head)), .mu false (List.map (elI false) out)] [none, none, none, none] [.sl .own (List.map (elI false) (out ++ lvlC n d [head]))] := by
  intro d
  induction d with
  | zero =>
    intro head out hg hd ho
    refine CallT.of (sg := sgAl) (ts := [8]) mo Try.func85 rfl rfl rfl rfl (by kernel_rfl) (by simp only [go_sem]) rfl rfl ?_
    refine dTa trivial ?_
    all_goals try (refine zlf ?_; repeat' first | exact zso | refine And.intro ?_ ?_ | (refine zim ?_; intro zb hc) | (refine zin ?_; intro zb) | intro j')
    all_goals try refine zbx ?_
    all_goals (rw [List.take_of_length_le (by simp)]; rfl)
  | succ d ih =>
    intro head out hg hd ho
    have b0 := lastI_b hg
    by_cases h0 : head.length = 0
    · have e0 : lastI head = 0 := by rw [lastI, if_pos h0]
      refine CallT.of (sg := sgAl) (ts := [8]) mo Try.func85 rfl rfl rfl rfl (by kernel_rfl) (by simp only [go_sem]) rfl rfl ?_
      refine dTa trivial ?_
      all_goals try (refine zlf ?_; repeat' first | exact zso | refine And.intro ?_ ?_ | (refine zim ?_; intro zb hc) | (refine zin ?_; intro zb) | intro j')
      all_goals try refine zbx ?_
      refine v_loopB (fun ms1 S1 => ∃ (t : Nat), S1.e 0 = .p (.int .i64 (parts)) ∧ S1.e 1 = .p (.int .i64 (n)) ∧ S1.e 2 = .p (.sl (.lent false) (List.map (PV.int .i64) (head))) ∧ OwnM (S1.e 3) S1.h S1.n (elI false) ((out ++ lvlC n d (extC head t)).length) (out ++ lvlC n d (extC head t)) ∧ S1.e 10 = .p (.int .i64 (lastI head + t)) ∧ (t ≤ cntC n head) ∧ ms1 = cntC n head - t) ((fun (t : Nat) => cntC n head - t) (0)) ?_ ⟨0, dIa trivial ?_⟩
      all_goals try (refine zlf ?_; repeat' first | exact zso | refine And.intro ?_ ?_ | (refine zim ?_; intro zb hc) | (refine zin ?_; intro zb) | intro j')
      all_goals try refine zbx ?_
      rintro ms1 S1 ⟨t, h1_0, h1_1, h1_2, o1_3, h1_10, c1_0, hm1⟩
      obtain ⟨i1_3, mm1_3, h1_3, b1_3, l1_3⟩ := o1_3.out
      have ni1_3 := znds (x := i1_3) (n := S1.n)
      have fL1 := (And.intro h1_0 (And.intro h1_1 (And.intro h1_2 (And.intro h1_10 (And.intro h1_3 (And.intro b1_3 ni1_3))))))
      have b1 := lvlC_len h8 (k := d) (L := extC head t)
      have b2 := extC_len (p := head) (i := t)
      have b3 : (extC head t).length * 9 ^ d ≤ t * 9 ^ d := by rw [b2]; exact Nat.le_refl _
      have b11 : cntC n head = n + 1 - (lastI head).toNat := rfl
      have b12 : t < cntC n head → gdC (head ++ [lastI head + (t : Int)]) := fun h => gdC_ext hg (by omega) (by omega)
      have cM1 := @ih
      refine dTa (And.intro fL1 @tk1) ?_
      all_goals try (refine zlf ?_; repeat' first | exact zso | refine And.intro ?_ ?_ | (refine zim ?_; intro zb hc) | (refine zin ?_; intro zb) | intro j')
      all_goals try refine zbx ?_
      · exact b12 (by omega)
      · have b4 := Nat.mul_le_mul_right (9 ^ d) (show t + 1 ≤ 9 by omega)
        have b5 : 9 ^ (d + 1) = 9 * 9 ^ d := by rw [Nat.pow_succ, Nat.mul_comm]
        rw [Nat.succ_mul] at b4
        rw [List.length_append]; omega
      · focus
          refine q_lp_n ((fun (t : Nat) => cntC n head - t) (t+1)) (dC fL1 ?_) ⟨t+1, dC fL1 ?_⟩
          all_goals try (refine zlf ?_; repeat' first | exact zso | refine And.intro ?_ ?_ | (refine zim ?_; intro zb hc) | (refine zin ?_; intro zb) | intro j')
          all_goals try refine zbx ?_
        all_goals (rw [extC_succ, lvlC_app]; try simp only [tk1, List.length_append, List.append_assoc, Nat.add_assoc])
      · obtain rfl : t = cntC n head := by omega
        rw [lvlC, List.flatMap_cons, List.flatMap_nil, List.append_nil]
      all_goals (simp [extC, lvlC_nil])
    · have e0 : head.getD (head.length - 1 : Int).toNat 0 = lastI head := by rw [lastI, if_neg h0]; congr 1; omega
      refine CallT.of (sg := sgAl) (ts := [8]) mo Try.func85 rfl rfl rfl rfl (by kernel_rfl) (by simp only [go_sem]) rfl rfl ?_
      refine dTa @e0 ?_
      all_goals try (refine zlf ?_; repeat' first | exact zso | refine And.intro ?_ ?_ | (refine zim ?_; intro zb hc) | (refine zin ?_; intro zb) | intro j')
      all_goals try refine zbx ?_
      refine v_loopB (fun ms1 S1 => ∃ (t : Nat), S1.e 0 = .p (.int .i64 (parts)) ∧ S1.e 1 = .p (.int .i64 (n)) ∧ S1.e 2 = .p (.sl (.lent false) (List.map (PV.int .i64) (head))) ∧ OwnM (S1.e 3) S1.h S1.n (elI false) ((out ++ lvlC n d (extC head t)).length) (out ++ lvlC n d (extC head t)) ∧ S1.e 10 = .p (.int .i64 (lastI head + t)) ∧ (t ≤ cntC n head) ∧ ms1 = cntC n head - t) ((fun (t : Nat) => cntC n head - t) (0)) ?_ ⟨0, dIa trivial ?_⟩
      all_goals try (refine zlf ?_; repeat' first | exact zso | refine And.intro ?_ ?_ | (refine zim ?_; intro zb hc) | (refine zin ?_; intro zb) | intro j')
      all_goals try refine zbx ?_
      rintro ms1 S1 ⟨t, h1_0, h1_1, h1_2, o1_3, h1_10, c1_0, hm1⟩
      obtain ⟨i1_3, mm1_3, h1_3, b1_3, l1_3⟩ := o1_3.out
      have ni1_3 := znds (x := i1_3) (n := S1.n)
      have fL1 := (And.intro h1_0 (And.intro h1_1 (And.intro h1_2 (And.intro h1_10 (And.intro h1_3 (And.intro b1_3 ni1_3))))))
      have b1 := lvlC_len h8 (k := d) (L := extC head t)
      have b2 := extC_len (p := head) (i := t)
      have b3 : (extC head t).length * 9 ^ d ≤ t * 9 ^ d := by rw [b2]; exact Nat.le_refl _
      have b11 : cntC n head = n + 1 - (lastI head).toNat := rfl
      have b12 : t < cntC n head → gdC (head ++ [lastI head + (t : Int)]) := fun h => gdC_ext hg (by omega) (by omega)
      have cM1 := @ih
      refine dTa (And.intro fL1 @tk1) ?_
      all_goals try (refine zlf ?_; repeat' first | exact zso | refine And.intro ?_ ?_ | (refine zim ?_; intro zb hc) | (refine zin ?_; intro zb) | intro j')
      all_goals try refine zbx ?_
      · exact b12 (by omega)
      · have b4 := Nat.mul_le_mul_right (9 ^ d) (show t + 1 ≤ 9 by omega)
        have b5 : 9 ^ (d + 1) = 9 * 9 ^ d := by rw [Nat.pow_succ, Nat.mul_comm]
        rw [Nat.succ_mul] at b4
        rw [List.length_append]; omega
      · focus
          refine q_lp_n ((fun (t : Nat) => cntC n head - t) (t+1)) (dC fL1 ?_) ⟨t+1, dC fL1 ?_⟩
          all_goals try (refine zlf ?_; repeat' first | exact zso | refine And.intro ?_ ?_ | (refine zim ?_; intro zb hc) | (refine zin ?_; intro zb) | intro j')
          all_goals try refine zbx ?_
        all_goals (rw [extC_succ, lvlC_app]; try simp only [tk1, List.length_append, List.append_assoc, Nat.add_assoc])
      · obtain rfl : t = cntC n head := by omega
        rw [lvlC, List.flatMap_cons, List.flatMap_nil, List.append_nil]
      all_goals (simp [extC, lvlC_nil])
end Go.Gl
