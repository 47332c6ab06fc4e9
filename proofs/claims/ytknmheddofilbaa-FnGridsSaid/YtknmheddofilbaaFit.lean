/-
  Whether a permutation fits a grid with cuts. Conditions: none.
-/
import Derived.Test.YtknmheddofilbaaFitG
set_option linter.unusedSimpArgs false
set_option linter.unusedVariables false
set_option maxRecDepth 20000
set_option linter.unusedSectionVars false
namespace Go.Gl
open Go Go.Proofs
variable [Amb]
def fG (m : List (List Int)) (cs rs p : List Int) (k : Nat) : Int := (m.getD ((m.length : Int) - 1 - prtI rs (p.getD k 0)).toNat []).getD (prtI cs ((k : Int) + 1)).toNat 0
/-- In the same part of the grid. -/
def fS (cs rs p : List Int) (i k : Nat) : Prop := prtI cs ((i : Int) + 1) = prtI cs ((k : Int) + 1) ∧ prtI rs (p.getD i 0) = prtI rs (p.getD k 0)
/-- A place is right with those ahead of it. -/
def okK (p : List Int) (m : List (List Int)) (cs rs : List Int) (k : Nat) : Prop := fG m cs rs p k ≠ 0 ∧ ∀ i, i < k → fS cs rs p i k → (p.getD i 0 < p.getD k 0 ↔ fG m cs rs p k = 1)
noncomputable instance {p : List Int} {m : List (List Int)} {cs rs : List Int} {k : Nat} : Decidable (okK p m cs rs k) := Classical.propDecidable _
noncomputable def gfB (p : List Int) (m : List (List Int)) (cs rs : List Int) : Bool := decide (∀ k, k < p.length → okK p m cs rs k)
theorem gfB_t {p : List Int} {m : List (List Int)} {cs rs : List Int} (h : ∀ k, k < p.length → okK p m cs rs k) : true = gfB p m cs rs := by unfold gfB; exact (decide_eq_true h).symm
theorem gfB_f {p : List Int} {m : List (List Int)} {cs rs : List Int} {k : Nat} (hk : k < p.length) (h : ¬ okK p m cs rs k) : false = gfB p m cs rs := by unfold gfB; exact (decide_eq_false fun q => h (q k hk)).symm
theorem grid_rows {m : List (List Int)} (h : gridB m = true) : 1 ≤ m.length ∧ m.length ≤ 3 ∧ 1 ≤ (m.getD 0 []).length ∧ (m.getD 0 []).length ≤ 3 ∧ ∀ r, r < m.length → (m.getD r []).length = (m.getD 0 []).length := by
  simp only [gridB, Bool.and_eq_true, decide_eq_true_eq, List.all_eq_true] at h
  obtain ⟨⟨h1, h2⟩, h3⟩ := h
  have h4 : ∀ r, r < m.length → (m.getD r []).length = (m.getD 0 []).length ∧ 1 ≤ (m.getD r []).length ∧ (m.getD r []).length ≤ 3 := fun r hr => by
    have := h3 _ (getD_mem (d := []) hr)
    simp only [rowB, Bool.and_eq_true, decide_eq_true_eq] at this
    omega
  have h5 := h4 0 (by omega)
  exact ⟨h1, h2, h5.2.1, h5.2.2, fun r hr => (h4 r hr).1⟩
theorem spec_l32Fits_c {m0 e1 m1 m2 m3 : Bool} (p : List Int) (m : List (List Int)) (cs : List Int) (rs : List Int) (hp : isPermB p = true) (hm : gridB m = true) (h1 : (cs.length : Int) = (m.getD 0 []).length - 1) (h2 : (rs.length : Int) = m.length - 1) : Fun Try.prog 86 [(.sl (.lent m0) (List.map (PV.int .i64) (p))), (.sl (.lent m1) (List.map (elI e1) (m))), (.sl (.lent m2) (List.map (PV.int .i64) (cs))), (.sl (.lent m3) (List.map (PV.int .i64) (rs)))] [(.bool (gfB p m cs rs))] := by
  refine fO sg0 [8] Try.func86 ?_
  have cE1 := @spec_l32Part_c; have cD1 := zdh [false, false, false, true, false, false, false, false, false, false, false, false, true, false, false, false, false, false, false, false, false, false, false, false, false, false, false, false, false, false] [(3, 4), (12, 13)]
  have hl := (isPerm_facts hp).1
  have hb := perm_b8 hp
  obtain ⟨g1, g2, g3, g4, g5⟩ := grid_rows hm
  refine dEa trivial ?_
  all_goals try (refine zlf ?_; repeat' first | exact zso | refine And.intro ?_ ?_ | (refine zim ?_; intro zb hc; repeat (have zc := zb.1; replace zb := zb.2)) | (refine zin ?_; intro zb) | intro j')
  all_goals try refine zbx ?_
  refine v_loopB (fun ms1 S1 => ∃ (k : Nat), S1.e 0 = .p (.sl (.lent m0) (List.map (PV.int .i64) (p))) ∧ S1.e 1 = .p (.sl (.lent m1) (List.map (elI e1) (m))) ∧ S1.e 2 = .p (.sl (.lent m2) (List.map (PV.int .i64) (cs))) ∧ S1.e 3 = .p (.sl (.lent m3) (List.map (PV.int .i64) (rs))) ∧ S1.e 9 = .p (.int .i64 (k)) ∧ (k ≤ p.length) ∧ (∀ j, j < k → okK p m cs rs j) ∧ ms1 = p.length - k) ((fun (k : Nat) => p.length - k) (0)) ?_ ⟨0, dIa trivial ?_⟩
  all_goals try (refine zlf ?_; repeat' first | exact zso | refine And.intro ?_ ?_ | (refine zim ?_; intro zb hc; repeat (have zc := zb.1; replace zb := zb.2)) | (refine zin ?_; intro zb) | intro j')
  all_goals try refine zbx ?_
  rintro ms1 S1 ⟨k, h1_0, h1_1, h1_2, h1_3, h1_9, c1_0, c1_1, hm1⟩
  have fL1 := (And.intro h1_0 (And.intro h1_1 (And.intro h1_2 (And.intro h1_3 h1_9))))
  have b1 := prt_b (l := cs) (x := (k : Int) + 1)
  have b2 := prt_b (l := rs) (x := p.getD k 0)
  have b3 := g5 ((m.length : Int) - 1 - prtI rs (p.getD k 0)).toNat (by omega)
  have e0 : (m.getD ((m.length : Int) - 1 - prtI rs (p.getD k 0)).toNat []).getD (prtI cs ((k : Int) + 1)).toNat 0 = fG m cs rs p k := rfl
  refine dEa (And.intro fL1 @e0) ?_
  all_goals try (refine zlf ?_; repeat' first | exact zso | refine And.intro ?_ ?_ | (refine zim ?_; intro zb hc; repeat (have zc := zb.1; replace zb := zb.2)) | (refine zin ?_; intro zb) | intro j')
  all_goals try refine zbx ?_
  · exact gfB_f (k := k) (by assumption) fun h => h.1 hc
  · have c0 := hc
    have c1 : k < p.length := by assumption
    refine v_loopB (fun ms2 S2 => ∃ (i : Nat), S2.e 0 = .p (.sl (.lent m0) (List.map (PV.int .i64) (p))) ∧ S2.e 1 = .p (.sl (.lent m1) (List.map (elI e1) (m))) ∧ S2.e 2 = .p (.sl (.lent m2) (List.map (PV.int .i64) (cs))) ∧ S2.e 3 = .p (.sl (.lent m3) (List.map (PV.int .i64) (rs))) ∧ S2.e 9 = .p (.int .i64 (k)) ∧ S2.e 10 = .p (.int .i64 (prtI cs ((k : Int) + 1))) ∧ S2.e 11 = .p (.int .i64 (prtI rs (p.getD k 0))) ∧ S2.e 12 = .p (.int .i64 (fG m cs rs p k)) ∧ S2.e 13 = .p (.int .i64 (i)) ∧ (i ≤ k) ∧ (∀ j, j < i → fS cs rs p j k → (p.getD j 0 < p.getD k 0 ↔ fG m cs rs p k = 1)) ∧ S1.n ≤ S2.n ∧ ms2 = k - i) ((fun (i : Nat) => k - i) (0)) ?_ ⟨0, dIa fL1 ?_⟩
    all_goals try (refine zlf ?_; repeat' first | exact zso | refine And.intro ?_ ?_ | (refine zim ?_; intro zb hc; repeat (have zc := zb.1; replace zb := zb.2)) | (refine zin ?_; intro zb) | intro j')
    all_goals try refine zbx ?_
    rintro ms2 S2 ⟨i, h2_0, h2_1, h2_2, h2_3, h2_9, h2_10, h2_11, h2_12, h2_13, c2_0, c2_1, u2_0, hm2⟩
    have fL2 := (And.intro h2_0 (And.intro h2_1 (And.intro h2_2 (And.intro h2_3 (And.intro h2_9 (And.intro h2_10 (And.intro h2_11 (And.intro h2_12 h2_13))))))))
    refine dEa fL2 ?_
    all_goals try (refine zlf ?_; repeat' first | exact zso | refine And.intro ?_ ?_ | (refine zim ?_; intro zb hc; repeat (have zc := zb.1; replace zb := zb.2)) | (refine zin ?_; intro zb) | intro j')
    all_goals try refine zbx ?_
    · refine gfB_f (k := k) c1 fun h => ?_
      have := h.2 i (by assumption) ⟨by assumption, by assumption⟩
      rw [beq_eq_false_iff_ne] at hc
      exact hc (decide_eq_decide.2 this)
    · focus
        refine q_lp_n ((fun (i : Nat) => k - i) (i+1)) (dC fL2 ?_) ⟨i+1, dC fL2 ?_⟩
        all_goals try (refine zlf ?_; repeat' first | exact zso | refine And.intro ?_ ?_ | (refine zim ?_; intro zb hc; repeat (have zc := zb.1; replace zb := zb.2)) | (refine zin ?_; intro zb) | intro j')
        all_goals try refine zbx ?_
      intro j hj hs
      by_cases e : j = i
      · subst e; exact decide_eq_decide.1 (beq_iff_eq.1 hc)
      · exact c2_1 j (by omega) hs
    · focus
        refine q_lp_n ((fun (i : Nat) => k - i) (i+1)) (dC fL2 ?_) ⟨i+1, dC fL2 ?_⟩
        all_goals try (refine zlf ?_; repeat' first | exact zso | refine And.intro ?_ ?_ | (refine zim ?_; intro zb hc; repeat (have zc := zb.1; replace zb := zb.2)) | (refine zin ?_; intro zb) | intro j')
        all_goals try refine zbx ?_
      intro j hj hs
      by_cases e : j = i
      · subst e; exact absurd hs.2 hc
      · exact c2_1 j (by omega) hs
    · focus
        refine q_lp_n ((fun (i : Nat) => k - i) (i+1)) (dC fL2 ?_) ⟨i+1, dC fL2 ?_⟩
        all_goals try (refine zlf ?_; repeat' first | exact zso | refine And.intro ?_ ?_ | (refine zim ?_; intro zb hc; repeat (have zc := zb.1; replace zb := zb.2)) | (refine zin ?_; intro zb) | intro j')
        all_goals try refine zbx ?_
      intro j hj hs
      by_cases e : j = i
      · subst e; exact absurd hs.1 hc
      · exact c2_1 j (by omega) hs
    · focus
        refine q_lp_n ((fun (k : Nat) => p.length - k) (k+1)) (dC fL2 ?_) ⟨k+1, dC fL2 ?_⟩
        all_goals try (refine zlf ?_; repeat' first | exact zso | refine And.intro ?_ ?_ | (refine zim ?_; intro zb hc; repeat (have zc := zb.1; replace zb := zb.2)) | (refine zin ?_; intro zb) | intro j')
        all_goals try refine zbx ?_
      intro j hj
      by_cases e : j = k
      · subst e; exact ⟨c0, fun i hi hs => c2_1 i (by omega) hs⟩
      · exact c1_1 j (by omega)
  · exact gfB_t fun j hj => c1_1 j (by omega)
/-- The last number in a part, of those ahead of a place. -/
def lstV (m : List (List Int)) (cs rs p : List Int) : Nat → Int → Int → Option Int
  | 0, _, _ => none
  | k + 1, a, b => if prtI cs ((k : Int) + 1) = a ∧ (m.length : Int) - 1 - prtI rs (p.getD k 0) = b then some (p.getD k 0) else lstV m cs rs p k a b
theorem lstV_none {m : List (List Int)} {cs rs p : List Int} {k' : Nat} : ∀ {k : Nat}, lstV m cs rs p k (prtI cs ((k' : Int) + 1)) ((m.length : Int) - 1 - prtI rs (p.getD k' 0)) = none → ∀ i, i < k → ¬ fS cs rs p i k'
  | 0, _, i, hi => absurd hi (Nat.not_lt_zero i)
  | k + 1, h, i, hi => by
    rw [lstV] at h
    split at h
    · cases h
    · rename_i hne
      by_cases e : i = k
      · subst e; exact fun hs => hne ⟨hs.1, by rw [hs.2]⟩
      · exact lstV_none h i (by omega)
theorem lstV_some {m : List (List Int)} {cs rs p : List Int} {k' : Nat} {v : Int} : ∀ {k : Nat}, lstV m cs rs p k (prtI cs ((k' : Int) + 1)) ((m.length : Int) - 1 - prtI rs (p.getD k' 0)) = some v → ∃ i, i < k ∧ fS cs rs p i k' ∧ v = p.getD i 0 ∧ ∀ j, i < j → j < k → ¬ fS cs rs p j k'
  | 0, h => by cases h
  | k + 1, h => by
    rw [lstV] at h
    split at h
    · rename_i he
      cases h
      exact ⟨k, by omega, ⟨he.1, by have := he.2; omega⟩, rfl, fun j h1 h2 => by omega⟩
    · rename_i hne
      obtain ⟨i, h1, h2, h3, h4⟩ := lstV_some h
      refine ⟨i, by omega, h2, h3, fun j h5 h6 => ?_⟩
      by_cases e : j = k
      · subst e; exact fun hs => hne ⟨hs.1, by rw [hs.2]⟩
      · exact h4 j h5 (by omega)
/-- It suffices to look at the last number of the part. -/
theorem okK_last {p : List Int} {m : List (List Int)} {cs rs : List Int} {k i : Nat} (hk : ∀ j, j < k → okK p m cs rs j) (hi : i < k) (hs : fS cs rs p i k) (hn : ∀ j, i < j → j < k → ¬ fS cs rs p j k) (h0 : fG m cs rs p k ≠ 0) (h : p.getD i 0 < p.getD k 0 ↔ fG m cs rs p k = 1) : okK p m cs rs k := by
  refine ⟨h0, fun j hj hs' => ?_⟩
  rcases Nat.lt_trichotomy j i with h1 | h1 | h1
  · have h2 := (hk i hi).2 j h1 ⟨hs'.1.trans hs.1.symm, hs'.2.trans hs.2.symm⟩
    have h3 : fG m cs rs p i = fG m cs rs p k := by simp only [fG, hs.1, hs.2]
    rw [h3] at h2
    constructor
    · intro h4
      by_cases h5 : fG m cs rs p k = 1
      · exact h5
      · have h6 : ¬ p.getD j 0 < p.getD i 0 := fun q => h5 (h2.1 q)
        have h7 : ¬ p.getD i 0 < p.getD k 0 := fun q => h5 (h.1 q)
        omega
    · intro h4
      have := h2.2 h4
      have := h.2 h4
      omega
  · subst h1; exact h
  · exact absurd hs' (hn j h1 hj)
theorem lst_put {m : List (List Int)} {cs rs p : List Int} {k : Nat} {es : List (PV × PV)} (h : ∀ a b, mget es (.agg [.int .i64 a, .int .i64 b]) = (lstV m cs rs p k a b).map (PV.int .i64)) (a b : Int) :
    mget ((.agg [.int .i64 (prtI cs ((k : Int) + 1)), .int .i64 ((m.length : Int) - 1 - prtI rs (p.getD k 0))], .int .i64 (p.getD k 0)) :: es) (.agg [.int .i64 a, .int .i64 b]) = (lstV m cs rs p (k + 1) a b).map (PV.int .i64) := by
  by_cases e : prtI cs ((k : Int) + 1) = a ∧ (m.length : Int) - 1 - prtI rs (p.getD k 0) = b
  · rw [mget_put.1 (by rw [kv_2]; exact e), lstV, if_pos e]; rfl
  · rw [mget_put.2 (by rw [ne_eq, kv_2]; exact e), lstV, if_neg e]; exact h a b
theorem impl_fitsGrid_c {m0 e1 m1 m2 m3 : Bool} (p : List Int) (m : List (List Int)) (cs : List Int) (rs : List Int) (hp : isPermB p = true) (hm : gridB m = true) (h1 : (cs.length : Int) = (m.getD 0 []).length - 1) (h2 : (rs.length : Int) = m.length - 1) (hs1 : srtB cs = true) (hs2 : srtB rs = true) : Fun Try.prog 93 [(.sl (.lent m0) (List.map (PV.int .i64) (p))), (.sl (.lent m1) (List.map (elI e1) (m))), (.sl (.lent m2) (List.map (PV.int .i64) (cs))), (.sl (.lent m3) (List.map (PV.int .i64) (rs)))] [(.bool (gfB p m cs rs))] := by
  refine fO sg0 [8] Try.func93 ?_
  have cE1 := @impl_partOf_c
  have hl := (isPerm_facts hp).1
  have hb := perm_b8 hp
  obtain ⟨g1, g2, g3, g4, g5⟩ := grid_rows hm
  refine dEa trivial ?_
  all_goals try (refine zlf ?_; repeat' first | exact zso | refine And.intro ?_ ?_ | (refine zim ?_; intro zb hc; repeat (have zc := zb.1; replace zb := zb.2)) | (refine zin ?_; intro zb) | intro j')
  all_goals try refine zbx ?_
  refine v_loopB (fun ms1 S1 => ∃ (k : Nat) (es : List (PV × PV)), S1.e 1 = .p (.sl (.lent m1) (List.map (elI e1) (m))) ∧ S1.e 2 = .p (.sl (.lent m2) (List.map (PV.int .i64) (cs))) ∧ S1.e 3 = .p (.sl (.lent m3) (List.map (PV.int .i64) (rs))) ∧ S1.e 17 = .p (.sl (.lent m0) (List.map (PV.int .i64) (p))) ∧ S1.e 18 = .p (.int .i64 (p.length)) ∧ S1.e 19 = .p (.int .i64 (k)) ∧ MapL (S1.e 9) S1.h S1.n (kOf Try.prog 106) (es) ∧ (k ≤ p.length) ∧ (∀ j, j < k → okK p m cs rs j) ∧ (∀ a b, mget es (.agg [.int .i64 a, .int .i64 b]) = (lstV m cs rs p k a b).map (PV.int .i64)) ∧ ms1 = p.length - k) ((fun (k : Nat) (es : List (PV × PV)) => p.length - k) (0) ([])) ?_ ⟨0, [], dC trivial ?_⟩
  all_goals try (refine zlf ?_; repeat' first | exact zso | refine And.intro ?_ ?_ | (refine zim ?_; intro zb hc; repeat (have zc := zb.1; replace zb := zb.2)) | (refine zin ?_; intro zb) | intro j')
  all_goals try refine zbx ?_
  rintro ms1 S1 ⟨k, es, h1_1, h1_2, h1_3, h1_17, h1_18, h1_19, o1_9, c1_0, c1_1, c1_2, hm1⟩
  obtain ⟨i1_9, h1_9, b1_9, l1_9⟩ := o1_9.out
  have ni1_9 := znds (x := i1_9) (n := S1.n)
  have fL1 := (And.intro h1_1 (And.intro h1_2 (And.intro h1_3 (And.intro h1_17 (And.intro h1_18 (And.intro h1_19 (And.intro h1_9 (And.intro b1_9 ni1_9))))))))
  have b1 := prt_b (l := cs) (x := (k : Int) + 1)
  have b2 := prt_b (l := rs) (x := p.getD k 0)
  have b3 := g5 ((m.length : Int) - 1 - prtI rs (p.getD k 0)).toNat (by omega)
  have e0 : (m.getD ((m.length : Int) - 1 - prtI rs (p.getD k 0)).toNat []).getD (prtI cs ((k : Int) + 1)).toNat 0 = fG m cs rs p k := rfl
  have e1 := c1_2 (prtI cs ((k : Int) + 1)) ((m.length : Int) - 1 - prtI rs (p.getD k 0))
  have e2 : kOf Try.prog 106 (kV (.agg [.int .i64 (prtI cs ((k : Int) + 1)), .int .i64 ((m.length : Int) - 1 - prtI rs (p.getD k 0))])) := ko93 (by simp only [n_i64]; omega) (by simp only [n_i64]; omega)
  cases hv : lstV m cs rs p k (prtI cs ((k : Int) + 1)) ((m.length : Int) - 1 - prtI rs (p.getD k 0)) with
  | none =>
    rw [hv, Option.map_none] at e1
    refine dEa (And.intro fL1 (And.intro @e0 (And.intro @e1 @e2))) ?_
    all_goals try (refine zlf ?_; repeat' first | exact zso | refine And.intro ?_ ?_ | (refine zim ?_; intro zb hc; repeat (have zc := zb.1; replace zb := zb.2)) | (refine zin ?_; intro zb) | intro j')
    all_goals try refine zbx ?_
    · exact gfB_f (k := k) (by assumption) fun h => h.1 hc
    · focus
        refine q_lp_n ((fun (k : Nat) (es : List (PV × PV)) => p.length - k) (k+1) ((.agg [.int .i64 (prtI cs ((k : Int) + 1)), .int .i64 ((m.length : Int) - 1 - prtI rs (p.getD k 0))], .int .i64 (p.getD k 0)) :: es)) (dC fL1 ?_) ⟨k+1, (.agg [.int .i64 (prtI cs ((k : Int) + 1)), .int .i64 ((m.length : Int) - 1 - prtI rs (p.getD k 0))], .int .i64 (p.getD k 0)) :: es, dC fL1 ?_⟩
        all_goals try (refine zlf ?_; repeat' first | exact zso | refine And.intro ?_ ?_ | (refine zim ?_; intro zb hc; repeat (have zc := zb.1; replace zb := zb.2)) | (refine zin ?_; intro zb) | intro j')
        all_goals try refine zbx ?_
      · intro j hj
        by_cases e : j = k
        · subst e; exact ⟨hc, fun i hi hs => absurd hs (lstV_none hv i hi)⟩
        · exact c1_1 j (by omega)
      · exact lst_put c1_2
    · exact gfB_t fun j hj => c1_1 j (by omega)
  | some v =>
    obtain ⟨i, hi, hs, rfl, hn⟩ := lstV_some hv
    rw [hv, Option.map_some] at e1
    refine dEa (And.intro fL1 (And.intro @e0 (And.intro @e1 @e2))) ?_
    all_goals try (refine zlf ?_; repeat' first | exact zso | refine And.intro ?_ ?_ | (refine zim ?_; intro zb hc; repeat (have zc := zb.1; replace zb := zb.2)) | (refine zin ?_; intro zb) | intro j')
    all_goals try refine zbx ?_
    · exact gfB_f (k := k) (by assumption) fun h => h.1 hc
    · refine gfB_f (k := k) (by assumption) fun h => ?_
      rw [beq_eq_false_iff_ne] at hc
      exact hc (decide_eq_decide.2 (h.2 i hi hs))
    · have h0 : fG m cs rs p k ≠ 0 := by assumption
      focus
        refine q_lp_n ((fun (k : Nat) (es : List (PV × PV)) => p.length - k) (k+1) ((.agg [.int .i64 (prtI cs ((k : Int) + 1)), .int .i64 ((m.length : Int) - 1 - prtI rs (p.getD k 0))], .int .i64 (p.getD k 0)) :: es)) (dC fL1 ?_) ⟨k+1, (.agg [.int .i64 (prtI cs ((k : Int) + 1)), .int .i64 ((m.length : Int) - 1 - prtI rs (p.getD k 0))], .int .i64 (p.getD k 0)) :: es, dC fL1 ?_⟩
        all_goals try (refine zlf ?_; repeat' first | exact zso | refine And.intro ?_ ?_ | (refine zim ?_; intro zb hc; repeat (have zc := zb.1; replace zb := zb.2)) | (refine zin ?_; intro zb) | intro j')
        all_goals try refine zbx ?_
      · intro j hj
        by_cases e : j = k
        · subst e; exact okK_last c1_1 hi hs hn h0 (decide_eq_decide.1 (beq_iff_eq.1 hc))
        · exact c1_1 j (by omega)
      · exact lst_put c1_2
    · exact gfB_t fun j hj => c1_1 j (by omega)
  · intro a b; rfl
theorem cut_srt {l : List Int} {m n : Int} (h : cutB l m n = true) : srtB l = true := by simp only [cutB, Bool.and_eq_true] at h; exact h.1.2
theorem cut_len {l : List Int} {m n : Int} (h : cutB l m n = true) : (l.length : Int) = m := (cutB_iff.1 h).1
noncomputable def fitsB (p : List Int) (m : List (List Int)) (cs rs : List Int) : Bool := isPermB p && gridB m && cutB cs ((m.getD 0 []).length - 1) p.length && cutB rs (m.length - 1) p.length && gfB p m cs rs
theorem impl_FitsGrid_c {m0 e1 m1 m2 m3 : Bool} (p : List Int) (m : List (List Int)) (cs : List Int) (rs : List Int) (hl : p.length ≤ 1048576) (hm : m.length ≤ 1048576) (hml : ∀ l ∈ m, l.length ≤ 1048576) (h1 : cs.length ≤ 1048576) (h2 : rs.length ≤ 1048576) : Fun Try.prog 18 [(.sl (.lent m0) (List.map (PV.int .i64) (p))), (.sl (.lent m1) (List.map (elI e1) (m))), (.sl (.lent m2) (List.map (PV.int .i64) (cs))), (.sl (.lent m3) (List.map (PV.int .i64) (rs)))] [(.bool (fitsB p m cs rs))] := by
  have hml' : ∀ l ∈ m, l.length ≤ 1099511627776 := fun l h => by have := hml l h; omega
  by_cases hp : isPermB p = true
  · by_cases hg : gridB m = true
    · obtain ⟨g1, g2, g3, g4, g5⟩ := grid_rows hg
      have q1 : fitsB p m cs rs = (cutB cs ((m.getD 0 []).length - 1) p.length && cutB rs (m.length - 1) p.length && gfB p m cs rs) := by rw [fitsB, hp, hg]; rfl
      refine fO sg0 [8] Try.func18 ?_
      have cE1 := @impl_IsPerm_c; have cE2 := @impl_IsGrid_c; have cE3 := @impl_areCuts_c; have cE4 := @impl_fitsGrid_c
      refine dEa (And.intro @hp @hg) ?_
      all_goals try (refine zlf ?_; repeat' first | exact zso | refine And.intro ?_ ?_ | (refine zim ?_; intro zb hc; repeat (have zc := zb.1; replace zb := zb.2)) | (refine zin ?_; intro zb) | intro j')
      all_goals try refine zbx ?_
      all_goals (first | exact cut_srt (by assumption) | exact cut_len (by assumption) | (rw [q1]; simp only [*, Bool.true_and, Bool.false_and, Bool.and_false]; done))
    · have hg' : gridB m = false := by simpa using hg
      have q1 : fitsB p m cs rs = false := by rw [fitsB, hp, hg']; rfl
      rw [q1]
      refine fO sg0 [8] Try.func18 ?_
      have cE1 := @impl_IsPerm_c; have cE2 := @impl_IsGrid_c; have cE3 := @impl_areCuts_c; have cE4 := @impl_fitsGrid_c
      refine dEa (And.intro @hp @hg') ?_
      all_goals try (refine zlf ?_; repeat' first | exact zso | refine And.intro ?_ ?_ | (refine zim ?_; intro zb hc; repeat (have zc := zb.1; replace zb := zb.2)) | (refine zin ?_; intro zb) | intro j')
      all_goals try refine zbx ?_
  · have hp' : isPermB p = false := by simpa using hp
    have q1 : fitsB p m cs rs = false := by rw [fitsB, hp']; rfl
    rw [q1]
    refine fO sg0 [8] Try.func18 ?_
    have cE1 := @impl_IsPerm_c; have cE2 := @impl_IsGrid_c; have cE3 := @impl_areCuts_c; have cE4 := @impl_fitsGrid_c
    refine dEa @hp' ?_
    all_goals try (refine zlf ?_; repeat' first | exact zso | refine And.intro ?_ ?_ | (refine zim ?_; intro zb hc; repeat (have zc := zb.1; replace zb := zb.2)) | (refine zin ?_; intro zb) | intro j')
    all_goals try refine zbx ?_
theorem spec_FitsGrid_c {m0 e1 m1 m2 m3 : Bool} (p : List Int) (m : List (List Int)) (cs : List Int) (rs : List Int) (hl : p.length ≤ 1048576) (hm : m.length ≤ 1048576) (hml : ∀ l ∈ m, l.length ≤ 1048576) (h1 : cs.length ≤ 1048576) (h2 : rs.length ≤ 1048576) : Fun Try.prog 19 [(.sl (.lent m0) (List.map (PV.int .i64) (p))), (.sl (.lent m1) (List.map (elI e1) (m))), (.sl (.lent m2) (List.map (PV.int .i64) (cs))), (.sl (.lent m3) (List.map (PV.int .i64) (rs)))] [(.bool (fitsB p m cs rs))] := by
  have hml' : ∀ l ∈ m, l.length ≤ 1099511627776 := fun l h => by have := hml l h; omega
  by_cases hp : isPermB p = true
  · by_cases hg : gridB m = true
    · obtain ⟨g1, g2, g3, g4, g5⟩ := grid_rows hg
      have q1 : fitsB p m cs rs = (cutB cs ((m.getD 0 []).length - 1) p.length && cutB rs (m.length - 1) p.length && gfB p m cs rs) := by rw [fitsB, hp, hg]; rfl
      refine fO sg0 [8] Try.func19 ?_
      have cE1 := @spec_IsPerm_c; have cE2 := @spec_IsGrid_c; have cE3 := @spec_l32Cuts_c; have cE4 := @spec_l32Fits_c
      refine dEa (And.intro @hp @hg) ?_
      all_goals try (refine zlf ?_; repeat' first | exact zso | refine And.intro ?_ ?_ | (refine zim ?_; intro zb hc; repeat (have zc := zb.1; replace zb := zb.2)) | (refine zin ?_; intro zb) | intro j')
      all_goals try refine zbx ?_
      all_goals (first | exact cut_srt (by assumption) | exact cut_len (by assumption) | (rw [q1]; simp only [*, Bool.true_and, Bool.false_and, Bool.and_false]; done))
    · have hg' : gridB m = false := by simpa using hg
      have q1 : fitsB p m cs rs = false := by rw [fitsB, hp, hg']; rfl
      rw [q1]
      refine fO sg0 [8] Try.func19 ?_
      have cE1 := @spec_IsPerm_c; have cE2 := @spec_IsGrid_c; have cE3 := @spec_l32Cuts_c; have cE4 := @spec_l32Fits_c
      refine dEa (And.intro @hp @hg') ?_
      all_goals try (refine zlf ?_; repeat' first | exact zso | refine And.intro ?_ ?_ | (refine zim ?_; intro zb hc; repeat (have zc := zb.1; replace zb := zb.2)) | (refine zin ?_; intro zb) | intro j')
      all_goals try refine zbx ?_
  · have hp' : isPermB p = false := by simpa using hp
    have q1 : fitsB p m cs rs = false := by rw [fitsB, hp']; rfl
    rw [q1]
    refine fO sg0 [8] Try.func19 ?_
    have cE1 := @spec_IsPerm_c; have cE2 := @spec_IsGrid_c; have cE3 := @spec_l32Cuts_c; have cE4 := @spec_l32Fits_c
    refine dEa @hp' ?_
    all_goals try (refine zlf ?_; repeat' first | exact zso | refine And.intro ?_ ?_ | (refine zim ?_; intro zb hc; repeat (have zc := zb.1; replace zb := zb.2)) | (refine zin ?_; intro zb) | intro j')
    all_goals try refine zbx ?_
end Go.Gl
