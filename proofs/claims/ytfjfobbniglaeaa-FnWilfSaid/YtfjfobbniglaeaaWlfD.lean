/-
  Draws of the law of groups. Conditions: none.
-/
import Derived.Test.YtfjfobbniglaeaaWlf2
import Derived.Test.YtfjfobbniglaeaaDrawB
import Derived.Test.YtfjfobbniglaeaaPBasF
import Derived.Test.YtfjfobbniglaeaaSym
import Derived.Test.YtfjfobbniglaeaaKnC
import Derived.Test.YtfjfobbniglaeaaAllW
import Derived.Test.YtfjfobbniglaeaaSame
set_option linter.unusedSimpArgs false
set_option linter.unusedVariables false
set_option maxRecDepth 20000
set_option linter.unusedSectionVars false
namespace Go.Gl
open Go Go.Proofs
variable [Amb]
def syB (L : List (List Int)) (k : Nat) : List (List Int) := if basisB L = true then putL (L.map fun p => symL p k) else []
theorem put_snocL {l : List (List Int)} {x : List Int} : putL (l ++ [x]) = putP (putL l) x := by rw [putL, putL, List.foldl_append]; rfl
theorem basis_p {L : List (List Int)} (h : basisB L = true) {i : Nat} (hi : i < L.length) : isPermB (L.getD i []) = true := by
  simp only [basisB, Bool.and_eq_true] at h
  exact basK_perm h.2 hi
theorem syB_len {L : List (List Int)} {k : Nat} : (syB L k).length ≤ L.length := by
  unfold syB; split
  · have := putL_len (L := L.map fun p => symL p k); rwa [List.length_map] at this
  · simp
theorem syB_row {L : List (List Int)} {k : Nat} (h : ∀ l ∈ L, l.length ≤ 1048576) : ∀ l ∈ syB L k, l.length ≤ 1048576 := by
  unfold syB; split
  · refine put_lens fun l hl => ?_
    obtain ⟨p, hp, rfl⟩ := List.mem_map.1 hl
    rw [symL_len]; exact h p hp
  · intro l hl; cases hl
def sgSyB : FuncId → List Bool := fun f => if f = 95 then [true] else []
theorem sgSyB_eq {f : FuncId} : sgSyB f = if f = 95 then [true] else [] := _root_.id rfl
theorem way_sgSyB : wayE sgSyB = false ∧ wayN sgSyB = false ∧ wayS sgSyB = false ∧ wayZ sgSyB = false ∧ wayM sgSyB = false := ⟨rfl, rfl, rfl, rfl, rfl⟩
attribute [go_sem] sgSyB_eq way_sgSyB
theorem spec_SymmetryBasis_c {e0 m0 : Bool} (L : List (List Int)) (k : Nat) (hk : k < 8) (hL : L.length ≤ 1048576) (hl : ∀ l ∈ L, l.length ≤ 1048576) : Fun Try.prog 64 [(.sl (.lent m0) (List.map (elI e0) (L))), (.int .i64 (k))] [(.sl .own (List.map (elI false) (syB L k))), (.bool (basisB L))] := by
  refine fO sgSyB [4, 5] Try.func64 ?_
  have cE1 := @spec_l1In_c; have cE2 := @spec_IsBasis_c; have cE3 := @spec_l3Symmetry_c; have cM1 := @spec_l3Put_c
  by_cases hb : basisB L = true
  · have h8 : L.length ≤ 8 := by simp only [basisB, Bool.and_eq_true, decide_eq_true_eq] at hb; exact hb.1
    rw [syB, if_pos hb, hb]
    refine dEa @hb ?_
    all_goals try (refine zlf ?_; repeat' first | exact zso | refine And.intro ?_ ?_ | (refine zim ?_; intro zb hc) | (refine zin ?_; intro zb) | intro j')
    all_goals try refine zbx ?_
    refine v_loopB (fun ms1 S1 => ∃ (i : Nat), S1.e 0 = .p (.sl (.lent m0) (List.map (elI e0) (L))) ∧ S1.e 1 = .p (.int .i64 (k)) ∧ OwnL (S1.e 6) S1.h S1.n (elI false) ((putL ((L.take i).map fun p => symL p k)).length) (putL ((L.take i).map fun p => symL p k)) ∧ S1.e 7 = .p (.int .i64 (i)) ∧ (i ≤ L.length) ∧ ms1 = L.length - i) ((fun (i : Nat) => L.length - i) (0)) ?_ ⟨0, dC trivial ?_⟩
    all_goals try (refine zlf ?_; repeat' first | exact zso | refine And.intro ?_ ?_ | (refine zim ?_; intro zb hc) | (refine zin ?_; intro zb) | intro j')
    all_goals try refine zbx ?_
    rintro ms1 S1 ⟨i, h1_0, h1_1, o1_6, h1_7, c1_0, hm1⟩
    obtain ⟨i1_6, h1_6, b1_6, l1_6⟩ := o1_6.out
    have ni1_6 := znds (x := i1_6) (n := S1.n)
    have fL1 := (And.intro h1_0 (And.intro h1_1 (And.intro h1_7 (And.intro h1_6 (And.intro b1_6 ni1_6)))))
    · have b1 := putL_len (L := (L.take i).map fun p => symL p k)
      rw [List.length_map, List.length_take] at b1
      have b2 : ∀ l ∈ putL ((L.take i).map fun p => symL p k), l.length ≤ 1048576 := put_lens fun l h => by
        obtain ⟨p, hp, rfl⟩ := List.mem_map.1 h
        rw [symL_len]; exact hl p (List.mem_of_mem_take hp)
      by_cases hi : i < L.length
      · have hp := basis_p hb hi
        obtain ⟨p8, pp⟩ := isP_8 hp
        have b3 : (symL (L.getD i []) k).length ≤ 1048576 := by rw [symL_len]; omega
        refine dEa fL1 ?_
        all_goals try (refine zlf ?_; repeat' first | exact zso | refine And.intro ?_ ?_ | (refine zim ?_; intro zb hc) | (refine zin ?_; intro zb) | intro j')
        all_goals try refine zbx ?_
        focus
          refine q_lp_n ((fun (i : Nat) => L.length - i) (i+1)) (dC fL1 ?_) ⟨i+1, dC fL1 ?_⟩
          all_goals try (refine zlf ?_; repeat' first | exact zso | refine And.intro ?_ ?_ | (refine zim ?_; intro zb hc) | (refine zin ?_; intro zb) | intro j')
          all_goals try refine zbx ?_
        all_goals (rw [take_getD (d := []) hi, List.map_append, List.map_cons, List.map_nil, put_snocL])
      · refine dEa fL1 ?_
        all_goals try (refine zlf ?_; repeat' first | exact zso | refine And.intro ?_ ?_ | (refine zim ?_; intro zb hc) | (refine zin ?_; intro zb) | intro j')
        all_goals try refine zbx ?_
        rw [List.take_of_length_le (by omega)]
  · rw [Bool.not_eq_true] at hb
    rw [syB, if_neg (by rw [hb]; decide), hb]
    refine dEa @hb ?_
    all_goals try (refine zlf ?_; repeat' first | exact zso | refine And.intro ?_ ?_ | (refine zim ?_; intro zb hc) | (refine zin ?_; intro zb) | intro j')
    all_goals try refine zbx ?_
def awlB (a b : List (List Int)) (n : Int) : Bool := basisB a && basisB b && decide (0 ≤ n) && decide (n ≤ 6) && decide (ccR a n = ccR b n)
theorem spec_AreWilfLike_c {e0 m0 e1 m1 : Bool} (a b : List (List Int)) (n : Int) (ha : a.length ≤ 1048576) (hb : b.length ≤ 1048576) (hla : ∀ l ∈ a, l.length ≤ 1048576) (hlb : ∀ l ∈ b, l.length ≤ 1048576) : Fun Try.prog 30 [(.sl (.lent m0) (List.map (elI e0) (a))), (.sl (.lent m1) (List.map (elI e1) (b))), (.int .i64 (n))] [(.bool (awlB a b n))] := by
  refine fO sg0 [6] Try.func30 ?_
  have cE1 := @spec_l1In_c; have cE2 := @spec_IsBasis_c; have cE3 := @spec_ClassCounts_c; have cE4 := @spec_l2Same_c
  have x1 := cc_len (L := a) (n := n)
  have x2 := cc_len (L := b) (n := n)
  by_cases h1 : basisB a = true
  · by_cases h2 : basisB b = true
    · refine dEa (And.intro @h1 @h2) ?_
      all_goals try (refine zlf ?_; repeat' first | exact zso | refine And.intro ?_ ?_ | (refine zim ?_; intro zb hc; repeat (have zc := zb.1; replace zb := zb.2)) | (refine zin ?_; intro zb) | intro j')
      all_goals try refine zbx ?_
      all_goals (rw [awlB, h1, h2]; simp [*])
      all_goals (intro _ _; omega)
    · rw [Bool.not_eq_true] at h2
      refine dEa (And.intro @h1 @h2) ?_
      all_goals try (refine zlf ?_; repeat' first | exact zso | refine And.intro ?_ ?_ | (refine zim ?_; intro zb hc; repeat (have zc := zb.1; replace zb := zb.2)) | (refine zin ?_; intro zb) | intro j')
      all_goals try refine zbx ?_
      all_goals (rw [awlB, h1, h2]; simp)
  · rw [Bool.not_eq_true] at h1
    refine dEa @h1 ?_
    all_goals try (refine zlf ?_; repeat' first | exact zso | refine And.intro ?_ ?_ | (refine zim ?_; intro zb hc; repeat (have zc := zb.1; replace zb := zb.2)) | (refine zin ?_; intro zb) | intro j')
    all_goals try refine zbx ?_
    all_goals (rw [awlB, h1]; simp)
theorem nrA_nl : noRo .nl = true := _root_.id rfl
theorem a_nl {k : Nat} {K : R → Prop} : arr k (.p .nl) K = K ⟨.p .nl, [], []⟩ := _root_.id rfl
attribute [go_sem] nrA_nl a_nl
instance {k : Nat} : Imp1 k .nl (.p .nl) [] := ⟨rfl, rfl⟩
instance {k : Nat} : ImpO k .nl (.p .nl) [] := ⟨rfl, rfl⟩
def sgNl : FuncId → List Bool := fun f => if f = 4294967296 then [true] else []
theorem sgNl_eq {f : FuncId} : sgNl f = if f = 4294967296 then [true] else [] := _root_.id rfl
theorem way_sgNl : wayE sgNl = true ∧ wayN sgNl = false ∧ wayS sgNl = false ∧ wayZ sgNl = false ∧ wayM sgNl = false := ⟨rfl, rfl, rfl, rfl, rfl⟩
attribute [go_sem] sgNl_eq way_sgNl
theorem impl_ClassCounts_z_c {e0 m0 : Bool} (L : List (List Int)) (n : Int) (hL : L.length ≤ 1048576) (hl : ∀ q ∈ L, q.length ≤ 1048576) (h0 : ¬ (basisB L = true ∧ 0 ≤ n ∧ n ≤ 6)) : Fun Try.prog 68 [(.sl (.lent m0) (List.map (elI e0) (L))), (.int .i64 (n))] [(.nl)] := by
  refine fO sgNl [4] Try.func68 ?_
  have cE1 := @impl_isSix_c; have cE2 := @impl_IsBasis_c; have cE3 := @impl_class_c
  by_cases hb : basisB L = true
  · have f1 : (decide (0 ≤ n) && decide (n ≤ 6)) = false := by
      rw [← Bool.not_eq_true]; intro q; simp only [Bool.and_eq_true, decide_eq_true_eq] at q; exact h0 ⟨hb, q⟩
    refine dEa (And.intro @hb @f1) ?_
    all_goals try (refine zlf ?_; repeat' first | exact zso | refine And.intro ?_ ?_ | (refine zim ?_; intro zb hc) | (refine zin ?_; intro zb) | intro j')
    all_goals try refine zbx ?_
  · rw [Bool.not_eq_true] at hb
    refine dEa @hb ?_
    all_goals try (refine zlf ?_; repeat' first | exact zso | refine And.intro ?_ ?_ | (refine zim ?_; intro zb hc) | (refine zin ?_; intro zb) | intro j')
    all_goals try refine zbx ?_
theorem awl_t {a b : List (List Int)} {n : Int} (h1 : basisB a = true ∧ 0 ≤ n ∧ n ≤ 6) (h2 : basisB b = true ∧ 0 ≤ n ∧ n ≤ 6) : decide (ccR a n = ccR b n) = awlB a b n := by
  rw [awlB, h1.1, h2.1, decide_eq_true h1.2.1, decide_eq_true h1.2.2]; simp
theorem awl_f {a b : List (List Int)} {n : Int} (h : ¬ (basisB a = true ∧ 0 ≤ n ∧ n ≤ 6) ∨ ¬ (basisB b = true ∧ 0 ≤ n ∧ n ≤ 6)) : false = awlB a b n := by
  symm
  rw [← Bool.not_eq_true]
  intro q
  simp only [awlB, Bool.and_eq_true, decide_eq_true_eq] at q
  rcases h with h | h
  · exact h ⟨q.1.1.1.1, q.1.1.2, q.1.2⟩
  · exact h ⟨q.1.1.1.2, q.1.1.2, q.1.2⟩
theorem impl_AreWilfLike_c {e0 m0 e1 m1 : Bool} (a b : List (List Int)) (n : Int) (ha : a.length ≤ 1048576) (hb : b.length ≤ 1048576) (hla : ∀ l ∈ a, l.length ≤ 1048576) (hlb : ∀ l ∈ b, l.length ≤ 1048576) : Fun Try.prog 29 [(.sl (.lent m0) (List.map (elI e0) (a))), (.sl (.lent m1) (List.map (elI e1) (b))), (.int .i64 (n))] [(.bool (awlB a b n))] := by
  refine fO sg0 [6] Try.func29 ?_
  have cE1 := @impl_ClassCounts_z_c; have cE2 := @impl_ClassCounts_c; have cE3 := @slices_Equal_int_int_c
  by_cases h1 : basisB a = true ∧ 0 ≤ n ∧ n ≤ 6
  · have x1 : 0 < (ccR a n).length := by rw [ccR, if_pos h1]; simp
    have x3 := cc_len (L := a) (n := n)
    have ca := impl_ClassCounts_c (e0 := e0) (m0 := m0) a n ha hla
    by_cases h2 : basisB b = true ∧ 0 ≤ n ∧ n ≤ 6
    · have x2 : 0 < (ccR b n).length := by rw [ccR, if_pos h2]; simp
      have x4 := cc_len (L := b) (n := n)
      have cb := impl_ClassCounts_c (e0 := e1) (m0 := m1) b n hb hlb
      have cE1 := @ca; have cE2 := @cb
      refine dEa trivial ?_
      all_goals try (refine zlf ?_; repeat' first | exact zso | refine And.intro ?_ ?_ | (refine zim ?_; intro zb hc) | (refine zin ?_; intro zb) | intro j')
      all_goals try refine zbx ?_
      all_goals exact awl_t h1 h2
    · have cb := impl_ClassCounts_z_c (e0 := e1) (m0 := m1) b n hb hlb h2
      have cE1 := @ca; have cE2 := @cb
      refine dEa trivial ?_
      all_goals try (refine zlf ?_; repeat' first | exact zso | refine And.intro ?_ ?_ | (refine zim ?_; intro zb hc) | (refine zin ?_; intro zb) | intro j')
      all_goals try refine zbx ?_
      all_goals exact awl_f (.inr h2)
  · have ca := impl_ClassCounts_z_c (e0 := e0) (m0 := m0) a n ha hla h1
    by_cases h2 : basisB b = true ∧ 0 ≤ n ∧ n ≤ 6
    · have cb := impl_ClassCounts_c (e0 := e1) (m0 := m1) b n hb hlb
      have cE1 := @ca; have cE2 := @cb
      refine dEa trivial ?_
      all_goals try (refine zlf ?_; repeat' first | exact zso | refine And.intro ?_ ?_ | (refine zim ?_; intro zb hc) | (refine zin ?_; intro zb) | intro j')
      all_goals try refine zbx ?_
      all_goals exact awl_f (.inl h1)
    · have cb := impl_ClassCounts_z_c (e0 := e1) (m0 := m1) b n hb hlb h2
      have cE1 := @ca; have cE2 := @cb
      refine dEa trivial ?_
      all_goals try (refine zlf ?_; repeat' first | exact zso | refine And.intro ?_ ?_ | (refine zim ?_; intro zb hc) | (refine zin ?_; intro zb) | intro j')
      all_goals try refine zbx ?_
      all_goals exact awl_f (.inl h1)
/-! ### draws -/
theorem spec_DrawCatalanNumber_x (b : List UInt8) (hb : b.length ≤ 1048576) : ∃ n, Fun Try.prog 25 [.sl (.lent false) (b.map u8P)] [.int .i64 n] ∧ -1 ≤ n ∧ n ≤ 22 := by
  have q := bwX_r (b := b) (s := ⟨0, newH b (min b.length 4000)⟩) (n := 24)
  refine ⟨bwX b ⟨0, newH b (min b.length 4000)⟩ 24 - 1, ?_, by omega⟩
  refine fO sgCu [2] Try.func25 ?_
  have cE1 := @spec_l1New_c; have cM1 := @spec_l1Below_c
  refine dEa trivial ?_
  all_goals try (refine zlf ?_; repeat' first | exact zso | refine And.intro ?_ ?_ | (refine zim ?_; intro zb hc) | (refine zin ?_; intro zb) | intro j')
  all_goals try refine zbx ?_
theorem spec_DrawSchroederNumber_x (b : List UInt8) (hb : b.length ≤ 1048576) : ∃ n, Fun Try.prog 26 [.sl (.lent false) (b.map u8P)] [.int .i64 n] ∧ -1 ≤ n ∧ n ≤ 17 := by
  have q := bwX_r (b := b) (s := ⟨0, newH b (min b.length 4000)⟩) (n := 19)
  refine ⟨bwX b ⟨0, newH b (min b.length 4000)⟩ 19 - 1, ?_, by omega⟩
  refine fO sgCu [2] Try.func26 ?_
  have cE1 := @spec_l1New_c; have cM1 := @spec_l1Below_c
  refine dEa trivial ?_
  all_goals try (refine zlf ?_; repeat' first | exact zso | refine And.intro ?_ ?_ | (refine zim ?_; intro zb hc) | (refine zin ?_; intro zb) | intro j')
  all_goals try refine zbx ?_
theorem spec_DrawFibonacciNumber_x (b : List UInt8) (hb : b.length ≤ 1048576) : ∃ n, Fun Try.prog 27 [.sl (.lent false) (b.map u8P)] [.int .i64 n] ∧ -1 ≤ n ∧ n ≤ 42 := by
  have q := bwX_r (b := b) (s := ⟨0, newH b (min b.length 4000)⟩) (n := 44)
  refine ⟨bwX b ⟨0, newH b (min b.length 4000)⟩ 44 - 1, ?_, by omega⟩
  refine fO sgCu [2] Try.func27 ?_
  have cE1 := @spec_l1New_c; have cM1 := @spec_l1Below_c
  refine dEa trivial ?_
  all_goals try (refine zlf ?_; repeat' first | exact zso | refine And.intro ?_ ?_ | (refine zim ?_; intro zb hc) | (refine zin ?_; intro zb) | intro j')
  all_goals try refine zbx ?_
theorem spec_DrawWilfGroups_x (b : List UInt8) (hb : b.length ≤ 1048576) : ∃ k n, Fun Try.prog 22 [.sl (.lent false) (b.map u8P)] [.int .i64 k, .int .i64 n] ∧ 0 ≤ k ∧ k ≤ 5 ∧ (0 ≤ n ∧ n ≤ 5 ∨ n = 7) := by
  obtain ⟨s1, k, c1, hk⟩ := spec_l1PickInt_x (m0 := true) b ⟨0, newH b (min b.length 4000)⟩ [1, 2, 3, 3, 4, 0, 5] hb (by decide) (by decide)
  obtain ⟨s2, n, c2, hn⟩ := spec_l1PickInt_x (m0 := true) b s1 [0, 2, 3, 4, 4, 5, 7] hb (by decide) (by decide)
  simp only [List.map_cons, List.map_nil] at c1 c2
  refine ⟨k, n, ?_, by simp at hk; omega, by simp at hk; omega, by simp at hn; omega⟩
  refine fO sgCu [2, 3] Try.func22 ?_
  have cE1 := @spec_l1New_c
  have cM1 := @c1; have cM2 := @c2
  refine dEa trivial ?_
  all_goals try (refine zlf ?_; repeat' first | exact zso | refine And.intro ?_ ?_ | (refine zim ?_; intro zb hc) | (refine zin ?_; intro zb) | intro j')
  all_goals try refine zbx ?_
def kcT : List (List UInt8) := [[49, 50], [49, 50, 51, 32, 49, 51, 50], [50, 51, 49], [50, 52, 49, 51, 32, 51, 49, 52, 50], [50, 51, 49, 32, 51, 49, 50, 32, 51, 50, 49], [49, 50, 51], [49, 51, 50, 32, 50, 51, 49], [49], [49, 50, 51, 52]]
theorem kc_all : ∀ t ∈ kcT, t.length ≤ 100 ∧ (pbL t).length ≤ 3 ∧ ∀ l ∈ pbL t, l.length ≤ 8 := by decide +kernel
theorem spec_DrawKnownCounts_x (b : List UInt8) (hb : b.length ≤ 1048576) : ∃ L n, Fun Try.prog 28 [.sl (.lent false) (b.map u8P)] [.sl .own (List.map (elI false) L), .int .i64 n] ∧ L.length ≤ 4 ∧ ∀ l ∈ L, l.length ≤ 1048576 := by
  obtain ⟨s1, t, c1, ht⟩ := spec_l1Pick_x (m0 := true) b ⟨0, newH b (min b.length 4000)⟩ kcT hb (by decide) (by decide)
  obtain ⟨t1, t2, t3⟩ := kc_all t ht
  obtain ⟨s2, L, c2, hL⟩ := spec_l12Bent_x b (bwS b s1 3) hb
  obtain ⟨s3, n, c3, _⟩ := spec_l1PickInt_x (m0 := true) b s2 [4, 5, 4, 5, 6, 3, 7] hb (by decide) (by decide)
  obtain ⟨s4, n', c4, _⟩ := spec_l1PickInt_x (m0 := true) b (bwS b s1 3) [4, 5, 4, 5, 6, 3, 7] hb (by decide) (by decide)
  simp only [kcT, List.map_cons, List.map_nil] at c1 c3 c4
  have cp := spec_ParseBasis_f_c t (by omega)
  obtain ⟨x, hx⟩ : ∃ x, bwX b s1 3 = x := ⟨_, rfl⟩
  by_cases h0 : x = 0
  · subst h0
    refine ⟨L, n, ?_, hL.len, fun l h => Nat.le_trans (hL.row l h).len (by decide)⟩
    refine fO sgCu [2, 3] Try.func28 ?_
    have cE1 := @spec_l1New_c; have cE2 := @spec_ParseBasis_c; have cE3 := @spec_ParseBasis_f_c; have cM1 := @spec_l1Once_c
    have cE1 := @cp; have cE2 := @spec_l1New_c; have cM2 := @c1; have cM3 := @c2; have cM4 := @c3; have cE3 := trivial
    refine dEa @hx ?_
    all_goals try (refine zlf ?_; repeat' first | exact zso | refine And.intro ?_ ?_ | (refine zim ?_; intro zb hc) | (refine zin ?_; intro zb) | intro j')
    all_goals try refine zbx ?_
    all_goals trace_state
  · have f0 : (x = 0) = False := eq_false h0
    refine ⟨pbL t, n', ?_, by omega, fun l h => by have := t3 l h; omega⟩
    refine fO sgCu [2, 3] Try.func28 ?_
    have cE1 := @spec_l1New_c; have cE2 := @spec_ParseBasis_c; have cE3 := @spec_ParseBasis_f_c; have cM1 := @spec_l1Once_c
    have cE1 := @cp; have cE2 := @spec_l1New_c; have cM2 := @c1; have cM3 := @c4; have cE3 := trivial
    refine dEa (And.intro @hx @f0) ?_
    all_goals try (refine zlf ?_; repeat' first | exact zso | refine And.intro ?_ ?_ | (refine zim ?_; intro zb hc) | (refine zin ?_; intro zb) | intro j')
    all_goals try refine zbx ?_
    all_goals trace_state
theorem spec_DrawAreWilfLike_x (b : List UInt8) (hb : b.length ≤ 1048576) : ∃ a c n, Fun Try.prog 21 [.sl (.lent false) (b.map u8P)] [.sl .own (List.map (elI false) a), .sl .own (List.map (elI false) c), .int .i64 n] ∧ (a.length ≤ 8 ∧ ∀ l ∈ a, l.length ≤ 1048576) ∧ c.length ≤ 8 ∧ ∀ l ∈ c, l.length ≤ 1048576 := by
  obtain ⟨s1, a, c1, ha⟩ := spec_l12Bent_x b ⟨0, newH b (min b.length 4000)⟩ hb
  have a1 := ha.len
  have a2 : ∀ l ∈ a, l.length ≤ 1048576 := fun l h => Nat.le_trans (ha.row l h).len (by decide)
  have q1 := bwX_r (b := b) (s := s1) (n := 6)
  have q2 := bwX_r (b := b) (s := bwS b (bwS b s1 6) 12) (n := 8)
  obtain ⟨K, hK⟩ : ∃ K : Nat, bwX b (bwS b (bwS b s1 6) 12) 8 = (K : Int) := Int.eq_ofNat_of_zero_le (by omega)
  rw [hK] at q2
  have hK8 : K < 8 := by omega
  have q3 := bitI_r (decide (bwX b (bwS b s1 6) 12 = 0))
  have cs := spec_SymmetryBasis_c (m0 := true) (e0 := false) a K hK8 (by omega) a2
  have y1 := syB_len (L := a) (k := K)
  have y2 := syB_row (k := K) a2
  obtain ⟨s2, hs2⟩ : ∃ s2, bwS b (bwS b (bwS b s1 6) 12) 8 = s2 := ⟨_, rfl⟩
  obtain ⟨x, hx⟩ : ∃ x, bwX b s2 2 = x := ⟨_, rfl⟩
  obtain ⟨s4, c, c4, hc⟩ := spec_l12Bent_x b (bwS b s2 2) hb
  obtain ⟨s5, d, c5, hd⟩ := spec_l12Bent_x b s2 hb
  by_cases hB : basisB a = true
  · by_cases h0 : x = 0
    · subst h0
      refine ⟨a, syB a K, bwX b s1 6 - bitI (decide (bwX b (bwS b s1 6) 12 = 0)), ?_, ⟨by omega, a2⟩, by omega, y2⟩
      refine fO sgCu [2, 3, 4] Try.func21 ?_
      have cE1 := @spec_l1Bit_c; have cE2 := @spec_l1New_c; have cE3 := @spec_SymmetryBasis_c; have cM1 := @spec_l1Below_c; have cM2 := @spec_l1Once_c
      have cE1 := @cs; have cE2 := @spec_l1Bit_c; have cE3 := @spec_l1New_c; have cM3 := @c1
      refine dEa (And.intro @hx (And.intro @hs2 (And.intro @hK @hB))) ?_
      all_goals try (refine zlf ?_; repeat' first | exact zso | refine And.intro ?_ ?_ | (refine zim ?_; intro zb hc) | (refine zin ?_; intro zb) | intro j')
      all_goals try refine zbx ?_
      all_goals trace_state
    · have f0 : (x = 0) = False := eq_false h0
      refine ⟨a, c, bwX b s1 6 - bitI (decide (bwX b (bwS b s1 6) 12 = 0)), ?_, ⟨by omega, a2⟩, by have := hc.len; omega, fun l h => Nat.le_trans (hc.row l h).len (by decide)⟩
      refine fO sgCu [2, 3, 4] Try.func21 ?_
      have cE1 := @spec_l1Bit_c; have cE2 := @spec_l1New_c; have cE3 := @spec_SymmetryBasis_c; have cM1 := @spec_l1Below_c; have cM2 := @spec_l1Once_c
      have cE1 := @cs; have cE2 := @spec_l1Bit_c; have cE3 := @spec_l1New_c; have cM3 := @c1; have cM4 := @c4
      refine dEa (And.intro @hx (And.intro @hs2 (And.intro @hK (And.intro @hB @f0)))) ?_
      all_goals try (refine zlf ?_; repeat' first | exact zso | refine And.intro ?_ ?_ | (refine zim ?_; intro zb hc) | (refine zin ?_; intro zb) | intro j')
      all_goals try refine zbx ?_
      all_goals trace_state
  · rw [Bool.not_eq_true] at hB
    refine ⟨a, d, bwX b s1 6 - bitI (decide (bwX b (bwS b s1 6) 12 = 0)), ?_, ⟨by omega, a2⟩, by have := hd.len; omega, fun l h => Nat.le_trans (hd.row l h).len (by decide)⟩
    refine fO sgCu [2, 3, 4] Try.func21 ?_
    have cE1 := @spec_l1Bit_c; have cE2 := @spec_l1New_c; have cE3 := @spec_SymmetryBasis_c; have cM1 := @spec_l1Below_c; have cM2 := @spec_l1Once_c
    have cE1 := @cs; have cE2 := @spec_l1Bit_c; have cE3 := @spec_l1New_c; have cM3 := @c1; have cM4 := @c5
    refine dEa (And.intro @hs2 (And.intro @hK @hB)) ?_
    all_goals try (refine zlf ?_; repeat' first | exact zso | refine And.intro ?_ ?_ | (refine zim ?_; intro zb hc) | (refine zin ?_; intro zb) | intro j')
    all_goals try refine zbx ?_
    all_goals trace_state
end Go.Gl
