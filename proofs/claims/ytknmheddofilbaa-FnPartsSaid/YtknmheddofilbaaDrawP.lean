/-
  Draws for the numbers of parts, and what the law of parts asks of them. Conditions: none.
-/
import Derived.Test.YtknmheddofilbaaDrawB
import Derived.Test.YtknmheddofilbaaSumM
import Derived.Test.YtknmheddofilbaaSumC
import Derived.Test.YtknmheddofilbaaAllW
import Derived.Test.YtknmheddofilbaaSame
set_option linter.unusedSimpArgs false
set_option linter.unusedVariables false
set_option maxRecDepth 20000
set_option linter.unusedSectionVars false
namespace Go.Gl
open Go Go.Proofs
variable [Amb]
def sumI (l : List Int) : Int := l.foldl (fun a b => a + b) 0
theorem sumI_snoc {l : List Int} {x : Int} : sumI (l ++ [x]) = sumI l + x := by simp [sumI]
theorem sumI_b {m : Int} (hm : 0 ≤ m) : ∀ {k : Nat} {l : List Int}, (∀ x ∈ l, -m ≤ x ∧ x ≤ m) → k ≤ l.length → -(m * k) ≤ sumI (l.take k) ∧ sumI (l.take k) ≤ m * k
  | 0, l, _, _ => by simp [sumI]
  | k + 1, l, h, hk => by
    have ih := sumI_b hm (k := k) h (by omega)
    have h1 := h _ (getD_mem (d := 0) (show k < l.length by omega))
    rw [take_getD (d := 0) (by omega), sumI_snoc]
    have e : m * ((k + 1 : Nat) : Int) = m * k + m := by rw [show ((k + 1 : Nat) : Int) = (k : Int) + 1 by omega, Int.mul_add]; omega
    rw [e]; omega
theorem laws_total_c {m0 : Bool} (l : List Int) (hl : l.length ≤ 1048576) (hx : ∀ x ∈ l, -1048576 ≤ x ∧ x ≤ 1048576) : Fun Try.prog 56 [(.sl (.lent m0) (List.map (PV.int .i64) (l)))] [(.int .i64 (sumI l))] := by
  refine fO sg0 [2] Try.func56 ?_
  refine dEa trivial ?_
  all_goals try (refine zlf ?_; repeat' first | exact zso | refine And.intro ?_ ?_ | (refine zim ?_; intro zb hc) | (refine zin ?_; intro zb) | intro j')
  all_goals try refine zbx ?_
  refine v_loopB (fun ms1 S1 => ∃ (k : Nat), S1.e 0 = .p (.sl (.lent m0) (List.map (PV.int .i64) (l))) ∧ S1.e 3 = .p (.int .i64 (sumI (l.take k))) ∧ S1.e 4 = .p (.int .i64 (k)) ∧ (k ≤ l.length) ∧ ms1 = l.length - k) ((fun (k : Nat) => l.length - k) (0)) ?_ ⟨0, dC trivial ?_⟩
  all_goals try (refine zlf ?_; repeat' first | exact zso | refine And.intro ?_ ?_ | (refine zim ?_; intro zb hc) | (refine zin ?_; intro zb) | intro j')
  all_goals try refine zbx ?_
  rintro ms1 S1 ⟨k, h1_0, h1_3, h1_4, c1_0, hm1⟩
  have fL1 := (And.intro h1_0 (And.intro h1_3 h1_4))
  have b1 := sumI_b (m := 1048576) (by omega) hx c1_0
  by_cases hk : k < l.length
  · have b2 := hx _ (getD_mem (d := 0) hk)
    refine dEa fL1 ?_
    all_goals try (refine zlf ?_; repeat' first | exact zso | refine And.intro ?_ ?_ | (refine zim ?_; intro zb hc) | (refine zin ?_; intro zb) | intro j')
    all_goals try refine zbx ?_
    focus
      refine q_lp_n ((fun (k : Nat) => l.length - k) (k+1)) (dC fL1 ?_) ⟨k+1, dC fL1 ?_⟩
      all_goals try (refine zlf ?_; repeat' first | exact zso | refine And.intro ?_ ?_ | (refine zim ?_; intro zb hc) | (refine zin ?_; intro zb) | intro j')
      all_goals try refine zbx ?_
    all_goals (rw [take_getD (d := 0) (by omega), sumI_snoc])
  · refine dEa fL1 ?_
    all_goals try (refine zlf ?_; repeat' first | exact zso | refine And.intro ?_ ?_ | (refine zim ?_; intro zb hc) | (refine zin ?_; intro zb) | intro j')
    all_goals try refine zbx ?_
    rw [List.take_of_length_le (by omega)]
theorem spec_SumParts_n_c {m0 : Bool} (p : List Int) (hl : p.length ≤ 1048576) (hn : isPermB p = false) : Fun Try.prog 121 [(.sl (.lent m0) (List.map (PV.int .i64) (p)))] [(.sl .own (List.map (elI false) ([])))] := by
  refine fO sg0 [2] Try.func121 ?_
  have cE1 := @spec_l1Max_c; have cE2 := @spec_IsPerm_c; have cE3 := @spec_l2Pattern_c
  refine dEa @hn ?_
  all_goals try (refine zlf ?_; repeat' first | exact zso | refine And.intro ?_ ?_ | (refine zim ?_; intro zb hc) | (refine zin ?_; intro zb) | intro j')
  all_goals try refine zbx ?_
def scB (L : List (List Int)) : Bool := basisB L && L.all fun q => !isPermB q || decide (partN q ≤ 1)
theorem spec_IsSumClosed_c {e0 m0 : Bool} (L : List (List Int)) (hL : L.length ≤ 1048576) (hl : ∀ l ∈ L, l.length ≤ 1048576) : Fun Try.prog 58 [(.sl (.lent m0) (List.map (elI e0) (L)))] [(.bool (scB L))] := by
  refine fO sg0 [2] Try.func58 ?_
  have cE1 := @spec_SumParts_n_c; have cE2 := @spec_SumParts_c; have cE3 := @spec_IsBasis_c
  refine dEa trivial ?_
  all_goals try (refine zlf ?_; repeat' first | exact zso | refine And.intro ?_ ?_ | (refine zim ?_; intro zb hc) | (refine zin ?_; intro zb) | intro j')
  all_goals try refine zbx ?_
  refine v_loopB (fun ms1 S1 => ∃ (k : Nat), S1.e 0 = .p (.sl (.lent m0) (List.map (elI e0) (L))) ∧ S1.e 3 = .p (.int .i64 (k)) ∧ (k ≤ L.length) ∧ (∀ q ∈ L.take k, (!isPermB q || decide (partN q ≤ 1)) = true) ∧ ms1 = L.length - k) ((fun (k : Nat) => L.length - k) (0)) ?_ ⟨0, dC trivial ?_⟩
  all_goals try (refine zlf ?_; repeat' first | exact zso | refine And.intro ?_ ?_ | (refine zim ?_; intro zb hc) | (refine zin ?_; intro zb) | intro j')
  all_goals try refine zbx ?_
  rintro ms1 S1 ⟨k, h1_0, h1_3, c1_0, c1_1, hm1⟩
  have fL1 := (And.intro h1_0 h1_3)
  by_cases hk : k < L.length
  · have g1 := hl _ (getD_mem (d := []) hk)
    have tk := take_getD (d := []) hk
    have hst : (!isPermB (L.getD k []) || decide (partN (L.getD k []) ≤ 1)) = true → ∀ q ∈ L.take (k + 1), (!isPermB q || decide (partN q ≤ 1)) = true := fun h q hq => by
      rw [tk] at hq
      rcases List.mem_append.1 hq with hq | hq
      · exact c1_1 q hq
      · rw [List.mem_singleton] at hq; subst hq; exact h
    by_cases hp : isPermB (L.getD k []) = true
    · have b6 := partN_pt (p := L.getD k [])
      have cE1 := @spec_SumParts_c; have cE2 := @spec_IsBasis_c; have cE3 := trivial
      refine dEa (And.intro fL1 @b6) ?_
      all_goals try (refine zlf ?_; repeat' first | exact zso | refine And.intro ?_ ?_ | (refine zim ?_; intro zb hc) | (refine zin ?_; intro zb) | intro j')
      all_goals try refine zbx ?_
      · have : (L.all fun q => !isPermB q || decide (partN q ≤ 1)) = false := List.all_eq_false.2 ⟨_, getD_mem hk, by rw [hp, decide_eq_false (by omega)]; decide⟩
        rw [scB, this, Bool.and_false]
      · focus
          refine q_lp_n ((fun (k : Nat) => L.length - k) (k+1)) (dC fL1 ?_) ⟨k+1, dC fL1 ?_⟩
          all_goals try (refine zlf ?_; repeat' first | exact zso | refine And.intro ?_ ?_ | (refine zim ?_; intro zb hc) | (refine zin ?_; intro zb) | intro j')
          all_goals try refine zbx ?_
        exact hst (by rw [decide_eq_true (by omega)]; simp)
    · rw [Bool.not_eq_true] at hp
      have cE1 := @spec_SumParts_n_c; have cE2 := @spec_IsBasis_c; have cE3 := trivial
      refine dEa fL1 ?_
      all_goals try (refine zlf ?_; repeat' first | exact zso | refine And.intro ?_ ?_ | (refine zim ?_; intro zb hc) | (refine zin ?_; intro zb) | intro j')
      all_goals try refine zbx ?_
      · focus
          refine q_lp_n ((fun (k : Nat) => L.length - k) (k+1)) (dC fL1 ?_) ⟨k+1, dC fL1 ?_⟩
          all_goals try (refine zlf ?_; repeat' first | exact zso | refine And.intro ?_ ?_ | (refine zim ?_; intro zb hc) | (refine zin ?_; intro zb) | intro j')
          all_goals try refine zbx ?_
        exact hst (by rw [hp]; rfl)
  · have : (L.all fun q => !isPermB q || decide (partN q ≤ 1)) = true := by
      rw [List.take_of_length_le (by omega)] at c1_1
      exact List.all_eq_true.2 c1_1
    have cE1 := @spec_SumParts_n_c; have cE2 := @spec_SumParts_c; have cE3 := @spec_IsBasis_c
    refine dEa fL1 ?_
    all_goals try (refine zlf ?_; repeat' first | exact zso | refine And.intro ?_ ?_ | (refine zim ?_; intro zb hc) | (refine zin ?_; intro zb) | intro j')
    all_goals try refine zbx ?_
    rw [scB, this, Bool.and_true]
theorem spec_l12Case_x (b : List UInt8) (hb : b.length ≤ 1048576) : ∃ L n, Fun Try.prog 114 [.sl (.lent false) (b.map u8P)] [.sl .own (List.map (elI false) L), .int .i64 n] ∧ BnL L ∧ -1 ≤ n ∧ n ≤ 7 := by
  obtain ⟨s1, L, c1, hL⟩ := spec_l12Bent_x b ⟨0, newH b (min b.length 4000)⟩ hb
  obtain ⟨s2, n, c2, hn⟩ := spec_l1PickInt_x (m0 := true) b s1 [0, 1, 2, 3, 4, 5, 4, 5, 7, -1] hb (by decide) (by decide)
  have h8 : -1 ≤ n ∧ n ≤ 7 := by simp at hn; omega
  simp only [List.map_cons, List.map_nil] at c2
  refine ⟨L, n, ?_, hL, h8⟩
  refine fO sgCu [2, 3] Try.func114 ?_
  have cE1 := @spec_l1New_c
  have cM1 := @c1; have cM2 := @c2
  refine dEa trivial ?_
  all_goals try (refine zlf ?_; repeat' first | exact zso | refine And.intro ?_ ?_ | (refine zim ?_; intro zb hc) | (refine zin ?_; intro zb) | intro j')
  all_goals try refine zbx ?_
theorem spec_DrawWholeCounts_x (b : List UInt8) (hb : b.length ≤ 1048576) : ∃ L n, Fun Try.prog 41 [.sl (.lent false) (b.map u8P)] [.sl .own (List.map (elI false) L), .int .i64 n] ∧ BnL L ∧ -1 ≤ n ∧ n ≤ 7 := by
  obtain ⟨L, n, c1, hL⟩ := spec_l12Case_x b hb
  refine ⟨L, n, ?_, hL⟩
  refine fO sg0 [2, 3] Try.func41 ?_
  have cE1 := @c1
  refine dEa trivial ?_
  all_goals try (refine zlf ?_; repeat' first | exact zso | refine And.intro ?_ ?_ | (refine zim ?_; intro zb hc) | (refine zin ?_; intro zb) | intro j')
  all_goals try refine zbx ?_
theorem spec_DrawPartCounts_x (b : List UInt8) (hb : b.length ≤ 1048576) : ∃ L n, Fun Try.prog 43 [.sl (.lent false) (b.map u8P)] [.sl .own (List.map (elI false) L), .int .i64 n] ∧ BnL L ∧ -1 ≤ n ∧ n ≤ 7 := by
  obtain ⟨L, n, c1, hL⟩ := spec_l12Case_x b hb
  refine ⟨L, n, ?_, hL⟩
  refine fO sg0 [2, 3] Try.func43 ?_
  have cE1 := @c1
  refine dEa trivial ?_
  all_goals try (refine zlf ?_; repeat' first | exact zso | refine And.intro ?_ ?_ | (refine zim ?_; intro zb hc) | (refine zin ?_; intro zb) | intro j')
  all_goals try refine zbx ?_
theorem spec_DrawAllWhole_x (b : List UInt8) (hb : b.length ≤ 1048576) : ∃ n, Fun Try.prog 46 [.sl (.lent false) (b.map u8P)] [.int .i64 n] ∧ -1 ≤ n ∧ n ≤ 13 := by
  have q := bwX_r (b := b) (s := ⟨0, newH b (min b.length 4000)⟩) (n := 15)
  refine ⟨bwX b ⟨0, newH b (min b.length 4000)⟩ 15 - 1, ?_, by omega⟩
  refine fO sgCu [2] Try.func46 ?_
  have cE1 := @spec_l1New_c; have cM1 := @spec_l1Below_c
  refine dEa trivial ?_
  all_goals try (refine zlf ?_; repeat' first | exact zso | refine And.intro ?_ ?_ | (refine zim ?_; intro zb hc) | (refine zin ?_; intro zb) | intro j')
  all_goals try refine zbx ?_
theorem spec_DrawFactorialOf_x (b : List UInt8) (hb : b.length ≤ 1048576) : ∃ n, Fun Try.prog 47 [.sl (.lent false) (b.map u8P)] [.int .i64 n] ∧ -1 ≤ n ∧ n ≤ 22 := by
  have q := bwX_r (b := b) (s := ⟨0, newH b (min b.length 4000)⟩) (n := 24)
  refine ⟨bwX b ⟨0, newH b (min b.length 4000)⟩ 24 - 1, ?_, by omega⟩
  refine fO sgCu [2] Try.func47 ?_
  have cE1 := @spec_l1New_c; have cM1 := @spec_l1Below_c
  refine dEa trivial ?_
  all_goals try (refine zlf ?_; repeat' first | exact zso | refine And.intro ?_ ?_ | (refine zim ?_; intro zb hc) | (refine zin ?_; intro zb) | intro j')
  all_goals try refine zbx ?_
def nbL (b : List UInt8) (s : Cu) : Nat → List Int × Cu
  | 0 => ([], s)
  | k + 1 => ((nbL b s k).1 ++ [bwX b (nbL b s k).2 9], bwS b (nbL b s k).2 9)
theorem nbL_len {b : List UInt8} {s : Cu} : ∀ {k : Nat}, (nbL b s k).1.length = k
  | 0 => rfl
  | k + 1 => by rw [nbL, List.length_append, nbL_len]; rfl
set_option maxHeartbeats 4000000 in
theorem spec_DrawSumCounts_x (b : List UInt8) (hb : b.length ≤ 1048576) : ∃ w n, Fun Try.prog 45 [.sl (.lent false) (b.map u8P)] [.sl .own (List.map (PV.int .i64) w), .int .i64 n] ∧ w.length ≤ 6 := by
  obtain ⟨s0, hs0⟩ : ∃ s0 : Cu, (⟨0, newH b (min b.length 4000)⟩ : Cu) = s0 := ⟨_, rfl⟩
  have q1 := bwX_r (b := b) (s := s0) (n := 6)
  obtain ⟨N, hN⟩ : ∃ N : Nat, bwX b s0 6 = N := ⟨_, (Int.toNat_of_nonneg q1.1).symm⟩
  rw [hN] at q1
  obtain ⟨s1, hs1⟩ : ∃ s1, bwS b s0 6 = s1 := ⟨_, rfl⟩
  have gl := nbL_len (b := b) (s := s1) (k := N)
  obtain ⟨W, hW⟩ : ∃ W, (nbL b s1 N).1 = W := ⟨_, rfl⟩
  obtain ⟨s2, hs2⟩ : ∃ s2, (nbL b s1 N).2 = s2 := ⟨_, rfl⟩
  by_cases h0 : 0 < N
  · obtain ⟨x, hx⟩ : ∃ x, bwX b s2 12 = x := ⟨_, rfl⟩
    have f1 : ((0 : Int) < (N : Int)) = True := eq_true (by omega)
    by_cases x0 : x = 0
    · subst x0
      obtain ⟨s4, v, c4, _⟩ := spec_l1PickInt_x (m0 := true) b (bwS b s2 12) [-1, 1000, 1001] hb (by decide) (by decide)
      simp only [List.map_cons, List.map_nil] at c4
      have q5 := bwX_r (b := b) (s := s4) (n := 12)
      have q6 := bitI_r (decide (bwX b (bwS b s4 12) 12 = 0))
      refine ⟨W.set 0 v, bwX b s4 12 - bitI (decide (bwX b (bwS b s4 12) 12 = 0)), ?_, by rw [List.length_set, ← hW, gl]; omega⟩
      refine fO sgCu [2, 3] Try.func45 ?_
      have cE1 := @spec_l1Bit_c; have cE2 := @spec_l1New_c; have cM1 := @spec_l1Below_c; have cM2 := @spec_l1Once_c
      refine dEa (And.intro @hs0 (And.intro @hN @hs1)) ?_
      all_goals try (refine zlf ?_; repeat' first | exact zso | refine And.intro ?_ ?_ | (refine zim ?_; intro zb hc) | (refine zin ?_; intro zb) | intro j')
      all_goals try refine zbx ?_
      refine v_loopB (fun ms1 S1 => ∃ (k : Nat), PtrL (S1.e 4) S1.h S1.n (.live false (curC b (nbL b s1 k).2)) ∧ OwnL (S1.e 5) S1.h S1.n (PV.int .i64) (((nbL b s1 k).1).length) ((nbL b s1 k).1) ∧ S1.e 6 = .p (.int .i64 (N)) ∧ S1.e 7 = .p (.int .i64 (k)) ∧ (k ≤ N) ∧ NId (S1.e 5) (asR (S1.e 4)) ∧ ms1 = N - k) ((fun (k : Nat) => N - k) (0)) ?_ ⟨0, dC trivial ?_⟩
      all_goals try (refine zlf ?_; repeat' first | exact zso | refine And.intro ?_ ?_ | (refine zim ?_; intro zb hc) | (refine zin ?_; intro zb) | intro j')
      all_goals try refine zbx ?_
      rintro ms1 S1 ⟨k, o1_4, o1_5, h1_6, h1_7, c1_0, u1_0, hm1⟩
      obtain ⟨i1_4, h1_4, b1_4, l1_4⟩ := o1_4.out
      obtain ⟨i1_5, h1_5, b1_5, l1_5⟩ := o1_5.out
      have k1_0 := (u1_0).out h1_5 (asR_eq h1_4)
      have ni1_4 := znds (x := i1_4) (n := S1.n)
      have ni1_5 := znds (x := i1_5) (n := S1.n)
      have di1_4i1_5 := zdne (x := i1_4) (y := i1_5)
      have fL1 := (And.intro h1_6 (And.intro h1_7 (And.intro h1_4 (And.intro b1_4 (And.intro h1_5 (And.intro b1_5 (And.intro ni1_4 (And.intro ni1_5 di1_4i1_5))))))))
      · have gk := nbL_len (b := b) (s := s1) (k := k)
        by_cases hk : k < N
        · have q7 := bwX_r (b := b) (s := (nbL b s1 k).2) (n := 9)
          refine dEa fL1 ?_
          all_goals try (refine zlf ?_; repeat' first | exact zso | refine And.intro ?_ ?_ | (refine zim ?_; intro zb hc) | (refine zin ?_; intro zb) | intro j')
          all_goals try refine zbx ?_
          focus
            refine q_lp_n ((fun (k : Nat) => N - k) (k+1)) (dC fL1 ?_) ⟨k+1, dC fL1 ?_⟩
            all_goals try (refine zlf ?_; repeat' first | exact zso | refine And.intro ?_ ?_ | (refine zim ?_; intro zb hc) | (refine zin ?_; intro zb) | intro j')
            all_goals try refine zbx ?_
          all_goals (rw [nbL]; simp)
        · obtain rfl : k = N := by omega
          have hl : W.length = k := by rw [← hW]; exact gl
          have cM3 := @c4
          refine dEa (And.intro fL1 (And.intro @hW (And.intro @hs2 (And.intro @hx @f1)))) ?_
          all_goals try (refine zlf ?_; repeat' first | exact zso | refine And.intro ?_ ?_ | (refine zim ?_; intro zb hc) | (refine zin ?_; intro zb) | intro j')
          all_goals try refine zbx ?_
          all_goals trace_state
      all_goals rfl
    · have f0 : (x = 0) = False := eq_false x0
      have q5 := bwX_r (b := b) (s := bwS b s2 12) (n := 12)
      have q6 := bitI_r (decide (bwX b (bwS b (bwS b s2 12) 12) 12 = 0))
      refine ⟨W, bwX b (bwS b s2 12) 12 - bitI (decide (bwX b (bwS b (bwS b s2 12) 12) 12 = 0)), ?_, by rw [← hW, gl]; omega⟩
      refine fO sgCu [2, 3] Try.func45 ?_
      have cE1 := @spec_l1Bit_c; have cE2 := @spec_l1New_c; have cM1 := @spec_l1Below_c; have cM2 := @spec_l1Once_c
      refine dEa (And.intro @hs0 (And.intro @hN @hs1)) ?_
      all_goals try (refine zlf ?_; repeat' first | exact zso | refine And.intro ?_ ?_ | (refine zim ?_; intro zb hc) | (refine zin ?_; intro zb) | intro j')
      all_goals try refine zbx ?_
      refine v_loopB (fun ms1 S1 => ∃ (k : Nat), PtrL (S1.e 4) S1.h S1.n (.live false (curC b (nbL b s1 k).2)) ∧ OwnL (S1.e 5) S1.h S1.n (PV.int .i64) (((nbL b s1 k).1).length) ((nbL b s1 k).1) ∧ S1.e 6 = .p (.int .i64 (N)) ∧ S1.e 7 = .p (.int .i64 (k)) ∧ (k ≤ N) ∧ NId (S1.e 5) (asR (S1.e 4)) ∧ ms1 = N - k) ((fun (k : Nat) => N - k) (0)) ?_ ⟨0, dC trivial ?_⟩
      all_goals try (refine zlf ?_; repeat' first | exact zso | refine And.intro ?_ ?_ | (refine zim ?_; intro zb hc) | (refine zin ?_; intro zb) | intro j')
      all_goals try refine zbx ?_
      rintro ms1 S1 ⟨k, o1_4, o1_5, h1_6, h1_7, c1_0, u1_0, hm1⟩
      obtain ⟨i1_4, h1_4, b1_4, l1_4⟩ := o1_4.out
      obtain ⟨i1_5, h1_5, b1_5, l1_5⟩ := o1_5.out
      have k1_0 := (u1_0).out h1_5 (asR_eq h1_4)
      have ni1_4 := znds (x := i1_4) (n := S1.n)
      have ni1_5 := znds (x := i1_5) (n := S1.n)
      have di1_4i1_5 := zdne (x := i1_4) (y := i1_5)
      have fL1 := (And.intro h1_6 (And.intro h1_7 (And.intro h1_4 (And.intro b1_4 (And.intro h1_5 (And.intro b1_5 (And.intro ni1_4 (And.intro ni1_5 di1_4i1_5))))))))
      · have gk := nbL_len (b := b) (s := s1) (k := k)
        by_cases hk : k < N
        · have q7 := bwX_r (b := b) (s := (nbL b s1 k).2) (n := 9)
          refine dEa fL1 ?_
          all_goals try (refine zlf ?_; repeat' first | exact zso | refine And.intro ?_ ?_ | (refine zim ?_; intro zb hc) | (refine zin ?_; intro zb) | intro j')
          all_goals try refine zbx ?_
          focus
            refine q_lp_n ((fun (k : Nat) => N - k) (k+1)) (dC fL1 ?_) ⟨k+1, dC fL1 ?_⟩
            all_goals try (refine zlf ?_; repeat' first | exact zso | refine And.intro ?_ ?_ | (refine zim ?_; intro zb hc) | (refine zin ?_; intro zb) | intro j')
            all_goals try refine zbx ?_
          all_goals (rw [nbL]; simp)
        · obtain rfl : k = N := by omega
          have hl : W.length = k := by rw [← hW]; exact gl
          refine dEa (And.intro fL1 (And.intro @hW (And.intro @hs2 (And.intro @hx (And.intro @f1 @f0))))) ?_
          all_goals try (refine zlf ?_; repeat' first | exact zso | refine And.intro ?_ ?_ | (refine zim ?_; intro zb hc) | (refine zin ?_; intro zb) | intro j')
          all_goals try refine zbx ?_
          all_goals trace_state
      all_goals rfl
  · have f1 : ((0 : Int) < (N : Int)) = False := eq_false (by omega)
    have q5 := bwX_r (b := b) (s := s2) (n := 12)
    have q6 := bitI_r (decide (bwX b (bwS b s2 12) 12 = 0))
    refine ⟨W, bwX b s2 12 - bitI (decide (bwX b (bwS b s2 12) 12 = 0)), ?_, by rw [← hW, gl]; omega⟩
    refine fO sgCu [2, 3] Try.func45 ?_
    have cE1 := @spec_l1Bit_c; have cE2 := @spec_l1New_c; have cM1 := @spec_l1Below_c; have cM2 := @spec_l1Once_c
    refine dEa (And.intro @hs0 (And.intro @hN @hs1)) ?_
    all_goals try (refine zlf ?_; repeat' first | exact zso | refine And.intro ?_ ?_ | (refine zim ?_; intro zb hc) | (refine zin ?_; intro zb) | intro j')
    all_goals try refine zbx ?_
    refine v_loopB (fun ms1 S1 => ∃ (k : Nat), PtrL (S1.e 4) S1.h S1.n (.live false (curC b (nbL b s1 k).2)) ∧ OwnL (S1.e 5) S1.h S1.n (PV.int .i64) (((nbL b s1 k).1).length) ((nbL b s1 k).1) ∧ S1.e 6 = .p (.int .i64 (N)) ∧ S1.e 7 = .p (.int .i64 (k)) ∧ (k ≤ N) ∧ NId (S1.e 5) (asR (S1.e 4)) ∧ ms1 = N - k) ((fun (k : Nat) => N - k) (0)) ?_ ⟨0, dC trivial ?_⟩
    all_goals try (refine zlf ?_; repeat' first | exact zso | refine And.intro ?_ ?_ | (refine zim ?_; intro zb hc) | (refine zin ?_; intro zb) | intro j')
    all_goals try refine zbx ?_
    rintro ms1 S1 ⟨k, o1_4, o1_5, h1_6, h1_7, c1_0, u1_0, hm1⟩
    obtain ⟨i1_4, h1_4, b1_4, l1_4⟩ := o1_4.out
    obtain ⟨i1_5, h1_5, b1_5, l1_5⟩ := o1_5.out
    have k1_0 := (u1_0).out h1_5 (asR_eq h1_4)
    have ni1_4 := znds (x := i1_4) (n := S1.n)
    have ni1_5 := znds (x := i1_5) (n := S1.n)
    have di1_4i1_5 := zdne (x := i1_4) (y := i1_5)
    have fL1 := (And.intro h1_6 (And.intro h1_7 (And.intro h1_4 (And.intro b1_4 (And.intro h1_5 (And.intro b1_5 (And.intro ni1_4 (And.intro ni1_5 di1_4i1_5))))))))
    · by_cases hk : k < N
      · omega
      · obtain rfl : k = N := by omega
        have hl : W.length = k := by rw [← hW, gl]
        refine dEa (And.intro fL1 (And.intro @hW (And.intro @hs2 @f1))) ?_
        all_goals try (refine zlf ?_; repeat' first | exact zso | refine And.intro ?_ ?_ | (refine zim ?_; intro zb hc) | (refine zin ?_; intro zb) | intro j')
        all_goals try refine zbx ?_
        all_goals trace_state
    all_goals rfl
end Go.Gl
