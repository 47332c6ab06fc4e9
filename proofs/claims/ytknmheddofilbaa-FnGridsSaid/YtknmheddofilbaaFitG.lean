/-
  Cuts, parts, and whether a permutation fits a grid. Conditions: none.
-/
import Derived.Test.YtknmheddofilbaaParts
import Derived.Test.YtknmheddofilbaaGrid
import Derived.WideKeyPair
set_option linter.unusedSimpArgs false
set_option linter.unusedVariables false
set_option maxRecDepth 20000
set_option linter.unusedSectionVars false
namespace Go.Gl
open Go Go.Proofs
variable [Amb]
theorem ar93 : WideMaps.ArrKey Try.prog 106 3 2 := ⟨by kernel_rfl, by kernel_rfl, by kernel_rfl, by kernel_rfl⟩
theorem ko93 {a b : Int} (ha : inR .i64 a) (hb : inR .i64 b) : kOf Try.prog 106 (kV (.agg [.int .i64 a, .int .i64 b])) := by
  have wa : (Lit.int .i64 a).wf = true := by simp only [Lit.wf, decide_eq_true_eq, Bool.and_eq_true]; exact ha
  have wb : (Lit.int .i64 b).wf = true := by simp only [Lit.wf, decide_eq_true_eq, Bool.and_eq_true]; exact hb
  exact ⟨_, WideMaps.keyOf_pair ar93 (show Try.prog.underlying 3 = some (.int .i64) by kernel_rfl) ⟨Try.prog.types.size - 1, by kernel_rfl⟩ wa wb⟩
/-! ### cuts -/
def srtB (l : List Int) : Bool := (List.range l.length).all fun i => decide (i = 0) || decide (l.getD (i - 1) 0 ≤ l.getD i 0)
theorem srtB_iff {l : List Int} : srtB l = true ↔ ∀ i, i < l.length → 0 < i → l.getD (i - 1) 0 ≤ l.getD i 0 := by
  simp only [srtB, List.all_eq_true, List.mem_range, Bool.or_eq_true, decide_eq_true_eq]
  constructor
  · intro h i hi h0; rcases h i hi with h | h
    · omega
    · exact h
  · intro h i hi
    by_cases h0 : i = 0
    · exact .inl h0
    · exact .inr (h i hi (by omega))
def cutB (l : List Int) (many : Int) (n : Int) : Bool := decide ((l.length : Int) = many) && srtB l && l.all fun c => decide (0 ≤ c) && decide (c ≤ n)
theorem cutB_iff {l : List Int} {m n : Int} : cutB l m n = true ↔ (l.length : Int) = m ∧ ∀ i, i < l.length → 0 ≤ l.getD i 0 ∧ l.getD i 0 ≤ n ∧ (0 < i → l.getD (i - 1) 0 ≤ l.getD i 0) := by
  simp only [cutB, Bool.and_eq_true, decide_eq_true_eq, srtB_iff, List.all_eq_true]
  constructor
  · rintro ⟨⟨h1, h2⟩, h3⟩
    exact ⟨h1, fun i hi => ⟨(h3 _ (getD_mem hi)).1, (h3 _ (getD_mem hi)).2, h2 i hi⟩⟩
  · rintro ⟨h1, h2⟩
    refine ⟨⟨h1, fun i hi h0 => (h2 i hi).2.2 h0⟩, fun x hx => ?_⟩
    obtain ⟨i, hi, rfl⟩ := List.getElem_of_mem hx
    have := h2 i hi
    rw [List.getD_eq_getElem?_getD, List.getElem?_eq_getElem hi] at this
    exact ⟨this.1, this.2.1⟩
theorem cutB_f {l : List Int} {m n : Int} {i : Nat} (hi : i < l.length) (h : ¬ (0 ≤ l.getD i 0 ∧ l.getD i 0 ≤ n ∧ (0 < i → l.getD (i - 1) 0 ≤ l.getD i 0))) : false = cutB l m n :=
  (Bool.eq_false_iff.2 fun e => h ((cutB_iff.1 e).2 i hi)).symm
theorem srt_mono {l : List Int} (h : srtB l = true) : ∀ {j i : Nat}, i ≤ j → j < l.length → l.getD i 0 ≤ l.getD j 0
  | 0, i, hi, _ => by obtain rfl : i = 0 := by omega
                      exact Int.le_refl _
  | j + 1, i, hi, hj => by
    by_cases e : i = j + 1
    · subst e; exact Int.le_refl _
    · have h1 := srt_mono h (show i ≤ j by omega) (by omega)
      have h2 := srtB_iff.1 h (j + 1) hj (by omega)
      simp only [Nat.add_sub_cancel] at h2
      omega
/-- The part in which a number is (from 0 on). -/
def prtI (l : List Int) (x : Int) : Int := rkI l x l.length - 1
theorem rkI_none {l : List Int} {x : Int} {k : Nat} : ∀ {j : Nat}, k + j ≤ l.length → (∀ i, k ≤ i → i < k + j → x ≤ l.getD i 0) → rkI l x (k + j) = rkI l x k
  | 0, _, _ => rfl
  | j + 1, h, hx => by
    rw [← Nat.add_assoc, rkI_succ (by omega), rkI_none (by omega) fun i h1 h2 => hx i h1 (by omega), decide_eq_false (by have := hx (k + j) (by omega) (by omega); omega)]
    simp [bitI]
theorem prt_b {l : List Int} {x : Int} : 0 ≤ prtI l x ∧ prtI l x ≤ l.length := by have := rkI_b (l := l) (x := x) (k := l.length); unfold prtI; omega
theorem impl_partOf_c {m0 : Bool} (l : List Int) (x : Int) (hl : l.length ≤ 1048576) (hs : srtB l = true) : Fun Try.prog 151 [(.sl (.lent m0) (List.map (PV.int .i64) (l))), (.int .i64 (x))] [(.int .i64 (prtI l x))] := by
  refine fO sg0 [4] Try.func151 ?_
  refine dEa trivial ?_
  all_goals try (refine zlf ?_; repeat' first | exact zso | refine And.intro ?_ ?_ | (refine zim ?_; intro zb hc) | (refine zin ?_; intro zb) | intro j')
  all_goals try refine zbx ?_
  refine v_loopB (fun ms1 S1 => ∃ (k : Nat), S1.e 0 = .p (.sl (.lent m0) (List.map (PV.int .i64) (l))) ∧ S1.e 1 = .p (.int .i64 (x)) ∧ S1.e 5 = .p (.int .i64 (k)) ∧ (k ≤ l.length) ∧ (rkI l x k = k + 1) ∧ ms1 = l.length - k) ((fun (k : Nat) => l.length - k) (0)) ?_ ⟨0, dIa trivial ?_⟩
  all_goals try (refine zlf ?_; repeat' first | exact zso | refine And.intro ?_ ?_ | (refine zim ?_; intro zb hc) | (refine zin ?_; intro zb) | intro j')
  all_goals try refine zbx ?_
  rintro ms1 S1 ⟨k, h1_0, h1_1, h1_5, c1_0, c1_1, hm1⟩
  have fL1 := (And.intro h1_0 (And.intro h1_1 h1_5))
  refine dEa fL1 ?_
  all_goals try (refine zlf ?_; repeat' first | exact zso | refine And.intro ?_ ?_ | (refine zim ?_; intro zb hc) | (refine zin ?_; intro zb) | intro j')
  all_goals try refine zbx ?_
  · focus
      refine q_lp_n ((fun (k : Nat) => l.length - k) (k+1)) (dC fL1 ?_) ⟨k+1, dC fL1 ?_⟩
      all_goals try (refine zlf ?_; repeat' first | exact zso | refine And.intro ?_ ?_ | (refine zim ?_; intro zb hc) | (refine zin ?_; intro zb) | intro j')
      all_goals try refine zbx ?_
    rw [rkI_succ (by omega), c1_1, decide_eq_true hc]; simp [bitI]
  · have e := rkI_none (l := l) (x := x) (k := k) (j := l.length - k) (by omega) fun i h1 h2 => by
      have := srt_mono hs h1 (by omega); omega
    rw [show k + (l.length - k) = l.length by omega] at e
    unfold prtI; omega
  · obtain rfl : k = l.length := by omega
    unfold prtI; omega
theorem spec_l32Part_c {m0 : Bool} (l : List Int) (x : Int) (hl : l.length ≤ 1048576) : Fun Try.prog 147 [(.sl (.lent m0) (List.map (PV.int .i64) (l))), (.int .i64 (x))] [(.int .i64 (prtI l x))] := by
  refine fO sg0 [4] Try.func147 ?_
  have cE1 := @spec_l1Bit_c
  refine dEa trivial ?_
  all_goals try (refine zlf ?_; repeat' first | exact zso | refine And.intro ?_ ?_ | (refine zim ?_; intro zb hc) | (refine zin ?_; intro zb) | intro j')
  all_goals try refine zbx ?_
  refine v_loopB (fun ms1 S1 => ∃ (k : Nat), S1.e 0 = .p (.sl (.lent m0) (List.map (PV.int .i64) (l))) ∧ S1.e 1 = .p (.int .i64 (x)) ∧ S1.e 6 = .p (.int .i64 (k)) ∧ S1.e 5 = .p (.int .i64 (rkI l x k - 1)) ∧ (k ≤ l.length) ∧ ms1 = l.length - k) ((fun (k : Nat) => l.length - k) (0)) ?_ ⟨0, dIa trivial ?_⟩
  all_goals try (refine zlf ?_; repeat' first | exact zso | refine And.intro ?_ ?_ | (refine zim ?_; intro zb hc) | (refine zin ?_; intro zb) | intro j')
  all_goals try refine zbx ?_
  rintro ms1 S1 ⟨k, h1_0, h1_1, h1_6, h1_5, c1_0, hm1⟩
  have fL1 := (And.intro h1_0 (And.intro h1_1 (And.intro h1_6 h1_5)))
  have b1 := rkI_b (l := l) (x := x) (k := k)
  have b2 : bitI (decide (l.getD k 0 < x)) ≤ 1 ∧ 0 ≤ bitI (decide (l.getD k 0 < x)) := by unfold bitI; split <;> omega
  refine dEa fL1 ?_
  all_goals try (refine zlf ?_; repeat' first | exact zso | refine And.intro ?_ ?_ | (refine zim ?_; intro zb hc) | (refine zin ?_; intro zb) | intro j')
  all_goals try refine zbx ?_
  · focus
      refine q_lp_n ((fun (k : Nat) => l.length - k) (k+1)) (dC fL1 ?_) ⟨k+1, dC fL1 ?_⟩
      all_goals try (refine zlf ?_; repeat' first | exact zso | refine And.intro ?_ ?_ | (refine zim ?_; intro zb hc) | (refine zin ?_; intro zb) | intro j')
      all_goals try refine zbx ?_
    rw [rkI_succ (by omega)]; omega
  · obtain rfl : k = l.length := by omega
    rfl
theorem cmp_Less_int_c (x : Int) (y : Int) : Fun Try.prog 181 [(.int .i64 (x)), (.int .i64 (y))] [(.bool (decide (x < y)))] := by
  refine fO sg0 [4] Try.func181 ?_
  have cE1 := @cmp_isNaN_int_c
  refine dEa trivial ?_
  all_goals try (refine zlf ?_; repeat' first | exact zso | refine And.intro ?_ ?_ | (refine zim ?_; intro zb hc) | (refine zin ?_; intro zb) | intro j')
  all_goals try refine zbx ?_
theorem slices_IsSorted_int_int_c {m0 : Bool} (l : List Int) (hl : l.length ≤ 1048576) : Fun Try.prog 149 [(.sl (.lent m0) (List.map (PV.int .i64) (l)))] [(.bool (srtB l))] := by
  refine fO sg0 [2] Try.func149 ?_
  have cE1 := @cmp_Less_int_c; have cD1 := zdh [false, false, false, false, false, false, false, false, false, true] []
  refine dEa trivial ?_
  all_goals try (refine zlf ?_; repeat' first | exact zso | refine And.intro ?_ ?_ | (refine zim ?_; intro zb hc) | (refine zin ?_; intro zb) | intro j')
  all_goals try refine zbx ?_
  refine v_loopB (fun ms1 S1 => ∃ (k : Nat), S1.e 0 = .p (.sl (.lent m0) (List.map (PV.int .i64) (l))) ∧ S1.e 3 = .p (.int .i64 (k - 1)) ∧ (k ≤ l.length) ∧ (∀ i, k ≤ i → i < l.length → 0 < i → l.getD (i - 1) 0 ≤ l.getD i 0) ∧ ms1 = k) ((fun (k : Nat) => k) (l.length)) ?_ ⟨l.length, dIa trivial ?_⟩
  all_goals try (refine zlf ?_; repeat' first | exact zso | refine And.intro ?_ ?_ | (refine zim ?_; intro zb hc) | (refine zin ?_; intro zb) | intro j')
  all_goals try refine zbx ?_
  rintro ms1 S1 ⟨k, h1_0, h1_3, c1_0, c1_1, hm1⟩
  have fL1 := (And.intro h1_0 h1_3)
  have e1 : ((k : Int) - 1).toNat = k - 1 := by omega
  have e2 : ((k : Int) - 1 - 1).toNat = k - 1 - 1 := by omega
  refine dEa fL1 ?_
  all_goals try (refine zlf ?_; repeat' first | exact zso | refine And.intro ?_ ?_ | (refine zim ?_; intro zb hc) | (refine zin ?_; intro zb) | intro j')
  all_goals try refine zbx ?_
  · refine (Bool.eq_false_iff.2 fun h => ?_).symm
    have := srtB_iff.1 h (k - 1) (by omega) (by omega)
    rw [e1, e2] at hc; omega
  · focus
      refine q_lp_n ((fun (k : Nat) => k) (k-1)) (dC fL1 ?_) ⟨k-1, dC fL1 ?_⟩
      all_goals try (refine zlf ?_; repeat' first | exact zso | refine And.intro ?_ ?_ | (refine zim ?_; intro zb hc) | (refine zin ?_; intro zb) | intro j')
      all_goals try refine zbx ?_
    intro i h1 h2 h3
    by_cases h4 : i = k - 1
    · subst h4; rw [e1, e2] at hc; exact hc
    · exact c1_1 i (by omega) h2 h3
  · refine (srtB_iff.2 fun i h1 h2 => c1_1 i (by omega) h1 h2).symm
theorem impl_areCuts_1_c (c : Int) (n : Int) : Fun Try.prog 150 [(.int .i64 (c)), (.pc [.int .i64 n])] [(.bool ((decide (c < 0) || decide (n < c))))] := by
  refine fO sg0 [3] Try.func150 ?_
  refine dEa trivial ?_
  all_goals try (refine zlf ?_; repeat' first | exact zso | refine And.intro ?_ ?_ | (refine zim ?_; intro zb hc) | (refine zin ?_; intro zb) | intro j')
  all_goals try refine zbx ?_
  · rw [Bool.false_or]
  · rw [Bool.true_or]
theorem impl_areCuts_c {m0 : Bool} (l : List Int) (many : Int) (n : Int) (hl : l.length ≤ 1048576) : Fun Try.prog 92 [(.sl (.lent m0) (List.map (PV.int .i64) (l))), (.int .i64 (many)), (.int .i64 (n))] [(.bool (cutB l many n))] := by
  refine fO sg0 [6] Try.func92 ?_
  have cE1 := @slices_IsSorted_int_int_c; have cE2 := @slices_ContainsFunc_int_int_c
  have c1 := slices_ContainsFunc_int_int_c (m0 := m0) l 150 [.pc [.int .i64 n]] (fun c => decide (c < 0) || decide (n < c)) (by omega) (fun x _ => impl_areCuts_1_c x n)
  have e1 : (!l.any fun c => decide (c < 0) || decide (n < c)) = l.all fun c => decide (0 ≤ c) && decide (c ≤ n) := by
    rw [List.not_any_eq_all_not]; congr 1; funext c
    by_cases h1 : c < 0 <;> by_cases h2 : n < c <;> simp [h1, h2] <;> omega
  have cE1 := @c1; have cE2 := @slices_IsSorted_int_int_c; have cE3 := @slices_ContainsFunc_int_int_c
  refine dEa trivial ?_
  all_goals try (refine zlf ?_; repeat' first | exact zso | refine And.intro ?_ ?_ | (refine zim ?_; intro zb hc; repeat (have zc := zb.1; replace zb := zb.2)) | (refine zin ?_; intro zb) | intro j')
  all_goals try refine zbx ?_
  · rw [e1, cutB, hc, decide_eq_true (by assumption)]; rfl
  · rw [cutB, hc]; simp
  · rw [cutB, decide_eq_false hc]; rfl
theorem spec_l32Cuts_c {m0 : Bool} (l : List Int) (parts : Int) (n : Int) (hl : l.length ≤ 1048576) (hp : -1000 ≤ parts ∧ parts ≤ 1000) : Fun Try.prog 94 [(.sl (.lent m0) (List.map (PV.int .i64) (l))), (.int .i64 (parts)), (.int .i64 (n))] [(.bool (cutB l (parts - 1) n))] := by
  refine fO sg0 [6] Try.func94 ?_
  have cE1 := @spec_l1In_c; have cD1 := zdh [false, false, false, false, false, true, false, false, false, false, false, false, false, false, false, false, false, false, false, false, false, false, false] []
  refine dEa trivial ?_
  all_goals try (refine zlf ?_; repeat' first | exact zso | refine And.intro ?_ ?_ | (refine zim ?_; intro zb hc; repeat (have zc := zb.1; replace zb := zb.2)) | (refine zin ?_; intro zb) | intro j')
  all_goals try refine zbx ?_
  refine v_loopB (fun ms1 S1 => ∃ (k : Nat), S1.e 0 = .p (.sl (.lent m0) (List.map (PV.int .i64) (l))) ∧ S1.e 1 = .p (.int .i64 (parts)) ∧ S1.e 2 = .p (.int .i64 (n)) ∧ S1.e 7 = .p (.int .i64 (k)) ∧ (k ≤ l.length) ∧ (∀ i, i < k → 0 ≤ l.getD i 0 ∧ l.getD i 0 ≤ n ∧ (0 < i → l.getD (i - 1) 0 ≤ l.getD i 0)) ∧ ms1 = l.length - k) ((fun (k : Nat) => l.length - k) (0)) ?_ ⟨0, dIa trivial ?_⟩
  all_goals try (refine zlf ?_; repeat' first | exact zso | refine And.intro ?_ ?_ | (refine zim ?_; intro zb hc; repeat (have zc := zb.1; replace zb := zb.2)) | (refine zin ?_; intro zb) | intro j')
  all_goals try refine zbx ?_
  rintro ms1 S1 ⟨k, h1_0, h1_1, h1_2, h1_7, c1_0, c1_1, hm1⟩
  have fL1 := (And.intro h1_0 (And.intro h1_1 (And.intro h1_2 h1_7)))
  refine dEa fL1 ?_
  all_goals try (refine zlf ?_; repeat' first | exact zso | refine And.intro ?_ ?_ | (refine zim ?_; intro zb hc; repeat (have zc := zb.1; replace zb := zb.2)) | (refine zin ?_; intro zb) | intro j')
  all_goals try refine zbx ?_
  · have e1 : ((k : Int) - 1).toNat = k - 1 := by omega
    rw [e1] at hc
    exact cutB_f (i := k) (by assumption) fun h => by have := h.2.2 (by omega); omega
  · have e1 : ((k : Int) - 1).toNat = k - 1 := by omega
    rw [e1] at hc
    focus
      refine q_lp_n ((fun (k : Nat) => l.length - k) (k+1)) (dC fL1 ?_) ⟨k+1, dC fL1 ?_⟩
      all_goals try (refine zlf ?_; repeat' first | exact zso | refine And.intro ?_ ?_ | (refine zim ?_; intro zb hc; repeat (have zc := zb.1; replace zb := zb.2)) | (refine zin ?_; intro zb) | intro j')
      all_goals try refine zbx ?_
    intro i hi
    by_cases e : i = k
    · subst e; exact ⟨by omega, by omega, fun _ => hc⟩
    · exact c1_1 i (by omega)
  · focus
      refine q_lp_n ((fun (k : Nat) => l.length - k) (k+1)) (dC fL1 ?_) ⟨k+1, dC fL1 ?_⟩
      all_goals try (refine zlf ?_; repeat' first | exact zso | refine And.intro ?_ ?_ | (refine zim ?_; intro zb hc; repeat (have zc := zb.1; replace zb := zb.2)) | (refine zin ?_; intro zb) | intro j')
      all_goals try refine zbx ?_
    intro i hi
    by_cases e : i = k
    · subst e; exact ⟨by omega, by omega, fun h => by omega⟩
    · exact c1_1 i (by omega)
  · exact cutB_f (i := k) (by assumption) fun h => by omega
  · obtain rfl : k = l.length := by omega
    rw [Bool.eq_iff_iff, decide_eq_true_eq, cutB_iff]
    exact ⟨fun h => ⟨h, c1_1⟩, fun h => h.1⟩
end Go.Gl
