/-
  Numbers as texts, by the library. Conditions: none.
-/
import Derived.Test.YtkaebeblkpnhmaaGreatDoorPText
import Derived.Test.YtkaebeblkpnhmaaGreatDoorGlC
import Derived.Lib.ItoaLen
import Derived.Lib.AppendIntMem
set_option linter.unusedSimpArgs false
set_option linter.unusedVariables false
set_option maxRecDepth 20000
set_option linter.unusedSectionVars false
namespace Go.Gl
open Go Go.Proofs
variable [Amb]
/-- The table of powers of ten stands where the library looks for it. -/
class TabA [Amb] : Prop where
  has : ∀ w : World, (∀ B o, Amb.tb B = some o → w.heap[B]? = some o) → Lib.TabIs Tryz.prog w "internal/strconv.uint64pow10" .u64 Lib.pow10Tab
variable [TabA]
theorem digs_dec : ∀ (m : Nat) (acc : List UInt8), m ≠ 0 → m < 9223372036854775809 → digs m acc = Lib.decDigits m ++ acc := by
  intro m
  induction m using Nat.strongRecOn with
  | _ m ih =>
    intro acc h hb
    rw [digs_step h hb, Lib.decDigits]
    have e : chI ((m % 10 : Nat) : Int) = UInt8.ofNat (48 + m % 10) := by unfold chI; congr 1
    split
    · rw [show m / 10 = 0 by omega, digs_0, e, show m % 10 = m by omega]; rfl
    · rw [ih (m / 10) (by omega) _ (by omega) (by omega), e, List.append_assoc]; rfl
theorem fmtI_itoa {n : Int} (h0 : -9223372036854775808 ≤ n) (h1 : n ≤ 9223372036854775807) : Lib.itoa n = fmtI n := by
  unfold Lib.itoa fmtI
  by_cases hz : n = 0
  · subst hz; rw [if_neg (by omega), if_pos rfl, Lib.decDigits, dif_pos (by omega)]; rfl
  · rw [if_neg hz]
    by_cases hn : n < 0
    · rw [if_pos hn, if_pos hn, digs_dec _ _ (by omega) (by omega), List.append_nil]
    · rw [if_neg hn, if_neg hn, digs_dec _ _ (by omega) (by omega), List.append_nil, show n.toNat = n.natAbs by omega]
theorem fmtI_len {n : Int} (h0 : -9223372036854775808 ≤ n) (h1 : n ≤ 9223372036854775807) : (fmtI n).length ≤ 21 := by
  rw [← fmtI_itoa h0 h1]; exact Lib.itoa_length_le n h0 h1
theorem strconv_Itoa_c (n : Int) (h0 : -9223372036854775808 ≤ n) (h1 : n ≤ 9223372036854775807) : Fun Tryz.prog 75 [.int .i64 n] [.str (fmtI n)] := by
  refine Fun.of_plain Tryz.func75 rfl rfl rfl ?_
  intro w F G vs hamb hv
  simp only [RepL] at hv
  obtain ⟨a, vs1, rfl, ha, rfl⟩ := hv
  have ha := repP_i ha
  subst ha
  refine (Tryz.strconv_Itoa n h0 h1 w (TabA.has w hamb)).mono fun e w' h => ?_
  obtain ⟨he, k, os, hw⟩ := h
  subst hw
  exact ⟨by rw [he, fmtI_itoa h0 h1], Lib.below_grow _ _ (Nat.le_refl _) k os⟩
--%reg strconv.Itoa strconv_Itoa_c _ ?_ ?_
theorem impl_FormatInt_c (n : Int) (h0 : -9223372036854775808 ≤ n) (h1 : n ≤ 9223372036854775807) : Fun Tryz.prog 37 [(.int .i64 (n))] [(.str (fmtI n))] := by
  refine fO sg0 [2] Tryz.func37 ?_
  have cE1 := @strconv_Itoa_c
  refine dEa trivial ?_
  all_goals try (refine zlf ?_; repeat' first | exact zso | refine And.intro ?_ ?_ | (refine zim ?_; intro zb hc) | (refine zin ?_; intro zb) | intro j')
  all_goals try refine zbx ?_
def fmtL (l : List Int) : List (List UInt8) := l.map fmtI
theorem fmtL_take {l : List Int} {k : Nat} : fmtL (l.take k) = (fmtL l).take k := by simp [fmtL, List.map_take]
def numT (l : List Int) : List UInt8 := if l = [] then [45] else Lib.join (fmtL l) [44]
theorem fmtL_len {l : List Int} (hb : ∀ x ∈ l, -9223372036854775808 ≤ x ∧ x ≤ 9223372036854775807) : (Lib.join (fmtL l) [44]).length ≤ l.length * 22 := by
  have := join_len_le (n := 21) (sep := [44]) (l := fmtL l) (fun x hx => by
    obtain ⟨y, hy, rfl⟩ := List.mem_map.1 hx
    exact fmtI_len (hb y hy).1 (hb y hy).2)
  simpa [fmtL] using this
theorem numT_len {l : List Int} (hb : ∀ x ∈ l, -9223372036854775808 ≤ x ∧ x ≤ 9223372036854775807) : (numT l).length ≤ l.length * 22 + 1 := by
  unfold numT; split
  · simp
  · have := fmtL_len hb; omega
theorem spec_l35Text_c {m0 : Bool} (l : List Int) (hl : l.length ≤ 1048576) (hb : ∀ x ∈ l, -9223372036854775808 ≤ x ∧ x ≤ 9223372036854775807) : Fun Tryz.prog 23 [(.sl (.lent m0) (List.map (PV.int .i64) (l)))] [(.str (Lib.join (fmtL l) [44]))] := by
  refine fO sg0 [2] Tryz.func23 ?_
  have cE1 := @spec_FormatInt_c; have cE2 := @spec_Join_c
  have b9 := fmtL_len hb
  have b8 : (fmtL l).length = l.length := by simp [fmtL]
  refine dE trivial ?_
  all_goals try (refine zlf ?_; repeat' first | exact zso | refine And.intro ?_ ?_ | (refine zim ?_; intro zb hc) | (refine zin ?_; intro zb) | intro j')
  all_goals try refine zbx ?_
  refine v_loopB (fun ms1 S1 => ∃ (k : Nat), S1.e 0 = .p (.sl (.lent m0) (List.map (PV.int .i64) (l))) ∧ OwnL (S1.e 3) S1.h S1.n PV.str ((fmtL (l.take k)).length) (fmtL (l.take k)) ∧ S1.e 4 = .p (.int .i64 (k)) ∧ (k ≤ l.length) ∧ ms1 = l.length - k) ((fun (k : Nat) => l.length - k) (0)) ?_ ⟨0, dIa trivial ?_⟩
  all_goals try (refine zlf ?_; repeat' first | exact zso | refine And.intro ?_ ?_ | (refine zim ?_; intro zb hc) | (refine zin ?_; intro zb) | intro j')
  all_goals try refine zbx ?_
  rintro ms1 S1 ⟨k, h1_0, o1_3, h1_4, c1_0, hm1⟩
  obtain ⟨i1_3, h1_3, b1_3, l1_3⟩ := o1_3.out
  have ni1_3 := znds (x := i1_3) (n := S1.n)
  have fL1 := (And.intro h1_0 (And.intro h1_4 (And.intro h1_3 (And.intro b1_3 ni1_3))))
  have b7 : (fmtL (l.take k)).length = k := by simp [fmtL]; omega
  have b6 := join_take_le (l := fmtL l) (sep := [44]) (k := k)
  rw [← fmtL_take] at b6
  have q : k < l.length → -9223372036854775808 ≤ l.getD k 0 ∧ l.getD k 0 ≤ 9223372036854775807 := fun h => hb _ (getD_mem h)
  refine dEa fL1 ?_
  all_goals try (refine zlf ?_; repeat' first | exact zso | refine And.intro ?_ ?_ | (refine zim ?_; intro zb hc) | (refine zin ?_; intro zb) | intro j')
  all_goals try refine zbx ?_
  · focus
      refine q_lp_n ((fun (k : Nat) => l.length - k) (k+1)) (dC fL1 ?_) ⟨k+1, dC fL1 ?_⟩
      all_goals try (refine zlf ?_; repeat' first | exact zso | refine And.intro ?_ ?_ | (refine zim ?_; intro zb hc) | (refine zin ?_; intro zb) | intro j')
      all_goals try refine zbx ?_
    all_goals simp [fmtL, take_getD (d := 0) (show k < l.length by omega)]
  all_goals (rw [List.take_of_length_le (by omega)])
theorem numT_nil {l : List Int} (h : (l.length : Int) = 0) : numT l = [45] := by rw [numT, if_pos (List.eq_nil_of_length_eq_zero (by omega))]
theorem numT_cons {l : List Int} (h : ¬ (l.length : Int) = 0) : numT l = Lib.join (fmtL l) [44] := by rw [numT, if_neg (by rintro rfl; exact h rfl)]
theorem impl_NumbersText_c {m0 : Bool} (l : List Int) (hl : l.length ≤ 1048576) (hb : ∀ x ∈ l, -9223372036854775808 ≤ x ∧ x ≤ 9223372036854775807) : Fun Tryz.prog 33 [(.sl (.lent m0) (List.map (PV.int .i64) (l)))] [(.str (numT l))] := by
  refine fO sg0 [2] Tryz.func33 ?_
  have cE1 := @impl_FormatInt_c; have cE2 := @strings_Join_c
  have b9 := fmtL_len hb
  have b8 : (fmtL l).length = l.length := by simp [fmtL]
  refine dEa trivial ?_
  all_goals try (refine zlf ?_; repeat' first | exact zso | refine And.intro ?_ ?_ | (refine zim ?_; intro zb hc) | (refine zin ?_; intro zb) | intro j')
  all_goals try refine zbx ?_
  · rw [numT_nil hc]
  · have hn := hc
    rw [numT_cons hc]
    refine v_loopB (fun ms1 S1 => ∃ (k : Nat), S1.e 10 = .p (.sl (.lent m0) (List.map (PV.int .i64) (l))) ∧ OwnL (S1.e 3) S1.h S1.n PV.str ((fmtL (l.take k)).length) (fmtL (l.take k)) ∧ S1.e 11 = .p (.int .i64 (l.length)) ∧ S1.e 12 = .p (.int .i64 (k)) ∧ (k ≤ l.length) ∧ ms1 = l.length - k) ((fun (k : Nat) => l.length - k) (0)) ?_ ⟨0, dIa trivial ?_⟩
    all_goals try (refine zlf ?_; repeat' first | exact zso | refine And.intro ?_ ?_ | (refine zim ?_; intro zb hc) | (refine zin ?_; intro zb) | intro j')
    all_goals try refine zbx ?_
    rintro ms1 S1 ⟨k, h1_10, o1_3, h1_11, h1_12, c1_0, hm1⟩
    obtain ⟨i1_3, h1_3, b1_3, l1_3⟩ := o1_3.out
    have ni1_3 := znds (x := i1_3) (n := S1.n)
    have fL1 := (And.intro h1_10 (And.intro h1_11 (And.intro h1_12 (And.intro h1_3 (And.intro b1_3 ni1_3)))))
    have b7 : (fmtL (l.take k)).length = k := by simp [fmtL]; omega
    have b6 := join_take_le (l := fmtL l) (sep := [44]) (k := k)
    rw [← fmtL_take] at b6
    have q : k < l.length → -9223372036854775808 ≤ l.getD k 0 ∧ l.getD k 0 ≤ 9223372036854775807 := fun h => hb _ (getD_mem h)
    refine dEa fL1 ?_
    all_goals try (refine zlf ?_; repeat' first | exact zso | refine And.intro ?_ ?_ | (refine zim ?_; intro zb hc) | (refine zin ?_; intro zb) | intro j')
    all_goals try refine zbx ?_
    · focus
        refine q_lp_n ((fun (k : Nat) => l.length - k) (k+1)) (dC fL1 ?_) ⟨k+1, dC fL1 ?_⟩
        all_goals try (refine zlf ?_; repeat' first | exact zso | refine And.intro ?_ ?_ | (refine zim ?_; intro zb hc) | (refine zin ?_; intro zb) | intro j')
        all_goals try refine zbx ?_
      all_goals simp [fmtL, take_getD (d := 0) (show k < l.length by omega)]
    all_goals (rw [List.take_of_length_le (by omega)])
end Go.Gl
