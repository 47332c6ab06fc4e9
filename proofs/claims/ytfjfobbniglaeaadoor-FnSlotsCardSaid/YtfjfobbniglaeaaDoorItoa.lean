/-
  Numbers as texts, by the library. Conditions: none.
-/
import Derived.Test.YtfjfobbniglaeaaDoorPText
import Derived.Test.YtfjfobbniglaeaaDoorAmb
import Derived.Lib.ItoaLen
import Derived.Lib.AppendIntMem
set_option linter.unusedSimpArgs false
set_option linter.unusedVariables false
set_option maxRecDepth 20000
set_option linter.unusedSectionVars false
namespace Go.Gl
open Go Go.Proofs
variable [Amb] [NoQ]
/-- The table of powers of ten stands where the library looks for it. -/
class TabA [Amb] : Prop where
  has : ∀ w : World, (∀ B o, Amb.tb B = some o → w.heap[B]? = some o) → Lib.TabIs Tryd.prog w "internal/strconv.uint64pow10" .u64 Lib.pow10Tab
theorem ambAt_tab {w : World} {g : Nat} (hg : Tryd.prog.globalNamed "internal/strconv.uint64pow10" = some g) (h : Lib.TabIs Tryd.prog w "internal/strconv.uint64pow10" .u64 Lib.pow10Tab) : @TabA (ambAt w g) := @TabA.mk (ambAt w g) (fun w' hw => by
  unfold Lib.TabIs World.var? at h ⊢
  rw [hg, Option.bind_some] at h ⊢
  cases e : w.heap[g]? with
  | none => rw [e] at h; cases h
  | some o => rw [hw g o (show (if g = g then w.heap[g]? else none) = some o by rw [if_pos rfl]; exact e)]; rw [e] at h; exact h)
variable [TabA]
theorem digs_dec : ∀ (m : Nat) (acc : List UInt8), m ≠ 0 → m < 9223372036854775809 → digs m acc = Lib.decDigits m ++ acc := by
  intro m
  induction m using Nat.strongRecOn with
  | _ m ih =>
    intro acc h hb
    rw [digs_step h hb, Lib.decDigits]
    have e : chI ((m % 10 : Nat) : Int) = UInt8.ofNat (48 + m % 10) := by unfold chI; congr 1
    split
    · rw [show m / 10 = 0 by omega, digs_0, e, show m % 10 = m by omega]; rfl
    · rw [ih (m / 10) (by omega) _ (by omega) (by omega), e, List.append_assoc]; rfl
theorem fmtI_itoa {n : Int} (h0 : -9223372036854775808 ≤ n) (h1 : n ≤ 9223372036854775807) : Lib.itoa n = fmtI n := by
  unfold Lib.itoa fmtI
  by_cases hz : n = 0
  · subst hz; rw [if_neg (by omega), if_pos rfl, Lib.decDigits, dif_pos (by omega)]; rfl
  · rw [if_neg hz]
    by_cases hn : n < 0
    · rw [if_pos hn, if_pos hn, digs_dec _ _ (by omega) (by omega), List.append_nil]
    · rw [if_neg hn, if_neg hn, digs_dec _ _ (by omega) (by omega), List.append_nil, show n.toNat = n.natAbs by omega]
theorem fmtI_len {n : Int} (h0 : -9223372036854775808 ≤ n) (h1 : n ≤ 9223372036854775807) : (fmtI n).length ≤ 21 := by
  rw [← fmtI_itoa h0 h1]; exact Lib.itoa_length_le n h0 h1
theorem strconv_Itoa_c (n : Int) (h0 : -9223372036854775808 ≤ n) (h1 : n ≤ 9223372036854775807) : Fun Tryd.prog 87 [.int .i64 n] [.str (fmtI n)] := by
  refine Fun.of_plain Tryd.func87 rfl rfl rfl ?_
  intro w F G vs hamb hv
  simp only [RepL] at hv
  obtain ⟨a, vs1, rfl, ha, rfl⟩ := hv
  have ha := repP_i ha
  subst ha
  refine (Tryd.strconv_Itoa n h0 h1 w (TabA.has w hamb)).mono fun e w' h => ?_
  obtain ⟨he, k, os, hw⟩ := h
  subst hw
  exact ⟨by rw [he, fmtI_itoa h0 h1], Lib.below_grow _ _ (Nat.le_refl _) k os⟩
--%reg strconv.Itoa strconv_Itoa_c _ ?_ ?_
theorem impl_FormatInt_c (n : Int) (h0 : -9223372036854775808 ≤ n) (h1 : n ≤ 9223372036854775807) : Fun Tryd.prog 63 [(.int .i64 (n))] [(.str (fmtI n))] := by
  refine fO sg0 [2] Tryd.func63 ?_
  have cE1 := @strconv_Itoa_c
  refine dEa trivial ?_
  all_goals try (refine zlf ?_; repeat' first | exact zso | refine And.intro ?_ ?_ | (refine zim ?_; intro zb hc) | (refine zin ?_; intro zb) | intro j')
  all_goals try refine zbx ?_
end Go.Gl
