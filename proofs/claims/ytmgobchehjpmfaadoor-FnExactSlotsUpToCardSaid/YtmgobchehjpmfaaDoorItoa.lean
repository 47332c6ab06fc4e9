/-
  Numbers as texts, by the library. Conditions: none.
-/
import Derived.Test.YtmgobchehjpmfaaDoorPText
import Derived.Lib.ItoaLen
import Derived.Lib.AppendIntMem
set_option linter.unusedSimpArgs false
set_option linter.unusedVariables false
set_option maxRecDepth 20000
set_option linter.unusedSectionVars false
namespace Go.Gl
open Go Go.Proofs
variable [Amb]
/-- The table of powers of ten stands where the library looks for it. -/
class TabA [Amb] : Prop where
  has : ∀ w : World, (∀ B o, Amb.tb B = some o → w.heap[B]? = some o) → Lib.TabIs Tryd.prog w "internal/strconv.uint64pow10" .u64 Lib.pow10Tab
/-- What is told of one block: that it is as it was. -/
@[reducible] def ambAt (w : World) (g : Nat) : Amb := ⟨fun B => if B = g then w.heap[B]? else none⟩
theorem ambAt_ok {w : World} {g B : Nat} {o : Obj} (h : (ambAt w g).tb B = some o) : w.heap[B]? = some o := by
  have h : (if B = g then w.heap[B]? else none) = some o := h
  split at h
  · exact h
  · cases h
theorem ambAt_tab {w : World} {g : Nat} (hg : Tryd.prog.globalNamed "internal/strconv.uint64pow10" = some g) (h : Lib.TabIs Tryd.prog w "internal/strconv.uint64pow10" .u64 Lib.pow10Tab) : @TabA (ambAt w g) := @TabA.mk (ambAt w g) (fun w' hw => by
  unfold Lib.TabIs World.var? at h ⊢
  rw [hg, Option.bind_some] at h ⊢
  cases e : w.heap[g]? with
  | none => rw [e] at h; cases h
  | some o => rw [hw g o (show (if g = g then w.heap[g]? else none) = some o by rw [if_pos rfl]; exact e)]; rw [e] at h; exact h)
variable [TabA]
theorem digs_dec : ∀ (m : Nat) (acc : List UInt8), m ≠ 0 → m < 9223372036854775809 → digs m acc = Lib.decDigits m ++ acc := by
  intro m
  induction m using Nat.strongRecOn with
  | _ m ih =>
    intro acc h hb
    rw [digs_step h hb, Lib.decDigits]
    have e : chI ((m % 10 : Nat) : Int) = UInt8.ofNat (48 + m % 10) := by unfold chI; congr 1
    split
    · rw [show m / 10 = 0 by omega, digs_0, e, show m % 10 = m by omega]; rfl
    · rw [ih (m / 10) (by omega) _ (by omega) (by omega), e, List.append_assoc]; rfl
theorem fmtI_itoa {n : Int} (h0 : -9223372036854775808 ≤ n) (h1 : n ≤ 9223372036854775807) : Lib.itoa n = fmtI n := by
  unfold Lib.itoa fmtI
  by_cases hz : n = 0
  · subst hz; rw [if_neg (by omega), if_pos rfl, Lib.decDigits, dif_pos (by omega)]; rfl
  · rw [if_neg hz]
    by_cases hn : n < 0
    · rw [if_pos hn, if_pos hn, digs_dec _ _ (by omega) (by omega), List.append_nil]
    · rw [if_neg hn, if_neg hn, digs_dec _ _ (by omega) (by omega), List.append_nil, show n.toNat = n.natAbs by omega]
theorem fmtI_len {n : Int} (h0 : -9223372036854775808 ≤ n) (h1 : n ≤ 9223372036854775807) : (fmtI n).length ≤ 21 := by
  rw [← fmtI_itoa h0 h1]; exact Lib.itoa_length_le n h0 h1
theorem strconv_Itoa_c (n : Int) (h0 : -9223372036854775808 ≤ n) (h1 : n ≤ 9223372036854775807) : Fun Tryd.prog 92 [.int .i64 n] [.str (fmtI n)] := by
  refine Fun.of_plain Tryd.func92 rfl rfl rfl ?_
  intro w F G vs hamb hv
  simp only [RepL] at hv
  obtain ⟨a, vs1, rfl, ha, rfl⟩ := hv
  have ha := repP_i ha
  subst ha
  refine (Tryd.strconv_Itoa n h0 h1 w (TabA.has w hamb)).mono fun e w' h => ?_
  obtain ⟨he, k, os, hw⟩ := h
  subst hw
  exact ⟨by rw [he, fmtI_itoa h0 h1], Lib.below_grow _ _ (Nat.le_refl _) k os⟩
--%reg strconv.Itoa strconv_Itoa_c _ ?_ ?_
theorem impl_FormatInt_c (n : Int) (h0 : -9223372036854775808 ≤ n) (h1 : n ≤ 9223372036854775807) : Fun Tryd.prog 55 [(.int .i64 (n))] [(.str (fmtI n))] := by
  refine Fun.of (sg := sg0) (ts := [2]) mo Tryd.func55 rfl rfl rfl rfl (by kernel_rfl) (by simp only [go_sem]) rfl ?_
  have fc : True := trivial
  repeat' first
    | with_reducible first | refine stp ?_ | refine q_blk_o rfl ?_ | (refine hK _ ?_; clear hK) | (refine hA ?_; clear hA hB) | (refine hB ?_; clear hA hB) | exact v_end0 | exact v_end0' | refine v_gb1 ?_ ?_ | refine v_gb0 ?_ ?_ | refine And.intro ?_ ?_
    | (with_reducible refine p_ok ?_; decide)
    | ((first | with_reducible first | refine v_region rfl rfl (fun K hK => ?_) | refine v_draws rfl rfl (fun K hK => ?_) | refine v_if (fun A B hA hB => ?_) | refine v_end rfl ?_ | refine v_fin1 ?_ | refine v_finC1 ?_ | refine v_finR1 ?_ | refine v_callE (strconv_Itoa_c _ ?_ ?_) ?_ | refine v_finO1 rfl ?_ | refine v_finN1 rfl ?_ ?_ | refine v_apj ?_ (fun j' => ?_) | refine v_stz ?_ ?_ ?_ ?_ ?_ | refine v_stq ?_ | refine v_cv1 ?_ ?_ ?_ | (intro hc; replace fc := And.intro hc fc; try simp only [hcs] at hc)) <;> (try simp (config := { maxSteps := 1000000 }) only [go_sem, ↓reduceIte, reduceCtorEq, Nat.reduceEqDiff, Nat.reduceAdd, Nat.reduceMul, Nat.reduceSub, Nat.reduceLeDiff, Int.reduceLT, Int.reduceLE, Int.reduceEq, Int.reduceSub, Int.reduceAdd, Int.reduceMul, Int.reduceNeg, Int.reduceToNat, fc]) <;> (try with_reducible rfl))
  all_goals try (first | omega | (simp only [n_i64, n_u8]; omega) | (simp only [n_i64, n_u8, lnA]; omega) | (simp only [lnA]; done))
end Go.Gl
