/-
 Bases and classes: what their functions compute. Conditions: none.
-/
import Derived.Test.YtfjfobbniglaeaaHas
import Derived.Test.YtfjfobbniglaeaaPermF
import Derived.Test.YtfjfobbniglaeaaPText
import Derived.Test.YtfjfobbniglaeaaCmp0
set_option linter.unusedSimpArgs false
set_option linter.unusedVariables false
set_option maxRecDepth 20000
set_option linter.unusedSectionVars false
namespace Go.Gl
open Go Go.Proofs
variable [Amb] [NoQ]
def befB (p q : List Int) : Bool := decide (cmpP p q < 0)
theorem bef_ne {a b : List Int} (h : a.length ≠ b.length) : decide (a.length < b.length) = befB a b := by
 rw [befB, cmpP, if_pos (fun e => by rw [cmpI_0] at e; omega)]
 unfold cmpI
 by_cases h1 : a.length < b.length
 ·rw [if_pos (by omega)]; simp [h1]
 ·rw [if_neg (by omega), if_pos (by omega)]; simp [h1]
theorem bef_eq {a b : List Int} (h : a.length = b.length) : befB a b = decide (cmpL a b < 0) := by
 rw [befB, cmpP, if_neg (fun e => e (cmpI_0.2 (by omega)))]
theorem cmpI_neg {a b : Int} : decide (cmpI a b < 0) = decide (a < b) := by
 unfold cmpI; split
 ·rename_i h; simp [h]
 ·split <;> simp <;> omega
theorem spec_l2Before_c {m0 m1 : Bool} (a b : List Int) (ha : a.length ≤ 1048576) (hb : b.length ≤ 1048576) : Fun Try.prog 116 [(.sl (.lent m0) (List.map (PV.int .i64) (a))), (.sl (.lent m1) (List.map (PV.int .i64) (b)))] [(.bool (befB a b))] := by
 refine fO sg0 [4] Try.func116 ?_
 refine dEa trivial ?_
 all_goals try (refine zlf ?_; repeat' first | exact zso | refine And.intro ?_ ?_ | (refine zim ?_; intro zb hc) | (refine zin ?_; intro zb) | intro j')
 all_goals try refine zbx ?_
 ·exact bef_ne (by omega)
 have hl : a.length = b.length := by omega
 rw [bef_eq hl]
 refine v_loopB (fun ms1 S1 => ∃ (k : Nat), S1.e 0 = .p (.sl (.lent m0) (List.map (PV.int .i64) (a))) ∧ S1.e 1 = .p (.sl (.lent m1) (List.map (PV.int .i64) (b))) ∧ S1.e 5 = .p (.int .i64 (k)) ∧ (k ≤ a.length) ∧ (cmpL a b = cmpL (a.drop k) (b.drop k)) ∧ ms1 = a.length - k) ((fun (k : Nat) => a.length - k) (0)) ?_ ⟨0, dIa trivial ?_⟩
 all_goals try (refine zlf ?_; repeat' first | exact zso | refine And.intro ?_ ?_ | (refine zim ?_; intro zb hc) | (refine zin ?_; intro zb) | intro j')
 all_goals try refine zbx ?_
 rintro ms1 S1 ⟨k, h1_0, h1_1, h1_5, c1_0, c1_1, hm1⟩
 have fL1 := (And.intro h1_0 (And.intro h1_1 h1_5))
 refine dEa fL1 ?_
 all_goals try (refine zlf ?_; repeat' first | exact zso | refine And.intro ?_ ?_ | (refine zim ?_; intro zb hc) | (refine zin ?_; intro zb) | intro j')
 all_goals try refine zbx ?_
 ·rw [c1_1, dropI_at (by omega), dropI_at (s := b) (by omega), cmpL, if_pos (fun e => hc (cmpI_0.1 e)), cmpI_neg]
 ·focus
   refine q_lp_n ((fun (k : Nat) => a.length - k) (k+1)) (dC fL1 ?_) ⟨k+1, dC fL1 ?_⟩
   all_goals try (refine zlf ?_; repeat' first | exact zso | refine And.intro ?_ ?_ | (refine zim ?_; intro zb hc) | (refine zin ?_; intro zb) | intro j')
   all_goals try refine zbx ?_
  rw [c1_1, dropI_at (by omega), dropI_at (s := b) (by omega), cmpL, if_neg (fun h => h (cmpI_0.2 hc))]
 ·rw [c1_1, List.drop_of_length_le (l := a) (by omega), List.drop_of_length_le (l := b) (by omega), cmpL]; rfl
end Go.Gl
