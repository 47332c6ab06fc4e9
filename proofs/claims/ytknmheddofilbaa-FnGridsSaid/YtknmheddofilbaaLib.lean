/-
  Functions of the library that are handed a function: what they compute. Conditions: none.
-/
import Derived.Test.YtknmheddofilbaaNum
set_option linter.unusedSimpArgs false
set_option linter.unusedVariables false
set_option maxRecDepth 20000
set_option linter.unusedSectionVars false
namespace Go.Gl
open Go Go.Proofs
variable [Amb]
def idxP (p : Int → Bool) : List Int → Nat → Int
  | [], _ => -1
  | x :: l, i => if p x then i else idxP p l (i + 1)
theorem idxP_any {p : Int → Bool} : ∀ {l : List Int} {i : Nat}, decide (0 ≤ idxP p l i) = l.any p
  | [], _ => rfl
  | x :: l, i => by
    rw [idxP, List.any_cons]
    split
    · rename_i h; rw [h, Bool.true_or]; exact decide_eq_true (by omega)
    · rename_i h; rw [idxP_any, Bool.eq_false_iff.2 h, Bool.false_or]
theorem memI {l : List Int} {i : Nat} (h : i < l.length) : l.getD i 0 ∈ l := by
  rw [List.getD_eq_getElem?_getD, List.getElem?_eq_getElem h]; exact List.getElem_mem h
theorem slices_IndexFunc_int_int_c {m0 : Bool} (l : List Int) (g : FuncId) (caps : List PV) (p : Int → Bool) (hl : l.length ≤ 1099511627776) (hp : ∀ x ∈ l, Fun Try.prog g (.int .i64 x :: caps.map PV.cell) [.bool (p x)]) : Fun Try.prog 153 [(.sl (.lent m0) (List.map (PV.int .i64) (l))), (.fn g [] caps)] [(.int .i64 (idxP p l 0))] := by
  refine fO sg0 [4] Try.func153 ?_
  refine dE trivial ?_
  all_goals try (refine zlf ?_; repeat' first | exact zso | refine And.intro ?_ ?_ | (refine zim ?_; intro zb hc) | (refine zin ?_; intro zb) | intro j')
  all_goals try refine zbx ?_
  refine v_loopB (fun ms1 S1 => ∃ (k : Nat), S1.e 0 = .p (.sl (.lent m0) (List.map (PV.int .i64) (l))) ∧ S1.e 1 = .p (.fn g [] caps) ∧ S1.e 7 = .p (.int .i64 (l.length)) ∧ S1.e 8 = .p (.int .i64 (k)) ∧ (k ≤ l.length) ∧ (idxP p l 0 = idxP p (l.drop k) k) ∧ ms1 = l.length - k) ((fun (k : Nat) => l.length - k) (0)) ?_ ⟨0, dIa trivial ?_⟩
  all_goals try (refine zlf ?_; repeat' first | exact zso | refine And.intro ?_ ?_ | (refine zim ?_; intro zb hc) | (refine zin ?_; intro zb) | intro j')
  all_goals try refine zbx ?_
  rintro ms1 S1 ⟨k, h1_0, h1_1, h1_7, h1_8, c1_0, c1_1, hm1⟩
  have fL1 := (And.intro h1_0 (And.intro h1_1 (And.intro h1_7 h1_8)))
  have cE1 := @hp
  refine dEa fL1 ?_
  all_goals try (refine zlf ?_; repeat' first | exact zso | refine And.intro ?_ ?_ | (refine zim ?_; intro zb hc) | (refine zin ?_; intro zb) | intro j')
  all_goals try refine zbx ?_
  · exact memI hc
  · rw [c1_1, dropI_at (by omega), idxP, if_pos hc]
  · focus
      refine q_lp_n ((fun (k : Nat) => l.length - k) (k+1)) (dC fL1 ?_) ⟨k+1, dC fL1 ?_⟩
      all_goals try (refine zlf ?_; repeat' first | exact zso | refine And.intro ?_ ?_ | (refine zim ?_; intro zb hc) | (refine zin ?_; intro zb) | intro j')
      all_goals try refine zbx ?_
    rw [c1_1, dropI_at (by omega), idxP, if_neg (by rw [hc]; decide)]
  · rw [c1_1, List.drop_of_length_le (by omega), idxP]
theorem slices_ContainsFunc_int_int_c {m0 : Bool} (l : List Int) (g : FuncId) (caps : List PV) (p : Int → Bool) (hl : l.length ≤ 1099511627776) (hp : ∀ x ∈ l, Fun Try.prog g (.int .i64 x :: caps.map PV.cell) [.bool (p x)]) : Fun Try.prog 99 [(.sl (.lent m0) (List.map (PV.int .i64) (l))), (.fn g [] caps)] [(.bool (l.any p))] := by
  refine fO sg0 [4] Try.func99 ?_
  have cE1 := @slices_IndexFunc_int_int_c
  have cE1 := (fun m0 => slices_IndexFunc_int_int_c (m0 := m0) l g caps p hl hp); have cE2 := @slices_IndexFunc_int_int_c
  refine dE trivial ?_
  all_goals try (refine zlf ?_; repeat' first | exact zso | refine And.intro ?_ ?_ | (refine zim ?_; intro zb hc) | (refine zin ?_; intro zb) | intro j')
  all_goals try refine zbx ?_
  rw [idxP_any]
end Go.Gl
