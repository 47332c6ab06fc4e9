/-
 Functions of the library over slices of slices that are handed a function: what they compute. Conditions: none.
-/
import Derived.Test.YtfjfobbniglaeaaLaw1
set_option linter.unusedSimpArgs false
set_option linter.unusedVariables false
set_option maxRecDepth 20000
set_option linter.unusedSectionVars false
namespace Go.Gl
open Go Go.Proofs
variable [Amb] [NoQ]
def idxG {α : Type} (p : α → Bool) : List α → Nat → Int
 | [], _ => -1
 | x :: l, i => if p x then i else idxG p l (i + 1)
theorem idxG_spec {α : Type} {p : α → Bool} {d : α} : ∀ {l : List α} {i : Nat}, (idxG p l i = -1 ∧ ∀ x ∈ l, p x = false) ∨ ∃ k, k < l.length ∧ idxG p l i = i + k ∧ p (l.getD k d) = true ∧ ∀ j, j < k → p (l.getD j d) = false
 | [], _ => .inl ⟨rfl, fun x hx => by simp at hx⟩
 | x :: l, i => by
  rw [idxG]
  split
  ·rename_i h; exact .inr ⟨0, by simp, by simp, by simpa using h, fun j hj => by omega⟩
  ·rename_i h
   rcases idxG_spec (p := p) (d := d) (l := l) (i := i + 1) with ⟨h1, h2⟩ | ⟨k, h1, h2, h3, h4⟩
   ·exact .inl ⟨h1, fun y hy => by rcases List.mem_cons.1 hy with rfl | hy; exact Bool.eq_false_iff.2 h; exact h2 y hy⟩
   ·refine .inr ⟨k + 1, by simpa using h1, by rw [h2]; push_cast; omega, by simpa using h3, fun j hj => ?_⟩
    cases j with
    | zero => simpa using Bool.eq_false_iff.2 h
    | succ j => simpa using h4 j (by omega)
theorem slices_IndexFunc_LLint_int_c {e0 m0 : Bool} (l : List (List Int)) (g : FuncId) (caps : List PV) (p : List Int → Bool) (hl : l.length ≤ 1099511627776) (hp : ∀ x ∈ l, Fun Try.prog g (.sl (.lent e0) (List.map (PV.int .i64) x) :: caps.map PV.cell) [.bool (p x)]) : Fun Try.prog 69 [(.sl (.lent m0) (List.map (elI e0) (l))), (.fn g [] caps)] [(.int .i64 (idxG p l 0))] := by
 refine fO sg0 [4] Try.func69 ?_
 refine dE trivial ?_
 all_goals try (refine zlf ?_; repeat' first | exact zso | refine And.intro ?_ ?_ | (refine zim ?_; intro zb hc) | (refine zin ?_; intro zb) | intro j')
 all_goals try refine zbx ?_
 refine v_loopB (fun ms1 S1 => ∃ (k : Nat), S1.e 0 = .p (.sl (.lent m0) (List.map (elI e0) (l))) ∧ S1.e 1 = .p (.fn g [] caps) ∧ S1.e 7 = .p (.int .i64 (l.length)) ∧ S1.e 8 = .p (.int .i64 (k)) ∧ (k ≤ l.length) ∧ (idxG p l 0 = idxG p (l.drop k) k) ∧ ms1 = l.length - k) ((fun (k : Nat) => l.length - k) (0)) ?_ ⟨0, dIa trivial ?_⟩
 all_goals try (refine zlf ?_; repeat' first | exact zso | refine And.intro ?_ ?_ | (refine zim ?_; intro zb hc) | (refine zin ?_; intro zb) | intro j')
 all_goals try refine zbx ?_
 rintro ms1 S1 ⟨k, h1_0, h1_1, h1_7, h1_8, c1_0, c1_1, hm1⟩
 have fL1 := (And.intro h1_0 (And.intro h1_1 (And.intro h1_7 h1_8)))
 have cE1 := @hp
 refine dEa fL1 ?_
 all_goals try (refine zlf ?_; repeat' first | exact zso | refine And.intro ?_ ?_ | (refine zim ?_; intro zb hc) | (refine zin ?_; intro zb) | intro j')
 all_goals try refine zbx ?_
 ·exact getD_mem hc
 ·rw [c1_1, dropL_at (by omega), idxG, if_pos hc]
 ·focus
   refine q_lp_n ((fun (k : Nat) => l.length - k) (k+1)) (dC fL1 ?_) ⟨k+1, dC fL1 ?_⟩
   all_goals try (refine zlf ?_; repeat' first | exact zso | refine And.intro ?_ ?_ | (refine zim ?_; intro zb hc) | (refine zin ?_; intro zb) | intro j')
   all_goals try refine zbx ?_
  rw [c1_1, dropL_at (by omega), idxG, if_neg (by rw [hc]; decide)]
 ·rw [c1_1, List.drop_of_length_le (by omega), idxG]
end Go.Gl
