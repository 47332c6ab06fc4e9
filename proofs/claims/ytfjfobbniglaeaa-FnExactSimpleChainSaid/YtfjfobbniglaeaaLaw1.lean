/-
 The helpers of the laws for slices of slices. Conditions: none.
-/
import Derived.Test.YtfjfobbniglaeaaLaw0
set_option linter.unusedSimpArgs false
set_option linter.unusedVariables false
set_option maxRecDepth 20000
set_option linter.unusedSectionVars false
namespace Go.Gl
open Go Go.Proofs
variable [Amb] [NoQ]
theorem dropL_at {α : Type} {l : List (List α)} {i : Nat} (h : i < l.length) : l.drop i = l.getD i [] :: l.drop (i + 1) := by
 rw [List.drop_eq_getElem_cons h, List.getD_eq_getElem?_getD, List.getElem?_eq_getElem h]; rfl
theorem getD_mem {α : Type} {l : List α} {i : Nat} {d : α} (h : i < l.length) : l.getD i d ∈ l := by
 rw [List.getD_eq_getElem?_getD, List.getElem?_eq_getElem h]; exact List.getElem_mem h
theorem takeL_succ_iff {α : Type} {a b : List (List α)} {k : Nat} (ha : k < a.length) (hb : k < b.length) : a.take (k + 1) = b.take (k + 1) ↔ a.take k = b.take k ∧ a.getD k [] = b.getD k [] := by
 rw [take_getD (d := []) ha, take_getD (d := []) hb]
 constructor
 ·intro h
  have := List.append_inj h (by simp; omega)
  exact ⟨this.1, by simpa using this.2⟩
 ·rintro ⟨h1, h2⟩; rw [h1, h2]
theorem laws_eqIntSS_c {e0 m0 e1 m1 : Bool} (a b : List (List Int)) (ha : a.length ≤ 1099511627776) (hb : b.length ≤ 1099511627776) (hla : ∀ l ∈ a, l.length ≤ 1099511627776) (hlb : ∀ l ∈ b, l.length ≤ 1099511627776) : Fun Try.prog 15 [(.sl (.lent m0) (List.map (elI e0) (a))), (.sl (.lent m1) (List.map (elI e1) (b)))] [(.bool (decide (a = b)))] := by
 refine fO sg0 [4] Try.func15 ?_
 have cE1 := @laws_eqIntS_c; have cD1 := zdh [false, false, false, false, false, false, false, false, true, false] []
 refine dE trivial ?_
 all_goals try (refine zlf ?_; repeat' first | exact zso | refine And.intro ?_ ?_ | (refine zim ?_; intro zb hc) | (refine zin ?_; intro zb) | intro j')
 all_goals try refine zbx ?_
 ·rw [decide_eq_false]; intro e; subst e; exact hc rfl
 refine v_loopB (fun ms1 S1 => ∃ (k : Nat), S1.e 0 = .p (.sl (.lent m0) (List.map (elI e0) (a))) ∧ S1.e 1 = .p (.sl (.lent m1) (List.map (elI e1) (b))) ∧ S1.e 5 = .p (.int .i64 (k)) ∧ (k ≤ a.length) ∧ (a.take k = b.take k) ∧ ms1 = a.length - k) ((fun (k : Nat) => a.length - k) (0)) ?_ ⟨0, dI trivial ?_⟩
 all_goals try (refine zlf ?_; repeat' first | exact zso | refine And.intro ?_ ?_ | (refine zim ?_; intro zb hc) | (refine zin ?_; intro zb) | intro j')
 all_goals try refine zbx ?_
 rintro ms1 S1 ⟨k, h1_0, h1_1, h1_5, c1_0, c1_1, hm1⟩
 have fL1 := (And.intro h1_0 (And.intro h1_1 h1_5))
 refine dE fL1 ?_
 all_goals try (refine zlf ?_; repeat' first | exact zso | refine And.intro ?_ ?_ | (refine zim ?_; intro zb hc) | (refine zin ?_; intro zb) | intro j')
 all_goals try refine zbx ?_
 all_goals try have hm := hla (a.getD k []) (getD_mem (by omega))
 all_goals try have hn := hlb (b.getD k []) (getD_mem (by omega))
 all_goals try exact zaut
 ·rw [decide_eq_false]; intro e; subst e; exact hc rfl
 ·focus
   refine q_lp_n ((fun (k : Nat) => a.length - k) (k+1)) (dC fL1 ?_) ⟨k+1, dC fL1 ?_⟩
   all_goals try (refine zlf ?_; repeat' first | exact zso | refine And.intro ?_ ?_ | (refine zim ?_; intro zb hc) | (refine zin ?_; intro zb) | intro j')
   all_goals try refine zbx ?_
  rw [takeL_succ_iff (by omega) (by omega)]; exact ⟨c1_1, hc⟩
 ·rw [decide_eq_true]
  rw [List.take_of_length_le (by omega), List.take_of_length_le (by omega)] at c1_1; exact c1_1
end Go.Gl
