/-
  Permutations: what is told of them. Conditions: none.
-/
import Derived.Test.YtfjfobbniglaeaaNum
set_option linter.unusedSimpArgs false
set_option linter.unusedVariables false
set_option maxRecDepth 20000
set_option linter.unusedSectionVars false
namespace Go.Gl
open Go Go.Proofs
variable [Amb] [NoQ]
theorem contains_take {l : List Int} {k : Nat} {x : Int} (h : k < l.length) : (l.take (k + 1)).contains x = ((l.take k).contains x || decide (x = l.getD k 0)) := by
  rw [List.take_add_one, List.getD_eq_getElem?_getD, List.getElem?_eq_getElem h]
  simp only [Option.toList_some, Option.getD_some, List.contains_append]
  congr 1
  simp [List.contains_cons]
theorem contains_at {l : List Int} {k : Nat} (h : k < l.length) : l.contains (l.getD k 0) = true := by
  rw [List.getD_eq_getElem?_getD, List.getElem?_eq_getElem h]; simp
theorem spec_l2Has_c {m0 : Bool} (l : List Int) (x : Int) (hl : l.length ≤ 1099511627776) : Fun Try.prog 47 [(.sl (.lent m0) (List.map (PV.int .i64) (l))), (.int .i64 (x))] [(.bool (l.contains x))] := by
  refine fO sg0 [4] Try.func47 ?_
  refine dE trivial ?_
  all_goals try (refine zlf ?_; repeat' first | exact zso | refine And.intro ?_ ?_ | (refine zim ?_; intro zb hc) | (refine zin ?_; intro zb) | intro j')
  all_goals try refine zbx ?_
  refine v_loopB (fun ms1 S1 => ∃ (k : Nat), S1.e 0 = .p (.sl (.lent m0) (List.map (PV.int .i64) (l))) ∧ S1.e 1 = .p (.int .i64 (x)) ∧ S1.e 5 = .p (.int .i64 (k)) ∧ (k ≤ l.length) ∧ ((l.take k).contains x = false) ∧ ms1 = l.length - k) ((fun (k : Nat) => l.length - k) (0)) ?_ ⟨0, dIa trivial ?_⟩
  all_goals try (refine zlf ?_; repeat' first | exact zso | refine And.intro ?_ ?_ | (refine zim ?_; intro zb hc) | (refine zin ?_; intro zb) | intro j')
  all_goals try refine zbx ?_
  rintro ms1 S1 ⟨k, h1_0, h1_1, h1_5, c1_0, c1_1, hm1⟩
  have fL1 := (And.intro h1_0 (And.intro h1_1 h1_5))
  refine dEa fL1 ?_
  all_goals try (refine zlf ?_; repeat' first | exact zso | refine And.intro ?_ ?_ | (refine zim ?_; intro zb hc) | (refine zin ?_; intro zb) | intro j')
  all_goals try refine zbx ?_
  · rw [← hc, contains_at (by omega)]
  · focus
      refine q_lp_n ((fun (k : Nat) => l.length - k) (k+1)) (dC fL1 ?_) ⟨k+1, dC fL1 ?_⟩
      all_goals try (refine zlf ?_; repeat' first | exact zso | refine And.intro ?_ ?_ | (refine zim ?_; intro zb hc) | (refine zin ?_; intro zb) | intro j')
      all_goals try refine zbx ?_
    rw [contains_take (by omega), c1_1, Bool.false_or]; exact decide_eq_false (fun e => hc e.symm)
  · rw [← c1_1, List.take_of_length_le (by omega)]
end Go.Gl
