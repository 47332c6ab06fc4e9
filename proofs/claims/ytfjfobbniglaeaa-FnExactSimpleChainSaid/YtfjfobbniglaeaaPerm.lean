/-
 Permutations: what is told of them. Conditions: none.
-/
import Derived.Test.YtfjfobbniglaeaaNum
set_option linter.unusedSimpArgs false
set_option linter.unusedVariables false
set_option maxRecDepth 20000
set_option linter.unusedSectionVars false
namespace Go.Gl
open Go Go.Proofs
variable [Amb] [NoQ]
/-- Each of the numbers 1 to the length once, from place k on, those in 'seen' seen. -/
def permGo (n : Int) : List Int → List Int → Bool
 | _, [] => true
 | seen, v :: p => decide (1 ≤ v) && decide (v ≤ n) && !(seen.contains v) && permGo n (seen ++ [v]) p
def permB (p : List Int) : Bool := permGo p.length [] p
def isPermB (p : List Int) : Bool := decide (p.length ≤ 8) && permB p
theorem contains_take {l : List Int} {k : Nat} {x : Int} (h : k < l.length) : (l.take (k + 1)).contains x = ((l.take k).contains x || decide (x = l.getD k 0)) := by
 rw [List.take_add_one, List.getD_eq_getElem?_getD, List.getElem?_eq_getElem h]
 simp only [Option.toList_some, Option.getD_some, List.contains_append]
 congr 1
 simp [List.contains_cons]
theorem contains_at {l : List Int} {k : Nat} (h : k < l.length) : l.contains (l.getD k 0) = true := by
 rw [List.getD_eq_getElem?_getD, List.getElem?_eq_getElem h]; simp
theorem permGo_step {n : Int} {p : List Int} {k : Nat} (h : k < p.length) : permGo n (p.take k) (p.drop k) = (decide (1 ≤ p.getD k 0) && decide (p.getD k 0 ≤ n) && !((p.take k).contains (p.getD k 0)) && permGo n (p.take (k + 1)) (p.drop (k + 1))) := by
 rw [dropI_at h, permGo]
 congr 2
 rw [List.take_add_one, List.getD_eq_getElem?_getD, List.getElem?_eq_getElem h]; rfl
theorem spec_l2Has_c {m0 : Bool} (l : List Int) (x : Int) (hl : l.length ≤ 1099511627776) : Fun Try.prog 47 [(.sl (.lent m0) (List.map (PV.int .i64) (l))), (.int .i64 (x))] [(.bool (l.contains x))] := by
 refine fO sg0 [4] Try.func47 ?_
 refine dE trivial ?_
 all_goals try (refine zlf ?_; repeat' first | exact zso | refine And.intro ?_ ?_ | (refine zim ?_; intro zb hc) | (refine zin ?_; intro zb) | intro j')
 all_goals try refine zbx ?_
 refine v_loopB (fun ms1 S1 => ∃ (k : Nat), S1.e 0 = .p (.sl (.lent m0) (List.map (PV.int .i64) (l))) ∧ S1.e 1 = .p (.int .i64 (x)) ∧ S1.e 5 = .p (.int .i64 (k)) ∧ (k ≤ l.length) ∧ ((l.take k).contains x = false) ∧ ms1 = l.length - k) ((fun (k : Nat) => l.length - k) (0)) ?_ ⟨0, dIa trivial ?_⟩
 all_goals try (refine zlf ?_; repeat' first | exact zso | refine And.intro ?_ ?_ | (refine zim ?_; intro zb hc) | (refine zin ?_; intro zb) | intro j')
 all_goals try refine zbx ?_
 rintro ms1 S1 ⟨k, h1_0, h1_1, h1_5, c1_0, c1_1, hm1⟩
 have fL1 := (And.intro h1_0 (And.intro h1_1 h1_5))
 refine dEa fL1 ?_
 all_goals try (refine zlf ?_; repeat' first | exact zso | refine And.intro ?_ ?_ | (refine zim ?_; intro zb hc) | (refine zin ?_; intro zb) | intro j')
 all_goals try refine zbx ?_
 ·rw [← hc, contains_at (by omega)]
 ·focus
   refine q_lp_n ((fun (k : Nat) => l.length - k) (k+1)) (dC fL1 ?_) ⟨k+1, dC fL1 ?_⟩
   all_goals try (refine zlf ?_; repeat' first | exact zso | refine And.intro ?_ ?_ | (refine zim ?_; intro zb hc) | (refine zin ?_; intro zb) | intro j')
   all_goals try refine zbx ?_
  rw [contains_take (by omega), c1_1, Bool.false_or]; exact decide_eq_false (fun e => hc e.symm)
 ·rw [← c1_1, List.take_of_length_le (by omega)]
theorem spec_IsPerm_c {m0 : Bool} (p : List Int) (hl : p.length ≤ 1048576) : Fun Try.prog 86 [(.sl (.lent m0) (List.map (PV.int .i64) (p)))] [(.bool (isPermB p))] := by
 refine fO sg0 [2] Try.func86 ?_
 have cE1 := @spec_l1In_c; have cE2 := @spec_l2Has_c; have cD1 := zdh [false, false, false, false, false, false, true, false, false, false, false, false, false, false, false, false, true, false] []
 refine dE trivial ?_
 all_goals try (refine zlf ?_; repeat' first | exact zso | refine And.intro ?_ ?_ | (refine zim ?_; intro zb hc) | (refine zin ?_; intro zb) | intro j')
 all_goals try refine zbx ?_
 refine v_loopB (fun ms1 S1 => ∃ (k : Nat), S1.e 0 = .p (.sl (.lent m0) (List.map (PV.int .i64) (p))) ∧ S1.e 3 = .p (.int .i64 (k)) ∧ (k ≤ p.length) ∧ (p.length ≤ 8 → permB p = permGo p.length (p.take k) (p.drop k)) ∧ ms1 = p.length - k) ((fun (k : Nat) => p.length - k) (0)) ?_ ⟨0, dIa trivial ?_⟩
 all_goals try (refine zlf ?_; repeat' first | exact zso | refine And.intro ?_ ?_ | (refine zim ?_; intro zb hc) | (refine zin ?_; intro zb) | intro j')
 all_goals try refine zbx ?_
 rintro ms1 S1 ⟨k, h1_0, h1_3, c1_0, c1_1, hm1⟩
 have fL1 := (And.intro h1_0 h1_3)
 refine dEa fL1 ?_
 all_goals try (refine zlf ?_; repeat' first | exact zso | refine And.intro ?_ ?_ | (refine zim ?_; intro zb hc) | (refine zin ?_; intro zb) | intro j')
 all_goals try refine zbx ?_
 all_goals try (have c2 := c1_1 (by omega); rw [permGo_step (by omega)] at c2)
 ·simp only [isPermB, c2, hc]; simp
 ·focus
   refine q_lp_n ((fun (k : Nat) => p.length - k) (k+1)) (dC fL1 ?_) ⟨k+1, dC fL1 ?_⟩
   all_goals try (refine zlf ?_; repeat' first | exact zso | refine And.intro ?_ ?_ | (refine zim ?_; intro zb hc) | (refine zin ?_; intro zb) | intro j')
   all_goals try refine zbx ?_
  intro h; rw [c2, hc, decide_eq_true (by omega), decide_eq_true (by omega)]; rfl
 ·simp only [isPermB, c2]
  rcases hc with hc | hc
  ·rw [decide_eq_false (by omega : ¬ 1 ≤ p.getD k 0)]; simp
  ·rw [decide_eq_false (by omega : ¬ p.getD k 0 ≤ (p.length : Int))]; simp
 ·rw [isPermB, decide_eq_false (by omega)]; rfl
 ·by_cases h8 : p.length ≤ 8
  ·rw [isPermB, c1_1 h8, List.drop_of_length_le (by omega), permGo, Bool.and_true]; congr 1; simp only [eq_iff_iff]; omega
  ·rw [isPermB, decide_eq_false h8, decide_eq_false (by omega)]; rfl
 ·rfl
theorem impl_isPerm_c {m0 : Bool} (p : List Int) (hl : p.length ≤ 1048576) : Fun Try.prog 98 [(.sl (.lent m0) (List.map (PV.int .i64) (p)))] [(.bool (permB p))] := by
 refine fO sg0 [2] Try.func98 ?_
 refine dEa trivial ?_
 all_goals try (refine zlf ?_; repeat' first | exact zso | refine And.intro ?_ ?_ | (refine zim ?_; intro zb hc) | (refine zin ?_; intro zb) | intro j')
 all_goals try refine zbx ?_
 refine v_loopB (fun ms1 S1 => ∃ (k : Nat) (seen : List Bool), S1.e 0 = .p (.sl (.lent m0) (List.map (PV.int .i64) (p))) ∧ S1.e 10 = .p (.sl (.lent m0) (List.map (PV.int .i64) (p))) ∧ OwnL (S1.e 3) S1.h S1.n PV.bool ((seen).length) (seen) ∧ S1.e 11 = .p (.int .i64 (p.length)) ∧ S1.e 12 = .p (.int .i64 (k)) ∧ (k ≤ p.length) ∧ (seen.length = p.length + 1) ∧ (permB p = permGo p.length (p.take k) (p.drop k)) ∧ (∀ v : Nat, 1 ≤ v → v ≤ p.length → seen.getD v false = (p.take k).contains (v : Int)) ∧ ms1 = p.length - k) ((fun (k : Nat) (seen : List Bool) => p.length - k) (0) (List.replicate (p.length+1) false)) ?_ ⟨0, List.replicate (p.length+1) false, dI trivial ?_⟩
 all_goals try (refine zlf ?_; repeat' first | exact zso | refine And.intro ?_ ?_ | (refine zim ?_; intro zb hc) | (refine zin ?_; intro zb) | intro j')
 all_goals try refine zbx ?_
 rintro ms1 S1 ⟨k, seen, h1_0, h1_10, o1_3, h1_11, h1_12, c1_0, c1_1, c1_2, c1_3, hm1⟩
 obtain ⟨i1_3, h1_3, b1_3, l1_3⟩ := o1_3.out
 have ni1_3 := znds (x := i1_3) (n := S1.n)
 have fL1 := (And.intro h1_0 (And.intro h1_10 (And.intro h1_11 (And.intro h1_12 (And.intro h1_3 (And.intro b1_3 ni1_3))))))
 refine dE fL1 ?_
 all_goals try (refine zlf ?_; repeat' first | exact zso | refine And.intro ?_ ?_ | (refine zim ?_; intro zb hc) | (refine zin ?_; intro zb) | intro j')
 all_goals try refine zbx ?_
 all_goals try rw [permGo_step (by omega)] at c1_2
 all_goals try exact zaut
 ·rw [c1_2, ← show ((p.getD k 0).toNat : Int) = p.getD k 0 by omega, ← c1_3 _ (by omega) (by omega), hc]; simp
 ·focus
   refine q_lp_n ((fun (k : Nat) (seen : List Bool) => p.length - k) (k+1) (seen.set (p.getD k 0).toNat true)) (dC fL1 ?_) ⟨k+1, seen.set (p.getD k 0).toNat true, dC fL1 ?_⟩
   all_goals try (refine zlf ?_; repeat' first | exact zso | refine And.intro ?_ ?_ | (refine zim ?_; intro zb hc) | (refine zin ?_; intro zb) | intro j')
   all_goals try refine zbx ?_
  ·rw [c1_2, decide_eq_true (by omega), decide_eq_true (by omega), ← show ((p.getD k 0).toNat : Int) = p.getD k 0 by omega, ← c1_3 _ (by omega) (by omega), hc]; rfl
  ·intro v h1 h2
   rw [contains_take (by omega), ← c1_3 v h1 h2, List.getD_eq_getElem?_getD, List.getElem?_set]
   by_cases e : (p.getD k 0).toNat = v
   ·rw [if_pos e, if_pos (by omega), decide_eq_true (by omega)]; simp
   ·rw [if_neg e, decide_eq_false (by omega), Bool.or_false, List.getD_eq_getElem?_getD]
 ·rw [c1_2, decide_eq_false (by omega : ¬ p.getD k 0 ≤ (p.length : Int))]; simp
 ·rw [c1_2, decide_eq_false (by omega : ¬ 1 ≤ p.getD k 0)]; simp
 ·rw [c1_2, List.drop_of_length_le (by omega)]; rfl
 ·intro v h1 h2; rw [List.getD_eq_getElem?_getD, List.getElem?_replicate]; split <;> rfl
theorem impl_IsPerm_c {m0 : Bool} (p : List Int) (hl : p.length ≤ 1048576) : Fun Try.prog 52 [(.sl (.lent m0) (List.map (PV.int .i64) (p)))] [(.bool (isPermB p))] := by
 refine fO sg0 [2] Try.func52 ?_
 have cE1 := @impl_isPerm_c
 refine dEa trivial ?_
 all_goals try (refine zlf ?_; repeat' first | exact zso | refine And.intro ?_ ?_ | (refine zim ?_; intro zb hc) | (refine zin ?_; intro zb) | intro j')
 all_goals try refine zbx ?_
 ·rw [isPermB, decide_eq_true (by omega), Bool.true_and]
 ·rw [isPermB, decide_eq_false (by omega)]; rfl
end Go.Gl
