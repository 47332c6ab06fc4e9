/-
 The helpers of the laws: copies, comparisons, marks. Conditions: none.
-/
import Derived.Test.YtfjfobbniglaeaaNum
import Derived.Test.YtfjfobbniglaeaaGlC
set_option linter.unusedSimpArgs false
set_option linter.unusedVariables false
set_option maxRecDepth 20000
set_option linter.unusedSectionVars false
namespace Go.Gl
open Go Go.Proofs
variable [Amb] [NoQ]
/-- The marks: from k on, n of them. -/
def markL (n : Nat) (k : Int) : List Int := (List.range n).map fun i : Nat => k + (i : Int)
theorem markL_length {n : Nat} {k : Int} : (markL n k).length = n := by simp [markL]
theorem markL_at {n i : Nat} {k : Int} (h : i < n) : (markL n k).getD i 0 = k + i := by
 rw [List.getD_eq_getElem?_getD]; simp [markL, h]
theorem markL_succ {n : Nat} {k : Int} : markL (n + 1) k = markL n k ++ [k + n] := by simp [markL, List.range_succ]
theorem set_take {c : List Int} {i : Nat} {x : Int} (h : i < c.length) : (c.set i x).take (i + 1) = c.take i ++ [x] := by
 rw [List.take_add_one, List.take_set_of_le (Nat.le_refl _), List.getElem?_set_self h]; rfl
theorem take_succ_iff {a b : List Int} {k : Nat} (ha : k < a.length) (hb : k < b.length) : a.take (k + 1) = b.take (k + 1) ↔ a.take k = b.take k ∧ a.getD k 0 = b.getD k 0 := by
 rw [List.take_add_one, List.take_add_one, List.getD_eq_getElem?_getD, List.getD_eq_getElem?_getD, List.getElem?_eq_getElem ha, List.getElem?_eq_getElem hb]
 simp only [Option.toList_some, Option.getD_some]
 constructor
 ·intro h
  have := List.append_inj h (by simp; omega)
  exact ⟨this.1, by simpa using this.2⟩
 ·rintro ⟨h1, h2⟩; rw [h1, h2]
theorem laws_eqIntS_c {m0 m1 : Bool} (a b : List Int) (ha : a.length ≤ 1099511627776) (hb : b.length ≤ 1099511627776) : Fun Try.prog 9 [(.sl (.lent m0) (List.map (PV.int .i64) (a))), (.sl (.lent m1) (List.map (PV.int .i64) (b)))] [(.bool (decide (a = b)))] := by
 refine fO sg0 [4] Try.func9 ?_
 refine dE trivial ?_
 all_goals try (refine zlf ?_; repeat' first | exact zso | refine And.intro ?_ ?_ | (refine zim ?_; intro zb hc) | (refine zin ?_; intro zb) | intro j')
 all_goals try refine zbx ?_
 ·rw [decide_eq_false]; intro e; subst e; exact hc rfl
 refine v_loopB (fun ms1 S1 => ∃ (k : Nat), S1.e 0 = .p (.sl (.lent m0) (List.map (PV.int .i64) (a))) ∧ S1.e 1 = .p (.sl (.lent m1) (List.map (PV.int .i64) (b))) ∧ S1.e 5 = .p (.int .i64 (k)) ∧ (k ≤ a.length) ∧ (a.take k = b.take k) ∧ ms1 = a.length - k) ((fun (k : Nat) => a.length - k) (0)) ?_ ⟨0, dIa trivial ?_⟩
 all_goals try (refine zlf ?_; repeat' first | exact zso | refine And.intro ?_ ?_ | (refine zim ?_; intro zb hc) | (refine zin ?_; intro zb) | intro j')
 all_goals try refine zbx ?_
 rintro ms1 S1 ⟨k, h1_0, h1_1, h1_5, c1_0, c1_1, hm1⟩
 have fL1 := (And.intro h1_0 (And.intro h1_1 h1_5))
 refine dEa fL1 ?_
 all_goals try (refine zlf ?_; repeat' first | exact zso | refine And.intro ?_ ?_ | (refine zim ?_; intro zb hc) | (refine zin ?_; intro zb) | intro j')
 all_goals try refine zbx ?_
 ·rw [decide_eq_false]; intro e; subst e; exact hc rfl
 ·focus
   refine q_lp_n ((fun (k : Nat) => a.length - k) (k+1)) (dC fL1 ?_) ⟨k+1, dC fL1 ?_⟩
   all_goals try (refine zlf ?_; repeat' first | exact zso | refine And.intro ?_ ?_ | (refine zim ?_; intro zb hc) | (refine zin ?_; intro zb) | intro j')
   all_goals try refine zbx ?_
  rw [take_succ_iff (by omega) (by omega)]; exact ⟨c1_1, hc⟩
 ·rw [decide_eq_true]
  rw [List.take_of_length_le (by omega), List.take_of_length_le (by omega)] at c1_1; exact c1_1
theorem laws_markIntS_c (a : List Int) (k : Int) (ha : a.length ≤ 1099511627776) (hk : 0 ≤ k) (hj : k ≤ 1099511627776) : CallT Try.prog false 10 [.mu false (List.map (PV.int .i64) (a)), .pv (.int .i64 (k))] [some (List.map (PV.int .i64) (markL a.length k)), none] [(.int .i64 ((k + a.length)))] := by
 refine fX sg0 [4] Try.func10 ?_
 refine dE trivial ?_
 all_goals try (refine zlf ?_; repeat' first | exact zso | refine And.intro ?_ ?_ | (refine zim ?_; intro zb hc) | (refine zin ?_; intro zb) | intro j')
 all_goals try refine zbx ?_
 refine v_loopB (fun ms1 S1 => ∃ (i : Nat) (c : List Int), S1.e 0 = .ref 0 0 (c).length ∧ S1.h 0 = .live true (List.map (PV.int .i64) (c)) ∧ 0 < S1.n ∧ S1.e 1 = .p (.int .i64 ((k + i))) ∧ S1.e 5 = .p (.int .i64 (i)) ∧ (i ≤ a.length) ∧ (c.length = a.length) ∧ (c.take i = markL i k) ∧ ms1 = a.length - i) ((fun (i : Nat) (c : List Int) => a.length - i) (0) (a)) ?_ ⟨0, a, dIa trivial ?_⟩
 all_goals try (refine zlf ?_; repeat' first | exact zso | refine And.intro ?_ ?_ | (refine zim ?_; intro zb hc) | (refine zin ?_; intro zb) | intro j')
 all_goals try refine zbx ?_
 rintro ms1 S1 ⟨i, c, h1_0, b1_0, l1_0, h1_1, h1_5, c1_0, c1_1, c1_2, hm1⟩
 have n0 := znds (x := 0) (n := S1.n)
 have fL1 := (And.intro h1_0 (And.intro b1_0 (And.intro h1_1 (And.intro h1_5 n0))))
 refine dEa fL1 ?_
 all_goals try (refine zlf ?_; repeat' first | exact zso | refine And.intro ?_ ?_ | (refine zim ?_; intro zb hc) | (refine zin ?_; intro zb) | intro j')
 all_goals try refine zbx ?_
 ·focus
   refine q_lp_n ((fun (i : Nat) (c : List Int) => a.length - i) (i+1) (c.set i (k + i))) (dC fL1 ?_) ⟨i+1, c.set i (k + i), dC fL1 ?_⟩
   all_goals try (refine zlf ?_; repeat' first | exact zso | refine And.intro ?_ ?_ | (refine zim ?_; intro zb hc) | (refine zin ?_; intro zb) | intro j')
   all_goals try refine zbx ?_
  rw [set_take (by omega), c1_2, markL_succ]
 ·obtain rfl : i = a.length := by omega
  rw [← c1_2, List.take_of_length_le (by omega)]
theorem laws_heldIntS_c {m0 : Bool} (n : Nat) (k : Int) (hn : n ≤ 1099511627776) (hk : 0 ≤ k) (hj : k ≤ 1099511627776) : Fun Try.prog 11 [(.sl (.lent m0) (List.map (PV.int .i64) (markL n k))), (.int .i64 (k))] [(.int .i64 ((k + n)))] := by
 refine fO sg0 [4] Try.func11 ?_
 refine dE trivial ?_
 all_goals try (refine zlf ?_; repeat' first | exact zso | refine And.intro ?_ ?_ | (refine zim ?_; intro zb hc) | (refine zin ?_; intro zb) | intro j')
 all_goals try refine zbx ?_
 have hl : (markL n k).length = n := markL_length
 refine v_loopB (fun ms1 S1 => ∃ (i : Nat), S1.e 0 = .p (.sl (.lent m0) (List.map (PV.int .i64) (markL n k))) ∧ S1.e 1 = .p (.int .i64 ((k + i))) ∧ S1.e 5 = .p (.int .i64 (i)) ∧ (i ≤ n) ∧ ms1 = n - i) ((fun (i : Nat) => n - i) (0)) ?_ ⟨0, dI trivial ?_⟩
 all_goals try (refine zlf ?_; repeat' first | exact zso | refine And.intro ?_ ?_ | (refine zim ?_; intro zb hc) | (refine zin ?_; intro zb) | intro j')
 all_goals try refine zbx ?_
 rintro ms1 S1 ⟨i, h1_0, h1_1, h1_5, c1_0, hm1⟩
 have fL1 := (And.intro h1_0 (And.intro h1_1 h1_5))
 refine dE fL1 ?_
 all_goals try (refine zlf ?_; repeat' first | exact zso | refine And.intro ?_ ?_ | (refine zim ?_; intro zb hc) | (refine zin ?_; intro zb) | intro j')
 all_goals try refine zbx ?_
 all_goals try rw [hl] at hc
 all_goals try exact zaut
 ·exact absurd (markL_at (by omega)) hc
 ·focus
   refine q_lp_n ((fun (i : Nat) => n - i) (i+1)) (dC fL1 ?_) ⟨i+1, dC fL1 ?_⟩
   all_goals try (refine zlf ?_; repeat' first | exact zso | refine And.intro ?_ ?_ | (refine zim ?_; intro zb hc) | (refine zin ?_; intro zb) | intro j')
   all_goals try refine zbx ?_
theorem set_take' {α : Type} {c : List α} {i : Nat} {x : α} (h : i < c.length) : (c.set i x).take (i + 1) = c.take i ++ [x] := by
 rw [List.take_add_one, List.take_set_of_le (Nat.le_refl _), List.getElem?_set_self h]; rfl
theorem take_getD {α : Type} {l : List α} {i : Nat} {d : α} (h : i < l.length) : l.take (i + 1) = l.take i ++ [l.getD i d] := by
 rw [List.take_add_one, List.getD_eq_getElem?_getD, List.getElem?_eq_getElem h]; rfl
theorem laws_toIntS_c {m0 : Bool} (l : List Int) (hl : l.length ≤ 1099511627776) : Fun Try.prog 13 [(.sl (.lent m0) (List.map (PV.int .i64) (l)))] [(.sl .own (List.map (PV.int .i64) (l)))] := by
 refine fO sg0 [2] Try.func13 ?_
 refine dEa trivial ?_
 all_goals try (refine zlf ?_; repeat' first | exact zso | refine And.intro ?_ ?_ | (refine zim ?_; intro zb hc) | (refine zin ?_; intro zb) | intro j')
 all_goals try refine zbx ?_
 refine v_loopB (fun ms1 S1 => ∃ (i : Nat) (c : List Int), S1.e 0 = .p (.sl (.lent m0) (List.map (PV.int .i64) (l))) ∧ OwnL (S1.e 3) S1.h S1.n (PV.int .i64) ((c).length) (c) ∧ S1.e 4 = .p (.int .i64 (i)) ∧ (i ≤ l.length) ∧ (c.length = l.length) ∧ (c.take i = l.take i) ∧ ms1 = l.length - i) ((fun (i : Nat) (c : List Int) => l.length - i) (0) (List.replicate l.length 0)) ?_ ⟨0, List.replicate l.length 0, dIa trivial ?_⟩
 all_goals try (refine zlf ?_; repeat' first | exact zso | refine And.intro ?_ ?_ | (refine zim ?_; intro zb hc) | (refine zin ?_; intro zb) | intro j')
 all_goals try refine zbx ?_
 rintro ms1 S1 ⟨i, c, h1_0, o1_3, h1_4, c1_0, c1_1, c1_2, hm1⟩
 obtain ⟨i1_3, h1_3, b1_3, l1_3⟩ := o1_3.out
 have ni1_3 := znds (x := i1_3) (n := S1.n)
 have fL1 := (And.intro h1_0 (And.intro h1_4 (And.intro h1_3 (And.intro b1_3 ni1_3))))
 refine dEa fL1 ?_
 all_goals try (refine zlf ?_; repeat' first | exact zso | refine And.intro ?_ ?_ | (refine zim ?_; intro zb hc) | (refine zin ?_; intro zb) | intro j')
 all_goals try refine zbx ?_
 ·focus
   refine q_lp_n ((fun (i : Nat) (c : List Int) => l.length - i) (i+1) (c.set i (l.getD i 0))) (dC fL1 ?_) ⟨i+1, c.set i (l.getD i 0), dC fL1 ?_⟩
   all_goals try (refine zlf ?_; repeat' first | exact zso | refine And.intro ?_ ?_ | (refine zim ?_; intro zb hc) | (refine zin ?_; intro zb) | intro j')
   all_goals try refine zbx ?_
  rw [set_take' (by omega), c1_2, take_getD hc]
 ·rw [List.take_of_length_le (by omega), List.take_of_length_le (by omega)] at c1_2; rw [c1_2]
theorem mk_take {n : Nat} {k : Int} : List.take n (markL n k) = markL n k := by
 rw [List.take_of_length_le]; simp [markL_length]
attribute [go_sem] mk_take markL_length List.not_mem_nil List.mem_cons or_false
end Go.Gl
