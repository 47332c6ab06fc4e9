/-
 Lists of numbers put in order: what the comparing functions compute. Conditions: none.
-/
import Derived.Test.YtfjfobbniglaeaaNum
set_option linter.unusedSimpArgs false
set_option linter.unusedVariables false
set_option maxRecDepth 20000
set_option linter.unusedSectionVars false
namespace Go.Gl
open Go Go.Proofs
variable [Amb]
def cmpI (a b : Int) : Int := if a < b then -1 else if b < a then 1 else 0
def cmpL : List Int → List Int → Int
 | [], [] => 0
 | [], _ :: _ => -1
 | _ :: _, [] => 1
 | a :: x, b :: y => if cmpI a b ≠ 0 then cmpI a b else cmpL x y
def cmpP (p q : List Int) : Int := if cmpI p.length q.length ≠ 0 then cmpI p.length q.length else cmpL p q
theorem cmpI_0 {a b : Int} : cmpI a b = 0 ↔ a = b := by
 unfold cmpI; split
 ·omega
 ·split <;> omega
def orL : List Int → Int
 | [] => 0
 | x :: l => if x ≠ 0 then x else orL l
theorem cmpI_lt {a b : Int} (h : a < b) : -1 = cmpI a b := by rw [cmpI, if_pos h]
theorem cmpI_gt {a b : Int} (h : b < a) : 1 = cmpI a b := by rw [cmpI, if_neg (by omega), if_pos h]
theorem cmp_isNaN_int_c (x : Int) : Fun Try.prog 147 [(.int .i64 (x))] [(.bool (false))] := by
 refine fO sg0 [2] Try.func147 ?_
 refine dEa trivial ?_
 all_goals try (refine zlf ?_; repeat' first | exact zso | refine And.intro ?_ ?_ | (refine zim ?_; intro zb hc) | (refine zin ?_; intro zb) | intro j')
 all_goals try refine zbx ?_
theorem cmp_Compare_int_c (a b : Int) : Fun Try.prog 135 [(.int .i64 (a)), (.int .i64 (b))] [(.int .i64 (cmpI a b))] := by
 refine fO sg0 [4] Try.func135 ?_
 have cE1 := @cmp_isNaN_int_c
 refine dEa trivial ?_
 all_goals try (refine zlf ?_; repeat' first | exact zso | refine And.intro ?_ ?_ | (refine zim ?_; intro zb hc) | (refine zin ?_; intro zb) | intro j')
 all_goals try refine zbx ?_
 ·exact cmpI_lt hc
 ·exact cmpI_gt hc
 ·rw [cmpI, if_neg (by omega), if_neg (by omega)]
theorem slices_Compare_int_int_c {m0 m1 : Bool} (a b : List Int) (ha : a.length ≤ 1099511627776) (hb : b.length ≤ 1099511627776) : Fun Try.prog 136 [(.sl (.lent m0) (List.map (PV.int .i64) (a))), (.sl (.lent m1) (List.map (PV.int .i64) (b)))] [(.int .i64 (cmpL a b))] := by
 refine fO sg0 [4] Try.func136 ?_
 have cE1 := @cmp_Compare_int_c
 refine dEa trivial ?_
 all_goals try (refine zlf ?_; repeat' first | exact zso | refine And.intro ?_ ?_ | (refine zim ?_; intro zb hc) | (refine zin ?_; intro zb) | intro j')
 all_goals try refine zbx ?_
 refine v_loopB (fun ms1 S1 => ∃ (k : Nat), S1.e 1 = .p (.sl (.lent m1) (List.map (PV.int .i64) (b))) ∧ S1.e 0 = .p (.sl (.lent m0) (List.map (PV.int .i64) (a))) ∧ S1.e 9 = .p (.sl (.lent m0) (List.map (PV.int .i64) (a))) ∧ S1.e 10 = .p (.int .i64 (a.length)) ∧ S1.e 11 = .p (.int .i64 (k)) ∧ (k ≤ a.length) ∧ (k ≤ b.length) ∧ (cmpL a b = cmpL (a.drop k) (b.drop k)) ∧ ms1 = a.length - k) ((fun (k : Nat) => a.length - k) (0)) ?_ ⟨0, dIa trivial ?_⟩
 all_goals try (refine zlf ?_; repeat' first | exact zso | refine And.intro ?_ ?_ | (refine zim ?_; intro zb hc) | (refine zin ?_; intro zb) | intro j')
 all_goals try refine zbx ?_
 rintro ms1 S1 ⟨k, h1_1, h1_0, h1_9, h1_10, h1_11, c1_0, c1_1, c1_2, hm1⟩
 have fL1 := (And.intro h1_1 (And.intro h1_0 (And.intro h1_9 (And.intro h1_10 h1_11))))
 refine dEa fL1 ?_
 all_goals try (refine zlf ?_; repeat' first | exact zso | refine And.intro ?_ ?_ | (refine zim ?_; intro zb hc) | (refine zin ?_; intro zb) | intro j')
 all_goals try refine zbx ?_
 ·rw [c1_2, dropI_at (by omega), List.drop_of_length_le (l := b) (by omega), cmpL]
 ·rw [c1_2, dropI_at (by omega), dropI_at (s := b) (by omega), cmpL, if_pos hc]
 ·focus
   refine q_lp_n ((fun (k : Nat) => a.length - k) (k+1)) (dC fL1 ?_) ⟨k+1, dC fL1 ?_⟩
   all_goals try (refine zlf ?_; repeat' first | exact zso | refine And.intro ?_ ?_ | (refine zim ?_; intro zb hc) | (refine zin ?_; intro zb) | intro j')
   all_goals try refine zbx ?_
  rw [c1_2, dropI_at (by omega), dropI_at (s := b) (by omega), cmpL, if_neg (fun h => h hc)]
 ·rw [c1_2, List.drop_of_length_le (l := a) (by omega), dropI_at (s := b) (by omega), cmpL]
 ·rw [c1_2, List.drop_of_length_le (l := a) (by omega), List.drop_of_length_le (l := b) (by omega), cmpL]
theorem cmp_Or_int_c {m0 : Bool} (l : List Int) (hl : l.length ≤ 1099511627776) : Fun Try.prog 134 [(.sl (.lent m0) (List.map (PV.int .i64) (l)))] [(.int .i64 (orL l))] := by
 refine fO sg0 [2] Try.func134 ?_
 refine dEa trivial ?_
 all_goals try (refine zlf ?_; repeat' first | exact zso | refine And.intro ?_ ?_ | (refine zim ?_; intro zb hc) | (refine zin ?_; intro zb) | intro j')
 all_goals try refine zbx ?_
 refine v_loopB (fun ms1 S1 => ∃ (k : Nat), S1.e 3 = .p (.int .i64 (0)) ∧ S1.e 6 = .p (.sl (.lent m0) (List.map (PV.int .i64) (l))) ∧ S1.e 7 = .p (.int .i64 (l.length)) ∧ S1.e 8 = .p (.int .i64 (k)) ∧ (k ≤ l.length) ∧ (orL l = orL (l.drop k)) ∧ ms1 = l.length - k) ((fun (k : Nat) => l.length - k) (0)) ?_ ⟨0, dIa trivial ?_⟩
 all_goals try (refine zlf ?_; repeat' first | exact zso | refine And.intro ?_ ?_ | (refine zim ?_; intro zb hc) | (refine zin ?_; intro zb) | intro j')
 all_goals try refine zbx ?_
 rintro ms1 S1 ⟨k, h1_3, h1_6, h1_7, h1_8, c1_0, c1_1, hm1⟩
 have fL1 := (And.intro h1_3 (And.intro h1_6 (And.intro h1_7 h1_8)))
 refine dEa fL1 ?_
 all_goals try (refine zlf ?_; repeat' first | exact zso | refine And.intro ?_ ?_ | (refine zim ?_; intro zb hc) | (refine zin ?_; intro zb) | intro j')
 all_goals try refine zbx ?_
 ·rw [c1_1, dropI_at (by omega), orL, if_pos hc]
 ·focus
   refine q_lp_n ((fun (k : Nat) => l.length - k) (k+1)) (dC fL1 ?_) ⟨k+1, dC fL1 ?_⟩
   all_goals try (refine zlf ?_; repeat' first | exact zso | refine And.intro ?_ ?_ | (refine zim ?_; intro zb hc) | (refine zin ?_; intro zb) | intro j')
   all_goals try refine zbx ?_
  rw [c1_1, dropI_at (by omega), orL, if_neg (fun h => h hc)]
 ·rw [c1_1, List.drop_of_length_le (by omega), orL]
theorem cmp_Or_2 {m0 : Bool} (a b : Int) : Fun Try.prog 134 [.sl (.lent m0) [.int .i64 a, .int .i64 b]] [.int .i64 (if a ≠ 0 then a else b)] := by
 have h := cmp_Or_int_c (m0 := m0) [a, b] (by simp)
 have e : orL [a, b] = if a ≠ 0 then a else b := by
  simp only [orL]; split
  ·rfl
  ·split
   ·rfl
   ·omega
 rw [e] at h
 exact h
theorem impl_comparePerms_c {m0 m1 : Bool} (p q : List Int) (hp : p.length ≤ 1048576) (hq : q.length ≤ 1048576) : Fun Try.prog 118 [(.sl (.lent m0) (List.map (PV.int .i64) (p))), (.sl (.lent m1) (List.map (PV.int .i64) (q)))] [(.int .i64 (cmpP p q))] := by
 refine fO sg0 [4] Try.func118 ?_
 have cE1 := @cmp_Compare_int_c; have cE2 := @slices_Compare_int_int_c; have cE3 := @cmp_Or_int_c
 have cE1 := @cmp_Or_2; have cE2 := @cmp_Compare_int_c; have cE3 := @slices_Compare_int_int_c
 refine dEa trivial ?_
 all_goals try (refine zlf ?_; repeat' first | exact zso | refine And.intro ?_ ?_ | (refine zim ?_; intro zb hc) | (refine zin ?_; intro zb) | intro j')
 all_goals try refine zbx ?_
 rfl
end Go.Gl
