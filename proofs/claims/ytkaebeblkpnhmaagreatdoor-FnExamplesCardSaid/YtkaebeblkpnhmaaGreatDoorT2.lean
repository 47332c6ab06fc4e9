/-
  What the functions compute, and what the law asks of it: texts joined. Conditions: those that each lemma names.
-/
import Derived.Test.YtkaebeblkpnhmaaGreatDoorT1
set_option linter.unusedSimpArgs false
set_option linter.unusedVariables false
set_option maxRecDepth 20000
set_option linter.unusedSectionVars false
namespace Go.Gl
open Go Go.Proofs
variable [Amb]
def cmpI (a b : Int) : Int := if a < b then -1 else if b < a then 1 else 0
def cmpL : List Int → List Int → Int
 | [], [] => 0
 | [], _ :: _ => -1
 | _ :: _, [] => 1
 | a :: x, b :: y => if cmpI a b ≠ 0 then cmpI a b else cmpL x y
def cmpP (p q : List Int) : Int := if cmpI p.length q.length ≠ 0 then cmpI p.length q.length else cmpL p q
theorem cmpI_0 {a b : Int} : cmpI a b = 0 ↔ a = b := by
 unfold cmpI; split
 ·omega
 ·split <;> omega
def orL : List Int → Int
 | [] => 0
 | x :: l => if x ≠ 0 then x else orL l
theorem cmpI_lt {a b : Int} (h : a < b) : -1 = cmpI a b := by rw [cmpI, if_pos h]
theorem cmpI_gt {a b : Int} (h : b < a) : 1 = cmpI a b := by rw [cmpI, if_neg (by omega), if_pos h]
theorem cmp_isNaN_int_c (x : Int) : Fun Tryz.prog 129 [(.int .i64 (x))] [(.bool (false))] := by
 refine fO sg0 [2] Tryz.func129 ?_
 refine dEa trivial ?_
 all_goals try (refine zlf ?_; repeat' first | exact zso | refine And.intro ?_ ?_ | (refine zim ?_; intro zb hc) | (refine zin ?_; intro zb) | intro j')
 all_goals try refine zbx ?_
theorem cmp_Compare_int_c (a b : Int) : Fun Tryz.prog 105 [(.int .i64 (a)), (.int .i64 (b))] [(.int .i64 (cmpI a b))] := by
 refine fO sg0 [4] Tryz.func105 ?_
 have cE1 := @cmp_isNaN_int_c
 refine dEa trivial ?_
 all_goals try (refine zlf ?_; repeat' first | exact zso | refine And.intro ?_ ?_ | (refine zim ?_; intro zb hc) | (refine zin ?_; intro zb) | intro j')
 all_goals try refine zbx ?_
 ·exact cmpI_lt hc
 ·exact cmpI_gt hc
 ·rw [cmpI, if_neg (by omega), if_neg (by omega)]
theorem slices_Compare_int_int_c {m0 m1 : Bool} (a b : List Int) (ha : a.length ≤ 1099511627776) (hb : b.length ≤ 1099511627776) : Fun Tryz.prog 106 [(.sl (.lent m0) (List.map (PV.int .i64) (a))), (.sl (.lent m1) (List.map (PV.int .i64) (b)))] [(.int .i64 (cmpL a b))] := by
 refine fO sg0 [4] Tryz.func106 ?_
 have cE1 := @cmp_Compare_int_c
 refine dEa trivial ?_
 all_goals try (refine zlf ?_; repeat' first | exact zso | refine And.intro ?_ ?_ | (refine zim ?_; intro zb hc) | (refine zin ?_; intro zb) | intro j')
 all_goals try refine zbx ?_
 refine v_loopB (fun ms1 S1 => ∃ (k : Nat), S1.e 1 = .p (.sl (.lent m1) (List.map (PV.int .i64) (b))) ∧ S1.e 0 = .p (.sl (.lent m0) (List.map (PV.int .i64) (a))) ∧ S1.e 9 = .p (.sl (.lent m0) (List.map (PV.int .i64) (a))) ∧ S1.e 10 = .p (.int .i64 (a.length)) ∧ S1.e 11 = .p (.int .i64 (k)) ∧ (k ≤ a.length) ∧ (k ≤ b.length) ∧ (cmpL a b = cmpL (a.drop k) (b.drop k)) ∧ ms1 = a.length - k) ((fun (k : Nat) => a.length - k) (0)) ?_ ⟨0, dIa trivial ?_⟩
 all_goals try (refine zlf ?_; repeat' first | exact zso | refine And.intro ?_ ?_ | (refine zim ?_; intro zb hc) | (refine zin ?_; intro zb) | intro j')
 all_goals try refine zbx ?_
 rintro ms1 S1 ⟨k, h1_1, h1_0, h1_9, h1_10, h1_11, c1_0, c1_1, c1_2, hm1⟩
 have fL1 := (And.intro h1_1 (And.intro h1_0 (And.intro h1_9 (And.intro h1_10 h1_11))))
 refine dEa fL1 ?_
 all_goals try (refine zlf ?_; repeat' first | exact zso | refine And.intro ?_ ?_ | (refine zim ?_; intro zb hc) | (refine zin ?_; intro zb) | intro j')
 all_goals try refine zbx ?_
 ·rw [c1_2, dropI_at (by omega), List.drop_of_length_le (l := b) (by omega), cmpL]
 ·rw [c1_2, dropI_at (by omega), dropI_at (s := b) (by omega), cmpL, if_pos hc]
 ·focus
   refine q_lp_n ((fun (k : Nat) => a.length - k) (k+1)) (dC fL1 ?_) ⟨k+1, dC fL1 ?_⟩
   all_goals try (refine zlf ?_; repeat' first | exact zso | refine And.intro ?_ ?_ | (refine zim ?_; intro zb hc) | (refine zin ?_; intro zb) | intro j')
   all_goals try refine zbx ?_
  rw [c1_2, dropI_at (by omega), dropI_at (s := b) (by omega), cmpL, if_neg (fun h => h hc)]
 ·rw [c1_2, List.drop_of_length_le (l := a) (by omega), dropI_at (s := b) (by omega), cmpL]
 ·rw [c1_2, List.drop_of_length_le (l := a) (by omega), List.drop_of_length_le (l := b) (by omega), cmpL]
theorem cmp_Or_int_c {m0 : Bool} (l : List Int) (hl : l.length ≤ 1099511627776) : Fun Tryz.prog 104 [(.sl (.lent m0) (List.map (PV.int .i64) (l)))] [(.int .i64 (orL l))] := by
 refine fO sg0 [2] Tryz.func104 ?_
 refine dEa trivial ?_
 all_goals try (refine zlf ?_; repeat' first | exact zso | refine And.intro ?_ ?_ | (refine zim ?_; intro zb hc) | (refine zin ?_; intro zb) | intro j')
 all_goals try refine zbx ?_
 refine v_loopB (fun ms1 S1 => ∃ (k : Nat), S1.e 3 = .p (.int .i64 (0)) ∧ S1.e 6 = .p (.sl (.lent m0) (List.map (PV.int .i64) (l))) ∧ S1.e 7 = .p (.int .i64 (l.length)) ∧ S1.e 8 = .p (.int .i64 (k)) ∧ (k ≤ l.length) ∧ (orL l = orL (l.drop k)) ∧ ms1 = l.length - k) ((fun (k : Nat) => l.length - k) (0)) ?_ ⟨0, dIa trivial ?_⟩
 all_goals try (refine zlf ?_; repeat' first | exact zso | refine And.intro ?_ ?_ | (refine zim ?_; intro zb hc) | (refine zin ?_; intro zb) | intro j')
 all_goals try refine zbx ?_
 rintro ms1 S1 ⟨k, h1_3, h1_6, h1_7, h1_8, c1_0, c1_1, hm1⟩
 have fL1 := (And.intro h1_3 (And.intro h1_6 (And.intro h1_7 h1_8)))
 refine dEa fL1 ?_
 all_goals try (refine zlf ?_; repeat' first | exact zso | refine And.intro ?_ ?_ | (refine zim ?_; intro zb hc) | (refine zin ?_; intro zb) | intro j')
 all_goals try refine zbx ?_
 ·rw [c1_1, dropI_at (by omega), orL, if_pos hc]
 ·focus
   refine q_lp_n ((fun (k : Nat) => l.length - k) (k+1)) (dC fL1 ?_) ⟨k+1, dC fL1 ?_⟩
   all_goals try (refine zlf ?_; repeat' first | exact zso | refine And.intro ?_ ?_ | (refine zim ?_; intro zb hc) | (refine zin ?_; intro zb) | intro j')
   all_goals try refine zbx ?_
  rw [c1_1, dropI_at (by omega), orL, if_neg (fun h => h hc)]
 ·rw [c1_1, List.drop_of_length_le (by omega), orL]
theorem cmp_Or_2 {m0 : Bool} (a b : Int) : Fun Tryz.prog 104 [.sl (.lent m0) [.int .i64 a, .int .i64 b]] [.int .i64 (if a ≠ 0 then a else b)] := by
 have h := cmp_Or_int_c (m0 := m0) [a, b] (by simp)
 have e : orL [a, b] = if a ≠ 0 then a else b := by
  simp only [orL]; split
  ·rfl
  ·split
   ·rfl
   ·omega
 rw [e] at h
 exact h
theorem impl_comparePerms_c {m0 m1 : Bool} (p q : List Int) (hp : p.length ≤ 1048576) (hq : q.length ≤ 1048576) : Fun Tryz.prog 64 [(.sl (.lent m0) (List.map (PV.int .i64) (p))), (.sl (.lent m1) (List.map (PV.int .i64) (q)))] [(.int .i64 (cmpP p q))] := by
 refine fO sg0 [4] Tryz.func64 ?_
 have cE1 := @cmp_Compare_int_c; have cE2 := @slices_Compare_int_int_c; have cE3 := @cmp_Or_int_c
 have cE1 := @cmp_Or_2; have cE2 := @cmp_Compare_int_c; have cE3 := @slices_Compare_int_int_c
 refine dEa trivial ?_
 all_goals try (refine zlf ?_; repeat' first | exact zso | refine And.intro ?_ ?_ | (refine zim ?_; intro zb hc) | (refine zin ?_; intro zb) | intro j')
 all_goals try refine zbx ?_
 rfl
def befB (p q : List Int) : Bool := decide (cmpP p q < 0)
theorem bef_ne {a b : List Int} (h : a.length ≠ b.length) : decide (a.length < b.length) = befB a b := by
 rw [befB, cmpP, if_pos (fun e => by rw [cmpI_0] at e; omega)]
 unfold cmpI
 by_cases h1 : a.length < b.length
 ·rw [if_pos (by omega)]; simp [h1]
 ·rw [if_neg (by omega), if_pos (by omega)]; simp [h1]
theorem bef_eq {a b : List Int} (h : a.length = b.length) : befB a b = decide (cmpL a b < 0) := by
 rw [befB, cmpP, if_neg (fun e => e (cmpI_0.2 (by omega)))]
theorem cmpI_neg {a b : Int} : decide (cmpI a b < 0) = decide (a < b) := by
 unfold cmpI; split
 ·rename_i h; simp [h]
 ·split <;> simp <;> omega
theorem spec_l2Before_c {m0 m1 : Bool} (a b : List Int) (ha : a.length ≤ 1048576) (hb : b.length ≤ 1048576) : Fun Tryz.prog 50 [(.sl (.lent m0) (List.map (PV.int .i64) (a))), (.sl (.lent m1) (List.map (PV.int .i64) (b)))] [(.bool (befB a b))] := by
 refine fO sg0 [4] Tryz.func50 ?_
 refine dEa trivial ?_
 all_goals try (refine zlf ?_; repeat' first | exact zso | refine And.intro ?_ ?_ | (refine zim ?_; intro zb hc) | (refine zin ?_; intro zb) | intro j')
 all_goals try refine zbx ?_
 ·exact bef_ne (by omega)
 have hl : a.length = b.length := by omega
 rw [bef_eq hl]
 refine v_loopB (fun ms1 S1 => ∃ (k : Nat), S1.e 0 = .p (.sl (.lent m0) (List.map (PV.int .i64) (a))) ∧ S1.e 1 = .p (.sl (.lent m1) (List.map (PV.int .i64) (b))) ∧ S1.e 5 = .p (.int .i64 (k)) ∧ (k ≤ a.length) ∧ (cmpL a b = cmpL (a.drop k) (b.drop k)) ∧ ms1 = a.length - k) ((fun (k : Nat) => a.length - k) (0)) ?_ ⟨0, dIa trivial ?_⟩
 all_goals try (refine zlf ?_; repeat' first | exact zso | refine And.intro ?_ ?_ | (refine zim ?_; intro zb hc) | (refine zin ?_; intro zb) | intro j')
 all_goals try refine zbx ?_
 rintro ms1 S1 ⟨k, h1_0, h1_1, h1_5, c1_0, c1_1, hm1⟩
 have fL1 := (And.intro h1_0 (And.intro h1_1 h1_5))
 refine dEa fL1 ?_
 all_goals try (refine zlf ?_; repeat' first | exact zso | refine And.intro ?_ ?_ | (refine zim ?_; intro zb hc) | (refine zin ?_; intro zb) | intro j')
 all_goals try refine zbx ?_
 ·rw [c1_1, dropI_at (by omega), dropI_at (s := b) (by omega), cmpL, if_pos (fun e => hc (cmpI_0.1 e)), cmpI_neg]
 ·focus
   refine q_lp_n ((fun (k : Nat) => a.length - k) (k+1)) (dC fL1 ?_) ⟨k+1, dC fL1 ?_⟩
   all_goals try (refine zlf ?_; repeat' first | exact zso | refine And.intro ?_ ?_ | (refine zim ?_; intro zb hc) | (refine zin ?_; intro zb) | intro j')
   all_goals try refine zbx ?_
  rw [c1_1, dropI_at (by omega), dropI_at (s := b) (by omega), cmpL, if_neg (fun h => h (cmpI_0.2 hc))]
 ·rw [c1_1, List.drop_of_length_le (l := a) (by omega), List.drop_of_length_le (l := b) (by omega), cmpL]; rfl
theorem has_end {p q : List Int} : (!(occ 0 p q q.length []).isEmpty) = hasB p q := rfl
theorem impl_has0_c {m0 m1 : Bool} (p q : List Int) (hp : p.length ≤ 8) (hq : q.length ≤ 8) : Fun Tryz.prog 65 [.sl (.lent m0) (List.map (PV.int .i64) p), .sl (.lent m1) (List.map (PV.int .i64) q), .sl (.lent false) []] [.bool (hasB p q)] := by
 have c1 := impl_has_c (m0 := m0) (m1 := m1) p q hp hq q.length (m2 := false) [] (by simp) (by simp)
 rw [has_end] at c1
 simpa only [List.map_nil] using c1
theorem impl_avoids_1_c {m0 : Bool} (q p : List Int) (m1 : Bool) (hp : p.length ≤ 8) (hq : q.length ≤ 8) : Fun Tryz.prog 131 [(.sl (.lent m0) (List.map (PV.int .i64) (q))), (.pc [.sl (.lent m1) (List.map (PV.int .i64) p)])] [(.bool (hasB p q))] := by
 refine fO sg0 [3] Tryz.func131 ?_
 have c1 := impl_has_c (m0 := m1) (m1 := m0) p q hp hq q.length (m2 := false) [] (by simp) (by simp)
 rw [has_end] at c1
 simp only [List.map_nil] at c1
 have cE1 := @c1
 refine dE trivial ?_
 all_goals try (refine zlf ?_; repeat' first | exact zso | refine And.intro ?_ ?_ | (refine zim ?_; intro zb hc) | (refine zin ?_; intro zb) | intro j')
 all_goals try refine zbx ?_
def avB (L : List (List Int)) (p : List Int) : Bool := !(L.any fun q => hasB p q)
theorem impl_avoids_c {e0 m0 m1 : Bool} (L : List (List Int)) (p : List Int) (hL : L.length ≤ 1099511627776) (hl : ∀ q ∈ L, q.length ≤ 8) (hp : p.length ≤ 8) : Fun Tryz.prog 109 [(.sl (.lent m0) (List.map (elI e0) (L))), (.sl (.lent m1) (List.map (PV.int .i64) (p)))] [(.bool (avB L p))] := by
 refine fO sg0 [4] Tryz.func109 ?_
 have cE1 := @slices_ContainsFunc_LLint_int_c
 have c1 := slices_ContainsFunc_LLint_int_c (e0 := e0) (m0 := m0) L 131 [.pc [.sl (.lent m1) (List.map (PV.int .i64) p)]] (fun q => hasB p q) hL (fun q hq => impl_avoids_1_c (m0 := e0) q p m1 hp (hl q hq))
 have cE1 := @c1; have cE2 := @slices_ContainsFunc_LLint_int_c
 refine dE trivial ?_
 all_goals try (refine zlf ?_; repeat' first | exact zso | refine And.intro ?_ ?_ | (refine zim ?_; intro zb hc) | (refine zin ?_; intro zb) | intro j')
 all_goals try refine zbx ?_
 rfl
theorem spec_l12Avoids_c {e0 m0 m1 : Bool} (L : List (List Int)) (p : List Int) (hL : L.length ≤ 1099511627776) (hl : ∀ q ∈ L, q.length ≤ 8) (hp : p.length ≤ 8) : Fun Tryz.prog 99 [(.sl (.lent m0) (List.map (elI e0) (L))), (.sl (.lent m1) (List.map (PV.int .i64) (p)))] [(.bool (avB L p))] := by
 refine fO sg0 [4] Tryz.func99 ?_
 have cE1 := @spec_l7Has_c
 refine dEa trivial ?_
 all_goals try (refine zlf ?_; repeat' first | exact zso | refine And.intro ?_ ?_ | (refine zim ?_; intro zb hc) | (refine zin ?_; intro zb) | intro j')
 all_goals try refine zbx ?_
 refine v_loopB (fun ms1 S1 => ∃ (k : Nat), S1.e 0 = .p (.sl (.lent m0) (List.map (elI e0) (L))) ∧ S1.e 1 = .p (.sl (.lent m1) (List.map (PV.int .i64) (p))) ∧ S1.e 5 = .p (.int .i64 (k)) ∧ (k ≤ L.length) ∧ (∀ q ∈ L.take k, hasB p q = false) ∧ ms1 = L.length - k) ((fun (k : Nat) => L.length - k) (0)) ?_ ⟨0, dIa trivial ?_⟩
 all_goals try (refine zlf ?_; repeat' first | exact zso | refine And.intro ?_ ?_ | (refine zim ?_; intro zb hc) | (refine zin ?_; intro zb) | intro j')
 all_goals try refine zbx ?_
 rintro ms1 S1 ⟨k, h1_0, h1_1, h1_5, c1_0, c1_1, hm1⟩
 have fL1 := (And.intro h1_0 (And.intro h1_1 h1_5))
 refine dEa fL1 ?_
 all_goals try (refine zlf ?_; repeat' first | exact zso | refine And.intro ?_ ?_ | (refine zim ?_; intro zb hc) | (refine zin ?_; intro zb) | intro j')
 all_goals try refine zbx ?_
 ·exact hl _ (getD_mem hc)
 ·have h1 : (L.any fun q => hasB p q) = true := List.any_eq_true.2 ⟨_, getD_mem (by omega), hc⟩
  rw [avB, h1]; rfl
 ·focus
   refine q_lp_n ((fun (k : Nat) => L.length - k) (k+1)) (dC fL1 ?_) ⟨k+1, dC fL1 ?_⟩
   all_goals try (refine zlf ?_; repeat' first | exact zso | refine And.intro ?_ ?_ | (refine zim ?_; intro zb hc) | (refine zin ?_; intro zb) | intro j')
   all_goals try refine zbx ?_
  intro q hq
  rw [take_getD (d := []) (by omega)] at hq
  rcases List.mem_append.1 hq with hq | hq
  ·exact c1_1 q hq
  ·simp at hq; subst hq; simpa using hc
 ·have h1 : (L.any fun q => hasB p q) = false := by
   rw [Bool.eq_false_iff]; intro h
   obtain ⟨q, hq, h2⟩ := List.any_eq_true.1 h
   rw [List.take_of_length_le (by omega)] at c1_1
   rw [c1_1 q hq] at h2; cases h2
  rw [avB, h1]; rfl
/-- The first k of a list are as a basis asks. -/
def basK (L : List (List Int)) (k : Nat) : Bool := (List.range k).all fun i => isPermB (L.getD i []) && !decide ((L.getD i []).length = 0) && (decide (i = 0) || befB (L.getD (i - 1) []) (L.getD i [])) && !((List.range i).any fun j => hasB (L.getD i []) (L.getD j []))
def basisB (L : List (List Int)) : Bool := decide (L.length ≤ 8) && basK L L.length
theorem basK_succ {L : List (List Int)} {k : Nat} : basK L (k + 1) = (basK L k && (isPermB (L.getD k []) && !decide ((L.getD k []).length = 0) && (decide (k = 0) || befB (L.getD (k - 1) []) (L.getD k [])) && !((List.range k).any fun j => hasB (L.getD k []) (L.getD j [])))) := by
 simp [basK, List.range_succ]
theorem basK_perm {L : List (List Int)} {k j : Nat} (h : basK L k = true) (hj : j < k) : isPermB (L.getD j []) = true := by
 rw [basK, List.all_eq_true] at h
 have := h j (List.mem_range.2 hj)
 simp only [Bool.and_eq_true] at this
 exact this.1.1.1
theorem basK_mono {L : List (List Int)} {k n : Nat} (hk : k ≤ n) (h : basK L k = false) : basK L n = false := by
 induction hk with
 | refl => exact h
 | step _ ih => rw [basK_succ, ih]; rfl
theorem basis_f {L : List (List Int)} {k : Nat} (hk : k < L.length) (h : (isPermB (L.getD k []) && !decide ((L.getD k []).length = 0) && (decide (k = 0) || befB (L.getD (k - 1) []) (L.getD k [])) && !((List.range k).any fun j => hasB (L.getD k []) (L.getD j []))) = false) : false = basisB L := by
 rw [basisB, basK_mono (k := k + 1) (by omega) (by rw [basK_succ, h, Bool.and_false]), Bool.and_false]
set_option maxHeartbeats 1000000 in
theorem spec_IsBasis_c {e0 m0 : Bool} (L : List (List Int)) (hL : L.length ≤ 1048576) (hl : ∀ l ∈ L, l.length ≤ 1048576) : Fun Tryz.prog 21 [(.sl (.lent m0) (List.map (elI e0) (L)))] [(.bool (basisB L))] := by
 refine fO sg0 [2] Tryz.func21 ?_
 have cE1 := @spec_IsPerm_c; have cE2 := @spec_l2Before_c; have cE3 := @spec_l7Has_c; have cD1 := zdh [false, false, false, false, true, false, false, false, false, false, false, false, false, false, false, false, false, false, false, false, false, false, false, false, false, false, false, true, false, false, false] []; have cD2 := zdh [false, false, false, false, false, false, false, false, true] []
 refine dEa trivial ?_
 all_goals try (refine zlf ?_; repeat' first | exact zso | refine And.intro ?_ ?_ | (refine zim ?_; intro zb hc; repeat (have zc := zb.1; replace zb := zb.2)) | (refine zin ?_; intro zb) | intro j')
 all_goals try refine zbx ?_
 refine v_loopB (fun ms1 S1 => ∃ (k : Nat), S1.e 0 = .p (.sl (.lent m0) (List.map (elI e0) (L))) ∧ S1.e 3 = .p (.int .i64 (k)) ∧ (k ≤ L.length) ∧ (basK L k = true) ∧ ms1 = L.length - k) ((fun (k : Nat) => L.length - k) (0)) ?_ ⟨0, dC trivial ?_⟩
 all_goals try (refine zlf ?_; repeat' first | exact zso | refine And.intro ?_ ?_ | (refine zim ?_; intro zb hc; repeat (have zc := zb.1; replace zb := zb.2)) | (refine zin ?_; intro zb) | intro j')
 all_goals try refine zbx ?_
 rintro ms1 S1 ⟨k, h1_0, h1_3, c1_0, c1_1, hm1⟩
 have fL1 := (And.intro h1_0 h1_3)
 have u1 : ((k : Int) - 1).toNat = k - 1 := by omega
 by_cases hk : k < L.length
 ·have g1 := hl _ (getD_mem (d := []) hk)
  have g2 : 0 < k → (L.getD (k - 1) []).length ≤ 1048576 := fun h => hl _ (getD_mem (by omega))
  refine dEa (And.intro fL1 @u1) ?_
  all_goals try (refine zlf ?_; repeat' first | exact zso | refine And.intro ?_ ?_ | (refine zim ?_; intro zb hc; repeat (have zc := zb.1; replace zb := zb.2)) | (refine zin ?_; intro zb) | intro j')
  all_goals try refine zbx ?_
  ·refine basis_f hk ?_
   have x1 : befB (L.getD (k - 1) []) (L.getD k []) = false := hc
   have x3 : decide (k = 0) = false := decide_eq_false (by omega)
   rw [x1, x3]; simp
  ·have w1 : isPermB (L.getD k []) = true := by assumption
   have w2 : ¬ ((L.getD k []).length : Int) = 0 := by assumption
   have w3 : (decide (k = 0) || befB (L.getD (k - 1) []) (L.getD k [])) = true := by rw [hc, Bool.or_true]
   have w4 := (isPerm_facts w1).1
   refine v_loopB (fun ms2 S2 => ∃ (j : Nat), S2.e 0 = .p (.sl (.lent m0) (List.map (elI e0) (L))) ∧ S2.e 3 = .p (.int .i64 (k)) ∧ S2.e 4 = .p (.int .i64 (j)) ∧ (j ≤ k) ∧ (∀ i, i < j → hasB (L.getD k []) (L.getD i []) = false) ∧ S1.n ≤ S2.n ∧ ms2 = k - j) ((fun (j : Nat) => k - j) (0)) ?_ ⟨0, dC fL1 ?_⟩
   all_goals try (refine zlf ?_; repeat' first | exact zso | refine And.intro ?_ ?_ | (refine zim ?_; intro zb hc; repeat (have zc := zb.1; replace zb := zb.2)) | (refine zin ?_; intro zb) | intro j')
   all_goals try refine zbx ?_
   rintro ms2 S2 ⟨j, h2_0, h2_3, h2_4, c2_0, c2_1, u2_0, hm2⟩
   have fL2 := (And.intro h2_0 (And.intro h2_3 h2_4))
   have w5 : j < k → (L.getD j []).length ≤ 8 := fun h => (isPerm_facts (basK_perm c1_1 h)).1
   have w6 : j < k → (L.take k).getD j [] = L.getD j [] := fun h => by simp only [List.getD_eq_getElem?_getD, List.getElem?_take]; rw [if_pos h]
   by_cases hj : j < k
   ·have w7 := w5 hj
    have w8 := w6 hj
    refine dEa fL2 ?_
    all_goals try (refine zlf ?_; repeat' first | exact zso | refine And.intro ?_ ?_ | (refine zim ?_; intro zb hc; repeat (have zc := zb.1; replace zb := zb.2)) | (refine zin ?_; intro zb) | intro j')
    all_goals try refine zbx ?_
    ·have x1 : ((List.range k).any fun j => hasB (L.getD k []) (L.getD j [])) = true := List.any_eq_true.2 ⟨j, List.mem_range.2 hj, hc⟩
     exact basis_f hk (by rw [x1]; simp)
    ·focus
      refine q_lp_n ((fun (j : Nat) => k - j) (j+1)) (dC fL2 ?_) ⟨j+1, dC fL2 ?_⟩
      all_goals try (refine zlf ?_; repeat' first | exact zso | refine And.intro ?_ ?_ | (refine zim ?_; intro zb hc; repeat (have zc := zb.1; replace zb := zb.2)) | (refine zin ?_; intro zb) | intro j')
      all_goals try refine zbx ?_
     intro i hi
     by_cases e : i = j
     ·subst e; exact hc
     ·exact c2_1 i (by omega)
   ·refine dEa fL2 ?_
    all_goals try (refine zlf ?_; repeat' first | exact zso | refine And.intro ?_ ?_ | (refine zim ?_; intro zb hc; repeat (have zc := zb.1; replace zb := zb.2)) | (refine zin ?_; intro zb) | intro j')
    all_goals try refine zbx ?_
    ·focus
      refine q_lp_n ((fun (k : Nat) => L.length - k) (k+1)) (dC fL2 ?_) ⟨k+1, dC fL2 ?_⟩
      all_goals try (refine zlf ?_; repeat' first | exact zso | refine And.intro ?_ ?_ | (refine zim ?_; intro zb hc; repeat (have zc := zb.1; replace zb := zb.2)) | (refine zin ?_; intro zb) | intro j')
      all_goals try refine zbx ?_
     have x1 : ((List.range k).any fun j => hasB (L.getD k []) (L.getD j [])) = false := by
      rw [Bool.eq_false_iff]; intro h
      obtain ⟨i, hi, h2⟩ := List.any_eq_true.1 h
      rw [c2_1 i (by have := List.mem_range.1 hi; omega)] at h2; cases h2
     rw [basK_succ, c1_1, w1, w3, x1, decide_eq_false (by omega)]; rfl
  ·have w1 : isPermB (L.getD k []) = true := by assumption
   have w2 : ¬ ((L.getD k []).length : Int) = 0 := by assumption
   have w3 : (decide (k = 0) || befB (L.getD (k - 1) []) (L.getD k [])) = true := by rw [decide_eq_true (by omega), Bool.true_or]
   have w4 := (isPerm_facts w1).1
   refine v_loopB (fun ms3 S3 => ∃ (j : Nat), S3.e 0 = .p (.sl (.lent m0) (List.map (elI e0) (L))) ∧ S3.e 3 = .p (.int .i64 (k)) ∧ S3.e 4 = .p (.int .i64 (j)) ∧ (j ≤ k) ∧ (∀ i, i < j → hasB (L.getD k []) (L.getD i []) = false) ∧ S1.n ≤ S3.n ∧ ms3 = k - j) ((fun (j : Nat) => k - j) (0)) ?_ ⟨0, dC fL1 ?_⟩
   all_goals try (refine zlf ?_; repeat' first | exact zso | refine And.intro ?_ ?_ | (refine zim ?_; intro zb hc; repeat (have zc := zb.1; replace zb := zb.2)) | (refine zin ?_; intro zb) | intro j')
   all_goals try refine zbx ?_
   rintro ms3 S3 ⟨j, h3_0, h3_3, h3_4, c3_0, c3_1, u3_0, hm3⟩
   have fL3 := (And.intro h3_0 (And.intro h3_3 h3_4))
   have w5 : j < k → (L.getD j []).length ≤ 8 := fun h => (isPerm_facts (basK_perm c1_1 h)).1
   have w6 : j < k → (L.take k).getD j [] = L.getD j [] := fun h => by simp only [List.getD_eq_getElem?_getD, List.getElem?_take]; rw [if_pos h]
   by_cases hj : j < k
   ·omega
   ·refine dEa fL3 ?_
    all_goals try (refine zlf ?_; repeat' first | exact zso | refine And.intro ?_ ?_ | (refine zim ?_; intro zb hc; repeat (have zc := zb.1; replace zb := zb.2)) | (refine zin ?_; intro zb) | intro j')
    all_goals try refine zbx ?_
    ·focus
      refine q_lp_n ((fun (k : Nat) => L.length - k) (k+1)) (dC fL3 ?_) ⟨k+1, dC fL3 ?_⟩
      all_goals try (refine zlf ?_; repeat' first | exact zso | refine And.intro ?_ ?_ | (refine zim ?_; intro zb hc; repeat (have zc := zb.1; replace zb := zb.2)) | (refine zin ?_; intro zb) | intro j')
      all_goals try refine zbx ?_
     have x1 : ((List.range k).any fun j => hasB (L.getD k []) (L.getD j [])) = false := by
      rw [Bool.eq_false_iff]; intro h
      obtain ⟨i, hi, h2⟩ := List.any_eq_true.1 h
      rw [c3_1 i (by have := List.mem_range.1 hi; omega)] at h2; cases h2
     rw [basK_succ, c1_1, w1, w3, x1, decide_eq_false (by omega)]; rfl
  ·have x2 : (L.getD k []).length = 0 := by omega
   exact basis_f hk (by rw [decide_eq_true x2]; simp)
  ·exact basis_f hk (by rw [hc]; rfl)
 ·skip
  refine dEa fL1 ?_
  all_goals try (refine zlf ?_; repeat' first | exact zso | refine And.intro ?_ ?_ | (refine zim ?_; intro zb hc; repeat (have zc := zb.1; replace zb := zb.2)) | (refine zin ?_; intro zb) | intro j')
  all_goals try refine zbx ?_
  obtain rfl : k = L.length := by omega
  rw [basisB, c1_1, Bool.and_true]; congr 1; rw [eq_iff_iff]; omega
set_option maxHeartbeats 1000000 in
theorem impl_IsBasis_c {e0 m0 : Bool} (L : List (List Int)) (hL : L.length ≤ 1048576) (hl : ∀ l ∈ L, l.length ≤ 1048576) : Fun Tryz.prog 32 [(.sl (.lent m0) (List.map (elI e0) (L)))] [(.bool (basisB L))] := by
 refine fO sg0 [2] Tryz.func32 ?_
 have cE1 := @impl_IsPerm_c; have cE2 := @impl_comparePerms_c
 refine dEa trivial ?_
 all_goals try (refine zlf ?_; repeat' first | exact zso | refine And.intro ?_ ?_ | (refine zim ?_; intro zb hc; repeat (have zc := zb.1; replace zb := zb.2)) | (refine zin ?_; intro zb) | intro j')
 all_goals try refine zbx ?_
 ·rw [basisB, decide_eq_false (by omega), Bool.false_and]
 have h8 : L.length ≤ 8 := by omega
 refine v_loopB (fun ms1 S1 => ∃ (k : Nat), S1.e 0 = .p (.sl (.lent m0) (List.map (elI e0) (L))) ∧ S1.e 10 = .p (.sl (.lent m0) (List.map (elI e0) (L))) ∧ S1.e 11 = .p (.int .i64 (L.length)) ∧ S1.e 12 = .p (.int .i64 (k)) ∧ (k ≤ L.length) ∧ (basK L k = true) ∧ ms1 = L.length - k) ((fun (k : Nat) => L.length - k) (0)) ?_ ⟨0, dC trivial ?_⟩
 all_goals try (refine zlf ?_; repeat' first | exact zso | refine And.intro ?_ ?_ | (refine zim ?_; intro zb hc; repeat (have zc := zb.1; replace zb := zb.2)) | (refine zin ?_; intro zb) | intro j')
 all_goals try refine zbx ?_
 rintro ms1 S1 ⟨k, h1_0, h1_10, h1_11, h1_12, c1_0, c1_1, hm1⟩
 have fL1 := (And.intro h1_0 (And.intro h1_10 (And.intro h1_11 h1_12)))
 have u1 : ((k : Int) - 1).toNat = k - 1 := by omega
 by_cases hk : k < L.length
 ·have g1 := hl _ (getD_mem (d := []) hk)
  have g2 : 0 < k → (L.getD (k - 1) []).length ≤ 1048576 := fun h => hl _ (getD_mem (by omega))
  refine dEa (And.intro fL1 @u1) ?_
  all_goals try (refine zlf ?_; repeat' first | exact zso | refine And.intro ?_ ?_ | (refine zim ?_; intro zb hc; repeat (have zc := zb.1; replace zb := zb.2)) | (refine zin ?_; intro zb) | intro j')
  all_goals try refine zbx ?_
  ·refine basis_f hk ?_
   have x1 : befB (L.getD (k - 1) []) (L.getD k []) = false := (by simp only [befB, decide_eq_false_iff_not]; omega)
   have x3 : decide (k = 0) = false := decide_eq_false (by omega)
   rw [x1, x3]; simp
  ·have w1 : isPermB (L.getD k []) = true := by assumption
   have w2 : ¬ ((L.getD k []).length : Int) = 0 := by assumption
   have w3 : (decide (k = 0) || befB (L.getD (k - 1) []) (L.getD k [])) = true := by rw [show befB (L.getD (k - 1) []) (L.getD k []) = true by simp only [befB, decide_eq_true_eq]; omega, Bool.or_true]
   have w4 := (isPerm_facts w1).1
   refine v_loopB (fun ms2 S2 => ∃ (j : Nat), S2.e 0 = .p (.sl (.lent m0) (List.map (elI e0) (L))) ∧ S2.e 10 = .p (.sl (.lent m0) (List.map (elI e0) (L))) ∧ S2.e 11 = .p (.int .i64 (L.length)) ∧ S2.e 12 = .p (.int .i64 (k)) ∧ S2.e 3 = .p (.int .i64 (k)) ∧ S2.e 4 = .p (.sl (.lent e0) (List.map (PV.int .i64) (L.getD k []))) ∧ S2.e 41 = .p (.sl (.lent m0) (List.map (elI e0) ((L.take k)))) ∧ S2.e 42 = .p (.int .i64 (k)) ∧ S2.e 43 = .p (.int .i64 (j)) ∧ (j ≤ k) ∧ (∀ i, i < j → hasB (L.getD k []) (L.getD i []) = false) ∧ S1.n ≤ S2.n ∧ ms2 = k - j) ((fun (j : Nat) => k - j) (0)) ?_ ⟨0, dC fL1 ?_⟩
   all_goals try (refine zlf ?_; repeat' first | exact zso | refine And.intro ?_ ?_ | (refine zim ?_; intro zb hc; repeat (have zc := zb.1; replace zb := zb.2)) | (refine zin ?_; intro zb) | intro j')
   all_goals try refine zbx ?_
   rintro ms2 S2 ⟨j, h2_0, h2_10, h2_11, h2_12, h2_3, h2_4, h2_41, h2_42, h2_43, c2_0, c2_1, u2_0, hm2⟩
   have fL2 := (And.intro h2_0 (And.intro h2_10 (And.intro h2_11 (And.intro h2_12 (And.intro h2_3 (And.intro h2_4 (And.intro h2_41 (And.intro h2_42 h2_43))))))))
   have w5 : j < k → (L.getD j []).length ≤ 8 := fun h => (isPerm_facts (basK_perm c1_1 h)).1
   have w6 : j < k → (L.take k).getD j [] = L.getD j [] := fun h => by simp only [List.getD_eq_getElem?_getD, List.getElem?_take]; rw [if_pos h]
   by_cases hj : j < k
   ·have w7 := w5 hj
    have w8 := w6 hj
    have cE1 := @impl_has0_c; have cE2 := @impl_IsPerm_c; have cE3 := @impl_comparePerms_c
    refine dEa (And.intro fL2 @w8) ?_
    all_goals try (refine zlf ?_; repeat' first | exact zso | refine And.intro ?_ ?_ | (refine zim ?_; intro zb hc; repeat (have zc := zb.1; replace zb := zb.2)) | (refine zin ?_; intro zb) | intro j')
    all_goals try refine zbx ?_
    ·have x1 : ((List.range k).any fun j => hasB (L.getD k []) (L.getD j [])) = true := List.any_eq_true.2 ⟨j, List.mem_range.2 hj, hc⟩
     exact basis_f hk (by rw [x1]; simp)
    ·focus
      refine q_lp_n ((fun (j : Nat) => k - j) (j+1)) (dC fL2 ?_) ⟨j+1, dC fL2 ?_⟩
      all_goals try (refine zlf ?_; repeat' first | exact zso | refine And.intro ?_ ?_ | (refine zim ?_; intro zb hc; repeat (have zc := zb.1; replace zb := zb.2)) | (refine zin ?_; intro zb) | intro j')
      all_goals try refine zbx ?_
     intro i hi
     by_cases e : i = j
     ·subst e; exact hc
     ·exact c2_1 i (by omega)
   ·have cE1 := @impl_has0_c; have cE2 := @impl_IsPerm_c
    refine dEa fL2 ?_
    all_goals try (refine zlf ?_; repeat' first | exact zso | refine And.intro ?_ ?_ | (refine zim ?_; intro zb hc; repeat (have zc := zb.1; replace zb := zb.2)) | (refine zin ?_; intro zb) | intro j')
    all_goals try refine zbx ?_
    ·focus
      refine q_lp_n ((fun (k : Nat) => L.length - k) (k+1)) (dC fL2 ?_) ⟨k+1, dC fL2 ?_⟩
      all_goals try (refine zlf ?_; repeat' first | exact zso | refine And.intro ?_ ?_ | (refine zim ?_; intro zb hc; repeat (have zc := zb.1; replace zb := zb.2)) | (refine zin ?_; intro zb) | intro j')
      all_goals try refine zbx ?_
     have x1 : ((List.range k).any fun j => hasB (L.getD k []) (L.getD j [])) = false := by
      rw [Bool.eq_false_iff]; intro h
      obtain ⟨i, hi, h2⟩ := List.any_eq_true.1 h
      rw [c2_1 i (by have := List.mem_range.1 hi; omega)] at h2; cases h2
     rw [basK_succ, c1_1, w1, w3, x1, decide_eq_false (by omega)]; rfl
  ·have w1 : isPermB (L.getD k []) = true := by assumption
   have w2 : ¬ ((L.getD k []).length : Int) = 0 := by assumption
   have w3 : (decide (k = 0) || befB (L.getD (k - 1) []) (L.getD k [])) = true := by rw [decide_eq_true (by omega), Bool.true_or]
   have w4 := (isPerm_facts w1).1
   refine v_loopB (fun ms3 S3 => ∃ (j : Nat), S3.e 0 = .p (.sl (.lent m0) (List.map (elI e0) (L))) ∧ S3.e 10 = .p (.sl (.lent m0) (List.map (elI e0) (L))) ∧ S3.e 11 = .p (.int .i64 (L.length)) ∧ S3.e 12 = .p (.int .i64 (k)) ∧ S3.e 3 = .p (.int .i64 (k)) ∧ S3.e 4 = .p (.sl (.lent e0) (List.map (PV.int .i64) (L.getD k []))) ∧ S3.e 41 = .p (.sl (.lent m0) (List.map (elI e0) ((L.take k)))) ∧ S3.e 42 = .p (.int .i64 (k)) ∧ S3.e 43 = .p (.int .i64 (j)) ∧ (j ≤ k) ∧ (∀ i, i < j → hasB (L.getD k []) (L.getD i []) = false) ∧ S1.n ≤ S3.n ∧ ms3 = k - j) ((fun (j : Nat) => k - j) (0)) ?_ ⟨0, dC fL1 ?_⟩
   all_goals try (refine zlf ?_; repeat' first | exact zso | refine And.intro ?_ ?_ | (refine zim ?_; intro zb hc; repeat (have zc := zb.1; replace zb := zb.2)) | (refine zin ?_; intro zb) | intro j')
   all_goals try refine zbx ?_
   rintro ms3 S3 ⟨j, h3_0, h3_10, h3_11, h3_12, h3_3, h3_4, h3_41, h3_42, h3_43, c3_0, c3_1, u3_0, hm3⟩
   have fL3 := (And.intro h3_0 (And.intro h3_10 (And.intro h3_11 (And.intro h3_12 (And.intro h3_3 (And.intro h3_4 (And.intro h3_41 (And.intro h3_42 h3_43))))))))
   have w5 : j < k → (L.getD j []).length ≤ 8 := fun h => (isPerm_facts (basK_perm c1_1 h)).1
   have w6 : j < k → (L.take k).getD j [] = L.getD j [] := fun h => by simp only [List.getD_eq_getElem?_getD, List.getElem?_take]; rw [if_pos h]
   by_cases hj : j < k
   ·omega
   ·have cE1 := @impl_has0_c; have cE2 := @impl_IsPerm_c
    refine dEa fL3 ?_
    all_goals try (refine zlf ?_; repeat' first | exact zso | refine And.intro ?_ ?_ | (refine zim ?_; intro zb hc; repeat (have zc := zb.1; replace zb := zb.2)) | (refine zin ?_; intro zb) | intro j')
    all_goals try refine zbx ?_
    ·focus
      refine q_lp_n ((fun (k : Nat) => L.length - k) (k+1)) (dC fL3 ?_) ⟨k+1, dC fL3 ?_⟩
      all_goals try (refine zlf ?_; repeat' first | exact zso | refine And.intro ?_ ?_ | (refine zim ?_; intro zb hc; repeat (have zc := zb.1; replace zb := zb.2)) | (refine zin ?_; intro zb) | intro j')
      all_goals try refine zbx ?_
     have x1 : ((List.range k).any fun j => hasB (L.getD k []) (L.getD j [])) = false := by
      rw [Bool.eq_false_iff]; intro h
      obtain ⟨i, hi, h2⟩ := List.any_eq_true.1 h
      rw [c3_1 i (by have := List.mem_range.1 hi; omega)] at h2; cases h2
     rw [basK_succ, c1_1, w1, w3, x1, decide_eq_false (by omega)]; rfl
  ·have x2 : (L.getD k []).length = 0 := by omega
   exact basis_f hk (by rw [decide_eq_true x2]; simp)
  ·exact basis_f hk (by rw [hc]; rfl)
 ·skip
  have cE1 := @impl_IsPerm_c; have cE2 := @impl_comparePerms_c; have cE3 := trivial
  refine dEa fL1 ?_
  all_goals try (refine zlf ?_; repeat' first | exact zso | refine And.intro ?_ ?_ | (refine zim ?_; intro zb hc; repeat (have zc := zb.1; replace zb := zb.2)) | (refine zin ?_; intro zb) | intro j')
  all_goals try refine zbx ?_
  obtain rfl : k = L.length := by omega
  rw [basisB, c1_1, Bool.and_true, decide_eq_true h8]
end Go.Gl
set_option linter.unusedSimpArgs false
set_option linter.unusedVariables false
set_option maxRecDepth 20000
set_option linter.unusedSectionVars false
namespace Go.Gl
open Go Go.Proofs
variable [Amb]
theorem impl_perms_f_c (n : Nat) (h1 : n ≤ 8) : Fun Tryz.prog 108 [(.int .i64 (n))] [(.sl .own (List.map (elI false) (permL n)))] := by
 refine fO sg0 [2] Tryz.func108 ?_
 have cE1 := @slices_Contains_int_int_c; have cE2 := @slices_Clone_c
 refine dE trivial ?_
 all_goals try (refine zlf ?_; repeat' first | exact zso | refine And.intro ?_ ?_ | (refine zim ?_; intro zb hc) | (refine zin ?_; intro zb) | intro j')
 all_goals try refine zbx ?_
 refine v_loopB (fun ms1 S1 => ∃ (i : Nat), S1.e 0 = .p (.int .i64 (n)) ∧ OwnL (S1.e 3) S1.h S1.n (elI false) ((lvl n i [[]]).length) (lvl n i [[]]) ∧ S1.e 10 = .p (.int .i64 (n)) ∧ S1.e 11 = .p (.int .i64 (i)) ∧ (i ≤ n) ∧ ms1 = n - i) ((fun (i : Nat) => n - i) (0)) ?_ ⟨0, dI trivial ?_⟩
 all_goals try (refine zlf ?_; repeat' first | exact zso | refine And.intro ?_ ?_ | (refine zim ?_; intro zb hc) | (refine zin ?_; intro zb) | intro j')
 all_goals try refine zbx ?_
 rintro ms1 S1 ⟨i, h1_0, o1_3, h1_10, h1_11, c1_0, hm1⟩
 obtain ⟨i1_3, h1_3, b1_3, l1_3⟩ := o1_3.out
 have ni1_3 := znds (x := i1_3) (n := S1.n)
 have fL1 := (And.intro h1_0 (And.intro h1_10 (And.intro h1_11 (And.intro h1_3 (And.intro b1_3 ni1_3)))))
 have b1 : (lvl n i [[]]).length ≤ 8 ^ 8 := lvl_b8 h1 (by omega)
 refine dE fL1 ?_
 all_goals try (refine zlf ?_; repeat' first | exact zso | refine And.intro ?_ ?_ | (refine zim ?_; intro zb hc) | (refine zin ?_; intro zb) | intro j')
 all_goals try refine zbx ?_
 refine v_loopB (fun ms2 S2 => ∃ (j : Nat), S2.e 0 = .p (.int .i64 (n)) ∧ OwnL (S2.e 14) S2.h S2.n (elI false) ((lvl n i [[]]).length) (lvl n i [[]]) ∧ OwnL (S2.e 4) S2.h S2.n (elI false) ((((lvl n i [[]]).take j).flatMap (fun p => extL p n)).length) (((lvl n i [[]]).take j).flatMap (fun p => extL p n)) ∧ S2.e 10 = .p (.int .i64 (n)) ∧ S2.e 11 = .p (.int .i64 (i)) ∧ S2.e 15 = .p (.int .i64 ((lvl n i [[]]).length)) ∧ S2.e 16 = .p (.int .i64 (j)) ∧ (j ≤ (lvl n i [[]]).length) ∧ NId (S2.e 4) (S2.e 14) ∧ S1.n ≤ S2.n ∧ ms2 = (lvl n i [[]]).length - j) ((fun (j : Nat) => (lvl n i [[]]).length - j) (0)) ?_ ⟨0, dIa fL1 ?_⟩
 all_goals try (refine zlf ?_; repeat' first | exact zso | refine And.intro ?_ ?_ | (refine zim ?_; intro zb hc) | (refine zin ?_; intro zb) | intro j')
 all_goals try refine zbx ?_
 rintro ms2 S2 ⟨j, h2_0, o2_14, o2_4, h2_10, h2_11, h2_15, h2_16, c2_0, u2_0, u2_1, hm2⟩
 obtain ⟨i2_14, h2_14, b2_14, l2_14⟩ := o2_14.out
 obtain ⟨i2_4, h2_4, b2_4, l2_4⟩ := o2_4.out
 have k2_0 := (u2_0).out h2_4 h2_14
 have ni2_14 := znds (x := i2_14) (n := S2.n)
 have ni2_4 := znds (x := i2_4) (n := S2.n)
 have di2_14i2_4 := zdne (x := i2_14) (y := i2_4)
 have fL2 := (And.intro h2_0 (And.intro h2_10 (And.intro h2_11 (And.intro h2_15 (And.intro h2_16 (And.intro h2_14 (And.intro b2_14 (And.intro h2_4 (And.intro b2_4 (And.intro ni2_14 (And.intro ni2_4 di2_14i2_4)))))))))))
 have b2 : ((lvl n i [[]]).take j).length ≤ 8 ^ 8 := by simp; omega
 have b3 := Nat.le_trans (flat_len (n := n) (L := (lvl n i [[]]).take j)) (Nat.mul_le_mul b2 h1)
 refine dEa fL2 ?_
 all_goals try (refine zlf ?_; repeat' first | exact zso | refine And.intro ?_ ?_ | (refine zim ?_; intro zb hc) | (refine zin ?_; intro zb) | intro j')
 all_goals try refine zbx ?_
 ·refine v_loopB (fun ms4 S4 => ∃ (v : Nat), S4.e 0 = .p (.int .i64 (n)) ∧ OwnL (S4.e 14) S4.h S4.n (elI false) ((lvl n i [[]]).length) (lvl n i [[]]) ∧ OwnL (S4.e 4) S4.h S4.n (elI false) ((((lvl n i [[]]).take j).flatMap (fun p => extL p n) ++ extL ((lvl n i [[]]).getD j []) v).length) (((lvl n i [[]]).take j).flatMap (fun p => extL p n) ++ extL ((lvl n i [[]]).getD j []) v) ∧ S4.e 6 = .p (.sl (.lent false) (List.map (PV.int .i64) ((lvl n i [[]]).getD j []))) ∧ S4.e 7 = .p (.int .i64 ((v + 1))) ∧ S4.e 10 = .p (.int .i64 (n)) ∧ S4.e 11 = .p (.int .i64 (i)) ∧ S4.e 15 = .p (.int .i64 ((lvl n i [[]]).length)) ∧ S4.e 16 = .p (.int .i64 (j)) ∧ (v ≤ n) ∧ (j < (lvl n i [[]]).length) ∧ NId (S4.e 4) (S4.e 14) ∧ S2.n ≤ S4.n ∧ ms4 = n - v) ((fun (v : Nat) => n - v) (0)) ?_ ⟨0, dIa fL2 ?_⟩
  all_goals try (refine zlf ?_; repeat' first | exact zso | refine And.intro ?_ ?_ | (refine zim ?_; intro zb hc) | (refine zin ?_; intro zb) | intro j')
  all_goals try refine zbx ?_
  rintro ms4 S4 ⟨v, h4_0, o4_14, o4_4, h4_6, h4_7, h4_10, h4_11, h4_15, h4_16, c4_0, c4_1, u4_0, u4_1, hm4⟩
  obtain ⟨i4_14, h4_14, b4_14, l4_14⟩ := o4_14.out
  obtain ⟨i4_4, h4_4, b4_4, l4_4⟩ := o4_4.out
  have k4_0 := (u4_0).out h4_4 h4_14
  have ni4_14 := znds (x := i4_14) (n := S4.n)
  have ni4_4 := znds (x := i4_4) (n := S4.n)
  have di4_14i4_4 := zdne (x := i4_14) (y := i4_4)
  have fL4 := (And.intro h4_0 (And.intro h4_6 (And.intro h4_7 (And.intro h4_10 (And.intro h4_11 (And.intro h4_15 (And.intro h4_16 (And.intro h4_14 (And.intro b4_14 (And.intro h4_4 (And.intro b4_4 (And.intro ni4_14 (And.intro ni4_4 di4_14i4_4)))))))))))))
  have b4 := extL_len (p := (lvl n i [[]]).getD j []) (j := v)
  have b5 : ((lvl n i [[]]).getD j []).length = 0 + i := lvl_row (by simp) _ (getD_mem c4_1)
  refine dEa (And.intro fL4 @tk1) ?_
  all_goals try (refine zlf ?_; repeat' first | exact zso | refine And.intro ?_ ?_ | (refine zim ?_; intro zb hc) | (refine zin ?_; intro zb) | intro j')
  all_goals try refine zbx ?_
  ·focus
    refine q_lp_n ((fun (v : Nat) => n - v) (v+1)) (dC fL4 ?_) ⟨v+1, dC fL4 ?_⟩
    all_goals try (refine zlf ?_; repeat' first | exact zso | refine And.intro ?_ ?_ | (refine zim ?_; intro zb hc) | (refine zin ?_; intro zb) | intro j')
    all_goals try refine zbx ?_
   all_goals (rw [extL_succ, hc, if_neg (by decide)] <;> simp only [List.append_assoc, List.length_append, List.length_cons, List.length_nil, Nat.add_assoc])
  ·focus
    refine q_lp_n ((fun (v : Nat) => n - v) (v+1)) (dC fL4 ?_) ⟨v+1, dC fL4 ?_⟩
    all_goals try (refine zlf ?_; repeat' first | exact zso | refine And.intro ?_ ?_ | (refine zim ?_; intro zb hc) | (refine zin ?_; intro zb) | intro j')
    all_goals try refine zbx ?_
   all_goals (rw [extL_succ, hc, if_pos rfl, List.append_nil])
  ·focus
    refine q_lp_n ((fun (j : Nat) => (lvl n i [[]]).length - j) (j+1)) (dC fL4 ?_) ⟨j+1, dC fL4 ?_⟩
    all_goals try (refine zlf ?_; repeat' first | exact zso | refine And.intro ?_ ?_ | (refine zim ?_; intro zb hc) | (refine zin ?_; intro zb) | intro j')
    all_goals try refine zbx ?_
   all_goals (obtain rfl : v = n := by omega)
   all_goals (rw [take_getD (d := []) (by omega), List.flatMap_append]; simp)
  ·simp [extL, lackL]
  ·simp [extL, lackL]
 ·focus
   refine q_lp_n ((fun (i : Nat) => n - i) (i+1)) (dC fL2 ?_) ⟨i+1, dC fL2 ?_⟩
   all_goals try (refine zlf ?_; repeat' first | exact zso | refine And.intro ?_ ?_ | (refine zim ?_; intro zb hc) | (refine zin ?_; intro zb) | intro j')
   all_goals try refine zbx ?_
  all_goals (rw [lvl_succ, List.take_of_length_le (by omega)])
 ·obtain rfl : i = n := by omega
  rfl
theorem impl_isSix_c (n : Int) : Fun Tryz.prog 66 [(.int .i64 (n))] [(.bool ((decide (0 ≤ n) && decide (n ≤ 6))))] := by
 refine fO sg0 [2] Tryz.func66 ?_
 refine dEa trivial ?_
 all_goals try (refine zlf ?_; repeat' first | exact zso | refine And.intro ?_ ?_ | (refine zim ?_; intro zb hc) | (refine zin ?_; intro zb) | intro j')
 all_goals try refine zbx ?_
def classL (L : List (List Int)) (n : Nat) : List (List Int) := (permL n).filter (avB L)
theorem impl_class_c {e0 m0 : Bool} (L : List (List Int)) (n : Nat) (hL : L.length ≤ 1099511627776) (hl : ∀ q ∈ L, q.length ≤ 8) (hn : n ≤ 8) : Fun Tryz.prog 67 [(.sl (.lent m0) (List.map (elI e0) (L))), (.int .i64 (n))] [(.sl .own (List.map (elI false) (classL L n)))] := by
 refine fO sg0 [4] Tryz.func67 ?_
 have cE1 := @impl_perms_f_c; have cE2 := @impl_perms_c; have cE3 := @impl_avoids_c
 have b1 := permL_len hn
 have cE2 := @impl_avoids_c; have cE3 := trivial
 refine dEa trivial ?_
 all_goals try (refine zlf ?_; repeat' first | exact zso | refine And.intro ?_ ?_ | (refine zim ?_; intro zb hc) | (refine zin ?_; intro zb) | intro j')
 all_goals try refine zbx ?_
 refine v_loopB (fun ms1 S1 => ∃ (k : Nat), S1.e 0 = .p (.sl (.lent m0) (List.map (elI e0) (L))) ∧ OwnL (S1.e 10) S1.h S1.n (elI false) ((permL n).length) (permL n) ∧ S1.e 11 = .p (.int .i64 ((permL n).length)) ∧ OwnL (S1.e 5) S1.h S1.n (elI false) ((((permL n).take k).filter (avB L)).length) (((permL n).take k).filter (avB L)) ∧ S1.e 12 = .p (.int .i64 (k)) ∧ (k ≤ (permL n).length) ∧ NId (S1.e 5) (S1.e 10) ∧ ms1 = (permL n).length - k) ((fun (k : Nat) => (permL n).length - k) (0)) ?_ ⟨0, dC trivial ?_⟩
 all_goals try (refine zlf ?_; repeat' first | exact zso | refine And.intro ?_ ?_ | (refine zim ?_; intro zb hc) | (refine zin ?_; intro zb) | intro j')
 all_goals try refine zbx ?_
 rintro ms1 S1 ⟨k, h1_0, o1_10, h1_11, o1_5, h1_12, c1_0, u1_0, hm1⟩
 obtain ⟨i1_10, h1_10, b1_10, l1_10⟩ := o1_10.out
 obtain ⟨i1_5, h1_5, b1_5, l1_5⟩ := o1_5.out
 have k1_0 := (u1_0).out h1_5 h1_10
 have ni1_10 := znds (x := i1_10) (n := S1.n)
 have ni1_5 := znds (x := i1_5) (n := S1.n)
 have di1_10i1_5 := zdne (x := i1_10) (y := i1_5)
 have fL1 := (And.intro h1_0 (And.intro h1_11 (And.intro h1_12 (And.intro h1_10 (And.intro b1_10 (And.intro h1_5 (And.intro b1_5 (And.intro ni1_10 (And.intro ni1_5 di1_10i1_5)))))))))
 have b2 : (((permL n).take k).filter (avB L)).length ≤ 8 ^ 8 := Nat.le_trans (List.length_filter_le _ _) (by rw [List.length_take]; omega)
 by_cases hk : k < (permL n).length
 ·have b3 := permL_row _ (getD_mem (d := []) hk)
  have cE2 := @impl_perms_c; have cE3 := @impl_avoids_c
  refine dEa fL1 ?_
  all_goals try (refine zlf ?_; repeat' first | exact zso | refine And.intro ?_ ?_ | (refine zim ?_; intro zb hc) | (refine zin ?_; intro zb) | intro j')
  all_goals try refine zbx ?_
  ·focus
    refine q_lp_n ((fun (k : Nat) => (permL n).length - k) (k+1)) (dC fL1 ?_) ⟨k+1, dC fL1 ?_⟩
    all_goals try (refine zlf ?_; repeat' first | exact zso | refine And.intro ?_ ?_ | (refine zim ?_; intro zb hc) | (refine zin ?_; intro zb) | intro j')
    all_goals try refine zbx ?_
   all_goals (rw [take_getD (d := []) hk, List.filter_append, List.filter_cons, if_pos hc]; simp)
  ·focus
    refine q_lp_n ((fun (k : Nat) => (permL n).length - k) (k+1)) (dC fL1 ?_) ⟨k+1, dC fL1 ?_⟩
    all_goals try (refine zlf ?_; repeat' first | exact zso | refine And.intro ?_ ?_ | (refine zim ?_; intro zb hc) | (refine zin ?_; intro zb) | intro j')
    all_goals try refine zbx ?_
   all_goals (rw [take_getD (d := []) hk, List.filter_append, List.filter_cons, if_neg (by rw [hc]; decide)]; simp)
 ·have cE2 := @impl_perms_c; have cE3 := @impl_avoids_c
  refine dEa fL1 ?_
  all_goals try (refine zlf ?_; repeat' first | exact zso | refine And.intro ?_ ?_ | (refine zim ?_; intro zb hc) | (refine zin ?_; intro zb) | intro j')
  all_goals try refine zbx ?_
  rw [List.take_of_length_le (by omega)]; rfl
def classB (L : List (List Int)) (n : Int) : List (List Int) := if basisB L = true ∧ 0 ≤ n ∧ n ≤ 6 then classL L n.toNat else []
theorem basis_row {L : List (List Int)} (h : basisB L = true) : ∀ q ∈ L, q.length ≤ 8 := fun q hq => by
 simp only [basisB, Bool.and_eq_true] at h
 obtain ⟨i, hi, rfl⟩ := List.getElem_of_mem hq
 have := (isPerm_facts (basK_perm h.2 hi)).1
 rwa [List.getD_eq_getElem?_getD, List.getElem?_eq_getElem hi] at this
theorem class_len {L : List (List Int)} {n : Nat} (hn : n ≤ 8) : (classL L n).length ≤ 8 ^ 8 := Nat.le_trans (List.length_filter_le _ _) (permL_len hn)
theorem class_perm {L : List (List Int)} {n : Nat} (hn : n ≤ 8) {p : List Int} (h : p ∈ classL L n) : isPermB p = true ∧ p.length = n := ⟨permL_isPerm hn (List.mem_filter.1 h).1, permL_row _ (List.mem_filter.1 h).1⟩
theorem spec_ClassOf_c {e0 m0 : Bool} (L : List (List Int)) (n : Int) (hL : L.length ≤ 1048576) (hl : ∀ l ∈ L, l.length ≤ 1048576) : Fun Tryz.prog 56 [(.sl (.lent m0) (List.map (elI e0) (L))), (.int .i64 (n))] [(.sl .own (List.map (elI false) (classB L n)))] := by
 by_cases hc0 : basisB L = true ∧ 0 ≤ n ∧ n ≤ 6
 ·have e1 : classB L n = classL L n.toNat := if_pos hc0
  have e2 : permsB n = permL n.toNat := if_pos hc0.2
  have hb := basis_row hc0.1
  have b1 := permL_len (n := n.toNat) (by omega)
  have e3 := hc0.1
  rw [e1]
  refine fO sg0 [4] Tryz.func56 ?_
  have cE1 := @spec_l1In_c; have cE2 := @spec_PermsOf_c; have cE3 := @spec_IsBasis_c; have cE4 := @spec_l12Avoids_c
  refine dEa (And.intro @e2 @e3) ?_
  all_goals try (refine zlf ?_; repeat' first | exact zso | refine And.intro ?_ ?_ | (refine zim ?_; intro zb hc; repeat (have zc := zb.1; replace zb := zb.2)) | (refine zin ?_; intro zb) | intro j')
  all_goals try refine zbx ?_
  refine v_loopB (fun ms1 S1 => ∃ (k : Nat), S1.e 0 = .p (.sl (.lent m0) (List.map (elI e0) (L))) ∧ OwnL (S1.e 6) S1.h S1.n (elI false) ((permL n.toNat).length) (permL n.toNat) ∧ OwnL (S1.e 5) S1.h S1.n (elI false) ((((permL n.toNat).take k).filter (avB L)).length) (((permL n.toNat).take k).filter (avB L)) ∧ S1.e 7 = .p (.int .i64 (k)) ∧ (k ≤ (permL n.toNat).length) ∧ NId (S1.e 5) (S1.e 6) ∧ ms1 = (permL n.toNat).length - k) ((fun (k : Nat) => (permL n.toNat).length - k) (0)) ?_ ⟨0, dC trivial ?_⟩
  all_goals try (refine zlf ?_; repeat' first | exact zso | refine And.intro ?_ ?_ | (refine zim ?_; intro zb hc; repeat (have zc := zb.1; replace zb := zb.2)) | (refine zin ?_; intro zb) | intro j')
  all_goals try refine zbx ?_
  rintro ms1 S1 ⟨k, h1_0, o1_6, o1_5, h1_7, c1_0, u1_0, hm1⟩
  obtain ⟨i1_6, h1_6, b1_6, l1_6⟩ := o1_6.out
  obtain ⟨i1_5, h1_5, b1_5, l1_5⟩ := o1_5.out
  have k1_0 := (u1_0).out h1_5 h1_6
  have ni1_6 := znds (x := i1_6) (n := S1.n)
  have ni1_5 := znds (x := i1_5) (n := S1.n)
  have di1_6i1_5 := zdne (x := i1_6) (y := i1_5)
  have fL1 := (And.intro h1_0 (And.intro h1_7 (And.intro h1_6 (And.intro b1_6 (And.intro h1_5 (And.intro b1_5 (And.intro ni1_6 (And.intro ni1_5 di1_6i1_5))))))))
  have b2 : (((permL n.toNat).take k).filter (avB L)).length ≤ 8 ^ 8 := Nat.le_trans (List.length_filter_le _ _) (by rw [List.length_take]; omega)
  by_cases hk : k < (permL n.toNat).length
  ·have b3 := permL_row _ (getD_mem (d := []) hk)
   refine dEa fL1 ?_
   all_goals try (refine zlf ?_; repeat' first | exact zso | refine And.intro ?_ ?_ | (refine zim ?_; intro zb hc; repeat (have zc := zb.1; replace zb := zb.2)) | (refine zin ?_; intro zb) | intro j')
   all_goals try refine zbx ?_
   ·focus
     refine q_lp_n ((fun (k : Nat) => (permL n.toNat).length - k) (k+1)) (dC fL1 ?_) ⟨k+1, dC fL1 ?_⟩
     all_goals try (refine zlf ?_; repeat' first | exact zso | refine And.intro ?_ ?_ | (refine zim ?_; intro zb hc; repeat (have zc := zb.1; replace zb := zb.2)) | (refine zin ?_; intro zb) | intro j')
     all_goals try refine zbx ?_
    all_goals (rw [take_getD (d := []) hk, List.filter_append, List.filter_cons, if_pos hc]; simp)
   ·focus
     refine q_lp_n ((fun (k : Nat) => (permL n.toNat).length - k) (k+1)) (dC fL1 ?_) ⟨k+1, dC fL1 ?_⟩
     all_goals try (refine zlf ?_; repeat' first | exact zso | refine And.intro ?_ ?_ | (refine zim ?_; intro zb hc; repeat (have zc := zb.1; replace zb := zb.2)) | (refine zin ?_; intro zb) | intro j')
     all_goals try refine zbx ?_
    all_goals (rw [take_getD (d := []) hk, List.filter_append, List.filter_cons, if_neg (by rw [hc]; decide)]; simp)
  ·refine dEa fL1 ?_
   all_goals try (refine zlf ?_; repeat' first | exact zso | refine And.intro ?_ ?_ | (refine zim ?_; intro zb hc; repeat (have zc := zb.1; replace zb := zb.2)) | (refine zin ?_; intro zb) | intro j')
   all_goals try refine zbx ?_
   rw [List.take_of_length_le (by omega)]; rfl
 ·have e1 : classB L n = [] := if_neg hc0
  rw [e1]
  refine fO sg0 [4] Tryz.func56 ?_
  have cE1 := @spec_l1In_c; have cE2 := @spec_PermsOf_c; have cE3 := @spec_IsBasis_c; have cE4 := @spec_l12Avoids_c
  refine dEa trivial ?_
  all_goals try (refine zlf ?_; repeat' first | exact zso | refine And.intro ?_ ?_ | (refine zim ?_; intro zb hc; repeat (have zc := zb.1; replace zb := zb.2)) | (refine zin ?_; intro zb) | intro j')
  all_goals try refine zbx ?_
  exact absurd ⟨by assumption, by assumption⟩ hc0
end Go.Gl
set_option linter.unusedSimpArgs false
set_option linter.unusedVariables false
set_option maxRecDepth 20000
set_option linter.unusedSectionVars false
namespace Go.Gl
open Go Go.Proofs
variable [Amb]
def insF (v : Int) (x : Int) : Int := x + bitI (decide (v ≤ x))
def insE (q : List Int) (v : Int) : List Int := q.map (insF v) ++ [v]
def nxV (L : List (List Int)) (q : List Int) : Nat → List (List Int)
 | 0 => []
 | v + 1 => nxV L q v ++ if avB L (insE q ((v : Int) + 1)) = true then [insE q ((v : Int) + 1)] else []
def nxL (L last : List (List Int)) (n : Nat) : List (List Int) := last.flatMap fun q => nxV L q n
def clsL (L : List (List Int)) : Nat → List (List Int)
 | 0 => [[]]
 | k + 1 => nxL L (clsL L k) (k + 1)
theorem nxV_len {L : List (List Int)} {q : List Int} : ∀ {v : Nat}, (nxV L q v).length ≤ v
 | 0 => Nat.le_refl _
 | v + 1 => by
  have := nxV_len (L := L) (q := q) (v := v)
  rw [nxV, List.length_append]
  split <;> simp <;> omega
theorem nxL_len {L : List (List Int)} {n : Nat} : ∀ {last : List (List Int)}, (nxL L last n).length ≤ last.length * n
 | [] => by simp [nxL]
 | q :: l => by
  have h1 := nxV_len (L := L) (q := q) (v := n)
  have h2 := nxL_len (L := L) (n := n) (last := l)
  rw [nxL, List.flatMap_cons, List.length_append, List.length_cons, Nat.succ_mul]
  rw [nxL] at h2
  omega
theorem insF_r {v x : Int} (h : 0 ≤ x) {m : Int} (h2 : x ≤ m) : 0 ≤ insF v x ∧ insF v x ≤ m + 1 := by
 have := bitI_r (decide (v ≤ x)); unfold insF; omega
theorem nxV_mem {L : List (List Int)} {q y : List Int} : ∀ {n : Nat}, y ∈ nxV L q n ↔ avB L y = true ∧ ∃ v : Nat, v < n ∧ y = insE q ((v : Int) + 1)
 | 0 => by simp [nxV]
 | n + 1 => by
  rw [nxV, List.mem_append, nxV_mem (n := n)]
  constructor
  ·rintro (⟨h, v, hv, e⟩ | h)
   ·exact ⟨h, v, by omega, e⟩
   ·split at h
    ·rename_i g; rw [List.mem_singleton] at h; subst h; exact ⟨g, n, by omega, rfl⟩
    ·simp at h
  ·rintro ⟨h, v, hv, e⟩
   by_cases hn : v = n
   ·subst hn; subst e; right; rw [if_pos h]; simp
   ·exact .inl ⟨h, v, by omega, e⟩
theorem cls_ok {L : List (List Int)} : ∀ {k : Nat}, ∀ q ∈ clsL L k, q.length = k ∧ ∀ x ∈ q, 0 ≤ x ∧ x ≤ k
 | 0, q, h => by simp [clsL] at h; subst h; simp
 | k + 1, y, h => by
  rw [clsL, nxL, List.mem_flatMap] at h
  obtain ⟨q, hq, hy⟩ := h
  obtain ⟨_, v, hv, rfl⟩ := nxV_mem.1 hy
  obtain ⟨h1, h2⟩ := cls_ok q hq
  refine ⟨by simp [insE, h1], fun x hx => ?_⟩
  rw [insE, List.mem_append] at hx
  rcases hx with hx | hx
  ·obtain ⟨z, hz, rfl⟩ := List.mem_map.1 hx
   have := insF_r (v := (v : Int) + 1) (h2 z hz).1 (h2 z hz).2
   omega
  ·simp at hx; omega
theorem cls_len {L : List (List Int)} : ∀ {k : Nat}, k ≤ 6 → (clsL L k).length ≤ 6 ^ k
 | 0, _ => by simp [clsL]
 | k + 1, h => by
  have h1 := nxL_len (L := L) (n := k + 1) (last := clsL L k)
  have h2 := Nat.mul_le_mul (cls_len (L := L) (k := k) (by omega)) h
  rw [clsL, Nat.pow_succ]
  omega
theorem cls_b {L : List (List Int)} {k : Nat} (h : k ≤ 6) : (clsL L k).length ≤ 46656 := Nat.le_trans (cls_len h) (Nat.le_trans (Nat.pow_le_pow_right (by omega) h) (by decide))
def sgNx : FuncId → List Bool := fun f => []
theorem sgNx_eq {f : FuncId} : sgNx f = [] := _root_.id rfl
theorem way_sgNx : wayE sgNx = false ∧ wayN sgNx = false ∧ wayS sgNx = false ∧ wayZ sgNx = false := ⟨rfl, rfl, rfl, rfl⟩
attribute [go_sem] sgNx_eq way_sgNx
theorem spec_l12Next_c {e0 m0 e1 m1 : Bool} (L last : List (List Int)) (n : Int) (hn : 0 ≤ n ∧ n ≤ 8) (hL : L.length ≤ 1099511627776) (hl : ∀ q ∈ L, q.length ≤ 8) (h1 : last.length ≤ 16777216) (h2 : ∀ q ∈ last, q.length ≤ 7 ∧ ∀ x ∈ q, 0 ≤ x ∧ x ≤ 8) : Fun Tryz.prog 94 [(.sl (.lent m0) (List.map (elI e0) (L))), (.sl (.lent m1) (List.map (elI e1) (last))), (.int .i64 (n))] [(.sl .own (List.map (elI false) (nxL L last n.toNat)))] := by
 obtain ⟨N, rfl⟩ := Int.eq_ofNat_of_zero_le hn.1
 rw [Int.toNat_natCast]
 refine fO sgNx [6] Tryz.func94 ?_
 have cE1 := @spec_l1Bit_c; have cE2 := @spec_l12Avoids_c; have cD1 := zdh [false, false, false, false, false, false, false, false, false, false, false, false, false, false, false, false, false, true, false, true, true, false] [(0, 17), (1, 17), (2, 17), (3, 17), (4, 17), (5, 17), (6, 17), (7, 17), (0, 19)]
 refine dEa trivial ?_
 all_goals try (refine zlf ?_; repeat' first | exact zso | refine And.intro ?_ ?_ | (refine zim ?_; intro zb hc) | (refine zin ?_; intro zb) | intro j')
 all_goals try refine zbx ?_
 refine v_loopB (fun ms1 S1 => ∃ (k : Nat), S1.e 0 = .p (.sl (.lent m0) (List.map (elI e0) (L))) ∧ S1.e 1 = .p (.sl (.lent m1) (List.map (elI e1) (last))) ∧ S1.e 2 = .p (.int .i64 (N)) ∧ OwnL (S1.e 7) S1.h S1.n (elI false) ((nxL L (last.take k) N).length) (nxL L (last.take k) N) ∧ S1.e 8 = .p (.int .i64 (k)) ∧ (k ≤ last.length) ∧ ms1 = last.length - k) ((fun (k : Nat) => last.length - k) (0)) ?_ ⟨0, dC trivial ?_⟩
 all_goals try (refine zlf ?_; repeat' first | exact zso | refine And.intro ?_ ?_ | (refine zim ?_; intro zb hc) | (refine zin ?_; intro zb) | intro j')
 all_goals try refine zbx ?_
 rintro ms1 S1 ⟨k, h1_0, h1_1, h1_2, o1_7, h1_8, c1_0, hm1⟩
 obtain ⟨i1_7, h1_7, b1_7, l1_7⟩ := o1_7.out
 have ni1_7 := znds (x := i1_7) (n := S1.n)
 have fL1 := (And.intro h1_0 (And.intro h1_1 (And.intro h1_2 (And.intro h1_8 (And.intro h1_7 (And.intro b1_7 ni1_7))))))
 have b1 : (nxL L (last.take k) N).length ≤ 16777216 * 8 := Nat.le_trans nxL_len (Nat.mul_le_mul (by simp; omega) (by omega))
 by_cases hk : k < last.length
 ·obtain ⟨g1, g2⟩ := h2 _ (getD_mem (d := []) hk)
  refine dEa fL1 ?_
  all_goals try (refine zlf ?_; repeat' first | exact zso | refine And.intro ?_ ?_ | (refine zim ?_; intro zb hc) | (refine zin ?_; intro zb) | intro j')
  all_goals try refine zbx ?_
  refine v_loopB (fun ms2 S2 => ∃ (v : Nat), S2.e 0 = .p (.sl (.lent m0) (List.map (elI e0) (L))) ∧ S2.e 1 = .p (.sl (.lent m1) (List.map (elI e1) (last))) ∧ S2.e 2 = .p (.int .i64 (N)) ∧ OwnL (S2.e 7) S2.h S2.n (elI false) ((nxL L (last.take k) N ++ nxV L (last.getD k []) v).length) (nxL L (last.take k) N ++ nxV L (last.getD k []) v) ∧ S2.e 8 = .p (.int .i64 (k)) ∧ S2.e 9 = .p (.int .i64 ((v + 1))) ∧ (v ≤ N) ∧ S1.n ≤ S2.n ∧ ms2 = N - v) ((fun (v : Nat) => N - v) (0)) ?_ ⟨0, dC fL1 ?_⟩
  all_goals try (refine zlf ?_; repeat' first | exact zso | refine And.intro ?_ ?_ | (refine zim ?_; intro zb hc) | (refine zin ?_; intro zb) | intro j')
  all_goals try refine zbx ?_
  rintro ms2 S2 ⟨v, h2_0, h2_1, h2_2, o2_7, h2_8, h2_9, c2_0, u2_0, hm2⟩
  obtain ⟨i2_7, h2_7, b2_7, l2_7⟩ := o2_7.out
  have ni2_7 := znds (x := i2_7) (n := S2.n)
  have fL2 := (And.intro h2_0 (And.intro h2_1 (And.intro h2_2 (And.intro h2_8 (And.intro h2_9 (And.intro h2_7 (And.intro b2_7 ni2_7)))))))
  have b2 := nxV_len (L := L) (q := last.getD k []) (v := v)
  by_cases hv : v < N
  ·refine dEa fL2 ?_
   all_goals try (refine zlf ?_; repeat' first | exact zso | refine And.intro ?_ ?_ | (refine zim ?_; intro zb hc) | (refine zin ?_; intro zb) | intro j')
   all_goals try refine zbx ?_
   refine v_loopB (fun ms4 S4 => ∃ (i : Nat), S4.e 0 = .p (.sl (.lent m0) (List.map (elI e0) (L))) ∧ S4.e 1 = .p (.sl (.lent m1) (List.map (elI e1) (last))) ∧ S4.e 2 = .p (.int .i64 (N)) ∧ S4.e 7 = .ref i2_7 0 (nxL L (last.take k) N ++ nxV L (last.getD k []) v).length ∧ S4.h i2_7 = .live false (List.map (elI false) (nxL L (last.take k) N ++ nxV L (last.getD k []) v)) ∧ S4.e 8 = .p (.int .i64 (k)) ∧ S4.e 9 = .p (.int .i64 ((v + 1))) ∧ OwnL (S4.e 10) S4.h S4.n (PV.int .i64) ((((last.getD k []).take i).map (insF ((v : Int) + 1))).length) (((last.getD k []).take i).map (insF ((v : Int) + 1))) ∧ S4.e 11 = .p (.int .i64 (i)) ∧ (i ≤ (last.getD k []).length) ∧ NId (S4.e 10) (.ref i2_7 0 0) ∧ S2.n ≤ S4.n ∧ ms4 = (last.getD k []).length - i) ((fun (i : Nat) => (last.getD k []).length - i) (0)) ?_ ⟨0, dC fL2 ?_⟩
   all_goals try (refine zlf ?_; repeat' first | exact zso | refine And.intro ?_ ?_ | (refine zim ?_; intro zb hc) | (refine zin ?_; intro zb) | intro j')
   all_goals try refine zbx ?_
   rintro ms4 S4 ⟨i, h4_0, h4_1, h4_2, h4_7, b4_7, h4_8, h4_9, o4_10, h4_11, c4_0, u4_0, u4_1, hm4⟩
   obtain ⟨i4_10, h4_10, b4_10, l4_10⟩ := o4_10.out
   have k4_0 := (u4_0).out h4_10 rfl
   have ni4_10 := znds (x := i4_10) (n := S4.n)
   have ni2_7 := znds (x := i2_7) (n := S4.n)
   have di4_10i2_7 := zdne (x := i4_10) (y := i2_7)
   have fL4 := (And.intro h4_0 (And.intro h4_1 (And.intro h4_2 (And.intro h4_7 (And.intro b4_7 (And.intro h4_8 (And.intro h4_9 (And.intro h4_11 (And.intro h4_10 (And.intro b4_10 (And.intro ni4_10 (And.intro ni2_7 di4_10i2_7))))))))))))
   by_cases hi : i < (last.getD k []).length
   ·have g3 := g2 _ (getD_mem (d := 0) hi)
    have g4 := bitI_r (decide ((v : Int) + 1 ≤ (last.getD k []).getD i 0))
    refine dEa fL4 ?_
    all_goals try (refine zlf ?_; repeat' first | exact zso | refine And.intro ?_ ?_ | (refine zim ?_; intro zb hc) | (refine zin ?_; intro zb) | intro j')
    all_goals try refine zbx ?_
    focus
     refine q_lp_n ((fun (i : Nat) => (last.getD k []).length - i) (i+1)) (dC fL4 ?_) ⟨i+1, dC fL4 ?_⟩
     all_goals try (refine zlf ?_; repeat' first | exact zso | refine And.intro ?_ ?_ | (refine zim ?_; intro zb hc) | (refine zin ?_; intro zb) | intro j')
     all_goals try refine zbx ?_
    all_goals (rw [take_getD (d := 0) hi])
    all_goals simp [insF]
   ·obtain rfl : i = (last.getD k []).length := by omega
    have e1 : List.take ((last.getD k []).length + 1) ((last.getD k []).map (insF ((v : Int) + 1)) ++ [(v : Int) + 1]) = insE (last.getD k []) ((v : Int) + 1) := by rw [List.take_of_length_le (by simp), insE]
    have e2 : (insE (last.getD k []) ((v : Int) + 1)).length ≤ 8 := by rw [insE, List.length_append, List.length_map, List.length_singleton]; omega
    refine dEa (And.intro fL4 @e1) ?_
    all_goals try (refine zlf ?_; repeat' first | exact zso | refine And.intro ?_ ?_ | (refine zim ?_; intro zb hc) | (refine zin ?_; intro zb) | intro j')
    all_goals try refine zbx ?_
    ·focus
      refine q_lp_n ((fun (v : Nat) => N - v) (v+1)) (dC fL4 ?_) ⟨v+1, dC fL4 ?_⟩
      all_goals try (refine zlf ?_; repeat' first | exact zso | refine And.intro ?_ ?_ | (refine zim ?_; intro zb hc) | (refine zin ?_; intro zb) | intro j')
      all_goals try refine zbx ?_
     all_goals (rw [nxV, if_pos hc])
     all_goals simp [Nat.add_assoc]
    ·focus
      refine q_lp_n ((fun (v : Nat) => N - v) (v+1)) (dC fL4 ?_) ⟨v+1, dC fL4 ?_⟩
      all_goals try (refine zlf ?_; repeat' first | exact zso | refine And.intro ?_ ?_ | (refine zim ?_; intro zb hc) | (refine zin ?_; intro zb) | intro j')
      all_goals try refine zbx ?_
     all_goals (rw [nxV, if_neg (by rw [hc]; decide)])
     all_goals simp
  ·skip
   obtain rfl : v = N := by omega
   refine dEa fL2 ?_
   all_goals try (refine zlf ?_; repeat' first | exact zso | refine And.intro ?_ ?_ | (refine zim ?_; intro zb hc) | (refine zin ?_; intro zb) | intro j')
   all_goals try refine zbx ?_
   focus
    refine q_lp_n ((fun (k : Nat) => last.length - k) (k+1)) (dC fL2 ?_) ⟨k+1, dC fL2 ?_⟩
    all_goals try (refine zlf ?_; repeat' first | exact zso | refine And.intro ?_ ?_ | (refine zim ?_; intro zb hc) | (refine zin ?_; intro zb) | intro j')
    all_goals try refine zbx ?_
   all_goals (rw [take_getD (d := []) hk])
   all_goals simp [nxL]
  all_goals simp [nxV]
 ·skip
  obtain rfl : k = last.length := by omega
  refine dEa fL1 ?_
  all_goals try (refine zlf ?_; repeat' first | exact zso | refine And.intro ?_ ?_ | (refine zim ?_; intro zb hc) | (refine zin ?_; intro zb) | intro j')
  all_goals try refine zbx ?_
/-- Lists of rows as elements. -/
def elG (q : List (List Int)) : PV := .sl (.lent false) (List.map (elI false) q)
theorem elG_eq {q : List (List Int)} : elG q = .sl (.lent false) (List.map (elI false) q) := _root_.id rfl
theorem mp_elG {l : List (List (List Int))} {x : List (List Int)} {r : List PV} : List.map elG l ++ (PV.sl (.lent false) (List.map (elI false) x) :: r) = List.map elG (l ++ [x]) ++ r := by simp [elG]
instance : NDf elG := ⟨by intro a rows h; cases h⟩
theorem nr_frG {l : List (List Int)} : noRo (elG l) = true := noRoL_map (fun _ => nr_frI) l
theorem nrL_frG {l : List (List (List Int))} : noRoL (l.map elG) = true := noRoL_map (fun _ => nr_frG) l
attribute [go_sem] elG_eq mp_elG nrL_frG
def clsR (L : List (List Int)) (k : Nat) : List (List (List Int)) := (List.range k).map (clsL L)
theorem clsR_succ {L : List (List Int)} {k : Nat} : clsR L (k + 1) = clsR L k ++ [clsL L k] := by simp [clsR, List.range_succ]
theorem clsR_len {L : List (List Int)} {k : Nat} : (clsR L k).length = k := by simp [clsR]
theorem clsR_at {L : List (List Int)} {k i : Nat} (h : i < k) : (clsR L k).getD i [] = clsL L i := by
 rw [List.getD_eq_getElem?_getD, clsR, List.getElem?_map, List.getElem?_range h]; rfl
theorem spec_l12Class_c {e0 m0 : Bool} (L : List (List Int)) (n : Int) (hn : 0 ≤ n ∧ n ≤ 6) (hL : L.length ≤ 1099511627776) (hl : ∀ q ∈ L, q.length ≤ 8) : Fun Tryz.prog 54 [(.sl (.lent m0) (List.map (elI e0) (L))), (.int .i64 (n))] [(.sl .own (List.map elG (clsR L (n.toNat + 1))))] := by
 obtain ⟨N, rfl⟩ := Int.eq_ofNat_of_zero_le hn.1
 rw [Int.toNat_natCast]
 refine fO sg0 [4] Tryz.func54 ?_
 have cE1 := @spec_l12Next_c
 refine dEa trivial ?_
 all_goals try (refine zlf ?_; repeat' first | exact zso | refine And.intro ?_ ?_ | (refine zim ?_; intro zb hc) | (refine zin ?_; intro zb) | intro j')
 all_goals try refine zbx ?_
 refine v_loopB (fun ms1 S1 => ∃ (k : Nat), S1.e 0 = .p (.sl (.lent m0) (List.map (elI e0) (L))) ∧ S1.e 1 = .p (.int .i64 (N)) ∧ FroL (S1.e 5) S1.h S1.n (elI false) ((clsL L k).length) (clsL L k) ∧ OwnL (S1.e 6) S1.h S1.n elG ((clsR L (k + 1)).length) (clsR L (k + 1)) ∧ S1.e 7 = .p (.int .i64 ((k + 1))) ∧ (k ≤ N) ∧ NId (S1.e 6) (S1.e 5) ∧ ms1 = N - k) ((fun (k : Nat) => N - k) (0)) ?_ ⟨0, dC trivial ?_⟩
 all_goals try (refine zlf ?_; repeat' first | exact zso | refine And.intro ?_ ?_ | (refine zim ?_; intro zb hc) | (refine zin ?_; intro zb) | intro j')
 all_goals try refine zbx ?_
 rintro ms1 S1 ⟨k, h1_0, h1_1, o1_5, o1_6, h1_7, c1_0, u1_0, hm1⟩
 obtain ⟨i1_5, h1_5, b1_5, l1_5⟩ := o1_5.out
 obtain ⟨i1_6, h1_6, b1_6, l1_6⟩ := o1_6.out
 have k1_0 := (u1_0).out h1_6 h1_5
 have ni1_5 := znds (x := i1_5) (n := S1.n)
 have ni1_6 := znds (x := i1_6) (n := S1.n)
 have di1_5i1_6 := zdne (x := i1_5) (y := i1_6)
 have fL1 := (And.intro h1_0 (And.intro h1_1 (And.intro h1_7 (And.intro h1_5 (And.intro b1_5 (And.intro h1_6 (And.intro b1_6 (And.intro ni1_5 (And.intro ni1_6 di1_5i1_6)))))))))
 have b0 := clsR_len (L := L) (k := k + 1)
 by_cases hk : k < N
 ·have b1 := cls_b (L := L) (k := k) (by omega)
  have b2 : ∀ q ∈ clsL L k, q.length ≤ 7 ∧ ∀ x ∈ q, 0 ≤ x ∧ x ≤ 8 := fun q hq => by
   obtain ⟨g1, g2⟩ := cls_ok q hq
   exact ⟨by omega, fun x hx => by have := g2 x hx; omega⟩
  have e1 : nxL L (clsL L k) ((k : Int) + 1).toNat = clsL L (k + 1) := rfl
  refine dEa (And.intro fL1 (And.intro @b0 @e1)) ?_
  all_goals try (refine zlf ?_; repeat' first | exact zso | refine And.intro ?_ ?_ | (refine zim ?_; intro zb hc) | (refine zin ?_; intro zb) | intro j')
  all_goals try refine zbx ?_
  focus
   refine q_lp_n ((fun (k : Nat) => N - k) (k+1)) (dC fL1 ?_) ⟨k+1, dC fL1 ?_⟩
   all_goals try (refine zlf ?_; repeat' first | exact zso | refine And.intro ?_ ?_ | (refine zim ?_; intro zb hc) | (refine zin ?_; intro zb) | intro j')
   all_goals try refine zbx ?_
  all_goals first | (simp only [clsR_len]; done) | (rw [clsR_succ (k := k + 1)]; rfl)
 ·obtain rfl : k = N := by omega
  refine dEa fL1 ?_
  all_goals try (refine zlf ?_; repeat' first | exact zso | refine And.intro ?_ ?_ | (refine zim ?_; intro zb hc) | (refine zin ?_; intro zb) | intro j')
  all_goals try refine zbx ?_
def ccR (L : List (List Int)) (n : Int) : List Int := if basisB L = true ∧ 0 ≤ n ∧ n ≤ 6 then (List.range (n.toNat + 1)).map fun k => ((clsL L k).length : Int) else []
theorem spec_ClassCounts_c {e0 m0 : Bool} (L : List (List Int)) (n : Int) (hL : L.length ≤ 1048576) (hl : ∀ q ∈ L, q.length ≤ 1048576) : Fun Tryz.prog 24 [(.sl (.lent m0) (List.map (elI e0) (L))), (.int .i64 (n))] [(.sl .own (List.map (PV.int .i64) (ccR L n)))] := by
 by_cases hc0 : basisB L = true ∧ 0 ≤ n ∧ n ≤ 6
 ·have e1 : ccR L n = (List.range (n.toNat + 1)).map fun k => ((clsL L k).length : Int) := if_pos hc0
  have hb := basis_row hc0.1
  have e3 := hc0.1
  have b0 := clsR_len (L := L) (k := n.toNat + 1)
  rw [e1]
  refine fO sg0 [4] Tryz.func24 ?_
  have cE1 := @spec_l1In_c; have cE2 := @spec_IsBasis_c; have cE3 := @spec_l12Class_c
  refine dEa @e3 ?_
  all_goals try (refine zlf ?_; repeat' first | exact zso | refine And.intro ?_ ?_ | (refine zim ?_; intro zb hc; repeat (have zc := zb.1; replace zb := zb.2)) | (refine zin ?_; intro zb) | intro j')
  all_goals try refine zbx ?_
  refine v_loopB (fun ms1 S1 => ∃ (k : Nat), S1.e 0 = .p (.sl (.lent m0) (List.map (elI e0) (L))) ∧ OwnL (S1.e 6) S1.h S1.n elG ((clsR L (n.toNat + 1)).length) (clsR L (n.toNat + 1)) ∧ OwnL (S1.e 5) S1.h S1.n (PV.int .i64) (((List.range k).map (fun k => ((clsL L k).length : Int))).length) ((List.range k).map (fun k => ((clsL L k).length : Int))) ∧ S1.e 7 = .p (.int .i64 (k)) ∧ (k ≤ n.toNat + 1) ∧ NId (S1.e 5) (S1.e 6) ∧ ms1 = n.toNat + 1 - k) ((fun (k : Nat) => n.toNat + 1 - k) (0)) ?_ ⟨0, dC trivial ?_⟩
  all_goals try (refine zlf ?_; repeat' first | exact zso | refine And.intro ?_ ?_ | (refine zim ?_; intro zb hc; repeat (have zc := zb.1; replace zb := zb.2)) | (refine zin ?_; intro zb) | intro j')
  all_goals try refine zbx ?_
  rintro ms1 S1 ⟨k, h1_0, o1_6, o1_5, h1_7, c1_0, u1_0, hm1⟩
  obtain ⟨i1_6, h1_6, b1_6, l1_6⟩ := o1_6.out
  obtain ⟨i1_5, h1_5, b1_5, l1_5⟩ := o1_5.out
  have k1_0 := (u1_0).out h1_5 h1_6
  have ni1_6 := znds (x := i1_6) (n := S1.n)
  have ni1_5 := znds (x := i1_5) (n := S1.n)
  have di1_6i1_5 := zdne (x := i1_6) (y := i1_5)
  have fL1 := (And.intro h1_0 (And.intro h1_7 (And.intro h1_6 (And.intro b1_6 (And.intro h1_5 (And.intro b1_5 (And.intro ni1_6 (And.intro ni1_5 di1_6i1_5))))))))
  by_cases hk : k < n.toNat + 1
  ·have e4 := clsR_at (L := L) hk
   have b1 := cls_b (L := L) (k := k) (by omega)
   refine dEa (And.intro fL1 (And.intro @e4 @b0)) ?_
   all_goals try (refine zlf ?_; repeat' first | exact zso | refine And.intro ?_ ?_ | (refine zim ?_; intro zb hc; repeat (have zc := zb.1; replace zb := zb.2)) | (refine zin ?_; intro zb) | intro j')
   all_goals try refine zbx ?_
   focus
    refine q_lp_n ((fun (k : Nat) => n.toNat + 1 - k) (k+1)) (dC fL1 ?_) ⟨k+1, dC fL1 ?_⟩
    all_goals try (refine zlf ?_; repeat' first | exact zso | refine And.intro ?_ ?_ | (refine zim ?_; intro zb hc; repeat (have zc := zb.1; replace zb := zb.2)) | (refine zin ?_; intro zb) | intro j')
    all_goals try refine zbx ?_
   all_goals simp [List.range_succ]
  ·obtain rfl : k = n.toNat + 1 := by omega
   refine dEa (And.intro fL1 @b0) ?_
   all_goals try (refine zlf ?_; repeat' first | exact zso | refine And.intro ?_ ?_ | (refine zim ?_; intro zb hc; repeat (have zc := zb.1; replace zb := zb.2)) | (refine zin ?_; intro zb) | intro j')
   all_goals try refine zbx ?_
 ·rw [show ccR L n = [] from if_neg hc0]
  refine fO sg0 [4] Tryz.func24 ?_
  have cE1 := @spec_l1In_c; have cE2 := @spec_IsBasis_c; have cE3 := @spec_l12Class_c
  refine dEa trivial ?_
  all_goals try (refine zlf ?_; repeat' first | exact zso | refine And.intro ?_ ?_ | (refine zim ?_; intro zb hc; repeat (have zc := zb.1; replace zb := zb.2)) | (refine zin ?_; intro zb) | intro j')
  all_goals try refine zbx ?_
  all_goals exact absurd ⟨by assumption, by assumption⟩ hc0
end Go.Gl
set_option linter.unusedSimpArgs false
set_option linter.unusedVariables false
set_option maxRecDepth 20000
set_option linter.unusedSectionVars false
namespace Go.Gl
open Go Go.Proofs
variable [Amb]
/-- Places that agree with the pattern so far. -/
def Good (p q : List Int) (c : List Nat) : Prop := c.Pairwise (· < ·) ∧ (∀ x ∈ c, x < p.length) ∧ ∀ i j, i < j → j < c.length → (q.getD i 0 < q.getD j 0 ↔ p.getD (c.getD i 0) 0 < p.getD (c.getD j 0) 0)
theorem gd_l {α : Type} {a b : List α} {d : α} {i : Nat} (h : i < a.length) : (a ++ b).getD i d = a.getD i d := by
 rw [List.getD_eq_getElem?_getD, List.getElem?_append_left h, List.getD_eq_getElem?_getD]
theorem gd_r {α : Type} {a b : List α} {d : α} {i : Nat} (h : a.length ≤ i) : (a ++ b).getD i d = b.getD (i - a.length) d := by
 rw [List.getD_eq_getElem?_getD, List.getElem?_append_right h, List.getD_eq_getElem?_getD]
theorem gd_m {α β : Type} {f : α → β} {l : List α} {d : α} {e : β} {i : Nat} (h : i < l.length) : (l.map f).getD i e = f (l.getD i d) := by
 rw [List.getD_eq_getElem?_getD, List.getElem?_map, List.getD_eq_getElem?_getD, List.getElem?_eq_getElem h]; rfl
theorem gd_e {α : Type} {a : List α} {x d : α} : (a ++ [x]).getD a.length d = x := by rw [gd_r (Nat.le_refl _), Nat.sub_self]; rfl
theorem good_snoc {p q : List Int} {c : List Nat} {m : Nat} : Good p q (c ++ [m]) ↔ Good p q c ∧ (∀ x ∈ c, x < m) ∧ m < p.length ∧ ∀ l, l < c.length → (q.getD l 0 < q.getD c.length 0 ↔ p.getD (c.getD l 0) 0 < p.getD m 0) := by
 unfold Good
 rw [List.pairwise_append]
 constructor
 ·rintro ⟨⟨h1, _, h2⟩, h3, h4⟩
  refine ⟨⟨h1, fun x hx => h3 x (List.mem_append.2 (.inl hx)), fun i j hij hj => ?_⟩, fun x hx => h2 x hx m (by simp), h3 m (by simp), fun l hl => ?_⟩
  ·have := h4 i j hij (by simp; omega)
   rwa [gd_l (by omega), gd_l hj] at this
  ·have := h4 l c.length hl (by simp)
   rwa [gd_l hl, gd_e] at this
 ·rintro ⟨⟨h1, h3, h4⟩, h2, h5, h6⟩
  refine ⟨⟨h1, by simp, fun x hx y hy => by rw [List.mem_singleton] at hy; subst hy; exact h2 x hx⟩, fun x hx => ?_, fun i j hij hj => ?_⟩
  ·rcases List.mem_append.1 hx with g | g
   ·exact h3 x g
   ·rw [List.mem_singleton] at g; subst g; exact h5
  ·rw [List.length_append, List.length_singleton] at hj
   by_cases e : j = c.length
   ·subst e; rw [gd_l hij, gd_e]; exact h6 i hij
   ·rw [gd_l (by omega), gd_l (by omega)]; exact h4 i j hij (by omega)
def frN (c : List Nat) : Nat := if c.length = 0 then 0 else c.getD (c.length - 1) 0 + 1
theorem from_cast {c : List Nat} : fromI 0 (c.map Int.ofNat) = (frN c : Int) := by
 unfold fromI frN
 rw [List.length_map]
 split
 ·rfl
 ·rw [gd_m (d := 0) (by omega)]; simp
theorem frN_le {c : List Nat} (h : c.Pairwise (· < ·)) {m : Nat} : frN c ≤ m ↔ ∀ x ∈ c, x < m := by
 unfold frN
 constructor
 ·intro h1 x hx
  obtain ⟨i, hi, rfl⟩ := List.getElem_of_mem hx
  rw [if_neg (by omega), List.getD_eq_getElem?_getD, List.getElem?_eq_getElem (by omega)] at h1
  by_cases e : i = c.length - 1
  ·subst e; simp at h1; omega
  ·have := List.pairwise_iff_getElem.1 h i (c.length - 1) hi (by omega) (by omega)
   simp at h1; omega
 ·intro h1
  split
  ·omega
  ·have := h1 _ (getD_mem (d := 0) (show c.length - 1 < c.length by omega)); omega
theorem fit_cast {p q : List Int} {c : List Nat} {m : Nat} : fitB 0 p q (c.map Int.ofNat) (m : Int) = true ↔ ∀ l, l < c.length → (q.getD l 0 < q.getD c.length 0 ↔ p.getD (c.getD l 0) 0 < p.getD m 0) := by
 rw [fitB, fitK, List.all_eq_true, List.length_map]
 refine forall_congr' fun l => ?_
 rw [List.mem_range]
 refine imp_congr_right fun hl => ?_
 rw [gd_m (d := 0) hl, beq_iff_eq, show (Int.ofNat (c.getD l 0) - 0).toNat = c.getD l 0 by simp, show ((m : Int) - 0).toNat = m by simp]
 exact decide_eq_decide
theorem occ_ext {p q : List Int} : ∀ {d : Nat} {c : List Nat}, Good p q c → c.length + d = q.length → (occ 0 p q d (c.map Int.ofNat) ≠ [] ↔ ∃ t, t.length = d ∧ Good p q (c ++ t))
 | 0, c, hc, hd => by
  rw [occ]
  exact ⟨fun _ => ⟨[], rfl, by rwa [List.append_nil]⟩, fun _ h => by cases h⟩
 | d + 1, c, hc, hd => by
  rw [occ, ne_eq, List.flatMap_eq_nil_iff]
  constructor
  ·intro h
   obtain ⟨j, hj⟩ := Classical.not_forall.1 h
   rw [Classical.not_imp, List.mem_range, from_cast] at hj
   obtain ⟨h1, h2⟩ := hj
   rw [show ((frN c : Int) + (j : Int)) = ((frN c + j : Nat) : Int) by omega] at h2
   have h4 : fitB 0 p q (c.map Int.ofNat) ((frN c + j : Nat) : Int) = true := by
    cases e : fitB 0 p q (c.map Int.ofNat) ((frN c + j : Nat) : Int) with
    | true => rfl
    | false => rw [e] at h2; exact absurd rfl h2
   rw [if_pos h4] at h2
   have g : Good p q (c ++ [frN c + j]) := good_snoc.2 ⟨hc, (frN_le hc.1).1 (by omega), by omega, fit_cast.1 h4⟩
   have := (occ_ext (d := d) g (by simp; omega)).1 (by rw [List.map_append]; exact h2)
   obtain ⟨t, ht, hg⟩ := this
   exact ⟨(frN c + j) :: t, by simp [ht], by rwa [List.append_assoc] at hg⟩
  ·rintro ⟨t, ht, hg⟩ h
   cases t with
   | nil => simp at ht
   | cons m t =>
    rw [show c ++ m :: t = (c ++ [m]) ++ t by simp] at hg
    have g : Good p q (c ++ [m]) := by
     refine ⟨(List.pairwise_append.1 hg.1).1, fun x hx => hg.2.1 x (List.mem_append.2 (.inl hx)), fun i j hij hj => ?_⟩
     have := hg.2.2 i j hij (by rw [List.length_append]; omega)
     rwa [gd_l (a := c ++ [m]) (by omega), gd_l (a := c ++ [m]) hj] at this
    obtain ⟨_, g2, g3, g4⟩ := good_snoc.1 g
    have g5 := (frN_le hc.1).2 g2
    have := h (m - frN c) (List.mem_range.2 (by rw [from_cast]; omega))
    rw [from_cast, show ((frN c : Int) + ((m - frN c : Nat) : Int)) = (m : Int) by omega, if_pos (fit_cast.2 g4)] at this
    exact (occ_ext (d := d) g (by simp; omega)).2 ⟨t, by simpa using ht, hg⟩ (by rw [List.map_append]; exact this)
theorem hasB_iff {p q : List Int} : hasB p q = true ↔ ∃ c, c.length = q.length ∧ Good p q c := by
 have := occ_ext (p := p) (q := q) (d := q.length) (c := []) ⟨List.Pairwise.nil, by simp, by simp⟩ (by simp)
 rw [hasB]
 simp only [List.map_nil, List.nil_append] at this
 rw [← this]
 cases occ 0 p q q.length [] <;> simp
/-- What lies in a list lies in every list that holds it in the same order. -/
theorem hasB_of {p p' q : List Int} (g : Nat → Nat) (hm : ∀ i j, i < j → j < p.length → g i < g j) (hl : ∀ i, i < p.length → g i < p'.length)
  (ho : ∀ i j, i < p.length → j < p.length → (p.getD i 0 < p.getD j 0 ↔ p'.getD (g i) 0 < p'.getD (g j) 0)) (h : hasB p q = true) : hasB p' q = true := by
 obtain ⟨c, hc, h1, h2, h3⟩ := hasB_iff.1 h
 refine hasB_iff.2 ⟨c.map g, by simpa using hc, ?_, fun x hx => ?_, fun i j hij hj => ?_⟩
 ·rw [List.pairwise_map]
  exact List.Pairwise.imp_of_mem (fun ha hb hab => hm _ _ hab (h2 _ hb)) h1
 ·obtain ⟨y, hy, rfl⟩ := List.mem_map.1 hx
  exact hl y (h2 y hy)
 ·rw [List.length_map] at hj
  rw [gd_m (d := 0) (by omega), gd_m (d := 0) hj, h3 i j hij hj]
  exact ho _ _ (h2 _ (getD_mem (by omega))) (h2 _ (getD_mem hj))
theorem insF_lt {v x y : Int} : insF v x < insF v y ↔ x < y := by
 unfold insF bitI
 by_cases h1 : v ≤ x <;> by_cases h2 : v ≤ y <;> simp [h1, h2] <;> omega
theorem hasB_insE {q b : List Int} {v : Int} (h : hasB q b = true) : hasB (insE q v) b = true := by
 refine hasB_of (fun i => i) (fun i j h _ => h) (fun i h => by simp [insE]; omega) (fun i j hi hj => ?_) h
 rw [insE, gd_l (by simpa using hi), gd_l (by simpa using hj), gd_m (d := 0) hi, gd_m (d := 0) hj, insF_lt]
theorem avB_down {L : List (List Int)} {q : List Int} {v : Int} (h : avB L (insE q v) = true) : avB L q = true := by
 simp only [avB, Bool.not_eq_true', List.any_eq_false] at h ⊢
 exact fun b hb e => h b hb (hasB_insE e)
/-! ### all permutations -/
theorem lack_iff {p : List Int} {n : Nat} {v : Int} : v ∈ lackL p n ↔ 1 ≤ v ∧ v ≤ n ∧ v ∉ p := by
 refine ⟨lackL_mem, fun ⟨h1, h2, h3⟩ => ?_⟩
 rw [lackL, List.mem_filter, List.mem_map]
 refine ⟨⟨(v - 1).toNat, List.mem_range.2 (by omega), by omega⟩, ?_⟩
 rw [Bool.not_eq_true', ← Bool.not_eq_true, List.contains_iff_mem]; exact h3
theorem lvl_all {n : Nat} : ∀ {k : Nat} {y : List Int}, y.length = k → (∀ v ∈ y, 1 ≤ v ∧ v ≤ (n : Int)) → y.Nodup → y ∈ lvl n k [[]]
 | 0, y, hk, _, _ => by rw [List.length_eq_zero_iff] at hk; subst hk; simp [lvl]
 | k + 1, y, hk, h1, h2 => by
  have hy : y = y.take k ++ [y.getD k 0] := by rw [← take_getD (by omega), List.take_of_length_le (by omega)]
  rw [hy] at h1 h2
  rw [List.nodup_append] at h2
  have ih := lvl_all (n := n) (k := k) (y := y.take k) (by simp; omega) (fun v hv => h1 v (List.mem_append.2 (.inl hv))) h2.1
  have h4 := h1 (y.getD k 0) (by simp)
  rw [lvl_succ, List.mem_flatMap]
  refine ⟨y.take k, ih, ?_⟩
  rw [extL, List.mem_map]
  exact ⟨y.getD k 0, lack_iff.2 ⟨h4.1, h4.2, fun e => h2.2.2 _ e _ (by simp) rfl⟩, hy.symm⟩
theorem permL_mem {n : Nat} {p : List Int} : p ∈ permL n ↔ permB p = true ∧ p.length = n := by
 refine ⟨fun h => ⟨permL_perm h, permL_row _ h⟩, fun ⟨h1, h2⟩ => ?_⟩
 obtain ⟨h3, h4⟩ := permB_iff.1 h1
 rw [h2] at h3
 exact lvl_all h2 h3 h4
theorem snoc_inj {α : Type} {a b : List α} {x y : α} (h : a ++ [x] = b ++ [y]) : a = b ∧ x = y := by
 have := List.append_inj' h rfl
 exact ⟨this.1, by simpa using this.2⟩
theorem lack_nd {p : List Int} {n : Nat} : (lackL p n).Nodup := by
 unfold lackL
 refine List.Nodup.sublist List.filter_sublist ?_
 rw [List.nodup_iff_pairwise_ne, List.pairwise_map]
 exact List.Pairwise.imp (fun h => by omega) List.pairwise_lt_range
theorem lvl_nd {n : Nat} : ∀ {k : Nat}, (lvl n k [[]]).Nodup
 | 0 => by simp [lvl]
 | k + 1 => by
  rw [lvl_succ, List.nodup_iff_pairwise_ne, List.pairwise_flatMap]
  refine ⟨fun a _ => ?_, ?_⟩
  ·rw [extL, List.pairwise_map]
   exact List.Pairwise.imp (fun h e => h (snoc_inj e).2) (List.nodup_iff_pairwise_ne.1 lack_nd)
  ·refine List.Pairwise.imp (fun h x hx y hy e => ?_) (List.nodup_iff_pairwise_ne.1 (lvl_nd (n := n) (k := k)))
   rw [extL, List.mem_map] at hx hy
   obtain ⟨v, _, rfl⟩ := hx
   obtain ⟨w, _, rfl⟩ := hy
   exact h (snoc_inj e).1
theorem permL_nd {n : Nat} : (permL n).Nodup := lvl_nd
/-! ### a number put at the end -/
def delV (v x : Int) : Int := if v < x then x - 1 else x
theorem ins_del {v x : Int} (h : x ≠ v) : insF v (delV v x) = x := by
 unfold insF delV bitI
 split <;> (split <;> simp_all <;> omega)
theorem insF_inj {v x y : Int} (h : insF v x = insF v y) : x = y := by
 have h1 : ¬ x < y := fun g => by have := insF_lt (v := v).2 g; omega
 have h2 : ¬ y < x := fun g => by have := insF_lt (v := v).2 g; omega
 omega
theorem insF_ne {v x : Int} : insF v x ≠ v := by
 unfold insF bitI; by_cases h : v ≤ x <;> simp [h] <;> omega
theorem map_inj {f : Int → Int} (hf : ∀ x y, f x = f y → x = y) : ∀ {a b : List Int}, a.map f = b.map f → a = b
 | [], [], _ => rfl
 | [], _ :: _, h => by simp at h
 | _ :: _, [], h => by simp at h
 | x :: a, y :: b, h => by
  rw [List.map_cons, List.map_cons, List.cons.injEq] at h
  rw [hf _ _ h.1, map_inj hf h.2]
theorem insE_inj {q q' : List Int} {v v' : Int} (h : insE q v = insE q' v') : q = q' ∧ v = v' := by
 obtain ⟨h1, rfl⟩ := snoc_inj h
 exact ⟨map_inj (fun _ _ => insF_inj) h1, rfl⟩
theorem insE_perm {q : List Int} {k : Nat} {v : Int} (h : permB q = true) (hk : q.length = k) (h1 : 1 ≤ v) (h2 : v ≤ k + 1) : permB (insE q v) = true ∧ (insE q v).length = k + 1 := by
 obtain ⟨g1, g2⟩ := permB_iff.1 h
 have e : (insE q v).length = k + 1 := by simp [insE, hk]
 refine ⟨permB_iff.2 ⟨fun x hx => ?_, ?_⟩, e⟩
 ·rw [e]
  rw [insE, List.mem_append, List.mem_singleton] at hx
  rcases hx with hx | rfl
  ·obtain ⟨y, hy, rfl⟩ := List.mem_map.1 hx
   have := g1 y hy
   have := bitI_r (decide (v ≤ y))
   unfold insF; omega
  ·omega
 ·rw [insE, List.nodup_append]
  refine ⟨?_, by simp, fun x hx y hy => ?_⟩
  ·rw [List.nodup_iff_pairwise_ne, List.pairwise_map]
   exact List.Pairwise.imp (fun h e => h (insF_inj e)) (List.nodup_iff_pairwise_ne.1 g2)
  ·obtain ⟨z, _, rfl⟩ := List.mem_map.1 hx
   rw [List.mem_singleton] at hy; subst hy
   exact insF_ne
theorem perm_insE {p : List Int} {k : Nat} (h : permB p = true) (hk : p.length = k + 1) : ∃ q v, permB q = true ∧ q.length = k ∧ 1 ≤ v ∧ v ≤ (k : Int) + 1 ∧ p = insE q v := by
 obtain ⟨g1, g2⟩ := permB_iff.1 h
 have hp : p = p.take k ++ [p.getD k 0] := by rw [← take_getD (by omega), List.take_of_length_le (by omega)]
 have hv := g1 (p.getD k 0) (getD_mem (by omega))
 rw [hk] at g1 hv
 generalize p.getD k 0 = v at hp hv
 have hl : (p.take k).length = k := by simp; omega
 rw [hp] at g2
 rw [List.nodup_append] at g2
 have hne : ∀ x ∈ p.take k, x ≠ v := fun x hx e => g2.2.2 x hx v (by simp) e
 have he : ((p.take k).map (delV v)).map (insF v) = p.take k := by
  rw [List.map_map]
  exact (List.map_congr_left (fun x hx => ins_del (hne x hx))).trans (List.map_id _)
 refine ⟨(p.take k).map (delV v), v, permB_iff.2 ⟨fun x hx => ?_, ?_⟩, by simp; omega, by omega, by omega, by rw [insE, he]; exact hp⟩
 ·rw [List.length_map, hl]
  obtain ⟨y, hy, rfl⟩ := List.mem_map.1 hx
  have b1 := g1 y (List.mem_of_mem_take hy)
  have b2 := hne y hy
  unfold delV; split <;> omega
 ·rw [List.nodup_iff_pairwise_ne, List.pairwise_map]
  refine List.Pairwise.imp_of_mem (fun {x y} hx hy h e => h ?_) (List.nodup_iff_pairwise_ne.1 g2.1)
  have := congrArg (insF v) e
  rwa [ins_del (hne x hx), ins_del (hne y hy)] at this
/-! ### a class, length by length -/
theorem cls_mem {L : List (List Int)} (h0 : avB L [] = true) : ∀ {k : Nat} {p : List Int}, p ∈ clsL L k ↔ permB p = true ∧ p.length = k ∧ avB L p = true
 | 0, p => by
  rw [clsL, List.mem_singleton]
  refine ⟨fun h => by subst h; exact ⟨rfl, rfl, h0⟩, fun h => List.length_eq_zero_iff.1 h.2.1⟩
 | k + 1, p => by
  rw [clsL, nxL, List.mem_flatMap]
  constructor
  ·rintro ⟨q, hq, hy⟩
   obtain ⟨h1, v, hv, rfl⟩ := nxV_mem.1 hy
   obtain ⟨h2, h3, _⟩ := (cls_mem h0).1 hq
   have := insE_perm h2 h3 (v := (v : Int) + 1) (by omega) (by omega)
   exact ⟨this.1, this.2, h1⟩
  ·rintro ⟨h1, h2, h3⟩
   obtain ⟨q, v, g1, g2, g3, g4, rfl⟩ := perm_insE h1 h2
   refine ⟨q, (cls_mem h0).2 ⟨g1, g2, avB_down h3⟩, nxV_mem.2 ⟨h3, (v - 1).toNat, by omega, ?_⟩⟩
   rw [show (((v - 1).toNat : Nat) : Int) + 1 = v by omega]
theorem nxV_nd {L : List (List Int)} {q : List Int} : ∀ {n : Nat}, (nxV L q n).Nodup
 | 0 => by simp [nxV]
 | n + 1 => by
  rw [nxV, List.nodup_append]
  refine ⟨nxV_nd, by split <;> simp, fun x hx y hy e => ?_⟩
  obtain ⟨_, v, hv, rfl⟩ := nxV_mem.1 hx
  split at hy
  ·rw [List.mem_singleton] at hy; subst hy
   have := (insE_inj e).2; omega
  ·simp at hy
theorem cls_nd {L : List (List Int)} : ∀ {k : Nat}, (clsL L k).Nodup
 | 0 => by simp [clsL]
 | k + 1 => by
  rw [clsL, nxL, List.nodup_iff_pairwise_ne, List.pairwise_flatMap]
  refine ⟨fun a _ => List.nodup_iff_pairwise_ne.1 nxV_nd, List.Pairwise.imp (fun h x hx y hy e => ?_) (List.nodup_iff_pairwise_ne.1 (cls_nd (L := L) (k := k)))⟩
  obtain ⟨_, v, _, rfl⟩ := nxV_mem.1 hx
  obtain ⟨_, w, _, rfl⟩ := nxV_mem.1 hy
  exact h (insE_inj e).1
theorem len_of_mem {α : Type} [DecidableEq α] : ∀ {a b : List α}, a.Nodup → (∀ x, x ∈ a → x ∈ b) → a.length ≤ b.length
 | [], _, _, _ => Nat.zero_le _
 | x :: a, b, h1, h2 => by
  rw [List.nodup_cons] at h1
  have hx := h2 x (by simp)
  have := len_of_mem (a := a) (b := b.erase x) h1.2 fun y hy => (List.mem_erase_of_ne (fun (e : y = x) => h1.1 (by rw [← e]; exact hy))).2 (h2 y (by simp [hy]))
  rw [List.length_erase_of_mem hx] at this
  have := List.length_pos_of_mem hx
  simp only [List.length_cons]; omega
theorem len_mem {α : Type} [DecidableEq α] {a b : List α} (ha : a.Nodup) (hb : b.Nodup) (h : ∀ x, x ∈ a ↔ x ∈ b) : a.length = b.length :=
 Nat.le_antisymm (len_of_mem ha fun x => (h x).1) (len_of_mem hb fun x => (h x).2)
theorem class_mem {L : List (List Int)} {k : Nat} {p : List Int} : p ∈ classL L k ↔ permB p = true ∧ p.length = k ∧ avB L p = true := by
 rw [classL, List.mem_filter, permL_mem, and_assoc]
theorem class_nd {L : List (List Int)} {k : Nat} : (classL L k).Nodup := List.Nodup.sublist List.filter_sublist permL_nd
theorem av_nil {L : List (List Int)} (h : basisB L = true) : avB L [] = true := by
 simp only [avB, Bool.not_eq_true', List.any_eq_false]
 intro b hb e
 obtain ⟨c, hc, h1, h2, _⟩ := hasB_iff.1 e
 simp only [basisB, Bool.and_eq_true] at h
 have hb0 : b = [] := by
  cases c with
  | nil => exact List.length_eq_zero_iff.1 hc.symm
  | cons x c => have := h2 x (by simp); simp at this
 obtain ⟨i, hi, rfl⟩ := List.getElem_of_mem hb
 have := List.all_eq_true.1 h.2 i (List.mem_range.2 hi)
 rw [List.getD_eq_getElem?_getD, List.getElem?_eq_getElem hi] at this
 simp [hb0] at this
theorem cls_count {L : List (List Int)} {k : Nat} (h : basisB L = true) : (clsL L k).length = (classL L k).length :=
 len_mem cls_nd class_nd fun x => by rw [cls_mem (av_nil h), class_mem]
end Go.Gl
set_option linter.unusedSimpArgs false
set_option linter.unusedVariables false
set_option maxRecDepth 20000
set_option linter.unusedSectionVars false
namespace Go.Gl
open Go Go.Proofs
variable [Amb]
def ciN (L : List (List Int)) (k : Nat) : Int := ((classL L k).length : Int)
theorem ci_cc {L : List (List Int)} {n : Int} (h : basisB L = true ∧ 0 ≤ n ∧ n ≤ 6) : ccR L n = (List.range (n.toNat + 1)).map (ciN L) := by
 rw [ccR, if_pos h]
 exact List.map_congr_left fun k _ => by rw [cls_count h.1, ciN]
theorem impl_ClassCounts_c {e0 m0 : Bool} (L : List (List Int)) (n : Int) (hL : L.length ≤ 1048576) (hl : ∀ q ∈ L, q.length ≤ 1048576) : Fun Tryz.prog 34 [(.sl (.lent m0) (List.map (elI e0) (L))), (.int .i64 (n))] [(.sl .own (List.map (PV.int .i64) (ccR L n)))] := by
 by_cases hc0 : basisB L = true ∧ 0 ≤ n ∧ n ≤ 6
 ·have e1 := ci_cc hc0
  have hb := basis_row hc0.1
  have e3 := hc0.1
  rw [e1]
  refine fO sg0 [4] Tryz.func34 ?_
  have cE1 := @impl_isSix_c; have cE2 := @impl_IsBasis_c; have cE3 := @impl_class_c
  refine dEa @e3 ?_
  all_goals try (refine zlf ?_; repeat' first | exact zso | refine And.intro ?_ ?_ | (refine zim ?_; intro zb hc; repeat (have zc := zb.1; replace zb := zb.2)) | (refine zin ?_; intro zb) | intro j')
  all_goals try refine zbx ?_
  refine v_loopB (fun ms1 S1 => ∃ (k : Nat), S1.e 0 = .p (.sl (.lent m0) (List.map (elI e0) (L))) ∧ OwnL (S1.e 5) S1.h S1.n (PV.int .i64) (((List.range k).map (ciN L)).length) ((List.range k).map (ciN L)) ∧ S1.e 17 = .p (.int .i64 ((n + 1))) ∧ S1.e 18 = .p (.int .i64 (k)) ∧ ((k : Int) ≤ n + 1) ∧ ms1 = n.toNat + 1 - k) ((fun (k : Nat) => n.toNat + 1 - k) (0)) ?_ ⟨0, dC trivial ?_⟩
  all_goals try (refine zlf ?_; repeat' first | exact zso | refine And.intro ?_ ?_ | (refine zim ?_; intro zb hc; repeat (have zc := zb.1; replace zb := zb.2)) | (refine zin ?_; intro zb) | intro j')
  all_goals try refine zbx ?_
  rintro ms1 S1 ⟨k, h1_0, o1_5, h1_17, h1_18, c1_0, hm1⟩
  obtain ⟨i1_5, h1_5, b1_5, l1_5⟩ := o1_5.out
  have ni1_5 := znds (x := i1_5) (n := S1.n)
  have fL1 := (And.intro h1_0 (And.intro h1_17 (And.intro h1_18 (And.intro h1_5 (And.intro b1_5 ni1_5)))))
  by_cases hk : (k : Int) < n + 1
  ·have b1 := class_len (L := L) (n := k) (by omega)
   refine dEa fL1 ?_
   all_goals try (refine zlf ?_; repeat' first | exact zso | refine And.intro ?_ ?_ | (refine zim ?_; intro zb hc; repeat (have zc := zb.1; replace zb := zb.2)) | (refine zin ?_; intro zb) | intro j')
   all_goals try refine zbx ?_
   focus
    refine q_lp_n ((fun (k : Nat) => n.toNat + 1 - k) (k+1)) (dC fL1 ?_) ⟨k+1, dC fL1 ?_⟩
    all_goals try (refine zlf ?_; repeat' first | exact zso | refine And.intro ?_ ?_ | (refine zim ?_; intro zb hc; repeat (have zc := zb.1; replace zb := zb.2)) | (refine zin ?_; intro zb) | intro j')
    all_goals try refine zbx ?_
   all_goals simp [List.range_succ, ciN]
  ·obtain rfl : k = n.toNat + 1 := by omega
   refine dEa fL1 ?_
   all_goals try (refine zlf ?_; repeat' first | exact zso | refine And.intro ?_ ?_ | (refine zim ?_; intro zb hc; repeat (have zc := zb.1; replace zb := zb.2)) | (refine zin ?_; intro zb) | intro j')
   all_goals try refine zbx ?_
   all_goals (rw [List.take_of_length_le (by simp)])
 ·rw [show ccR L n = [] from if_neg hc0]
  refine fO sg0 [4] Tryz.func34 ?_
  have cE1 := @impl_isSix_c; have cE2 := @impl_IsBasis_c; have cE3 := @impl_class_c
  refine dEa trivial ?_
  all_goals try (refine zlf ?_; repeat' first | exact zso | refine And.intro ?_ ?_ | (refine zim ?_; intro zb hc; repeat (have zc := zb.1; replace zb := zb.2)) | (refine zin ?_; intro zb) | intro j')
  all_goals try refine zbx ?_
  all_goals exact absurd ⟨by assumption, by assumption⟩ hc0
end Go.Gl
set_option linter.unusedSimpArgs false
set_option linter.unusedVariables false
set_option maxRecDepth 20000
set_option linter.unusedSectionVars false
namespace Go.Gl
open Go Go.Proofs
variable [Amb]
/-- k factors of the product that chooses. -/
def chG (n : Int) : Nat → Int
 | 0 => 1
 | i + 1 => (chG n i * (n - i)).tdiv (i + 1)
def chR (n k : Int) : Int := if 0 ≤ n ∧ n ≤ 40 ∧ 0 ≤ k ∧ k ≤ n then chG n k.toNat else 0
theorem chG_b : ∀ n, n < 41 → ∀ i, i < 41 → 0 ≤ chG (n : Nat) i ∧ chG (n : Nat) i ≤ 1000000000000 := by decide +kernel
theorem chG_r {n : Int} (h0 : 0 ≤ n) (h1 : n ≤ 40) {i : Nat} (h : i ≤ 40) : 0 ≤ chG n i ∧ chG n i ≤ 1000000000000 := by
 have := chG_b n.toNat (by omega) i (by omega)
 rwa [Int.toNat_of_nonneg h0] at this
theorem ch_m {n c : Int} {i : Nat} (h0 : 0 ≤ c ∧ c ≤ 1000000000000) (h1 : 0 ≤ n ∧ n ≤ 40) (hi : (i : Int) ≤ n) : 0 ≤ c * (n - i) ∧ c * (n - i) ≤ 40000000000000 := by
 have a := Int.mul_nonneg h0.1 (show 0 ≤ n - (i : Int) by omega)
 have b := Int.mul_le_mul h0.2 (show n - (i : Int) ≤ 40 by omega) (by omega) (by omega)
 omega
theorem impl_Choose_c (n k : Int) : Fun Tryz.prog 110 [(.int .i64 (n)), (.int .i64 (k))] [(.int .i64 (chR n k))] := by
 by_cases h : 0 ≤ n ∧ n ≤ 40 ∧ 0 ≤ k ∧ k ≤ n
 ·rw [show chR n k = chG n k.toNat from if_pos h]
  refine fO sg0 [4] Tryz.func110 ?_
  refine dEa trivial ?_
  all_goals try (refine zlf ?_; repeat' first | exact zso | refine And.intro ?_ ?_ | (refine zim ?_; intro zb hc) | (refine zin ?_; intro zb) | intro j')
  all_goals try refine zbx ?_
  refine v_loopB (fun ms1 S1 => ∃ (i : Nat), S1.e 0 = .p (.int .i64 (n)) ∧ S1.e 1 = .p (.int .i64 (k)) ∧ S1.e 5 = .p (.int .i64 (chG n i)) ∧ S1.e 22 = .p (.int .i64 (k)) ∧ S1.e 23 = .p (.int .i64 (i)) ∧ ((i : Int) ≤ k) ∧ ms1 = k.toNat - i) ((fun (i : Nat) => k.toNat - i) (0)) ?_ ⟨0, dC trivial ?_⟩
  all_goals try (refine zlf ?_; repeat' first | exact zso | refine And.intro ?_ ?_ | (refine zim ?_; intro zb hc) | (refine zin ?_; intro zb) | intro j')
  all_goals try refine zbx ?_
  rintro ms1 S1 ⟨i, h1_0, h1_1, h1_5, h1_22, h1_23, c1_0, hm1⟩
  have fL1 := (And.intro h1_0 (And.intro h1_1 (And.intro h1_5 (And.intro h1_22 h1_23))))
  have b1 := chG_r h.1 h.2.1 (i := i) (by omega)
  have b2 := ch_m b1 ⟨h.1, h.2.1⟩ (i := i) (by omega)
  have b3 := chG_r h.1 h.2.1 (i := min (i + 1) 40) (by omega)
  by_cases hi : (i : Int) < k
  ·have e : min (i + 1) 40 = i + 1 := by omega
   rw [e] at b3
   rw [chG] at b3
   refine dEa fL1 ?_
   all_goals try (refine zlf ?_; repeat' first | exact zso | refine And.intro ?_ ?_ | (refine zim ?_; intro zb hc) | (refine zin ?_; intro zb) | intro j')
   all_goals try refine zbx ?_
   focus
    refine q_lp_n ((fun (i : Nat) => k.toNat - i) (i+1)) (dC fL1 ?_) ⟨i+1, dC fL1 ?_⟩
    all_goals try (refine zlf ?_; repeat' first | exact zso | refine And.intro ?_ ?_ | (refine zim ?_; intro zb hc) | (refine zin ?_; intro zb) | intro j')
    all_goals try refine zbx ?_
   all_goals rfl
  ·obtain rfl : i = k.toNat := by omega
   refine dEa fL1 ?_
   all_goals try (refine zlf ?_; repeat' first | exact zso | refine And.intro ?_ ?_ | (refine zim ?_; intro zb hc) | (refine zin ?_; intro zb) | intro j')
   all_goals try refine zbx ?_
 ·rw [show chR n k = 0 from if_neg h]
  refine fO sg0 [4] Tryz.func110 ?_
  refine dEa trivial ?_
  all_goals try (refine zlf ?_; repeat' first | exact zso | refine And.intro ?_ ?_ | (refine zim ?_; intro zb hc) | (refine zin ?_; intro zb) | intro j')
  all_goals try refine zbx ?_
theorem spec_Choose_c (n k : Int) : Fun Tryz.prog 127 [(.int .i64 (n)), (.int .i64 (k))] [(.int .i64 (chR n k))] := by
 by_cases h : 0 ≤ n ∧ n ≤ 40 ∧ 0 ≤ k ∧ k ≤ n
 ·rw [show chR n k = chG n k.toNat from if_pos h]
  refine fO sg0 [4] Tryz.func127 ?_
  have cE1 := @spec_l1In_c
  refine dEa trivial ?_
  all_goals try (refine zlf ?_; repeat' first | exact zso | refine And.intro ?_ ?_ | (refine zim ?_; intro zb hc) | (refine zin ?_; intro zb) | intro j')
  all_goals try refine zbx ?_
  refine v_loopB (fun ms1 S1 => ∃ (i : Nat), S1.e 0 = .p (.int .i64 (n)) ∧ S1.e 1 = .p (.int .i64 (k)) ∧ S1.e 5 = .p (.int .i64 (chG n i)) ∧ S1.e 6 = .p (.int .i64 (i)) ∧ ((i : Int) ≤ k) ∧ ms1 = k.toNat - i) ((fun (i : Nat) => k.toNat - i) (0)) ?_ ⟨0, dC trivial ?_⟩
  all_goals try (refine zlf ?_; repeat' first | exact zso | refine And.intro ?_ ?_ | (refine zim ?_; intro zb hc) | (refine zin ?_; intro zb) | intro j')
  all_goals try refine zbx ?_
  rintro ms1 S1 ⟨i, h1_0, h1_1, h1_5, h1_6, c1_0, hm1⟩
  have fL1 := (And.intro h1_0 (And.intro h1_1 (And.intro h1_5 h1_6)))
  have b1 := chG_r h.1 h.2.1 (i := i) (by omega)
  have b2 := ch_m b1 ⟨h.1, h.2.1⟩ (i := i) (by omega)
  have b3 := chG_r h.1 h.2.1 (i := min (i + 1) 40) (by omega)
  by_cases hi : (i : Int) < k
  ·have e : min (i + 1) 40 = i + 1 := by omega
   rw [e] at b3
   rw [chG] at b3
   refine dEa fL1 ?_
   all_goals try (refine zlf ?_; repeat' first | exact zso | refine And.intro ?_ ?_ | (refine zim ?_; intro zb hc) | (refine zin ?_; intro zb) | intro j')
   all_goals try refine zbx ?_
   focus
    refine q_lp_n ((fun (i : Nat) => k.toNat - i) (i+1)) (dC fL1 ?_) ⟨i+1, dC fL1 ?_⟩
    all_goals try (refine zlf ?_; repeat' first | exact zso | refine And.intro ?_ ?_ | (refine zim ?_; intro zb hc) | (refine zin ?_; intro zb) | intro j')
    all_goals try refine zbx ?_
   all_goals rfl
  ·obtain rfl : i = k.toNat := by omega
   refine dEa fL1 ?_
   all_goals try (refine zlf ?_; repeat' first | exact zso | refine And.intro ?_ ?_ | (refine zim ?_; intro zb hc) | (refine zin ?_; intro zb) | intro j')
   all_goals try refine zbx ?_
 ·rw [show chR n k = 0 from if_neg h]
  refine fO sg0 [4] Tryz.func127 ?_
  have cE1 := @spec_l1In_c
  refine dEa trivial ?_
  all_goals try (refine zlf ?_; repeat' first | exact zso | refine And.intro ?_ ?_ | (refine zim ?_; intro zb hc) | (refine zin ?_; intro zb) | intro j')
  all_goals try refine zbx ?_
def catR (n : Int) : Int := if 0 ≤ n ∧ n ≤ 20 then (chR (2 * n) n).tdiv (n + 1) else -1
theorem chR_b {n k : Int} : 0 ≤ chR n k ∧ chR n k ≤ 1000000000000 := by
 unfold chR; split
 ·exact chG_r (by omega) (by omega) (by omega)
 ·omega
theorem td_b {c d : Int} (h0 : 0 ≤ c ∧ c ≤ 1000000000000) (hd : 0 < d) : 0 ≤ c.tdiv d ∧ c.tdiv d ≤ 1000000000000 := by
 have a := Int.tdiv_nonneg h0.1 (Int.le_of_lt hd)
 have b := Int.tdiv_le_self (a := c) d h0.1
 omega
theorem impl_CatalanNumber_c (n : Int) : Fun Tryz.prog 71 [(.int .i64 (n))] [(.int .i64 (catR n))] := by
 by_cases h : 0 ≤ n ∧ n ≤ 20
 ·rw [show catR n = (chR (2 * n) n).tdiv (n + 1) from if_pos h]
  have b1 := chR_b (n := 2 * n) (k := n)
  have b2 := td_b b1 (show 0 < n + 1 by omega)
  refine fO sg0 [2] Tryz.func71 ?_
  have cE1 := @impl_Choose_c
  refine dEa trivial ?_
  all_goals try (refine zlf ?_; repeat' first | exact zso | refine And.intro ?_ ?_ | (refine zim ?_; intro zb hc) | (refine zin ?_; intro zb) | intro j')
  all_goals try refine zbx ?_
 ·rw [show catR n = -1 from if_neg h]
  refine fO sg0 [2] Tryz.func71 ?_
  have cE1 := @impl_Choose_c
  refine dEa trivial ?_
  all_goals try (refine zlf ?_; repeat' first | exact zso | refine And.intro ?_ ?_ | (refine zim ?_; intro zb hc) | (refine zin ?_; intro zb) | intro j')
  all_goals try refine zbx ?_
theorem spec_CatalanNumber_c (n : Int) : Fun Tryz.prog 96 [(.int .i64 (n))] [(.int .i64 (catR n))] := by
 by_cases h : 0 ≤ n ∧ n ≤ 20
 ·rw [show catR n = (chR (2 * n) n).tdiv (n + 1) from if_pos h]
  have b1 := chR_b (n := 2 * n) (k := n)
  have b2 := td_b b1 (show 0 < n + 1 by omega)
  refine fO sg0 [2] Tryz.func96 ?_
  have cE1 := @spec_l1In_c; have cE2 := @spec_Choose_c
  refine dEa trivial ?_
  all_goals try (refine zlf ?_; repeat' first | exact zso | refine And.intro ?_ ?_ | (refine zim ?_; intro zb hc) | (refine zin ?_; intro zb) | intro j')
  all_goals try refine zbx ?_
 ·rw [show catR n = -1 from if_neg h]
  refine fO sg0 [2] Tryz.func96 ?_
  have cE1 := @spec_l1In_c; have cE2 := @spec_Choose_c
  refine dEa trivial ?_
  all_goals try (refine zlf ?_; repeat' first | exact zso | refine And.intro ?_ ?_ | (refine zim ?_; intro zb hc) | (refine zin ?_; intro zb) | intro j')
  all_goals try refine zbx ?_
def fibN : Nat → Int × Int
 | 0 => (1, 1)
 | k + 1 => ((fibN k).2, (fibN k).1 + (fibN k).2)
theorem fib_b : ∀ k, k < 42 → (0 ≤ (fibN k).1 ∧ (fibN k).1 ≤ 1000000000) ∧ 0 ≤ (fibN k).2 ∧ (fibN k).2 ≤ 1000000000 := by decide +kernel
def fibR (n : Int) : Int := if 0 ≤ n ∧ n ≤ 40 then (fibN n.toNat).1 else -1
theorem impl_FibonacciNumber_c (n : Int) : Fun Tryz.prog 70 [(.int .i64 (n))] [(.int .i64 (fibR n))] := by
 by_cases h : 0 ≤ n ∧ n ≤ 40
 ·rw [show fibR n = (fibN n.toNat).1 from if_pos h]
  refine fO sg0 [2] Tryz.func70 ?_
  refine dEa trivial ?_
  all_goals try (refine zlf ?_; repeat' first | exact zso | refine And.intro ?_ ?_ | (refine zim ?_; intro zb hc) | (refine zin ?_; intro zb) | intro j')
  all_goals try refine zbx ?_
  refine v_loopB (fun ms1 S1 => ∃ (i : Nat), S1.e 3 = .p (.int .i64 ((fibN i).1)) ∧ S1.e 4 = .p (.int .i64 ((fibN i).2)) ∧ S1.e 11 = .p (.int .i64 (n)) ∧ S1.e 12 = .p (.int .i64 (i)) ∧ ((i : Int) ≤ n) ∧ ms1 = n.toNat - i) ((fun (i : Nat) => n.toNat - i) (0)) ?_ ⟨0, dC trivial ?_⟩
  all_goals try (refine zlf ?_; repeat' first | exact zso | refine And.intro ?_ ?_ | (refine zim ?_; intro zb hc) | (refine zin ?_; intro zb) | intro j')
  all_goals try refine zbx ?_
  rintro ms1 S1 ⟨i, h1_3, h1_4, h1_11, h1_12, c1_0, hm1⟩
  have fL1 := (And.intro h1_3 (And.intro h1_4 (And.intro h1_11 h1_12)))
  have b1 := fib_b i (by omega)
  by_cases hi : (i : Int) < n
  ·refine dEa fL1 ?_
   all_goals try (refine zlf ?_; repeat' first | exact zso | refine And.intro ?_ ?_ | (refine zim ?_; intro zb hc) | (refine zin ?_; intro zb) | intro j')
   all_goals try refine zbx ?_
   focus
    refine q_lp_n ((fun (i : Nat) => n.toNat - i) (i+1)) (dC fL1 ?_) ⟨i+1, dC fL1 ?_⟩
    all_goals try (refine zlf ?_; repeat' first | exact zso | refine And.intro ?_ ?_ | (refine zim ?_; intro zb hc) | (refine zin ?_; intro zb) | intro j')
    all_goals try refine zbx ?_
   all_goals rfl
  ·obtain rfl : i = n.toNat := by omega
   refine dEa fL1 ?_
   all_goals try (refine zlf ?_; repeat' first | exact zso | refine And.intro ?_ ?_ | (refine zim ?_; intro zb hc) | (refine zin ?_; intro zb) | intro j')
   all_goals try refine zbx ?_
 ·rw [show fibR n = -1 from if_neg h]
  refine fO sg0 [2] Tryz.func70 ?_
  refine dEa trivial ?_
  all_goals try (refine zlf ?_; repeat' first | exact zso | refine And.intro ?_ ?_ | (refine zim ?_; intro zb hc) | (refine zin ?_; intro zb) | intro j')
  all_goals try refine zbx ?_
theorem spec_FibonacciNumber_c (n : Int) : Fun Tryz.prog 95 [(.int .i64 (n))] [(.int .i64 (fibR n))] := by
 by_cases h : 0 ≤ n ∧ n ≤ 40
 ·rw [show fibR n = (fibN n.toNat).1 from if_pos h]
  refine fO sg0 [2] Tryz.func95 ?_
  have cE1 := @spec_l1In_c
  refine dEa trivial ?_
  all_goals try (refine zlf ?_; repeat' first | exact zso | refine And.intro ?_ ?_ | (refine zim ?_; intro zb hc) | (refine zin ?_; intro zb) | intro j')
  all_goals try refine zbx ?_
  refine v_loopB (fun ms1 S1 => ∃ (i : Nat), S1.e 0 = .p (.int .i64 (n)) ∧ S1.e 3 = .p (.int .i64 ((fibN i).1)) ∧ S1.e 4 = .p (.int .i64 ((fibN i).2)) ∧ S1.e 5 = .p (.int .i64 ((i + 1))) ∧ ((i : Int) + 1 ≤ max n 1) ∧ ms1 = n.toNat - i) ((fun (i : Nat) => n.toNat - i) (0)) ?_ ⟨0, dC trivial ?_⟩
  all_goals try (refine zlf ?_; repeat' first | exact zso | refine And.intro ?_ ?_ | (refine zim ?_; intro zb hc) | (refine zin ?_; intro zb) | intro j')
  all_goals try refine zbx ?_
  rintro ms1 S1 ⟨i, h1_0, h1_3, h1_4, h1_5, c1_0, hm1⟩
  have fL1 := (And.intro h1_0 (And.intro h1_3 (And.intro h1_4 h1_5)))
  have b1 := fib_b i (by omega)
  by_cases hi : (i : Int) + 1 < n
  ·refine dEa fL1 ?_
   all_goals try (refine zlf ?_; repeat' first | exact zso | refine And.intro ?_ ?_ | (refine zim ?_; intro zb hc) | (refine zin ?_; intro zb) | intro j')
   all_goals try refine zbx ?_
   focus
    refine q_lp_n ((fun (i : Nat) => n.toNat - i) (i+1)) (dC fL1 ?_) ⟨i+1, dC fL1 ?_⟩
    all_goals try (refine zlf ?_; repeat' first | exact zso | refine And.intro ?_ ?_ | (refine zim ?_; intro zb hc) | (refine zin ?_; intro zb) | intro j')
    all_goals try refine zbx ?_
   all_goals rfl
  ·refine dEa fL1 ?_
   all_goals try (refine zlf ?_; repeat' first | exact zso | refine And.intro ?_ ?_ | (refine zim ?_; intro zb hc) | (refine zin ?_; intro zb) | intro j')
   all_goals try refine zbx ?_
   by_cases h0 : n = 0
   ·subst h0; obtain rfl : i = 0 := by omega
    rfl
   ·obtain e : n.toNat = i + 1 := by omega
    rw [e, fibN]
 ·rw [show fibR n = -1 from if_neg h]
  refine fO sg0 [2] Tryz.func95 ?_
  have cE1 := @spec_l1In_c
  refine dEa trivial ?_
  all_goals try (refine zlf ?_; repeat' first | exact zso | refine And.intro ?_ ?_ | (refine zim ?_; intro zb hc) | (refine zin ?_; intro zb) | intro j')
  all_goals try refine zbx ?_
/-- One inner round of Schroeder's numbers. -/
def srIn (s : List Int) (m : Nat) : Nat → Int
 | 0 => s.getD m 0
 | k + 1 => srIn s m k + s.getD k 0 * s.getD (m - k) 0
def srL : Nat → List Int
 | 0 => [1]
 | m + 1 => srL m ++ [srIn (srL m) m (m + 1)]
theorem srL_len : ∀ {n}, (srL n).length = n + 1
 | 0 => rfl
 | n + 1 => by simp [srL, srL_len (n := n)]
theorem srB : ∀ m, m < 15 → ∀ k, k < 17 → 0 ≤ srIn (srL m) m k ∧ srIn (srL m) m k ≤ 1000000000000 ∧ 0 ≤ (srL m).getD k 0 * (srL m).getD (m - k) 0 ∧ (srL m).getD k 0 * (srL m).getD (m - k) 0 ≤ 1000000000000 := by decide +kernel
def srR (n : Int) : Int := if 0 ≤ n ∧ n ≤ 15 then (srL n.toNat).getD n.toNat 0 else -1
theorem impl_SchroederNumber_c (n : Int) : Fun Tryz.prog 73 [(.int .i64 (n))] [(.int .i64 (srR n))] := by
 by_cases h : 0 ≤ n ∧ n ≤ 15
 ·rw [show srR n = (srL n.toNat).getD n.toNat 0 from if_pos h]
  obtain ⟨N, rfl⟩ := Int.eq_ofNat_of_zero_le h.1
  rw [Int.toNat_natCast]
  refine fO sg0 [2] Tryz.func73 ?_
  refine dEa trivial ?_
  all_goals try (refine zlf ?_; repeat' first | exact zso | refine And.intro ?_ ?_ | (refine zim ?_; intro zb hc) | (refine zin ?_; intro zb) | intro j')
  all_goals try refine zbx ?_
  refine v_loopB (fun ms1 S1 => ∃ (j : Nat), S1.e 0 = .p (.int .i64 (N)) ∧ OwnL (S1.e 3) S1.h S1.n (PV.int .i64) ((srL j).length) (srL j) ∧ S1.e 4 = .p (.int .i64 ((j + 1))) ∧ (j ≤ N) ∧ ms1 = N - j) ((fun (j : Nat) => N - j) (0)) ?_ ⟨0, dIa trivial ?_⟩
  all_goals try (refine zlf ?_; repeat' first | exact zso | refine And.intro ?_ ?_ | (refine zim ?_; intro zb hc) | (refine zin ?_; intro zb) | intro j')
  all_goals try refine zbx ?_
  rintro ms1 S1 ⟨j, h1_0, o1_3, h1_4, c1_0, hm1⟩
  obtain ⟨i1_3, h1_3, b1_3, l1_3⟩ := o1_3.out
  have ni1_3 := znds (x := i1_3) (n := S1.n)
  have fL1 := (And.intro h1_0 (And.intro h1_4 (And.intro h1_3 (And.intro b1_3 ni1_3))))
  have e0 : ((j : Int) + 1 - 1).toNat = j := by omega
  refine dEa (And.intro fL1 (And.intro @srL_len @e0)) ?_
  all_goals try (refine zlf ?_; repeat' first | exact zso | refine And.intro ?_ ?_ | (refine zim ?_; intro zb hc) | (refine zin ?_; intro zb) | intro j')
  all_goals try refine zbx ?_
  ·refine v_loopB (fun ms2 S2 => ∃ (k : Nat), S2.e 0 = .p (.int .i64 (N)) ∧ S2.e 3 = .ref i1_3 0 (srL j).length ∧ S2.h i1_3 = .live false (List.map (PV.int .i64) (srL j)) ∧ S2.e 4 = .p (.int .i64 ((j + 1))) ∧ S2.e 5 = .p (.int .i64 ((srIn (srL j) j k))) ∧ S2.e 24 = .p (.int .i64 ((j + 1))) ∧ S2.e 25 = .p (.int .i64 (k)) ∧ (k ≤ j + 1) ∧ (j < N) ∧ S1.n ≤ S2.n ∧ ms2 = j + 1 - k) ((fun (k : Nat) => j + 1 - k) (0)) ?_ ⟨0, dC fL1 ?_⟩
   all_goals try (refine zlf ?_; repeat' first | exact zso | refine And.intro ?_ ?_ | (refine zim ?_; intro zb hc) | (refine zin ?_; intro zb) | intro j')
   all_goals try refine zbx ?_
   rintro ms2 S2 ⟨k, h2_0, h2_3, b2_3, h2_4, h2_5, h2_24, h2_25, c2_0, c2_1, u2_0, hm2⟩
   have ni1_3 := znds (x := i1_3) (n := S2.n)
   have fL2 := (And.intro h2_0 (And.intro h2_3 (And.intro b2_3 (And.intro h2_4 (And.intro h2_5 (And.intro h2_24 (And.intro h2_25 ni1_3)))))))
   by_cases hk : k < j + 1
   ·have e1 : ((j : Int) + 1 - 1 - k).toNat = j - k := by omega
    obtain ⟨a1, a2, b1, b2⟩ := srB j (by omega) k (by omega)
    obtain ⟨b3, b4, _, _⟩ := srB j (by omega) (k + 1) (by omega)
    rw [srIn] at b3 b4
    refine dEa (And.intro fL2 (And.intro @srL_len @e1)) ?_
    all_goals try (refine zlf ?_; repeat' first | exact zso | refine And.intro ?_ ?_ | (refine zim ?_; intro zb hc) | (refine zin ?_; intro zb) | intro j')
    all_goals try refine zbx ?_
    focus
     refine q_lp_n ((fun (k : Nat) => j + 1 - k) (k+1)) (dC fL2 ?_) ⟨k+1, dC fL2 ?_⟩
     all_goals try (refine zlf ?_; repeat' first | exact zso | refine And.intro ?_ ?_ | (refine zim ?_; intro zb hc) | (refine zin ?_; intro zb) | intro j')
     all_goals try refine zbx ?_
    all_goals rw [srIn]
   ·obtain rfl : k = j + 1 := by omega
    refine dEa (And.intro fL2 @srL_len) ?_
    all_goals try (refine zlf ?_; repeat' first | exact zso | refine And.intro ?_ ?_ | (refine zim ?_; intro zb hc) | (refine zin ?_; intro zb) | intro j')
    all_goals try refine zbx ?_
    focus
     refine q_lp_n ((fun (j : Nat) => N - j) (j+1)) (dC fL2 ?_) ⟨j+1, dC fL2 ?_⟩
     all_goals try (refine zlf ?_; repeat' first | exact zso | refine And.intro ?_ ?_ | (refine zim ?_; intro zb hc) | (refine zin ?_; intro zb) | intro j')
     all_goals try refine zbx ?_
    all_goals (simp [srL, srL_len])
   all_goals rfl
  ·skip
   obtain rfl : j = N := by omega
   rfl
 ·rw [show srR n = -1 from if_neg h]
  refine fO sg0 [2] Tryz.func73 ?_
  refine dEa trivial ?_
  all_goals try (refine zlf ?_; repeat' first | exact zso | refine And.intro ?_ ?_ | (refine zim ?_; intro zb hc) | (refine zin ?_; intro zb) | intro j')
  all_goals try refine zbx ?_
theorem spec_SchroederNumber_c (n : Int) : Fun Tryz.prog 97 [(.int .i64 (n))] [(.int .i64 (srR n))] := by
 by_cases h : 0 ≤ n ∧ n ≤ 15
 ·rw [show srR n = (srL n.toNat).getD n.toNat 0 from if_pos h]
  obtain ⟨N, rfl⟩ := Int.eq_ofNat_of_zero_le h.1
  rw [Int.toNat_natCast]
  refine fO sg0 [2] Tryz.func97 ?_
  have cE1 := @spec_l1In_c
  refine dEa trivial ?_
  all_goals try (refine zlf ?_; repeat' first | exact zso | refine And.intro ?_ ?_ | (refine zim ?_; intro zb hc) | (refine zin ?_; intro zb) | intro j')
  all_goals try refine zbx ?_
  refine v_loopB (fun ms1 S1 => ∃ (j : Nat), S1.e 0 = .p (.int .i64 (N)) ∧ OwnL (S1.e 3) S1.h S1.n (PV.int .i64) ((srL j).length) (srL j) ∧ S1.e 4 = .p (.int .i64 ((j + 1))) ∧ (j ≤ N) ∧ ms1 = N - j) ((fun (j : Nat) => N - j) (0)) ?_ ⟨0, dIa trivial ?_⟩
  all_goals try (refine zlf ?_; repeat' first | exact zso | refine And.intro ?_ ?_ | (refine zim ?_; intro zb hc) | (refine zin ?_; intro zb) | intro j')
  all_goals try refine zbx ?_
  rintro ms1 S1 ⟨j, h1_0, o1_3, h1_4, c1_0, hm1⟩
  obtain ⟨i1_3, h1_3, b1_3, l1_3⟩ := o1_3.out
  have ni1_3 := znds (x := i1_3) (n := S1.n)
  have fL1 := (And.intro h1_0 (And.intro h1_4 (And.intro h1_3 (And.intro b1_3 ni1_3))))
  have e0 : ((j : Int) + 1 - 1).toNat = j := by omega
  refine dEa (And.intro fL1 (And.intro @srL_len @e0)) ?_
  all_goals try (refine zlf ?_; repeat' first | exact zso | refine And.intro ?_ ?_ | (refine zim ?_; intro zb hc) | (refine zin ?_; intro zb) | intro j')
  all_goals try refine zbx ?_
  ·refine v_loopB (fun ms2 S2 => ∃ (k : Nat), S2.e 0 = .p (.int .i64 (N)) ∧ S2.e 3 = .ref i1_3 0 (srL j).length ∧ S2.h i1_3 = .live false (List.map (PV.int .i64) (srL j)) ∧ S2.e 4 = .p (.int .i64 ((j + 1))) ∧ S2.e 5 = .p (.int .i64 ((srIn (srL j) j k))) ∧ S2.e 6 = .p (.int .i64 (k)) ∧ (k ≤ j + 1) ∧ (j < N) ∧ S1.n ≤ S2.n ∧ ms2 = j + 1 - k) ((fun (k : Nat) => j + 1 - k) (0)) ?_ ⟨0, dC fL1 ?_⟩
   all_goals try (refine zlf ?_; repeat' first | exact zso | refine And.intro ?_ ?_ | (refine zim ?_; intro zb hc) | (refine zin ?_; intro zb) | intro j')
   all_goals try refine zbx ?_
   rintro ms2 S2 ⟨k, h2_0, h2_3, b2_3, h2_4, h2_5, h2_6, c2_0, c2_1, u2_0, hm2⟩
   have ni1_3 := znds (x := i1_3) (n := S2.n)
   have fL2 := (And.intro h2_0 (And.intro h2_3 (And.intro b2_3 (And.intro h2_4 (And.intro h2_5 (And.intro h2_6 ni1_3))))))
   by_cases hk : k < j + 1
   ·have e1 : ((j : Int) + 1 - 1 - k).toNat = j - k := by omega
    obtain ⟨a1, a2, b1, b2⟩ := srB j (by omega) k (by omega)
    obtain ⟨b3, b4, _, _⟩ := srB j (by omega) (k + 1) (by omega)
    rw [srIn] at b3 b4
    refine dEa (And.intro fL2 (And.intro @srL_len @e1)) ?_
    all_goals try (refine zlf ?_; repeat' first | exact zso | refine And.intro ?_ ?_ | (refine zim ?_; intro zb hc) | (refine zin ?_; intro zb) | intro j')
    all_goals try refine zbx ?_
    focus
     refine q_lp_n ((fun (k : Nat) => j + 1 - k) (k+1)) (dC fL2 ?_) ⟨k+1, dC fL2 ?_⟩
     all_goals try (refine zlf ?_; repeat' first | exact zso | refine And.intro ?_ ?_ | (refine zim ?_; intro zb hc) | (refine zin ?_; intro zb) | intro j')
     all_goals try refine zbx ?_
    all_goals rw [srIn]
   ·obtain rfl : k = j + 1 := by omega
    refine dEa (And.intro fL2 @srL_len) ?_
    all_goals try (refine zlf ?_; repeat' first | exact zso | refine And.intro ?_ ?_ | (refine zim ?_; intro zb hc) | (refine zin ?_; intro zb) | intro j')
    all_goals try refine zbx ?_
    focus
     refine q_lp_n ((fun (j : Nat) => N - j) (j+1)) (dC fL2 ?_) ⟨j+1, dC fL2 ?_⟩
     all_goals try (refine zlf ?_; repeat' first | exact zso | refine And.intro ?_ ?_ | (refine zim ?_; intro zb hc) | (refine zin ?_; intro zb) | intro j')
     all_goals try refine zbx ?_
    all_goals (simp [srL, srL_len])
   all_goals rfl
  ·skip
   obtain rfl : j = N := by omega
   rfl
 ·rw [show srR n = -1 from if_neg h]
  refine fO sg0 [2] Tryz.func97 ?_
  have cE1 := @spec_l1In_c
  refine dEa trivial ?_
  all_goals try (refine zlf ?_; repeat' first | exact zso | refine And.intro ?_ ?_ | (refine zim ?_; intro zb hc) | (refine zin ?_; intro zb) | intro j')
  all_goals try refine zbx ?_
end Go.Gl
set_option linter.unusedSimpArgs false
set_option linter.unusedVariables false
set_option maxRecDepth 20000
set_option linter.unusedSectionVars false
namespace Go.Gl
open Go Go.Proofs
variable [Amb]
def pwR (m : Int) : Int := 2 ^ (max (m - 1) 0).toNat
theorem p2_b : ∀ k, k < 6 → (1 : Int) ≤ 2 ^ k ∧ (2 : Int) ^ k ≤ 32 := by decide
theorem pwR_b {m : Int} (h : m ≤ 6) : 1 ≤ pwR m ∧ pwR m ≤ 32 := p2_b _ (by omega)
theorem impl_KnownCounts_1_c (m : Int) : Fun Tryz.prog 68 [(.int .i64 (m))] [(.int .i64 (1))] := by
 refine fO sg0 [2] Tryz.func68 ?_
 refine dEa trivial ?_
 all_goals try (refine zlf ?_; repeat' first | exact zso | refine And.intro ?_ ?_ | (refine zim ?_; intro zb hc) | (refine zin ?_; intro zb) | intro j')
 all_goals try refine zbx ?_
theorem impl_KnownCounts_2_c (m : Int) (h0 : 0 ≤ m ∧ m ≤ 6) : Fun Tryz.prog 69 [(.int .i64 (m))] [(.int .i64 (pwR m))] := by
 refine fO sg0 [2] Tryz.func69 ?_
 have b := pwR_b h0.2
 have e : 1 * 2 ^ (max (m - 1) 0).toNat = pwR m := Int.one_mul _
 refine dEa trivial ?_
 all_goals try (refine zlf ?_; repeat' first | exact zso | refine And.intro ?_ ?_ | (refine zim ?_; intro zb hc) | (refine zin ?_; intro zb) | intro j')
 all_goals try refine zbx ?_
 all_goals first | exact e | (rw [e]; simp only [n_i64]; omega)
theorem impl_KnownCounts_3_c (m : Int) (h0 : 0 ≤ m ∧ m ≤ 6) : Fun Tryz.prog 72 [(.int .i64 (m))] [(.int .i64 (srR (max (m - 1) 0)))] := by
 refine fO sg0 [2] Tryz.func72 ?_
 have cE1 := @impl_SchroederNumber_c
 refine dEa trivial ?_
 all_goals try (refine zlf ?_; repeat' first | exact zso | refine And.intro ?_ ?_ | (refine zim ?_; intro zb hc) | (refine zin ?_; intro zb) | intro j')
 all_goals try refine zbx ?_
def knW : Nat → List UInt8
 | 0 => [111, 110, 101]
 | 1 => [112, 111, 119, 101, 114, 115]
 | 2 => [102, 105, 98, 111, 110, 97, 99, 99, 105]
 | 3 => [99, 97, 116, 97, 108, 97, 110]
 | _ => [115, 99, 104, 114, 111, 101, 100, 101, 114]
def knF (k : Nat) (m : Int) : Int := match k with
 | 0 => 1
 | 1 => pwR m
 | 2 => fibR m
 | 3 => catR m
 | _ => srR (max (m - 1) 0)
def knK (c : List Int) (k m : Nat) : Bool := (List.range m).all fun i => decide (c.getD i 0 = knF k i)
theorem knK_succ {c : List Int} {k m : Nat} : knK c k (m + 1) = (knK c k m && decide (c.getD m 0 = knF k m)) := by simp [knK, List.range_succ]
def knB (c : List Int) (k : Nat) : Bool := knK c k c.length
def knN (c : List Int) : List UInt8 := if knB c 0 then knW 0 else if knB c 1 then knW 1 else if knB c 2 then knW 2 else if knB c 3 then knW 3 else if knB c 4 then knW 4 else [111, 116, 104, 101, 114]
theorem knN_at {c : List Int} {k : Nat} (h5 : k < 5) (h : ∀ j, j < k → knB c j = false) (hk : knB c k = true) : knN c = knW k := by
 obtain rfl | rfl | rfl | rfl | rfl : k = 0 ∨ k = 1 ∨ k = 2 ∨ k = 3 ∨ k = 4 := by omega
 ·rw [knN, if_pos hk]
 ·rw [knN, h 0 (by omega), if_pos hk]; rfl
 ·rw [knN, h 0 (by omega), h 1 (by omega), if_pos hk]; rfl
 ·rw [knN, h 0 (by omega), h 1 (by omega), h 2 (by omega), if_pos hk]; rfl
 ·rw [knN, h 0 (by omega), h 1 (by omega), h 2 (by omega), h 3 (by omega), if_pos hk]; rfl
theorem knN_no {c : List Int} (h : ∀ j, j < 5 → knB c j = false) : knN c = [111, 116, 104, 101, 114] := by
 rw [knN, h 0 (by omega), h 1 (by omega), h 2 (by omega), h 3 (by omega), h 4 (by omega)]; rfl
def knownR (L : List (List Int)) (n : Int) : List UInt8 := if basisB L = true ∧ 4 ≤ n ∧ n ≤ 6 then knN (ccR L n) else []
theorem ccR_len {L : List (List Int)} {n : Int} (h : basisB L = true ∧ 4 ≤ n ∧ n ≤ 6) : (ccR L n).length = n.toNat + 1 := by
 rw [ccR, if_pos ⟨h.1, by omega⟩]; simp
theorem kw_ne : (knW 0 = knW 1) = False ∧ (knW 0 = knW 2) = False ∧ (knW 0 = knW 3) = False ∧ (knW 0 = knW 4) = False ∧ (knW 2 = knW 1) = False ∧ (knW 3 = knW 1) = False ∧ (knW 3 = knW 2) = False ∧ (knW 4 = knW 1) = False ∧ (knW 4 = knW 2) = False ∧ (knW 4 = knW 3) = False := by decide
theorem kw_lit : ([112, 111, 119, 101, 114, 115] : List UInt8) = knW 1 ∧ ([102, 105, 98, 111, 110, 97, 99, 99, 105] : List UInt8) = knW 2 ∧ ([99, 97, 116, 97, 108, 97, 110] : List UInt8) = knW 3 ∧ ([115, 99, 104, 114, 111, 101, 100, 101, 114] : List UInt8) = knW 4 := ⟨rfl, rfl, rfl, rfl⟩
theorem n_u64 {n : Int} : inR .u64 n = (0 ≤ n ∧ n ≤ 18446744073709551615) := by simp only [inR]; rfl
theorem pw_s {m : Int} : 1 * 2 ^ (max 0 (m - 1)).toNat = pwR m := by rw [Int.one_mul, pwR, Int.max_comm]
theorem spec_l16Known_c (k : Nat) (m : Int) (hk : k < 5) (h0 : 0 ≤ m ∧ m ≤ 6) : Fun Tryz.prog 55 [(.str (knW k)), (.int .i64 (m))] [(.int .i64 (knF k m))] := by
 have b := pwR_b h0.2
 have e : 1 * 2 ^ (max 0 (m - 1)).toNat = pwR m := pw_s
 have e2 : max 0 (m - 1) = max (m - 1) 0 := Int.max_comm ..
 have u3 : (Tryz.prog.underlying 3).isSome = true := by rw [Tryz.underlying3]; rfl
 obtain rfl | rfl | rfl | rfl | rfl : k = 0 ∨ k = 1 ∨ k = 2 ∨ k = 3 ∨ k = 4 := by omega
 all_goals simp only [knF]
 ·refine fO sg0 [4] Tryz.func55 ?_
  have cE1 := @spec_l1Max_c; have cE2 := @spec_FibonacciNumber_c; have cE3 := @spec_CatalanNumber_c; have cE4 := @spec_SchroederNumber_c
  refine dEa (And.intro @kw_lit (And.intro @kw_ne @u3)) ?_
  all_goals try (refine zlf ?_; repeat' first | exact zso | refine And.intro ?_ ?_ | (refine zim ?_; intro zb hc) | (refine zin ?_; intro zb) | intro j')
  all_goals try refine zbx ?_
  all_goals first | rfl | exact e | (rw [e]; simp only [n_i64]; omega) | (simp only [n_u64]; omega) | exact congrArg srR e2 | trace_state
 ·refine fO sg0 [4] Tryz.func55 ?_
  have cE1 := @spec_l1Max_c; have cE2 := @spec_FibonacciNumber_c; have cE3 := @spec_CatalanNumber_c; have cE4 := @spec_SchroederNumber_c
  refine dEa (And.intro @kw_lit (And.intro @kw_ne @u3)) ?_
  all_goals try (refine zlf ?_; repeat' first | exact zso | refine And.intro ?_ ?_ | (refine zim ?_; intro zb hc) | (refine zin ?_; intro zb) | intro j')
  all_goals try refine zbx ?_
  all_goals first | rfl | exact e | (rw [e]; simp only [n_i64]; omega) | (simp only [n_u64]; omega) | exact congrArg srR e2 | trace_state
 ·refine fO sg0 [4] Tryz.func55 ?_
  have cE1 := @spec_l1Max_c; have cE2 := @spec_FibonacciNumber_c; have cE3 := @spec_CatalanNumber_c; have cE4 := @spec_SchroederNumber_c
  refine dEa (And.intro @kw_lit (And.intro @kw_ne @u3)) ?_
  all_goals try (refine zlf ?_; repeat' first | exact zso | refine And.intro ?_ ?_ | (refine zim ?_; intro zb hc) | (refine zin ?_; intro zb) | intro j')
  all_goals try refine zbx ?_
  all_goals first | rfl | exact e | (rw [e]; simp only [n_i64]; omega) | (simp only [n_u64]; omega) | exact congrArg srR e2 | trace_state
 ·refine fO sg0 [4] Tryz.func55 ?_
  have cE1 := @spec_l1Max_c; have cE2 := @spec_FibonacciNumber_c; have cE3 := @spec_CatalanNumber_c; have cE4 := @spec_SchroederNumber_c
  refine dEa (And.intro @kw_lit (And.intro @kw_ne @u3)) ?_
  all_goals try (refine zlf ?_; repeat' first | exact zso | refine And.intro ?_ ?_ | (refine zim ?_; intro zb hc) | (refine zin ?_; intro zb) | intro j')
  all_goals try refine zbx ?_
  all_goals first | rfl | exact e | (rw [e]; simp only [n_i64]; omega) | (simp only [n_u64]; omega) | exact congrArg srR e2 | trace_state
 ·refine fO sg0 [4] Tryz.func55 ?_
  have cE1 := @spec_l1Max_c; have cE2 := @spec_FibonacciNumber_c; have cE3 := @spec_CatalanNumber_c; have cE4 := @spec_SchroederNumber_c
  refine dEa (And.intro @kw_lit (And.intro @kw_ne @u3)) ?_
  all_goals try (refine zlf ?_; repeat' first | exact zso | refine And.intro ?_ ?_ | (refine zim ?_; intro zb hc) | (refine zin ?_; intro zb) | intro j')
  all_goals try refine zbx ?_
  all_goals first | rfl | exact e | (rw [e]; simp only [n_i64]; omega) | (simp only [n_u64]; omega) | exact congrArg srR e2 | trace_state
def kws : List (List UInt8) := [knW 0, knW 1, knW 2, knW 3, knW 4]
theorem kws_len : kws.length = 5 := rfl
theorem kc_at {k : Nat} (hk : k < 5) : kws.getD k [] = knW k := by
 obtain rfl | rfl | rfl | rfl | rfl : k = 0 ∨ k = 1 ∨ k = 2 ∨ k = 3 ∨ k = 4 := by omega
 all_goals rfl
theorem spec_KnownCounts_c {e0 m0 : Bool} (L : List (List Int)) (n : Int) (hL : L.length ≤ 1048576) (hl : ∀ l ∈ L, l.length ≤ 1048576) : Fun Tryz.prog 25 [(.sl (.lent m0) (List.map (elI e0) (L))), (.int .i64 (n))] [(.str (knownR L n))] := by
 by_cases h : basisB L = true ∧ 4 ≤ n ∧ n ≤ 6
 ·have hb := h.1
  have cl := ccR_len h
  have e : knownR L n = knN (ccR L n) := if_pos h
  rw [e]
  obtain ⟨c, hc0⟩ : ∃ c, ccR L n = c := ⟨_, rfl⟩
  rw [hc0] at cl ⊢
  refine fO sg0 [4] Tryz.func25 ?_
  have cE1 := @spec_l1In_c; have cE2 := @spec_IsBasis_c; have cE3 := @spec_ClassCounts_c; have cE4 := @spec_l16Known_c; have cD1 := zdh [false, false, false, false, false, false, false, false, false, false, false, true, false, false, false] [(2, 11), (3, 11), (4, 11), (5, 11)]
  refine dEa (And.intro @hb @hc0) ?_
  all_goals try (refine zlf ?_; repeat' first | exact zso | refine And.intro ?_ ?_ | (refine zim ?_; intro zb hc; repeat (have zc := zb.1; replace zb := zb.2)) | (refine zin ?_; intro zb) | intro j')
  all_goals try refine zbx ?_
  refine v_loopB (fun ms1 S1 => ∃ (k : Nat), S1.e 0 = .p (.sl (.lent m0) (List.map (elI e0) (L))) ∧ S1.e 1 = .p (.int .i64 (n)) ∧ OwnL (S1.e 5) S1.h S1.n (PV.int .i64) ((c).length) (c) ∧ OwnL (S1.e 6) S1.h S1.n PV.str ((kws).length) (kws) ∧ S1.e 7 = .p (.int .i64 (k)) ∧ (k ≤ 5) ∧ (∀ j, j < k → knB c j = false) ∧ NId (S1.e 6) (S1.e 5) ∧ ms1 = 5 - k) ((fun (k : Nat) => 5 - k) (0)) ?_ ⟨0, dC trivial ?_⟩
  all_goals try (refine zlf ?_; repeat' first | exact zso | refine And.intro ?_ ?_ | (refine zim ?_; intro zb hc; repeat (have zc := zb.1; replace zb := zb.2)) | (refine zin ?_; intro zb) | intro j')
  all_goals try refine zbx ?_
  rintro ms1 S1 ⟨k, h1_0, h1_1, o1_5, o1_6, h1_7, c1_0, c1_1, u1_0, hm1⟩
  obtain ⟨i1_5, h1_5, b1_5, l1_5⟩ := o1_5.out
  obtain ⟨i1_6, h1_6, b1_6, l1_6⟩ := o1_6.out
  have k1_0 := (u1_0).out h1_6 h1_5
  have ni1_5 := znds (x := i1_5) (n := S1.n)
  have ni1_6 := znds (x := i1_6) (n := S1.n)
  have di1_5i1_6 := zdne (x := i1_5) (y := i1_6)
  have fL1 := (And.intro h1_0 (And.intro h1_1 (And.intro h1_7 (And.intro h1_5 (And.intro b1_5 (And.intro h1_6 (And.intro b1_6 (And.intro ni1_5 (And.intro ni1_6 di1_5i1_6)))))))))
  by_cases hk : k < 5
  ·have e1 := kc_at hk
   refine dEa (And.intro fL1 @kws_len) ?_
   all_goals try (refine zlf ?_; repeat' first | exact zso | refine And.intro ?_ ?_ | (refine zim ?_; intro zb hc; repeat (have zc := zb.1; replace zb := zb.2)) | (refine zin ?_; intro zb) | intro j')
   all_goals try refine zbx ?_
   refine v_loopB (fun ms2 S2 => ∃ (m : Nat), S2.e 0 = .p (.sl (.lent m0) (List.map (elI e0) (L))) ∧ S2.e 1 = .p (.int .i64 (n)) ∧ S2.e 5 = .ref i1_5 0 (c).length ∧ S2.h i1_5 = .live false (List.map (PV.int .i64) (c)) ∧ S2.e 6 = .ref i1_6 0 (kws).length ∧ S2.h i1_6 = .live false (List.map PV.str (kws)) ∧ S2.e 7 = .p (.int .i64 (k)) ∧ S2.e 8 = .p (.bool (knK c k m)) ∧ S2.e 9 = .p (.int .i64 (m)) ∧ ((m : Int) ≤ n + 1) ∧ S1.n ≤ S2.n ∧ ms2 = n.toNat + 1 - m) ((fun (m : Nat) => n.toNat + 1 - m) (0)) ?_ ⟨0, dC fL1 ?_⟩
   all_goals try (refine zlf ?_; repeat' first | exact zso | refine And.intro ?_ ?_ | (refine zim ?_; intro zb hc; repeat (have zc := zb.1; replace zb := zb.2)) | (refine zin ?_; intro zb) | intro j')
   all_goals try refine zbx ?_
   rintro ms2 S2 ⟨m, h2_0, h2_1, h2_5, b2_5, h2_6, b2_6, h2_7, h2_8, h2_9, c2_0, u2_0, hm2⟩
   have ni1_5 := znds (x := i1_5) (n := S2.n)
   have ni1_6 := znds (x := i1_6) (n := S2.n)
   have di1_5i1_6 := zdne (x := i1_5) (y := i1_6)
   have fL2 := (And.intro h2_0 (And.intro h2_1 (And.intro h2_5 (And.intro b2_5 (And.intro h2_6 (And.intro b2_6 (And.intro h2_7 (And.intro h2_8 (And.intro h2_9 (And.intro ni1_5 (And.intro ni1_6 di1_5i1_6)))))))))))
   by_cases hm : (m : Int) < n + 1
   ·refine dEa (And.intro fL2 (And.intro @e1 @kws_len)) ?_
    all_goals try (refine zlf ?_; repeat' first | exact zso | refine And.intro ?_ ?_ | (refine zim ?_; intro zb hc; repeat (have zc := zb.1; replace zb := zb.2)) | (refine zin ?_; intro zb) | intro j')
    all_goals try refine zbx ?_
    ·focus
      refine q_lp_n ((fun (m : Nat) => n.toNat + 1 - m) (m+1)) (dC fL2 ?_) ⟨m+1, dC fL2 ?_⟩
      all_goals try (refine zlf ?_; repeat' first | exact zso | refine And.intro ?_ ?_ | (refine zim ?_; intro zb hc; repeat (have zc := zb.1; replace zb := zb.2)) | (refine zin ?_; intro zb) | intro j')
      all_goals try refine zbx ?_
     all_goals (rw [knK_succ]; simp [*])
    ·focus
      refine q_lp_n ((fun (m : Nat) => n.toNat + 1 - m) (m+1)) (dC fL2 ?_) ⟨m+1, dC fL2 ?_⟩
      all_goals try (refine zlf ?_; repeat' first | exact zso | refine And.intro ?_ ?_ | (refine zim ?_; intro zb hc; repeat (have zc := zb.1; replace zb := zb.2)) | (refine zin ?_; intro zb) | intro j')
      all_goals try refine zbx ?_
     all_goals (rw [knK_succ]; simp [*])
   ·obtain rfl : m = c.length := by omega
    refine dEa (And.intro fL2 (And.intro @e1 @kws_len)) ?_
    all_goals try (refine zlf ?_; repeat' first | exact zso | refine And.intro ?_ ?_ | (refine zim ?_; intro zb hc; repeat (have zc := zb.1; replace zb := zb.2)) | (refine zin ?_; intro zb) | intro j')
    all_goals try refine zbx ?_
    ·exact (knN_at (by omega) c1_1 hc).symm
    ·focus
      refine q_lp_n ((fun (k : Nat) => 5 - k) (k+1)) (dC fL2 ?_) ⟨k+1, dC fL2 ?_⟩
      all_goals try (refine zlf ?_; repeat' first | exact zso | refine And.intro ?_ ?_ | (refine zim ?_; intro zb hc; repeat (have zc := zb.1; replace zb := zb.2)) | (refine zin ?_; intro zb) | intro j')
      all_goals try refine zbx ?_
     intro j hj
     by_cases e : j = k
     ·subst e; exact hc
     ·exact c1_1 j (by omega)
  ·obtain rfl : k = 5 := by omega
   refine dEa (And.intro fL1 @kws_len) ?_
   all_goals try (refine zlf ?_; repeat' first | exact zso | refine And.intro ?_ ?_ | (refine zim ?_; intro zb hc; repeat (have zc := zb.1; replace zb := zb.2)) | (refine zin ?_; intro zb) | intro j')
   all_goals try refine zbx ?_
   all_goals exact (knN_no c1_1).symm
 ·rw [show knownR L n = [] from if_neg h]
  refine fO sg0 [4] Tryz.func25 ?_
  have cE1 := @spec_l1In_c; have cE2 := @spec_IsBasis_c; have cE3 := @spec_ClassCounts_c; have cE4 := @spec_l16Known_c; have cD1 := zdh [false, false, false, false, false, false, false, false, false, false, false, true, false, false, false] [(2, 11), (3, 11), (4, 11), (5, 11)]
  refine dEa trivial ?_
  all_goals try (refine zlf ?_; repeat' first | exact zso | refine And.intro ?_ ?_ | (refine zim ?_; intro zb hc; repeat (have zc := zb.1; replace zb := zb.2)) | (refine zin ?_; intro zb) | intro j')
  all_goals try refine zbx ?_
  all_goals exact absurd ⟨by assumption, by omega, by omega⟩ h
end Go.Gl
set_option linter.unusedSimpArgs false
set_option linter.unusedVariables false
set_option maxRecDepth 20000
set_option linter.unusedSectionVars false
namespace Go.Gl
open Go Go.Proofs
variable [Amb]
def knG : Nat → FuncId
 | 0 => 68
 | 1 => 69
 | 2 => 70
 | 3 => 71
 | _ => 72
def knCs : List PV := [.str (knW 0), .fn (knG 0) [] [], .str (knW 1), .fn (knG 1) [] [], .str (knW 2), .fn (knG 2) [] [], .str (knW 3), .fn (knG 3) [] [], .str (knW 4), .fn (knG 4) [] []]
theorem knCs_len : knCs.length = 10 := rfl
theorem kn_at {k : Nat} (hk : k < 5) : List.take 2 (List.drop (k * 2) knCs) = [.str (knW k), .fn (knG k) [] []] := by
 obtain rfl | rfl | rfl | rfl | rfl : k = 0 ∨ k = 1 ∨ k = 2 ∨ k = 3 ∨ k = 4 := by omega
 all_goals rfl
theorem pt_kn : pairT Tryz.prog 64 = true := by kernel_rfl
theorem ck_nilf : PV.cellOk .nilf = true := _root_.id rfl
theorem ce_nilf : PV.cell .nilf = .nilf := _root_.id rfl
theorem ce_fn {f : FuncId} {a b : List PV} : PV.cell (.fn f a b) = .fn f a b := _root_.id rfl
attribute [local go_sem] pt_kn ck_nilf ce_nilf ce_fn
theorem kn_call {k : Nat} (hk : k < 5) (m : Int) (h0 : 0 ≤ m ∧ m ≤ 6) : Fun Tryz.prog (knG k) [.int .i64 m] [.int .i64 (knF k m)] := by
 obtain rfl | rfl | rfl | rfl | rfl : k = 0 ∨ k = 1 ∨ k = 2 ∨ k = 3 ∨ k = 4 := by omega
 ·exact impl_KnownCounts_1_c m
 ·exact impl_KnownCounts_2_c m h0
 ·exact impl_FibonacciNumber_c m
 ·exact impl_CatalanNumber_c m
 ·exact impl_KnownCounts_3_c m h0
theorem impl_KnownCounts_c {e0 m0 : Bool} (L : List (List Int)) (n : Int) (hL : L.length ≤ 1048576) (hl : ∀ l ∈ L, l.length ≤ 1048576) : Fun Tryz.prog 35 [(.sl (.lent m0) (List.map (elI e0) (L))), (.int .i64 (n))] [(.str (knownR L n))] := by
 by_cases h : basisB L = true ∧ 4 ≤ n ∧ n ≤ 6
 ·have hb := h.1
  have cl := ccR_len h
  have e : knownR L n = knN (ccR L n) := if_pos h
  rw [e]
  obtain ⟨c, hc0⟩ : ∃ c, ccR L n = c := ⟨_, rfl⟩
  rw [hc0] at cl ⊢
  refine fO sg0 [4] Tryz.func35 ?_
  have cE1 := @impl_KnownCounts_1_c; have cE2 := @impl_FibonacciNumber_c; have cE3 := @impl_CatalanNumber_c; have cE4 := @impl_IsBasis_c; have cE5 := @impl_ClassCounts_c; have cE6 := @impl_KnownCounts_2_c
  have cE7 := @impl_KnownCounts_3_c
  refine dEa (And.intro @hb @hc0) ?_
  all_goals try (refine zlf ?_; repeat' first | exact zso | refine And.intro ?_ ?_ | (refine zim ?_; intro zb hc; repeat (have zc := zb.1; replace zb := zb.2)) | (refine zin ?_; intro zb) | intro j')
  all_goals try refine zbx ?_
  refine v_loopB (fun ms1 S1 => ∃ (k : Nat), OwnL (S1.e 5) S1.h S1.n (PV.int .i64) ((c).length) (c) ∧ PrsL (S1.e 32) S1.h S1.n (5) (knCs) ∧ S1.e 33 = .p (.int .i64 (5)) ∧ S1.e 34 = .p (.int .i64 (k)) ∧ (k ≤ 5) ∧ (∀ j, j < k → knB c j = false) ∧ NId (asR (S1.e 32)) (S1.e 5) ∧ ms1 = 5 - k) ((fun (k : Nat) => 5 - k) (0)) ?_ ⟨0, dC trivial ?_⟩
  all_goals try (refine zlf ?_; repeat' first | exact zso | refine And.intro ?_ ?_ | (refine zim ?_; intro zb hc; repeat (have zc := zb.1; replace zb := zb.2)) | (refine zin ?_; intro zb) | intro j')
  all_goals try refine zbx ?_
  rintro ms1 S1 ⟨k, o1_5, o1_32, h1_33, h1_34, c1_0, c1_1, u1_0, hm1⟩
  obtain ⟨i1_5, h1_5, b1_5, l1_5⟩ := o1_5.out
  obtain ⟨i1_32, h1_32, b1_32, l1_32⟩ := o1_32.out
  have k1_0 := (u1_0).out (asR_ep h1_32) h1_5
  have ni1_5 := znds (x := i1_5) (n := S1.n)
  have ni1_32 := znds (x := i1_32) (n := S1.n)
  have di1_5i1_32 := zdne (x := i1_5) (y := i1_32)
  have fL1 := (And.intro h1_33 (And.intro h1_34 (And.intro h1_5 (And.intro b1_5 (And.intro h1_32 (And.intro b1_32 (And.intro ni1_5 (And.intro ni1_32 di1_5i1_32))))))))
  ·by_cases hk : k < 5
   ·have e1 := kn_at hk
    refine dEa (And.intro fL1 (And.intro @e1 @knCs_len)) ?_
    all_goals try (refine zlf ?_; repeat' first | exact zso | refine And.intro ?_ ?_ | (refine zim ?_; intro zb hc; repeat (have zc := zb.1; replace zb := zb.2)) | (refine zin ?_; intro zb) | intro j')
    all_goals try refine zbx ?_
    refine v_loopB (fun ms2 S2 => ∃ (m : Nat), S2.e 5 = .ref i1_5 0 (c).length ∧ S2.h i1_5 = .live false (List.map (PV.int .i64) (c)) ∧ S2.e 38 = .ref i1_5 0 (c).length ∧ S2.h i1_5 = .live false (List.map (PV.int .i64) (c)) ∧ PrsL (S2.e 32) S2.h S2.n (5) (knCs) ∧ S2.e 33 = .p (.int .i64 (5)) ∧ S2.e 34 = .p (.int .i64 (k)) ∧ PtrL (S2.e 8) S2.h S2.n (.live false [.str (knW k), .fn (knG k) [] []]) ∧ S2.e 39 = .p (.int .i64 (c.length)) ∧ S2.e 40 = .p (.int .i64 (m)) ∧ S2.e 9 = .p (.bool (knK c k m)) ∧ (m ≤ c.length) ∧ NId (asR (S2.e 8)) (asR (S2.e 32)) ∧ NId (asR (S2.e 32)) (.ref i1_5 0 0) ∧ NId (asR (S2.e 8)) (.ref i1_5 0 0) ∧ S1.n ≤ S2.n ∧ ms2 = c.length - m) ((fun (m : Nat) => c.length - m) (0)) ?_ ⟨0, dC fL1 ?_⟩
    all_goals try (refine zlf ?_; repeat' first | exact zso | refine And.intro ?_ ?_ | (refine zim ?_; intro zb hc; repeat (have zc := zb.1; replace zb := zb.2)) | (refine zin ?_; intro zb) | intro j')
    all_goals try refine zbx ?_
    rintro ms2 S2 ⟨m, h2_5, b2_5, h2_38, b2_38, o2_32, h2_33, h2_34, o2_8, h2_39, h2_40, h2_9, c2_0, u2_0, u2_1, u2_2, u2_3, hm2⟩
    obtain ⟨i2_32, h2_32, b2_32, l2_32⟩ := o2_32.out
    obtain ⟨i2_8, h2_8, b2_8, l2_8⟩ := o2_8.out
    have k2_0 := (u2_0).out (asR_eq h2_8) (asR_ep h2_32)
    have k2_1 := (u2_1).out (asR_ep h2_32) rfl
    have k2_2 := (u2_2).out (asR_eq h2_8) rfl
    have ni2_32 := znds (x := i2_32) (n := S2.n)
    have ni2_8 := znds (x := i2_8) (n := S2.n)
    have ni1_5 := znds (x := i1_5) (n := S2.n)
    have di2_32i2_8 := zdne (x := i2_32) (y := i2_8)
    have di2_32i1_5 := zdne (x := i2_32) (y := i1_5)
    have di2_8i1_5 := zdne (x := i2_8) (y := i1_5)
    have fL2 := (And.intro h2_5 (And.intro b2_5 (And.intro h2_38 (And.intro b2_38 (And.intro h2_33 (And.intro h2_34 (And.intro h2_39 (And.intro h2_40 (And.intro h2_9 (And.intro h2_32 (And.intro b2_32 (And.intro h2_8 (And.intro b2_8 (And.intro ni2_32 (And.intro ni2_8 (And.intro ni1_5 (And.intro di2_32i2_8 (And.intro di2_32i1_5 di2_8i1_5))))))))))))))))))
    ·by_cases hm : m < c.length
     ·have c9 := kn_call hk m (by omega)
      have cE1 := @c9; have cE2 := @impl_KnownCounts_1_c; have cE3 := @impl_FibonacciNumber_c; have cE4 := @impl_CatalanNumber_c; have cE5 := @impl_IsBasis_c; have cE6 := @impl_ClassCounts_c
      have cE7 := @impl_KnownCounts_2_c; have cE8 := @impl_KnownCounts_3_c
      refine dEa fL2 ?_
      all_goals try (refine zlf ?_; repeat' first | exact zso | refine And.intro ?_ ?_ | (refine zim ?_; intro zb hc; repeat (have zc := zb.1; replace zb := zb.2)) | (refine zin ?_; intro zb) | intro j')
      all_goals try refine zbx ?_
      ·focus
        refine q_lp_n ((fun (m : Nat) => c.length - m) (m+1)) (dC fL2 ?_) ⟨m+1, dC fL2 ?_⟩
        all_goals try (refine zlf ?_; repeat' first | exact zso | refine And.intro ?_ ?_ | (refine zim ?_; intro zb hc; repeat (have zc := zb.1; replace zb := zb.2)) | (refine zin ?_; intro zb) | intro j')
        all_goals try refine zbx ?_
       all_goals (rw [knK_succ]; simp [*])
      ·focus
        refine q_lp_n ((fun (m : Nat) => c.length - m) (m+1)) (dC fL2 ?_) ⟨m+1, dC fL2 ?_⟩
        all_goals try (refine zlf ?_; repeat' first | exact zso | refine And.intro ?_ ?_ | (refine zim ?_; intro zb hc; repeat (have zc := zb.1; replace zb := zb.2)) | (refine zin ?_; intro zb) | intro j')
        all_goals try refine zbx ?_
       all_goals (rw [knK_succ]; simp [*])
     ·obtain rfl : m = c.length := by omega
      have cE1 := @impl_KnownCounts_1_c; have cE2 := @impl_FibonacciNumber_c; have cE3 := @impl_CatalanNumber_c; have cE4 := @impl_IsBasis_c; have cE5 := @impl_ClassCounts_c; have cE6 := @impl_KnownCounts_2_c
      have cE7 := @impl_KnownCounts_3_c; have cE8 := trivial
      refine dEa fL2 ?_
      all_goals try (refine zlf ?_; repeat' first | exact zso | refine And.intro ?_ ?_ | (refine zim ?_; intro zb hc; repeat (have zc := zb.1; replace zb := zb.2)) | (refine zin ?_; intro zb) | intro j')
      all_goals try refine zbx ?_
      ·exact (knN_at (by omega) c1_1 hc).symm
      ·focus
        refine q_lp_n ((fun (k : Nat) => 5 - k) (k+1)) (dC fL2 ?_) ⟨k+1, dC fL2 ?_⟩
        all_goals try (refine zlf ?_; repeat' first | exact zso | refine And.intro ?_ ?_ | (refine zim ?_; intro zb hc; repeat (have zc := zb.1; replace zb := zb.2)) | (refine zin ?_; intro zb) | intro j')
        all_goals try refine zbx ?_
       intro j hj
       by_cases e : j = k
       ·subst e; exact hc
       ·exact c1_1 j (by omega)
    all_goals trace_state
   ·obtain rfl : k = 5 := by omega
    have cE1 := @impl_KnownCounts_1_c; have cE2 := @impl_FibonacciNumber_c; have cE3 := @impl_CatalanNumber_c; have cE4 := @impl_IsBasis_c; have cE5 := @impl_ClassCounts_c; have cE6 := @impl_KnownCounts_2_c
    have cE7 := @impl_KnownCounts_3_c; have cE8 := trivial
    refine dEa fL1 ?_
    all_goals try (refine zlf ?_; repeat' first | exact zso | refine And.intro ?_ ?_ | (refine zim ?_; intro zb hc; repeat (have zc := zb.1; replace zb := zb.2)) | (refine zin ?_; intro zb) | intro j')
    all_goals try refine zbx ?_
    all_goals exact (knN_no c1_1).symm
  all_goals trace_state
 ·rw [show knownR L n = [] from if_neg h]
  refine fO sg0 [4] Tryz.func35 ?_
  have cE1 := @impl_KnownCounts_1_c; have cE2 := @impl_FibonacciNumber_c; have cE3 := @impl_CatalanNumber_c; have cE4 := @impl_IsBasis_c; have cE5 := @impl_ClassCounts_c; have cE6 := @impl_KnownCounts_2_c
  have cE7 := @impl_KnownCounts_3_c
  refine dEa trivial ?_
  all_goals try (refine zlf ?_; repeat' first | exact zso | refine And.intro ?_ ?_ | (refine zim ?_; intro zb hc; repeat (have zc := zb.1; replace zb := zb.2)) | (refine zin ?_; intro zb) | intro j')
  all_goals try refine zbx ?_
  all_goals exact absurd ⟨by assumption, by omega, by omega⟩ h
end Go.Gl
set_option linter.unusedSimpArgs false
set_option linter.unusedVariables false
set_option maxRecDepth 20000
set_option linter.unusedSectionVars false
namespace Go.Gl
open Go Go.Proofs
variable [Amb]
def segL (p : List Int) (a b : Nat) : List Int := (p.take b).drop a
theorem segL_len {p : List Int} {a b : Nat} (h : b ≤ p.length) : (segL p a b).length = b - a := by simp [segL]; omega
theorem segL_mem {p : List Int} {a b : Nat} {x : Int} (h : x ∈ segL p a b) : x ∈ p := List.mem_of_mem_take (List.mem_of_mem_drop h)
end Go.Gl
set_option linter.unusedSimpArgs false
set_option linter.unusedVariables false
set_option maxRecDepth 20000
set_option linter.unusedSectionVars false
namespace Go.Gl
open Go Go.Proofs
variable [Amb]
/-- The pattern of a list. -/
def rkI (l : List Int) (x : Int) (k : Nat) : Int := ((l.take k).filter fun y => decide (y < x)).length + 1
def patL (l : List Int) : List Int := l.map fun x => rkI l x l.length
theorem rkI_succ {l : List Int} {x : Int} {k : Nat} (h : k < l.length) : rkI l x (k + 1) = rkI l x k + bitI (decide (l.getD k 0 < x)) := by
 rw [rkI, rkI, take_getD (d := 0) h, List.filter_append, List.length_append, List.filter_cons]
 cases decide (l.getD k 0 < x) <;> simp [bitI] <;> omega
theorem rkI_b {l : List Int} {x : Int} {k : Nat} : 1 ≤ rkI l x k ∧ rkI l x k ≤ l.length + 1 := by
 have := List.length_filter_le (fun y => decide (y < x)) (l.take k)
 rw [List.length_take] at this
 unfold rkI; omega
theorem spec_l2Pattern_c {m0 : Bool} (l : List Int) (hl : l.length ≤ 1048576) : Fun Tryz.prog 100 [(.sl (.lent m0) (List.map (PV.int .i64) (l)))] [(.sl .own (List.map (PV.int .i64) (patL l)))] := by
 refine fO sg0 [2] Tryz.func100 ?_
 have cE1 := @spec_l1Bit_c; have cD1 := zdh [false, false, false, false, false, false, false, false, false, false, true, false, false] [(0, 10)]
 refine dEa trivial ?_
 all_goals try (refine zlf ?_; repeat' first | exact zso | refine And.intro ?_ ?_ | (refine zim ?_; intro zb hc) | (refine zin ?_; intro zb) | intro j')
 all_goals try refine zbx ?_
 refine v_loopB (fun ms1 S1 => ∃ (k : Nat), S1.e 0 = .p (.sl (.lent m0) (List.map (PV.int .i64) (l))) ∧ OwnL (S1.e 3) S1.h S1.n (PV.int .i64) (((l.take k).map (fun x => rkI l x l.length)).length) ((l.take k).map (fun x => rkI l x l.length)) ∧ S1.e 4 = .p (.int .i64 (k)) ∧ (k ≤ l.length) ∧ ms1 = l.length - k) ((fun (k : Nat) => l.length - k) (0)) ?_ ⟨0, dIa trivial ?_⟩
 all_goals try (refine zlf ?_; repeat' first | exact zso | refine And.intro ?_ ?_ | (refine zim ?_; intro zb hc) | (refine zin ?_; intro zb) | intro j')
 all_goals try refine zbx ?_
 rintro ms1 S1 ⟨k, h1_0, o1_3, h1_4, c1_0, hm1⟩
 obtain ⟨i1_3, h1_3, b1_3, l1_3⟩ := o1_3.out
 have ni1_3 := znds (x := i1_3) (n := S1.n)
 have fL1 := (And.intro h1_0 (And.intro h1_4 (And.intro h1_3 (And.intro b1_3 ni1_3))))
 refine dEa fL1 ?_
 all_goals try (refine zlf ?_; repeat' first | exact zso | refine And.intro ?_ ?_ | (refine zim ?_; intro zb hc) | (refine zin ?_; intro zb) | intro j')
 all_goals try refine zbx ?_
 ·refine v_loopB (fun ms2 S2 => ∃ (j : Nat), S2.e 0 = .p (.sl (.lent m0) (List.map (PV.int .i64) (l))) ∧ OwnL (S2.e 3) S2.h S2.n (PV.int .i64) (((l.take k).map (fun x => rkI l x l.length)).length) ((l.take k).map (fun x => rkI l x l.length)) ∧ S2.e 4 = .p (.int .i64 (k)) ∧ S2.e 5 = .p (.int .i64 (rkI l (l.getD k 0) j)) ∧ S2.e 6 = .p (.int .i64 (j)) ∧ (j ≤ l.length) ∧ (k < l.length) ∧ S1.n ≤ S2.n ∧ ms2 = l.length - j) ((fun (j : Nat) => l.length - j) (0)) ?_ ⟨0, dIa fL1 ?_⟩
  all_goals try (refine zlf ?_; repeat' first | exact zso | refine And.intro ?_ ?_ | (refine zim ?_; intro zb hc) | (refine zin ?_; intro zb) | intro j')
  all_goals try refine zbx ?_
  rintro ms2 S2 ⟨j, h2_0, o2_3, h2_4, h2_5, h2_6, c2_0, c2_1, u2_0, hm2⟩
  obtain ⟨i2_3, h2_3, b2_3, l2_3⟩ := o2_3.out
  have ni2_3 := znds (x := i2_3) (n := S2.n)
  have fL2 := (And.intro h2_0 (And.intro h2_4 (And.intro h2_5 (And.intro h2_6 (And.intro h2_3 (And.intro b2_3 ni2_3))))))
  have b1 := rkI_b (l := l) (x := l.getD k 0) (k := j)
  have b2 := bitI_r (decide (l.getD j 0 < l.getD k 0))
  refine dEa fL2 ?_
  all_goals try (refine zlf ?_; repeat' first | exact zso | refine And.intro ?_ ?_ | (refine zim ?_; intro zb hc) | (refine zin ?_; intro zb) | intro j')
  all_goals try refine zbx ?_
  ·focus
    refine q_lp_n ((fun (j : Nat) => l.length - j) (j+1)) (dC fL2 ?_) ⟨j+1, dC fL2 ?_⟩
    all_goals try (refine zlf ?_; repeat' first | exact zso | refine And.intro ?_ ?_ | (refine zim ?_; intro zb hc) | (refine zin ?_; intro zb) | intro j')
    all_goals try refine zbx ?_
   rw [rkI_succ (by omega)]
  ·focus
    refine q_lp_n ((fun (k : Nat) => l.length - k) (k+1)) (dC fL2 ?_) ⟨k+1, dC fL2 ?_⟩
    all_goals try (refine zlf ?_; repeat' first | exact zso | refine And.intro ?_ ?_ | (refine zim ?_; intro zb hc) | (refine zin ?_; intro zb) | intro j')
    all_goals try refine zbx ?_
   all_goals (obtain rfl : j = l.length := by omega)
   rw [take_getD (d := 0) (by omega), List.map_append]; rfl
 ·rw [List.take_of_length_le (by omega)]; rfl
def invL (p : List Int) : Nat → List Int
 | 0 => List.replicate p.length 0
 | k + 1 => (invL p k).set (p.getD k 0 - 1).toNat ((k : Int) + 1)
theorem invL_len {p : List Int} : ∀ {k : Nat}, (invL p k).length = p.length
 | 0 => by simp [invL]
 | k + 1 => by rw [invL, List.length_set, invL_len]
theorem invL_at {p : List Int} (hp : permB p = true) : ∀ {k : Nat}, k ≤ p.length → ∀ i, i < k → (invL p k).getD (p.getD i 0 - 1).toNat 0 = (i : Int) + 1
 | k + 1, h, i, hi => by
  have b1 := perm_at hp (i := k) (by omega)
  have b2 := perm_at hp (i := i) (by omega)
  rw [invL, List.getD_eq_getElem?_getD, List.getElem?_set, invL_len]
  by_cases e : i = k
  ·subst e; rw [if_pos rfl, if_pos (by omega)]; rfl
  ·rw [if_neg fun h1 => e (perm_inj hp (by omega) (by omega) (by omega)), ← List.getD_eq_getElem?_getD]
   exact invL_at hp (by omega) i (by omega)
def inv (p : List Int) : List Int := invL p p.length
theorem impl_inverse_c {m0 : Bool} (p : List Int) (h8 : p.length ≤ 8) (hp : permB p = true) : Fun Tryz.prog 133 [(.sl (.lent m0) (List.map (PV.int .i64) (p)))] [(.sl .own (List.map (PV.int .i64) (inv p)))] := by
 refine fO sg0 [2] Tryz.func133 ?_
 refine dEa trivial ?_
 all_goals try (refine zlf ?_; repeat' first | exact zso | refine And.intro ?_ ?_ | (refine zim ?_; intro zb hc) | (refine zin ?_; intro zb) | intro j')
 all_goals try refine zbx ?_
 refine v_loopB (fun ms1 S1 => ∃ (k : Nat), S1.e 9 = .p (.sl (.lent m0) (List.map (PV.int .i64) (p))) ∧ OwnL (S1.e 3) S1.h S1.n (PV.int .i64) ((invL p k).length) (invL p k) ∧ S1.e 10 = .p (.int .i64 (p.length)) ∧ S1.e 11 = .p (.int .i64 (k)) ∧ (k ≤ p.length) ∧ ms1 = p.length - k) ((fun (k : Nat) => p.length - k) (0)) ?_ ⟨0, dIa trivial ?_⟩
 all_goals try (refine zlf ?_; repeat' first | exact zso | refine And.intro ?_ ?_ | (refine zim ?_; intro zb hc) | (refine zin ?_; intro zb) | intro j')
 all_goals try refine zbx ?_
 rintro ms1 S1 ⟨k, h1_9, o1_3, h1_10, h1_11, c1_0, hm1⟩
 obtain ⟨i1_3, h1_3, b1_3, l1_3⟩ := o1_3.out
 have ni1_3 := znds (x := i1_3) (n := S1.n)
 have fL1 := (And.intro h1_9 (And.intro h1_10 (And.intro h1_11 (And.intro h1_3 (And.intro b1_3 ni1_3)))))
 have b1 : (invL p k).length = p.length := invL_len
 have b2 := fun h => perm_at hp (i := k) h
 refine dEa fL1 ?_
 all_goals try (refine zlf ?_; repeat' first | exact zso | refine And.intro ?_ ?_ | (refine zim ?_; intro zb hc) | (refine zin ?_; intro zb) | intro j')
 all_goals try refine zbx ?_
 ·focus
   refine q_lp_n ((fun (k : Nat) => p.length - k) (k+1)) (dC fL1 ?_) ⟨k+1, dC fL1 ?_⟩
   all_goals try (refine zlf ?_; repeat' first | exact zso | refine And.intro ?_ ?_ | (refine zim ?_; intro zb hc) | (refine zin ?_; intro zb) | intro j')
   all_goals try refine zbx ?_
  all_goals first | (rw [invL_len, invL_len]; done) | skip
 ·obtain rfl : k = p.length := by omega
  rfl
 ·exact invL_len.symm
theorem inv_len {p : List Int} : (inv p).length = p.length := invL_len
end Go.Gl
