/-
 The simple permutations below a permutation; exceptional ones. Conditions: none.
-/
import Derived.Test.YtfjfobbniglaeaaOrd
import Derived.Test.YtfjfobbniglaeaaPat
import Derived.Test.YtfjfobbniglaeaaIvl
import Derived.Test.YtfjfobbniglaeaaDel
import Derived.Test.YtfjfobbniglaeaaLibL
set_option linter.unusedSimpArgs false
set_option linter.unusedVariables false
set_option maxRecDepth 20000
set_option linter.unusedSectionVars false
namespace Go.Gl
open Go Go.Proofs
variable [Amb] [NoQ]
theorem fil_snoc {p : List Int → Bool} {L : List (List Int)} {j : Nat} (h : j < L.length) : (L.take (j + 1)).filter p = (L.take j).filter p ++ if p (L.getD j []) = true then [L.getD j []] else [] := by
 rw [take_getD (d := []) h, List.filter_append, List.filter_cons]
 cases p (L.getD j []) <;> rfl
theorem fil_len {p : List Int → Bool} {L : List (List Int)} {j : Nat} (h : j ≤ L.length) : ((L.take j).filter p).length ≤ j := by
 have := List.length_filter_le p (L.take j)
 rw [List.length_take] at this; omega
def kpL (p : List Int → Bool) (L : List (List Int)) : List (List Int) := L.filter fun x => !p x
def sgD0x : FuncId → List Bool := fun f => []
theorem sgD0x_eq {f : FuncId} : sgD0x f = [] := _root_.id rfl
theorem way_sgD0x : wayE sgD0x = false ∧ wayN sgD0x = false ∧ wayS sgD0x = false ∧ wayZ sgD0x = false ∧ wayM sgD0x = false := ⟨rfl, rfl, rfl, rfl, rfl⟩
attribute [go_sem] sgD0x_eq way_sgD0x
theorem slices_DeleteFunc_LLint_int_fr_c (L : List (List Int)) (g : FuncId) (caps : List PV) (p : List Int → Bool) (hl : L.length ≤ 1099511627776) (hp : ∀ x ∈ L, Fun Try.prog g (.sl (.lent false) (List.map (PV.int .i64) x) :: caps.map PV.cell) [.bool (p x)]) : CallT Try.prog true 99 [.mu false (List.map (elI false) (L)), .pv (.fn g [] caps)] [none, none] [(.sl .own (List.map (elI false) (kpL p L)))] := by
 refine fX sgD0x [4] Try.func99 ?_
 have cE1 := @slices_IndexFunc_LLint_int_c
 rcases idxG_spec (p := p) (d := []) (l := L) (i := 0) with ⟨h1, h2⟩ | ⟨k0, h1, h2, h3, h4⟩
 ·have e1 : kpL p L = L := List.filter_eq_self.2 fun x hx => by rw [h2 x hx]; rfl
  have cE1 := (fun m0 => slices_IndexFunc_LLint_int_c (m0 := m0) L g caps p hl hp); have cE2 := @slices_IndexFunc_LLint_int_c
  refine dTa @h1 ?_
  all_goals try (refine zlf ?_; repeat' first | exact zso | refine And.intro ?_ ?_ | (refine zim ?_; intro zb hc) | (refine zin ?_; intro zb) | intro j')
  all_goals try refine zbx ?_
  exact e1.symm
 ·have cE1 := (fun m0 => slices_IndexFunc_LLint_int_c (m0 := m0) L g caps p hl hp); have cE2 := @slices_IndexFunc_LLint_int_c
  refine dTa @h2 ?_
  all_goals try (refine zlf ?_; repeat' first | exact zso | refine And.intro ?_ ?_ | (refine zim ?_; intro zb hc) | (refine zin ?_; intro zb) | intro j')
  all_goals try refine zbx ?_
  have e0 : kpL p (L.take (k0 + 1)) = L.take k0 := by
   rw [kpL, fil_snoc (by omega), h3]
   simp only [Bool.not_true, Bool.false_eq_true, if_false, List.append_nil]
   exact List.filter_eq_self.2 fun x hx => by
    obtain ⟨i, hi, _, rfl⟩ := take_mem hx
    rw [h4 i hi]; rfl
  have e9 : (L.take k0).length = k0 := by simp; omega
  refine v_loopB (fun ms1 S1 => ∃ (j : Nat) (Y : List (List Int)), S1.e 0 = .ref 0 0 (Y).length ∧ S1.h 0 = .live true (List.map (elI false) (Y)) ∧ 0 < S1.n ∧ S1.e 1 = .p (.fn g [] caps) ∧ S1.e 5 = .p (.int .i64 ((kpL p (L.take j)).length)) ∧ S1.e 6 = .p (.int .i64 (j)) ∧ (Y.length = L.length) ∧ (j ≤ L.length) ∧ (k0 < j) ∧ (Y.take (kpL p (L.take j)).length = kpL p (L.take j)) ∧ ((kpL p (L.take j)).length < j) ∧ (∀ q, j ≤ q → q < L.length → Y.getD q [] = L.getD q []) ∧ ms1 = L.length - j) ((fun (j : Nat) (Y : List (List Int)) => L.length - j) (k0 + 1) (L)) ?_ ⟨k0 + 1, L, dC trivial ?_⟩
  all_goals try (refine zlf ?_; repeat' first | exact zso | refine And.intro ?_ ?_ | (refine zim ?_; intro zb hc) | (refine zin ?_; intro zb) | intro j')
  all_goals try refine zbx ?_
  rintro ms1 S1 ⟨j, Y, h1_0, b1_0, l1_0, h1_1, h1_5, h1_6, c1_0, c1_1, c1_2, c1_3, c1_4, c1_5, hm1⟩
  have n0 := znds (x := 0) (n := S1.n)
  have fL1 := (And.intro h1_0 (And.intro b1_0 (And.intro h1_1 (And.intro h1_5 (And.intro h1_6 n0)))))
  by_cases hj : j < L.length
  ·have f1 := c1_5 j (Nat.le_refl _) hj
   have cE1 := @hp; have cE2 := @slices_IndexFunc_LLint_int_c
   refine dTa (And.intro fL1 (And.intro @f1 @c1_0)) ?_
   all_goals try (refine zlf ?_; repeat' first | exact zso | refine And.intro ?_ ?_ | (refine zim ?_; intro zb hc) | (refine zin ?_; intro zb) | intro j')
   all_goals try refine zbx ?_
   ·exact getD_mem hj
   ·have s1 : kpL p (L.take (j + 1)) = kpL p (L.take j) ++ [L.getD j []] := by rw [kpL, fil_snoc hj, hc]; rfl
    have s2 : (kpL p (L.take (j + 1))).length = (kpL p (L.take j)).length + 1 := by rw [s1, List.length_append]; rfl
    focus
     refine q_lp_n ((fun (j : Nat) (Y : List (List Int)) => L.length - j) (j+1) (Y.set (kpL p (L.take j)).length (L.getD j []))) (dC fL1 ?_) ⟨j+1, Y.set (kpL p (L.take j)).length (L.getD j []), dC fL1 ?_⟩
     all_goals try (refine zlf ?_; repeat' first | exact zso | refine And.intro ?_ ?_ | (refine zim ?_; intro zb hc) | (refine zin ?_; intro zb) | intro j')
     all_goals try refine zbx ?_
    all_goals first | (rw [s2, set_take' (by omega), c1_3, s1]; done) | (rw [s2]; done) | (rw [s2]; simp; done) | omega | (intro q h5 h6; rw [List.getD_eq_getElem?_getD, List.getElem?_set_ne (by omega), ← List.getD_eq_getElem?_getD]; exact c1_5 q (by omega) h6) | skip
   ·have s1 : kpL p (L.take (j + 1)) = kpL p (L.take j) := by rw [kpL, fil_snoc hj, hc]; simp [kpL]
    focus
     refine q_lp_n ((fun (j : Nat) (Y : List (List Int)) => L.length - j) (j+1) (Y)) (dC fL1 ?_) ⟨j+1, Y, dC fL1 ?_⟩
     all_goals try (refine zlf ?_; repeat' first | exact zso | refine And.intro ?_ ?_ | (refine zim ?_; intro zb hc) | (refine zin ?_; intro zb) | intro j')
     all_goals try refine zbx ?_
    all_goals first | (rw [s1]; done) | (rw [s1]; exact c1_3) | (rw [s1]; omega) | (intro q h5 h6; exact c1_5 q (by omega) h6) | skip
  ·have cE1 := @hp; have cE2 := @slices_IndexFunc_LLint_int_c
   refine dTa (And.intro fL1 @c1_0) ?_
   all_goals try (refine zlf ?_; repeat' first | exact zso | refine And.intro ?_ ?_ | (refine zim ?_; intro zb hc) | (refine zin ?_; intro zb) | intro j')
   all_goals try refine zbx ?_
   have g2 : (kpL p (L.take j)).length ≤ (List.take (kpL p (L.take j)).length Y).length := by rw [List.length_take]; omega
   rw [List.take_append_of_le_length g2, List.take_take, Nat.min_self, c1_3, List.take_of_length_le (by omega)]
  ·rw [e0, e9]; omega
  ·rw [e0, e9]
  ·rw [e0, e9]; omega
/-- What is below. -/
def woL (p : List Int) (k : Nat) : List Int := patL (p.take k ++ p.drop (k + 1))
def lowL (p : List Int) : List (List Int) := putL ((List.range p.length).map (woL p))
theorem woL_len {p : List Int} {k : Nat} (h : k < p.length) : (woL p k).length = p.length - 1 := by
 rw [woL, patL_len]; simp; omega
theorem woL_perm {p : List Int} (hp : permB p = true) {k : Nat} : permB (woL p k) = true := by
 refine patL_perm ?_
 have h := (permB_iff.1 hp).2
 refine List.Nodup.sublist ?_ h
 calc List.Sublist (p.take k ++ p.drop (k + 1)) (p.take k ++ p.drop k) := List.Sublist.append (List.Sublist.refl _) (by rw [← List.drop_drop]; exact List.drop_sublist _ _)
  _ = p := List.take_append_drop k p
theorem low_mem {p : List Int} {l : List Int} (h : l ∈ lowL p) : ∃ k, k < p.length ∧ l = woL p k := by
 rw [lowL, putL, put_mem] at h
 rcases h with h | h
 ·obtain ⟨k, hk, rfl⟩ := List.mem_map.1 h
  exact ⟨k, by simpa using hk, rfl⟩
 ·cases h
theorem lowL_len {p : List Int} : (lowL p).length ≤ p.length := by
 have := put_len ((List.range p.length).map (woL p)) (A := [])
 rw [List.length_nil, Nat.add_zero, List.length_map, List.length_range] at this; exact this
def sgWo : FuncId → List Bool := fun f => if f = 124 then [true] else []
theorem sgWo_eq {f : FuncId} : sgWo f = if f = 124 then [true] else [] := _root_.id rfl
theorem way_sgWo : wayE sgWo = false ∧ wayN sgWo = false ∧ wayS sgWo = false ∧ wayZ sgWo = false ∧ wayM sgWo = false := ⟨rfl, rfl, rfl, rfl, rfl⟩
attribute [go_sem] sgWo_eq way_sgWo
theorem impl_without_c {m0 : Bool} (p : List Int) (k : Nat) (hk : k < p.length) (h8 : p.length ≤ 8) : Fun Try.prog 102 [(.sl (.lent m0) (List.map (PV.int .i64) (p))), (.int .i64 (k))] [(.sl .own (List.map (PV.int .i64) (woL p k)))] := by
 refine fO sgWo [4] Try.func102 ?_
 have cE1 := @slices_Clone_c; have cE2 := @impl_pattern_c
 have e1 : ((k : Int) + 1).toNat = k + 1 := by omega
 have cM1 := @slices_Delete_c
 refine dEa @e1 ?_
 all_goals try (refine zlf ?_; repeat' first | exact zso | refine And.intro ?_ ?_ | (refine zim ?_; intro zb hc) | (refine zin ?_; intro zb) | intro j')
 all_goals try refine zbx ?_
 all_goals first | rfl | (simp; omega) | skip
theorem spec_l7Without_c {m0 : Bool} (p : List Int) (k : Nat) (hk : k < p.length) (h8 : p.length ≤ 8) : Fun Try.prog 96 [(.sl (.lent m0) (List.map (PV.int .i64) (p))), (.int .i64 (k))] [(.sl .own (List.map (PV.int .i64) (woL p k)))] := by
 refine fO sg0 [4] Try.func96 ?_
 have cE1 := @spec_l2Pattern_c; have cD1 := zdh [true, false, false, false, true, false, false, false, false, true, true, false] [(0, 1), (0, 2), (0, 3), (0, 5), (4, 5), (0, 6), (4, 6), (0, 7), (4, 7), (0, 8), (4, 8)]
 have e1 : ((k : Int) + 1).toNat = k + 1 := by omega
 have e2 : (p.take k).length + (p.drop (k + 1)).length = (p.take k ++ p.drop (k + 1)).length := by simp
 have e3 : (p.take k ++ p.drop (k + 1)).length ≤ 8 := by simp; omega
 have e4 : List.take ((p.take k).length + (p.drop (k + 1)).length) (p.take k ++ p.drop (k + 1)) = p.take k ++ p.drop (k + 1) := List.take_of_length_le (by omega)
 have e5 : (p.take k).length ≤ 8 := by simp; omega
 refine dEa (And.intro @e1 @e4) ?_
 all_goals try (refine zlf ?_; repeat' first | exact zso | refine And.intro ?_ ?_ | (refine zim ?_; intro zb hc) | (refine zin ?_; intro zb) | intro j')
 all_goals try refine zbx ?_
 rfl
theorem woL_b {p : List Int} (hp : permB p = true) (h8 : p.length ≤ 8) {k : Nat} : ∀ x ∈ woL p k, 0 ≤ x ∧ x ≤ 1048576 := fun x hx => by
 have h1 := (permB_iff.1 (woL_perm hp (k := k))).1 x hx
 have h2 : (woL p k).length ≤ p.length + p.length := by rw [woL, patL_len]; simp; omega
 omega
theorem low_facts {p : List Int} (hp : permB p = true) (h8 : p.length ≤ 8) {l : List Int} (h : l ∈ lowL p) : l.length ≤ 8 ∧ isPermB l = true ∧ ∀ x ∈ l, 0 ≤ x ∧ x ≤ 1048576 := by
 obtain ⟨k, hk, rfl⟩ := low_mem h
 have h1 := woL_len hk
 refine ⟨by omega, ?_, woL_b hp h8⟩
 simp only [isPermB, woL_perm hp, Bool.and_true, decide_eq_true_eq]; omega
theorem impl_lowers_c {m0 : Bool} (p : List Int) (h8 : p.length ≤ 8) : Fun Try.prog 54 [(.sl (.lent m0) (List.map (PV.int .i64) (p)))] [(.sl .own (List.map (elI false) (lowL p)))] := by
 refine fO sg0 [2] Try.func54 ?_
 have cE1 := @impl_without_c; have cE2 := @impl_ordered_c
 have q1 : ∀ {k : Nat}, ∀ l ∈ (List.range k).map (woL p), l.length ≤ 1048576 := fun {k} l h => by
  obtain ⟨j, _, rfl⟩ := List.mem_map.1 h
  rw [woL, patL_len]; simp; omega
 refine dEa trivial ?_
 all_goals try (refine zlf ?_; repeat' first | exact zso | refine And.intro ?_ ?_ | (refine zim ?_; intro zb hc) | (refine zin ?_; intro zb) | intro j')
 all_goals try refine zbx ?_
 refine v_loopB (fun ms1 S1 => ∃ (k : Nat), S1.e 0 = .p (.sl (.lent m0) (List.map (PV.int .i64) (p))) ∧ OwnL (S1.e 3) S1.h S1.n (elI false) (((List.range k).map (woL p)).length) ((List.range k).map (woL p)) ∧ S1.e 7 = .p (.int .i64 (p.length)) ∧ S1.e 8 = .p (.int .i64 (k)) ∧ (k ≤ p.length) ∧ ms1 = p.length - k) ((fun (k : Nat) => p.length - k) (0)) ?_ ⟨0, dC trivial ?_⟩
 all_goals try (refine zlf ?_; repeat' first | exact zso | refine And.intro ?_ ?_ | (refine zim ?_; intro zb hc) | (refine zin ?_; intro zb) | intro j')
 all_goals try refine zbx ?_
 rintro ms1 S1 ⟨k, h1_0, o1_3, h1_7, h1_8, c1_0, hm1⟩
 obtain ⟨i1_3, h1_3, b1_3, l1_3⟩ := o1_3.out
 have ni1_3 := znds (x := i1_3) (n := S1.n)
 have fL1 := (And.intro h1_0 (And.intro h1_7 (And.intro h1_8 (And.intro h1_3 (And.intro b1_3 ni1_3)))))
 ·have b1 : ((List.range k).map (woL p)).length = k := by simp
  have b2 : (List.range k).take k = List.range k := List.take_of_length_le (by simp)
  refine dEa fL1 ?_
  all_goals try (refine zlf ?_; repeat' first | exact zso | refine And.intro ?_ ?_ | (refine zim ?_; intro zb hc) | (refine zin ?_; intro zb) | intro j')
  all_goals try refine zbx ?_
  ·focus
    refine q_lp_n ((fun (k : Nat) => p.length - k) (k+1)) (dC fL1 ?_) ⟨k+1, dC fL1 ?_⟩
    all_goals try (refine zlf ?_; repeat' first | exact zso | refine And.intro ?_ ?_ | (refine zim ?_; intro zb hc) | (refine zin ?_; intro zb) | intro j')
    all_goals try refine zbx ?_
   ·simp
   ·rw [List.map_append]; rfl
  ·rw [b2]; exact q1
  ·obtain rfl : k = p.length := by omega
   rw [b2, lowL]
def sgLow : FuncId → List Bool := fun f => if f = 95 then [true] else []
theorem sgLow_eq {f : FuncId} : sgLow f = if f = 95 then [true] else [] := _root_.id rfl
theorem way_sgLow : wayE sgLow = false ∧ wayN sgLow = false ∧ wayS sgLow = false ∧ wayZ sgLow = false ∧ wayM sgLow = false := ⟨rfl, rfl, rfl, rfl, rfl⟩
attribute [go_sem] sgLow_eq way_sgLow
theorem spec_LowersOf_c {m0 : Bool} (p : List Int) (hl : p.length ≤ 1048576) (hp : isPermB p = true) : Fun Try.prog 50 [(.sl (.lent m0) (List.map (PV.int .i64) (p)))] [(.sl .own (List.map (elI false) (lowL p)))] := by
 refine fO sgLow [2] Try.func50 ?_
 have cE1 := @spec_IsPerm_c; have cE2 := @spec_l7Without_c; have cM1 := @spec_l3Put_c
 obtain ⟨h8, hq⟩ := isP_8 hp
 have q1 : ∀ {k : Nat}, ∀ l ∈ putL ((List.range k).map (woL p)), l.length ≤ 1048576 := fun {k} => put_lens fun l h => by
  obtain ⟨j, _, rfl⟩ := List.mem_map.1 h
  rw [woL, patL_len]; simp; omega
 have q2 : ∀ {k : Nat}, (woL p k).length ≤ 1048576 := fun {k} => by rw [woL, patL_len]; simp; omega
 refine dEa @hp ?_
 all_goals try (refine zlf ?_; repeat' first | exact zso | refine And.intro ?_ ?_ | (refine zim ?_; intro zb hc) | (refine zin ?_; intro zb) | intro j')
 all_goals try refine zbx ?_
 refine v_loopB (fun ms1 S1 => ∃ (k : Nat), S1.e 0 = .p (.sl (.lent m0) (List.map (PV.int .i64) (p))) ∧ OwnL (S1.e 3) S1.h S1.n (elI false) ((putL ((List.range k).map (woL p))).length) (putL ((List.range k).map (woL p))) ∧ S1.e 4 = .p (.int .i64 (k)) ∧ (k ≤ p.length) ∧ ms1 = p.length - k) ((fun (k : Nat) => p.length - k) (0)) ?_ ⟨0, dC trivial ?_⟩
 all_goals try (refine zlf ?_; repeat' first | exact zso | refine And.intro ?_ ?_ | (refine zim ?_; intro zb hc) | (refine zin ?_; intro zb) | intro j')
 all_goals try refine zbx ?_
 rintro ms1 S1 ⟨k, h1_0, o1_3, h1_4, c1_0, hm1⟩
 obtain ⟨i1_3, h1_3, b1_3, l1_3⟩ := o1_3.out
 have ni1_3 := znds (x := i1_3) (n := S1.n)
 have fL1 := (And.intro h1_0 (And.intro h1_4 (And.intro h1_3 (And.intro b1_3 ni1_3))))
 ·have b1 := putL_len (L := (List.range k).map (woL p))
  rw [List.length_map, List.length_range] at b1
  refine dEa (And.intro fL1 @hp) ?_
  all_goals try (refine zlf ?_; repeat' first | exact zso | refine And.intro ?_ ?_ | (refine zim ?_; intro zb hc) | (refine zin ?_; intro zb) | intro j')
  all_goals try refine zbx ?_
  ·exact q1
  ·exact q2
  ·focus
    refine q_lp_n ((fun (k : Nat) => p.length - k) (k+1)) (dC fL1 ?_) ⟨k+1, dC fL1 ?_⟩
    all_goals try (refine zlf ?_; repeat' first | exact zso | refine And.intro ?_ ?_ | (refine zim ?_; intro zb hc) | (refine zin ?_; intro zb) | intro j')
    all_goals try refine zbx ?_
   all_goals rw [← List.range_succ, putL_snoc]
  ·obtain rfl : k = p.length := by omega
   rw [lowL]
theorem impl_IsSimple_c {m0 : Bool} (p : List Int) (hl : p.length ≤ 1048576) : Fun Try.prog 56 [(.sl (.lent m0) (List.map (PV.int .i64) (p)))] [(.bool ((isPermB p && isSimB p)))] := by
 refine fO sg0 [2] Try.func56 ?_
 have cE1 := @impl_IsPerm_c; have cE2 := @impl_isSimple_c
 by_cases hp : isPermB p = true
 ·have h8 := (isP_8 hp).1
  have hb := perm_bd hp
  refine dEa (And.intro @hp @Bool.true_and) ?_
  all_goals try (refine zlf ?_; repeat' first | exact zso | refine And.intro ?_ ?_ | (refine zim ?_; intro zb hc) | (refine zin ?_; intro zb) | intro j')
  all_goals try refine zbx ?_
  all_goals trace_state
 ·rw [Bool.not_eq_true] at hp
  refine dEa (And.intro @hp @Bool.false_and) ?_
  all_goals try (refine zlf ?_; repeat' first | exact zso | refine And.intro ?_ ?_ | (refine zim ?_; intro zb hc) | (refine zin ?_; intro zb) | intro j')
  all_goals try refine zbx ?_
  all_goals trace_state
theorem impl_simples_1_c {m0 : Bool} (p : List Int) (h8 : p.length ≤ 8) (hb : ∀ x ∈ p, 0 ≤ x ∧ x ≤ 1048576) : Fun Try.prog 100 [(.sl (.lent m0) (List.map (PV.int .i64) (p)))] [(.bool ((!(isSimB p))))] := by
 refine fO sg0 [2] Try.func100 ?_
 have cE1 := @impl_isSimple_c
 refine dEa trivial ?_
 all_goals try (refine zlf ?_; repeat' first | exact zso | refine And.intro ?_ ?_ | (refine zim ?_; intro zb hc) | (refine zin ?_; intro zb) | intro j')
 all_goals try refine zbx ?_
 all_goals trace_state
def sgSim : FuncId → List Bool := fun f => if f = 99 then [true] else []
theorem sgSim_eq {f : FuncId} : sgSim f = if f = 99 then [true] else [] := _root_.id rfl
theorem way_sgSim : wayE sgSim = false ∧ wayN sgSim = false ∧ wayS sgSim = false ∧ wayZ sgSim = false ∧ wayM sgSim = false := ⟨rfl, rfl, rfl, rfl, rfl⟩
attribute [go_sem] sgSim_eq way_sgSim
theorem impl_simples_c (L : List (List Int)) (hL : L.length ≤ 1099511627776) (hl : ∀ l ∈ L, l.length ≤ 8 ∧ ∀ x ∈ l, 0 ≤ x ∧ x ≤ 1048576) : CallT Try.prog true 53 [.mu false (List.map (elI false) (L))] [none] [(.sl .own (List.map (elI false) (L.filter isSimB)))] := by
 refine fX sgSim [2] Try.func53 ?_
 have cE1 := @impl_simples_1_c; have cM1 := @slices_DeleteFunc_LLint_int_fr_c
 have e1 : kpL (fun p => !isSimB p) L = L.filter isSimB := by rw [kpL]; congr 1; funext x; rw [Bool.not_not]
 have c1 := slices_DeleteFunc_LLint_int_fr_c L 100 [] (fun p => !isSimB p) hL (fun x hx => impl_simples_1_c (m0 := false) x (hl x hx).1 (hl x hx).2)
 rw [e1] at c1
 have cM2 := @c1
 refine dTa trivial ?_
 all_goals try (refine zlf ?_; repeat' first | exact zso | refine And.intro ?_ ?_ | (refine zim ?_; intro zb hc) | (refine zin ?_; intro zb) | intro j')
 all_goals try refine zbx ?_
 all_goals trace_state
def smpL (p : List Int) : List (List Int) := (lowL p).filter isSimB
theorem spec_SimpleLowers_c {m0 : Bool} (p : List Int) (hl : p.length ≤ 1048576) (hp : isPermB p = true) : Fun Try.prog 12 [(.sl (.lent m0) (List.map (PV.int .i64) (p)))] [(.sl .own (List.map (elI false) (smpL p)))] := by
 refine fO sg0 [2] Try.func12 ?_
 have cE1 := @spec_LowersOf_c; have cE2 := @spec_IsSimple_c
 obtain ⟨h8, hq⟩ := isP_8 hp
 have b1 := lowL_len (p := p)
 refine dEa trivial ?_
 all_goals try (refine zlf ?_; repeat' first | exact zso | refine And.intro ?_ ?_ | (refine zim ?_; intro zb hc) | (refine zin ?_; intro zb) | intro j')
 all_goals try refine zbx ?_
 refine v_loopB (fun ms1 S1 => ∃ (k : Nat), S1.e 0 = .p (.sl (.lent m0) (List.map (PV.int .i64) (p))) ∧ OwnL (S1.e 3) S1.h S1.n (elI false) ((((lowL p).take k).filter isSimB).length) (((lowL p).take k).filter isSimB) ∧ OwnL (S1.e 4) S1.h S1.n (elI false) ((lowL p).length) (lowL p) ∧ S1.e 5 = .p (.int .i64 (k)) ∧ (k ≤ (lowL p).length) ∧ NId (S1.e 4) (S1.e 3) ∧ ms1 = (lowL p).length - k) ((fun (k : Nat) => (lowL p).length - k) (0)) ?_ ⟨0, dC trivial ?_⟩
 all_goals try (refine zlf ?_; repeat' first | exact zso | refine And.intro ?_ ?_ | (refine zim ?_; intro zb hc) | (refine zin ?_; intro zb) | intro j')
 all_goals try refine zbx ?_
 rintro ms1 S1 ⟨k, h1_0, o1_3, o1_4, h1_5, c1_0, u1_0, hm1⟩
 obtain ⟨i1_3, h1_3, b1_3, l1_3⟩ := o1_3.out
 obtain ⟨i1_4, h1_4, b1_4, l1_4⟩ := o1_4.out
 have k1_0 := (u1_0).out h1_4 h1_3
 have ni1_3 := znds (x := i1_3) (n := S1.n)
 have ni1_4 := znds (x := i1_4) (n := S1.n)
 have di1_3i1_4 := zdne (x := i1_3) (y := i1_4)
 have fL1 := (And.intro h1_0 (And.intro h1_5 (And.intro h1_3 (And.intro b1_3 (And.intro h1_4 (And.intro b1_4 (And.intro ni1_3 (And.intro ni1_4 di1_3i1_4))))))))
 ·have b2 := fil_len (p := isSimB) (L := lowL p) (j := k) (by omega)
  have b3 : k < (lowL p).length → _ := fun h => low_facts hq h8 (getD_mem (d := []) h)
  refine dEa fL1 ?_
  all_goals try (refine zlf ?_; repeat' first | exact zso | refine And.intro ?_ ?_ | (refine zim ?_; intro zb hc) | (refine zin ?_; intro zb) | intro j')
  all_goals try refine zbx ?_
  ·have d2 := (b3 (by omega)).2.1
   focus
    refine q_lp_n ((fun (k : Nat) => (lowL p).length - k) (k+1)) (dC fL1 ?_) ⟨k+1, dC fL1 ?_⟩
    all_goals try (refine zlf ?_; repeat' first | exact zso | refine And.intro ?_ ?_ | (refine zim ?_; intro zb hc) | (refine zin ?_; intro zb) | intro j')
    all_goals try refine zbx ?_
   all_goals rw [fil_snoc (by omega), hc.2]
   ·simp
   ·simp
  ·have d2 := (b3 (by omega)).2.1
   have d3 : isSimB ((lowL p).getD k []) = false := by rw [d2] at hc; simpa using hc
   focus
    refine q_lp_n ((fun (k : Nat) => (lowL p).length - k) (k+1)) (dC fL1 ?_) ⟨k+1, dC fL1 ?_⟩
    all_goals try (refine zlf ?_; repeat' first | exact zso | refine And.intro ?_ ?_ | (refine zim ?_; intro zb hc) | (refine zin ?_; intro zb) | intro j')
    all_goals try refine zbx ?_
   all_goals rw [fil_snoc (by omega), d3]
   all_goals simp
  ·rw [List.take_of_length_le (by omega), smpL]
end Go.Gl
