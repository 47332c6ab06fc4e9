/-
 The simple permutations below a permutation, as rows of the holder's own. Conditions: none.
-/
import Derived.Test.YtfjfobbniglaeaaOrdO
import Derived.Test.YtfjfobbniglaeaaSlN
set_option linter.unusedSimpArgs false
set_option linter.unusedVariables false
set_option maxRecDepth 20000
set_option linter.unusedSectionVars false
namespace Go.Gl
open Go Go.Proofs
variable [Amb] [NoQ]
theorem slices_insertionSortCmpFunc_int_e_c (Z : List (List Int)) (hZ : Z.length = 0) : CallT Try.prog false 150 [.mu false [.dl (List.map (List.map (PV.int .i64)) (Z))], .pv (.int .i64 (0)), .pv (.int .i64 (0)), .pv (.fn 118 [] [])] [some [.dl (List.map (List.map (PV.int .i64)) (Z))], none, none, none] [] := by
 refine fX sg0 [] Try.func150 ?_
 have cD1 := zdh [false, false, false, false, false, false, false, false, false, false, false, false, false, false, true, false, false] []; have cD2 := zdh [false, false, false, false, false, false, false, false, false, false, false, false, false, false, false, true, false, true] [(2, 15), (3, 15), (4, 15)]
 refine dEa trivial ?_
 all_goals try (refine zlf ?_; repeat' first | exact zso | refine And.intro ?_ ?_ | (refine zim ?_; intro zb hc) | (refine zin ?_; intro zb) | intro j')
 all_goals try refine zbx ?_
 refine v_loopB (fun ms1 S1 => ∃ (k : Nat), S1.e 0 = .ref 0 0 (Z).length ∧ S1.h 0 = dk (PV.int .i64) true (Z) ∧ 0 < S1.n ∧ S1.e 1 = .p (.int .i64 (0)) ∧ S1.e 2 = .p (.int .i64 (0)) ∧ S1.e 3 = .p (.fn 118 [] []) ∧ S1.e 8 = .p (.int .i64 (1)) ∧ (k = 0) ∧ ms1 = 0) ((fun (k : Nat) => 0) (0)) ?_ ⟨0, dIa trivial ?_⟩
 all_goals try (refine zlf ?_; repeat' first | exact zso | refine And.intro ?_ ?_ | (refine zim ?_; intro zb hc) | (refine zin ?_; intro zb) | intro j')
 all_goals try refine zbx ?_
 rintro ms1 S1 ⟨k, h1_0, b1_0, l1_0, h1_1, h1_2, h1_3, h1_8, c1_0, hm1⟩
 have n0 := znds (x := 0) (n := S1.n)
 have fL1 := (And.intro h1_0 (And.intro b1_0 (And.intro h1_1 (And.intro h1_2 (And.intro h1_3 (And.intro h1_8 n0))))))
 refine dEa fL1 ?_
 all_goals try (refine zlf ?_; repeat' first | exact zso | refine And.intro ?_ ?_ | (refine zim ?_; intro zb hc) | (refine zin ?_; intro zb) | intro j')
 all_goals try refine zbx ?_
def sgPdE : FuncId → List Bool := fun f => if f = 150 then [true] else []
theorem sgPdE_eq {f : FuncId} : sgPdE f = if f = 150 then [true] else [] := _root_.id rfl
theorem way_sgPdE : wayE sgPdE = false ∧ wayN sgPdE = false ∧ wayS sgPdE = false ∧ wayZ sgPdE = false ∧ wayM sgPdE = false := ⟨rfl, rfl, rfl, rfl, rfl⟩
attribute [go_sem] sgPdE_eq way_sgPdE
theorem slices_pdqsortCmpFunc_int_e_c (Z : List (List Int)) (b : Int) (hZ : Z.length = 0) : CallT Try.prog false 140 [.mu false [.dl (List.map (List.map (PV.int .i64)) (Z))], .pv (.int .i64 (0)), .pv (.int .i64 (0)), .pv (.int .i64 (b)), .pv (.fn 118 [] [])] [some [.dl (List.map (List.map (PV.int .i64)) (Z))], none, none, none, none] [] := by
 refine fX sgPdE [] Try.func140 ?_
 have cM1 := @slices_insertionSortCmpFunc_int_e_c; have cM2 := @slices_insertionSortCmpFunc_int_c; have cM3 := @slices_pdqsortCmpFunc_int_c; have cD1 := zdh [false, false, false, false, false, false, false, false, false, false, false, false, false, true, false, false, false] []
 refine dE trivial ?_
 all_goals try (refine zlf ?_; repeat' first | exact zso | refine And.intro ?_ ?_ | (refine zim ?_; intro zb hc) | (refine zin ?_; intro zb) | intro j')
 all_goals try refine zbx ?_
 refine v_loopB (fun ms1 S1 => ∃ (u : Nat), S1.e 0 = .ref 0 0 (Z).length ∧ S1.h 0 = dk (PV.int .i64) true (Z) ∧ 0 < S1.n ∧ S1.e 1 = .p (.int .i64 (0)) ∧ S1.e 2 = .p (.int .i64 (0)) ∧ S1.e 3 = .p (.int .i64 (b)) ∧ S1.e 4 = .p (.fn 118 [] []) ∧ S1.e 10 = .p (.bool (true)) ∧ S1.e 11 = .p (.bool (true)) ∧ ms1 = u) ((fun (u : Nat) => u) (0)) ?_ ⟨0, dC trivial ?_⟩
 all_goals try (refine zlf ?_; repeat' first | exact zso | refine And.intro ?_ ?_ | (refine zim ?_; intro zb hc) | (refine zin ?_; intro zb) | intro j')
 all_goals try refine zbx ?_
 rintro ms1 S1 ⟨u, h1_0, b1_0, l1_0, h1_1, h1_2, h1_3, h1_4, h1_10, h1_11, hm1⟩
 have n0 := znds (x := 0) (n := S1.n)
 have fL1 := (And.intro h1_0 (And.intro b1_0 (And.intro h1_1 (And.intro h1_2 (And.intro h1_3 (And.intro h1_4 (And.intro h1_10 (And.intro h1_11 n0))))))))
 ·refine dEa fL1 ?_
  all_goals try (refine zlf ?_; repeat' first | exact zso | refine And.intro ?_ ?_ | (refine zim ?_; intro zb hc) | (refine zin ?_; intro zb) | intro j')
  all_goals try refine zbx ?_
def sgSrE : FuncId → List Bool := fun f => if f = 140 then [true] else []
theorem sgSrE_eq {f : FuncId} : sgSrE f = if f = 140 then [true] else [] := _root_.id rfl
theorem way_sgSrE : wayE sgSrE = false ∧ wayN sgSrE = false ∧ wayS sgSrE = false ∧ wayZ sgSrE = false ∧ wayM sgSrE = false := ⟨rfl, rfl, rfl, rfl, rfl⟩
attribute [go_sem] sgSrE_eq way_sgSrE
theorem slices_SortFunc_LLint_int_e_c (Z : List (List Int)) (hZ : Z.length = 0) : CallT Try.prog false 125 [.mu false [.dl (List.map (List.map (PV.int .i64)) (Z))], .pv (.fn 118 [] [])] [some [.dl (List.map (List.map (PV.int .i64)) (Z))], none] [] := by
 refine fX sgSrE [] Try.func125 ?_
 have cE1 := @math_bits_Len_c; have cM1 := @slices_pdqsortCmpFunc_int_e_c; have cM2 := @slices_pdqsortCmpFunc_int_c
 have u3 : (Try.prog.underlying 3).isSome = true := by rw [Try.underlying3]; rfl
 have z0 : (Z.length : Int) = 0 := by omega
 refine dEa (And.intro @u3 @z0) ?_
 all_goals try (refine zlf ?_; repeat' first | exact zso | refine And.intro ?_ ?_ | (refine zim ?_; intro zb hc) | (refine zin ?_; intro zb) | intro j')
 all_goals try refine zbx ?_
 ·show (0 : Int) ≤ _ ∧ _ ≤ (18446744073709551615 : Int); omega
def sgOrE : FuncId → List Bool := fun f => if f = 125 then [true] else if f = 126 then [true] else if f = 4294967297 then [true, false, false, false] else []
theorem sgOrE_eq {f : FuncId} : sgOrE f = if f = 125 then [true] else if f = 126 then [true] else if f = 4294967297 then [true, false, false, false] else [] := _root_.id rfl
theorem way_sgOrE : wayE sgOrE = false ∧ wayN sgOrE = true ∧ wayS sgOrE = false ∧ wayZ sgOrE = false ∧ wayM sgOrE = false := ⟨rfl, rfl, rfl, rfl, rfl⟩
attribute [go_sem] sgOrE_eq way_sgOrE
theorem impl_ordered_e_c {e0 m0 : Bool} (L : List (List Int)) (hL : L.length = 0) : Fun Try.prog 103 [(.sl (.lent m0) (List.map (elI e0) (L)))] [(.dl (List.map (List.map (PV.int .i64)) (L)))] := by
 refine fO sgOrE [2] Try.func103 ?_
 have cE1 := @slices_Clone_c; have cE2 := @impl_comparePerms_c; have cE3 := @slices_Equal_int_int_c; have cM1 := @slices_SortFunc_LLint_int_e_c; have cM2 := @slices_SortFunc_LLint_int_c; have cM3 := @slices_CompactFunc_LLint_int_c
 refine dEa trivial ?_
 all_goals try (refine zlf ?_; repeat' first | exact zso | refine And.intro ?_ ?_ | (refine zim ?_; intro zb hc) | (refine zin ?_; intro zb) | intro j')
 all_goals try refine zbx ?_
 refine v_loopB (fun ms1 S1 => ∃ (k : Nat), S1.e 7 = .p (.sl (.lent m0) (List.map (elI e0) (L))) ∧ S1.e 8 = .p (.int .i64 (L.length)) ∧ DwnL (S1.e 3) S1.h S1.n (PV.int .i64) ((L).length) (L) ∧ S1.e 9 = .p (.int .i64 (0)) ∧ (k = 0) ∧ ms1 = 0) ((fun (k : Nat) => 0) (0)) ?_ ⟨0, dIa trivial ?_⟩
 all_goals try (refine zlf ?_; repeat' first | exact zso | refine And.intro ?_ ?_ | (refine zim ?_; intro zb hc) | (refine zin ?_; intro zb) | intro j')
 all_goals try refine zbx ?_
 rintro ms1 S1 ⟨k, h1_7, h1_8, o1_3, h1_9, c1_0, hm1⟩
 obtain ⟨i1_3, h1_3, b1_3, l1_3⟩ := o1_3.out
 have ni1_3 := znds (x := i1_3) (n := S1.n)
 have fL1 := (And.intro h1_7 (And.intro h1_8 (And.intro h1_9 (And.intro h1_3 (And.intro b1_3 ni1_3)))))
 have cM4 := @slices_SortFunc_LLint_int_e_c; have cM5 := @slices_CompactFunc_d
 refine dXa (And.intro fL1 @hL) ?_
 all_goals try (refine zlf ?_; repeat' first | exact zso | refine And.intro ?_ ?_ | (refine zim ?_; intro zb hc) | (refine zin ?_; intro zb) | intro j')
 all_goals try refine zbx ?_
 ·intro l hl; rw [List.eq_nil_of_length_eq_zero hL] at hl; cases hl
 ·rw [List.eq_nil_of_length_eq_zero hL]; rfl
 ·rw [List.eq_nil_of_length_eq_zero hL]; rfl
def sgLoO : FuncId → List Bool := fun f => []
theorem sgLoO_eq {f : FuncId} : sgLoO f = [] := _root_.id rfl
theorem way_sgLoO : wayE sgLoO = false ∧ wayN sgLoO = false ∧ wayS sgLoO = false ∧ wayZ sgLoO = false ∧ wayM sgLoO = false := ⟨rfl, rfl, rfl, rfl, rfl⟩
attribute [go_sem] sgLoO_eq way_sgLoO
theorem impl_lowers_d_c {m0 : Bool} (p : List Int) (h8 : p.length ≤ 8) : Fun Try.prog 54 [(.sl (.lent m0) (List.map (PV.int .i64) (p)))] [(.dl (List.map (List.map (PV.int .i64)) (lowL p)))] := by
 refine fO sgLoO [2] Try.func54 ?_
 have cE1 := @impl_without_c; have cE2 := @impl_ordered_e_c; have cE3 := @impl_ordered_c; have cE4 := @impl_ordered_d_c
 have q1 : ∀ {k : Nat}, ∀ l ∈ (List.range k).map (woL p), l.length ≤ 1048576 := fun {k} l h => by
  obtain ⟨j, _, rfl⟩ := List.mem_map.1 h
  rw [woL, patL_len]; simp; omega
 refine dEa trivial ?_
 all_goals try (refine zlf ?_; repeat' first | exact zso | refine And.intro ?_ ?_ | (refine zim ?_; intro zb hc) | (refine zin ?_; intro zb) | intro j')
 all_goals try refine zbx ?_
 refine v_loopB (fun ms1 S1 => ∃ (k : Nat), S1.e 0 = .p (.sl (.lent m0) (List.map (PV.int .i64) (p))) ∧ OwnL (S1.e 3) S1.h S1.n (elI false) (((List.range k).map (woL p)).length) ((List.range k).map (woL p)) ∧ S1.e 7 = .p (.int .i64 (p.length)) ∧ S1.e 8 = .p (.int .i64 (k)) ∧ (k ≤ p.length) ∧ ms1 = p.length - k) ((fun (k : Nat) => p.length - k) (0)) ?_ ⟨0, dC trivial ?_⟩
 all_goals try (refine zlf ?_; repeat' first | exact zso | refine And.intro ?_ ?_ | (refine zim ?_; intro zb hc) | (refine zin ?_; intro zb) | intro j')
 all_goals try refine zbx ?_
 rintro ms1 S1 ⟨k, h1_0, o1_3, h1_7, h1_8, c1_0, hm1⟩
 obtain ⟨i1_3, h1_3, b1_3, l1_3⟩ := o1_3.out
 have ni1_3 := znds (x := i1_3) (n := S1.n)
 have fL1 := (And.intro h1_0 (And.intro h1_7 (And.intro h1_8 (And.intro h1_3 (And.intro b1_3 ni1_3)))))
 have b1 : ((List.range k).map (woL p)).length = k := by simp
 have b2 : (List.range k).take k = List.range k := List.take_of_length_le (by simp)
 by_cases hk : k < p.length
 ·refine dEa fL1 ?_
  all_goals try (refine zlf ?_; repeat' first | exact zso | refine And.intro ?_ ?_ | (refine zim ?_; intro zb hc) | (refine zin ?_; intro zb) | intro j')
  all_goals try refine zbx ?_
  focus
   refine q_lp_n ((fun (k : Nat) => p.length - k) (k+1)) (dC fL1 ?_) ⟨k+1, dC fL1 ?_⟩
   all_goals try (refine zlf ?_; repeat' first | exact zso | refine And.intro ?_ ?_ | (refine zim ?_; intro zb hc) | (refine zin ?_; intro zb) | intro j')
   all_goals try refine zbx ?_
  ·simp
  ·rw [List.map_append]; rfl
 ·obtain rfl : k = p.length := by omega
  by_cases h0 : 0 < p.length
  ·have b3 : (List.range p.length).take p.length = List.range p.length := b2
   have cE1 := @impl_ordered_d_c; have cE2 := @impl_without_c; have cE3 := trivial; have cE4 := trivial
   refine dEa (And.intro fL1 @b3) ?_
   all_goals try (refine zlf ?_; repeat' first | exact zso | refine And.intro ?_ ?_ | (refine zim ?_; intro zb hc) | (refine zin ?_; intro zb) | intro j')
   all_goals try refine zbx ?_
   ·exact q1
   ·rw [lowL]
  ·have b3 : (List.range p.length).take p.length = List.range p.length := b2
   have cE1 := @impl_ordered_e_c; have cE2 := @impl_without_c; have cE3 := trivial; have cE4 := trivial
   refine dEa (And.intro fL1 @b3) ?_
   all_goals try (refine zlf ?_; repeat' first | exact zso | refine And.intro ?_ ?_ | (refine zim ?_; intro zb hc) | (refine zin ?_; intro zb) | intro j')
   all_goals try refine zbx ?_
   rw [lowL, show p.length = 0 by omega]; rfl
def sgSiO : FuncId → List Bool := fun f => if f = 99 then [true] else []
theorem sgSiO_eq {f : FuncId} : sgSiO f = if f = 99 then [true] else [] := _root_.id rfl
theorem way_sgSiO : wayE sgSiO = false ∧ wayN sgSiO = false ∧ wayS sgSiO = false ∧ wayZ sgSiO = false ∧ wayM sgSiO = false := ⟨rfl, rfl, rfl, rfl, rfl⟩
attribute [go_sem] sgSiO_eq way_sgSiO
theorem impl_simples_d (L : List (List Int)) (hL : L.length ≤ 1099511627776) (hl : ∀ l ∈ L, l.length ≤ 8 ∧ ∀ x ∈ l, 0 ≤ x ∧ x ≤ 1048576) :
  CallT Try.prog true 53 [.mu false [.dl (List.map (List.map (PV.int .i64)) L)]] [none] [.dl (List.map (List.map (PV.int .i64)) (L.filter isSimB))] := by
 have e1 : L.filter (fun x => !!isSimB x) = L.filter isSimB := by congr 1; funext x; rw [Bool.not_not]
 have c1 := slices_DeleteFunc_LLint_int_c L 100 [] (fun p => !isSimB p) hL (fun x hx => impl_simples_1_c (m0 := true) x (hl x hx).1 (hl x hx).2)
 rw [e1] at c1
 refine CallT.of (sg := sgSiO) (ts := [2]) mo Try.func53 rfl rfl rfl rfl (by kernel_rfl) (by simp only [go_sem]) rfl rfl ?_
 have cE1 := @impl_simples_1_c; have cM1 := @slices_DeleteFunc_LLint_int_fr_c
 have cM2 := @c1
 refine dTa trivial ?_
 all_goals try (refine zlf ?_; repeat' first | exact zso | refine And.intro ?_ ?_ | (refine zim ?_; intro zb hc) | (refine zin ?_; intro zb) | intro j')
 all_goals try refine zbx ?_
end Go.Gl
