/-
 The library's deleting of rows. Conditions: none.
-/
import Derived.Test.YtfjfobbniglaeaaLibL
set_option linter.unusedSimpArgs false
set_option linter.unusedVariables false
set_option maxRecDepth 20000
set_option linter.unusedSectionVars false
namespace Go.Gl
open Go Go.Proofs
variable [Amb] [NoQ]
/-- The places of the rows that stay, of the first j. -/
def keepI (p : List Int → Bool) (L : List (List Int)) (j : Nat) : List Nat := (List.range j).filter fun r => !p (L.getD r [])
theorem keepI_succ {p : List Int → Bool} {L : List (List Int)} {j : Nat} : keepI p L (j + 1) = keepI p L j ++ if p (L.getD j []) = true then [] else [j] := by
 rw [keepI, List.range_succ, List.filter_append, ← keepI, List.filter_cons]
 cases p (L.getD j []) <;> rfl
theorem keepI_all {p : List Int → Bool} {L : List (List Int)} : ∀ {k : Nat}, (∀ j, j < k → p (L.getD j []) = false) → keepI p L k = List.range k
 | 0, _ => rfl
 | k + 1, h => by rw [keepI_succ, keepI_all fun j hj => h j (by omega), if_neg (by rw [h k (by omega)]; decide), List.range_succ]
theorem keepI_map {p : List Int → Bool} {L : List (List Int)} : ∀ {j : Nat}, j ≤ L.length → (keepI p L j).map (fun r => L.getD r []) = (L.take j).filter fun x => !p x
 | 0, _ => rfl
 | j + 1, h => by
  rw [keepI_succ, List.map_append, keepI_map (by omega), take_getD (d := []) (by omega), List.filter_append, List.filter_cons]
  cases p (L.getD j []) <;> rfl
def sgD0 : FuncId → List Bool := fun f => []
theorem sgD0_eq {f : FuncId} : sgD0 f = [] := _root_.id rfl
theorem way_sgD0 : wayE sgD0 = false ∧ wayN sgD0 = false ∧ wayS sgD0 = false ∧ wayZ sgD0 = false ∧ wayM sgD0 = false := ⟨rfl, rfl, rfl, rfl, rfl⟩
attribute [go_sem] sgD0_eq way_sgD0
theorem slices_DeleteFunc_LLint_int_c (L : List (List Int)) (g : FuncId) (caps : List PV) (p : List Int → Bool) (hl : L.length ≤ 1099511627776) (hp : ∀ x ∈ L, Fun Try.prog g (.sl (.lent true) (List.map (PV.int .i64) x) :: caps.map PV.cell) [.bool (p x)]) :
  CallT Try.prog true 99 [.mu false [.dl (List.map (List.map (PV.int .i64)) L)], .pv (.fn g [] caps)] [none, none] [.dl (List.map (List.map (PV.int .i64)) (L.filter fun x => !p x))] := by
 rcases idxG_spec (p := p) (d := []) (l := L) (i := 0) with ⟨h1, h2⟩ | ⟨k0, h1, h2, h3, h4⟩
 ·have e1 : L.filter (fun x => !p x) = L := List.filter_eq_self.2 fun x hx => by rw [h2 x hx]; rfl
  rw [e1]
  refine CallT.of (sg := sgD0) (ts := [4]) mo Try.func99 rfl rfl rfl rfl (by kernel_rfl) (by simp only [go_sem]) rfl rfl ?_
  have cE1 := @slices_IndexFunc_LLint_int_c
  have cE1 := (fun m0 => slices_IndexFunc_LLint_int_c (m0 := m0) L g caps p hl hp); have cE2 := @slices_IndexFunc_LLint_int_c
  refine dTa @h1 ?_
  all_goals try (refine zlf ?_; repeat' first | exact zso | refine And.intro ?_ ?_ | (refine zim ?_; intro zb hc) | (refine zin ?_; intro zb) | intro j')
  all_goals try refine zbx ?_
 ·refine CallT.of (sg := sgD0) (ts := [4]) mo Try.func99 rfl rfl rfl rfl (by kernel_rfl) (by simp only [go_sem]) rfl rfl ?_
  have cE1 := @slices_IndexFunc_LLint_int_c
  have cE1 := (fun m0 => slices_IndexFunc_LLint_int_c (m0 := m0) L g caps p hl hp); have cE2 := @slices_IndexFunc_LLint_int_c
  refine dTa @h2 ?_
  all_goals try (refine zlf ?_; repeat' first | exact zso | refine And.intro ?_ ?_ | (refine zim ?_; intro zb hc) | (refine zin ?_; intro zb) | intro j')
  all_goals try refine zbx ?_
  have e0 : (keepI p L (k0 + 1)).length = k0 := by rw [keepI_succ, if_pos h3, List.append_nil, keepI_all h4, List.length_range]
  refine v_loopB (fun ms1 S1 => ∃ (j : Nat) (cs : List Nat), S1.e 0 = .ref 0 0 (cs).length ∧ S1.h 0 = dq (PV.int .i64) true (cs) (L) ∧ 0 < S1.n ∧ S1.e 1 = .p (.fn g [] caps) ∧ S1.e 5 = .p (.int .i64 ((keepI p L j).length)) ∧ S1.e 6 = .p (.int .i64 (j)) ∧ (cs.length = L.length) ∧ (j ≤ L.length) ∧ (k0 < j) ∧ (cs.take (keepI p L j).length = keepI p L j) ∧ ((keepI p L j).length < j) ∧ (∀ q, j ≤ q → q < L.length → cs.getD q 0 = q) ∧ ms1 = L.length - j) ((fun (j : Nat) (cs : List Nat) => L.length - j) (k0 + 1) (List.range L.length)) ?_ ⟨k0 + 1, List.range L.length, dC trivial ?_⟩
  all_goals try (refine zlf ?_; repeat' first | exact zso | refine And.intro ?_ ?_ | (refine zim ?_; intro zb hc) | (refine zin ?_; intro zb) | intro j')
  all_goals try refine zbx ?_
  rintro ms1 S1 ⟨j, cs, h1_0, b1_0, l1_0, h1_1, h1_5, h1_6, c1_0, c1_1, c1_2, c1_3, c1_4, c1_5, hm1⟩
  have n0 := znds (x := 0) (n := S1.n)
  have fL1 := (And.intro h1_0 (And.intro b1_0 (And.intro h1_1 (And.intro h1_5 (And.intro h1_6 n0)))))
  by_cases hj : j < L.length
  ·have e1 := c1_5 j (Nat.le_refl _) hj
   have e2 := av_row (f := PV.int .i64) (id := 0) hj
   have e3 : p (L.getD j []) = false → keepI p L (j + 1) = keepI p L j ++ [j] := fun h => by rw [keepI_succ, h]; rfl
   have e4 : p (L.getD j []) = true → keepI p L (j + 1) = keepI p L j := fun h => by rw [keepI_succ, h, if_pos rfl, List.append_nil]
   have cE1 := @hp; have cE2 := @slices_IndexFunc_LLint_int_c
   refine dTa (And.intro fL1 (And.intro @e1 (And.intro @e2 @c1_0))) ?_
   all_goals try (refine zlf ?_; repeat' first | exact zso | refine And.intro ?_ ?_ | (refine zim ?_; intro zb hc) | (refine zin ?_; intro zb) | intro j')
   all_goals try refine zbx ?_
   ·exact getD_mem hj
   ·have e5 := e3 hc
    focus
     refine q_lp_n ((fun (j : Nat) (cs : List Nat) => L.length - j) (j+1) (cs.set (keepI p L j).length j)) (dC fL1 ?_) ⟨j+1, cs.set (keepI p L j).length j, dC fL1 ?_⟩
     all_goals try (refine zlf ?_; repeat' first | exact zso | refine And.intro ?_ ?_ | (refine zim ?_; intro zb hc) | (refine zin ?_; intro zb) | intro j')
     all_goals try refine zbx ?_
    ·rw [e5]; simp
    ·rw [e5, List.length_append, List.length_singleton, set_take' (by omega), c1_3]
    ·rw [e5, List.length_append, List.length_singleton]; omega
    ·intro q h5 h6
     rw [List.getD_eq_getElem?_getD, List.getElem?_set_ne (by omega), ← List.getD_eq_getElem?_getD]
     exact c1_5 q (by omega) h6
   ·have e5 := e4 hc
    focus
     refine q_lp_n ((fun (j : Nat) (cs : List Nat) => L.length - j) (j+1) (cs)) (dC fL1 ?_) ⟨j+1, cs, dC fL1 ?_⟩
     all_goals try (refine zlf ?_; repeat' first | exact zso | refine And.intro ?_ ?_ | (refine zim ?_; intro zb hc) | (refine zin ?_; intro zb) | intro j')
     all_goals try refine zbx ?_
    ·rw [e5]
    ·rw [e5]; exact c1_3
    ·rw [e5]; omega
    ·intro q h5 h6; exact c1_5 q (by omega) h6
  ·have cE1 := @hp; have cE2 := @slices_IndexFunc_LLint_int_c
   refine dTa (And.intro fL1 @c1_0) ?_
   all_goals try (refine zlf ?_; repeat' first | exact zso | refine And.intro ?_ ?_ | (refine zim ?_; intro zb hc) | (refine zin ?_; intro zb) | intro j')
   all_goals try refine zbx ?_
   obtain rfl : j = L.length := by omega
   have e6 := keepI_map (p := p) (L := L) (j := L.length) (Nat.le_refl _)
   rw [List.take_length] at e6
   rw [List.drop_of_length_le (by omega), List.map_nil, List.append_nil, c1_3]
   exact fd_dqc (f := PV.int .i64) (m := true) (cs := keepI p L L.length) (L := L) (fun _ => rfl) (fun r hr => by have := (List.mem_filter.1 hr).1; simpa using this) (List.Nodup.sublist List.filter_sublist List.nodup_range) (by rw [← e6, List.map_map]; rfl) trivial
  ·rw [e0, keepI_succ, if_pos h3, List.append_nil, keepI_all h4, List.take_range]; congr 1; omega
  ·intro q h5 h6; rw [List.getD_eq_getElem?_getD, List.getElem?_range h6]; rfl
end Go.Gl
