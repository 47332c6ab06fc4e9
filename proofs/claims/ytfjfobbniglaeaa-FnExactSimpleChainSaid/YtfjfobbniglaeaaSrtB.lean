/-
 Rows put in order by the library, however many there are; rows in order, each once. Conditions: none.
-/
import Derived.Test.YtfjfobbniglaeaaSrtA
import Derived.Test.YtfjfobbniglaeaaShelfT
set_option linter.unusedSimpArgs false
set_option linter.unusedVariables false
set_option maxRecDepth 20000
set_option linter.unusedSectionVars false
namespace Go.Gl
open Go Go.Proofs
variable [Amb] [NoQ]
theorem sort_all_c (Z : List (List Int)) (h0 : 0 < Z.length) (hl : Z.length ≤ 1048576) (hz : ∀ l ∈ Z, l.length ≤ 1048576) : CallT Try.prog false 125 [.mu false (List.map (elI false) Z), .pv (.fn 118 [] [])] [some (List.map (elI false) (isortL Z)), none] [] :=
 sort_any (g := 118) Try.func125 rfl rfl
  (fun enc h1 cf hO blk off cap d w hcmp hH hblk hsz => Try.sort_all enc h1 cf hO 118 #[] blk off cap d w (enters_of Try.func118 (by kernel_rfl) rfl) hcmp hH hblk hsz)
  (fun p q hp hq => @impl_comparePerms_c ambQ true true p q hp hq) Z h0 hl hz
theorem slices_SortFunc_LLint_int_a_c (Z : List (List Int)) (hl : Z.length ≤ 1048576) (hz : ∀ l ∈ Z, l.length ≤ 1048576) : CallT Try.prog false 125 [.mu false (List.map (elI false) (Z)), .pv (.fn 118 [] [])] [some (List.map (elI false) (isortL Z)), none] [] := by
 -- %nobody
 by_cases h0 : 0 < Z.length
 ·exact sort_all_c Z h0 hl hz
 ·exact slices_SortFunc_LLint_int_c Z (by omega) hz
def sgOrB : FuncId → List Bool := fun f => if f = 125 then [true] else if f = 126 then [true] else []
theorem sgOrB_eq {f : FuncId} : sgOrB f = if f = 125 then [true] else if f = 126 then [true] else [] := _root_.id rfl
theorem way_sgOrB : wayE sgOrB = false ∧ wayN sgOrB = false ∧ wayS sgOrB = false ∧ wayZ sgOrB = false ∧ wayM sgOrB = false := ⟨rfl, rfl, rfl, rfl, rfl⟩
attribute [go_sem] sgOrB_eq way_sgOrB
theorem impl_ordered_a_c {e0 m0 : Bool} (L : List (List Int)) (hL : L.length ≤ 1000) (hl : ∀ l ∈ L, l.length ≤ 1048576) : Fun Try.prog 103 [(.sl (.lent m0) (List.map (elI e0) (L)))] [(.sl .own (List.map (elI false) (putL L)))] := by
 refine fO sgOrB [2] Try.func103 ?_
 have cE1 := @slices_Clone_c; have cE2 := @impl_comparePerms_c; have cE3 := @slices_Equal_int_int_c; have cM1 := @slices_SortFunc_LLint_int_a_c; have cM2 := @slices_SortFunc_LLint_int_c; have cM3 := @slices_CompactFunc_LLint_int_c
 refine dEa trivial ?_
 all_goals try (refine zlf ?_; repeat' first | exact zso | refine And.intro ?_ ?_ | (refine zim ?_; intro zb hc) | (refine zin ?_; intro zb) | intro j')
 all_goals try refine zbx ?_
 refine v_loopB (fun ms1 S1 => ∃ (k : Nat), S1.e 7 = .p (.sl (.lent m0) (List.map (elI e0) (L))) ∧ S1.e 8 = .p (.int .i64 (L.length)) ∧ OwnL (S1.e 3) S1.h S1.n (elI false) ((L.take k).length) (L.take k) ∧ S1.e 9 = .p (.int .i64 (k)) ∧ (k ≤ L.length) ∧ ms1 = L.length - k) ((fun (k : Nat) => L.length - k) (0)) ?_ ⟨0, dC trivial ?_⟩
 all_goals try (refine zlf ?_; repeat' first | exact zso | refine And.intro ?_ ?_ | (refine zim ?_; intro zb hc) | (refine zin ?_; intro zb) | intro j')
 all_goals try refine zbx ?_
 rintro ms1 S1 ⟨k, h1_7, h1_8, o1_3, h1_9, c1_0, hm1⟩
 obtain ⟨i1_3, h1_3, b1_3, l1_3⟩ := o1_3.out
 have ni1_3 := znds (x := i1_3) (n := S1.n)
 have fL1 := (And.intro h1_7 (And.intro h1_8 (And.intro h1_9 (And.intro h1_3 (And.intro b1_3 ni1_3)))))
 ·have b1 : k < L.length → (L.getD k []).length ≤ 1048576 := fun h => hl _ (getD_mem h)
  refine dE fL1 ?_
  all_goals try (refine zlf ?_; repeat' first | exact zso | refine And.intro ?_ ?_ | (refine zim ?_; intro zb hc) | (refine zin ?_; intro zb) | intro j')
  all_goals try refine zbx ?_
  all_goals try have b3 := b1 (by omega)
  all_goals try exact zaut
  ·focus
    refine q_lp_n ((fun (k : Nat) => L.length - k) (k+1)) (dC fL1 ?_) ⟨k+1, dC fL1 ?_⟩
    all_goals try (refine zlf ?_; repeat' first | exact zso | refine And.intro ?_ ?_ | (refine zim ?_; intro zb hc) | (refine zin ?_; intro zb) | intro j')
    all_goals try refine zbx ?_
   rw [take_getD (d := []) (by omega)]
  ·intro l h; exact hl l (List.mem_of_mem_take h)
  ·rw [isortL_len]
  ·rw [isortL_len]; simp; omega
  ·intro l h; have := hl l (List.mem_of_mem_take (isortL_mem.1 h)); omega
  ·rw [List.take_of_length_le (by omega), ord_eq]
 all_goals trace_state
end Go.Gl
