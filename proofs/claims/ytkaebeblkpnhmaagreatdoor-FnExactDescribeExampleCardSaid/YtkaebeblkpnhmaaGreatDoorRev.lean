/-
  Lists turned round: what their functions compute. Conditions: none.
-/
import Derived.Test.YtkaebeblkpnhmaaGreatDoorPerm
import Derived.Test.YtkaebeblkpnhmaaGreatDoorClone
set_option linter.unusedSimpArgs false
set_option linter.unusedVariables false
set_option maxRecDepth 20000
set_option linter.unusedSectionVars false
namespace Go.Gl
open Go Go.Proofs
variable [Amb]
/-- The first and last i are turned round. -/
def revK (L : List Int) (i : Nat) : List Int := (List.range L.length).map fun q => if q < i ∨ L.length ≤ q + i then L.getD (L.length - 1 - q) 0 else L.getD q 0
theorem revK_len {L : List Int} {i : Nat} : (revK L i).length = L.length := by simp [revK]
theorem revK_get {L : List Int} {i q : Nat} : (revK L i)[q]? = if q < L.length then some (if q < i ∨ L.length ≤ q + i then L.getD (L.length - 1 - q) 0 else L.getD q 0) else none := by
  unfold revK
  rw [List.getElem?_map]
  by_cases h : q < L.length
  · rw [if_pos h, List.getElem?_range h]; rfl
  · rw [if_neg h, List.getElem?_eq_none (by simp; omega)]; rfl
theorem getI_some {L : List Int} {i : Nat} (h : i < L.length) : L[i]? = some (L.getD i 0) := by
  rw [List.getD_eq_getElem?_getD, List.getElem?_eq_getElem h]; rfl
theorem revK_0 {L : List Int} : revK L 0 = L := by
  apply List.ext_getElem?; intro q
  rw [revK_get]
  by_cases h : q < L.length
  · rw [if_pos h, if_neg (by omega), getI_some h]
  · rw [if_neg h, List.getElem?_eq_none (by omega)]
theorem revK_end {L : List Int} {i : Nat} (h1 : 2 * i ≤ L.length) (h2 : L.length ≤ 2 * i + 1) : revK L i = L.reverse := by
  apply List.ext_getElem?; intro q
  rw [revK_get]
  by_cases h : q < L.length
  · rw [if_pos h, List.getElem?_reverse h, getI_some (by omega)]
    by_cases e : q < i ∨ L.length ≤ q + i
    · rw [if_pos e]
    · rw [if_neg e, show L.length - 1 - q = q by omega]
  · rw [if_neg h, List.getElem?_eq_none (by simp; omega)]
theorem revK_lo {L : List Int} {i : Nat} (h : 2 * i + 1 < L.length) : (revK L i).getD i 0 = L.getD i 0 ∧ (revK L i).getD (L.length - 1 - i) 0 = L.getD (L.length - 1 - i) 0 := by
  constructor
  · rw [List.getD_eq_getElem?_getD, revK_get, if_pos (by omega), if_neg (by omega)]; rfl
  · rw [List.getD_eq_getElem?_getD, revK_get, if_pos (by omega), if_neg (by omega)]; rfl
theorem revK_step {L : List Int} {i : Nat} (h : 2 * i + 1 < L.length) : ((revK L i).set i (L.getD (L.length - 1 - i) 0)).set (L.length - 1 - i) (L.getD i 0) = revK L (i + 1) := by
  apply List.ext_getElem?; intro q
  rw [List.getElem?_set, List.getElem?_set, List.length_set, revK_len, revK_get, revK_get]
  by_cases e1 : L.length - 1 - i = q
  · rw [if_pos e1, if_pos (by omega), if_pos (by omega), if_pos (by omega), ← e1, show L.length - 1 - (L.length - 1 - i) = i by omega]
  · rw [if_neg e1]
    by_cases e2 : i = q
    · subst e2; rw [if_pos rfl, if_pos (by omega), if_pos (by omega), if_pos (by omega)]
    · rw [if_neg e2]
      by_cases hq : q < L.length
      · rw [if_pos hq, if_pos hq]
        by_cases e3 : q < i ∨ L.length ≤ q + i
        · rw [if_pos e3, if_pos (by omega)]
        · rw [if_neg e3, if_neg (by omega)]
      · rw [if_neg hq, if_neg hq]
theorem slices_Reverse_int_int_c (L : List Int) (hL : L.length ≤ 1048576) : CallT Tryz.prog false 136 [.mu false (List.map (PV.int .i64) (L))] [some (List.map (PV.int .i64) (L.reverse))] [] := by
  refine fX sg0 [] Tryz.func136 ?_
  have cD1 := zdh [false, false, false, false, false, false, false, false, false, false, false, false, false, true, false, true] [(2, 13), (3, 13)]
  refine dEa trivial ?_
  all_goals try (refine zlf ?_; repeat' first | exact zso | refine And.intro ?_ ?_ | (refine zim ?_; intro zb hc) | (refine zin ?_; intro zb) | intro j')
  all_goals try refine zbx ?_
  refine v_loopB (fun ms1 S1 => ∃ (i : Nat), S1.e 0 = .ref 0 0 (revK L i).length ∧ S1.h 0 = .live true (List.map (PV.int .i64) (revK L i)) ∧ 0 < S1.n ∧ S1.e 2 = .p (.int .i64 (i)) ∧ S1.e 3 = .p (.int .i64 (((L.length : Int) - 1 - i))) ∧ (2 * i ≤ L.length) ∧ ms1 = L.length - i) ((fun (i : Nat) => L.length - i) (0)) ?_ ⟨0, dC trivial ?_⟩
  all_goals try (refine zlf ?_; repeat' first | exact zso | refine And.intro ?_ ?_ | (refine zim ?_; intro zb hc) | (refine zin ?_; intro zb) | intro j')
  all_goals try refine zbx ?_
  rintro ms1 S1 ⟨i, h1_0, b1_0, l1_0, h1_2, h1_3, c1_0, hm1⟩
  have n0 := znds (x := 0) (n := S1.n)
  have fL1 := (And.intro h1_0 (And.intro b1_0 (And.intro h1_2 (And.intro h1_3 n0))))
  · have e0 := revK_len (L := L) (i := i)
    by_cases hi : 2 * i + 1 < L.length
    · have e1 := revK_lo hi
      have e2 := revK_step hi
      have e3 : ((L.length : Int) - 1 - i).toNat = L.length - 1 - i := by omega
      refine dEa (And.intro fL1 (And.intro @e0 (And.intro e1.1 (And.intro e1.2 (And.intro @e2 @e3))))) ?_
      all_goals try (refine zlf ?_; repeat' first | exact zso | refine And.intro ?_ ?_ | (refine zim ?_; intro zb hc) | (refine zin ?_; intro zb) | intro j')
      all_goals try refine zbx ?_
      focus
        refine q_lp_n ((fun (i : Nat) => L.length - i) (i+1)) (dC fL1 ?_) ⟨i+1, dC fL1 ?_⟩
        all_goals try (refine zlf ?_; repeat' first | exact zso | refine And.intro ?_ ?_ | (refine zim ?_; intro zb hc) | (refine zin ?_; intro zb) | intro j')
        all_goals try refine zbx ?_
      all_goals first | omega | (rw [e0, revK_len]; done)
    · have e2 := revK_end c1_0 (by omega)
      refine dEa (And.intro fL1 (And.intro @e0 @e2)) ?_
      all_goals try (refine zlf ?_; repeat' first | exact zso | refine And.intro ?_ ?_ | (refine zim ?_; intro zb hc) | (refine zin ?_; intro zb) | intro j')
      all_goals try refine zbx ?_
  · exact revK_len.symm
  · exact revK_0.symm
def sgRev : FuncId → List Bool := fun f => if f = 136 then [true] else []
theorem sgRev_eq {f : FuncId} : sgRev f = if f = 136 then [true] else [] := _root_.id rfl
theorem way_sgRev : wayE sgRev = false ∧ wayN sgRev = false ∧ wayS sgRev = false ∧ wayZ sgRev = false := ⟨rfl, rfl, rfl, rfl⟩
attribute [go_sem] sgRev_eq way_sgRev
theorem impl_reverse_c {m0 : Bool} (p : List Int) (hl : p.length ≤ 1048576) : Fun Tryz.prog 117 [(.sl (.lent m0) (List.map (PV.int .i64) (p)))] [(.sl .own (List.map (PV.int .i64) (p.reverse)))] := by
  refine fO sgRev [2] Tryz.func117 ?_
  have cE1 := @slices_Clone_c; have cM1 := @slices_Reverse_int_int_c
  have e1 : p.reverse.length = p.length := List.length_reverse
  have e2 : List.take p.length p.reverse = p.reverse := List.take_of_length_le (by omega)
  refine dEa (And.intro @e1 @e2) ?_
  all_goals try (refine zlf ?_; repeat' first | exact zso | refine And.intro ?_ ?_ | (refine zim ?_; intro zb hc) | (refine zin ?_; intro zb) | intro j')
  all_goals try refine zbx ?_
theorem spec_l3Reverse_c {m0 : Bool} (p : List Int) (hl : p.length ≤ 1048576) : Fun Tryz.prog 62 [(.sl (.lent m0) (List.map (PV.int .i64) (p)))] [(.sl .own (List.map (PV.int .i64) (p.reverse)))] := by
  refine fO sg0 [2] Tryz.func62 ?_
  refine dEa trivial ?_
  all_goals try (refine zlf ?_; repeat' first | exact zso | refine And.intro ?_ ?_ | (refine zim ?_; intro zb hc) | (refine zin ?_; intro zb) | intro j')
  all_goals try refine zbx ?_
  refine v_loopB (fun ms1 S1 => ∃ (k : Nat), S1.e 0 = .p (.sl (.lent m0) (List.map (PV.int .i64) (p))) ∧ OwnL (S1.e 3) S1.h S1.n (PV.int .i64) (((p.drop k).reverse).length) ((p.drop k).reverse) ∧ S1.e 4 = .p (.int .i64 (((k : Int) - 1))) ∧ (k ≤ p.length) ∧ ms1 = k) ((fun (k : Nat) => k) (p.length)) ?_ ⟨p.length, dC trivial ?_⟩
  all_goals try (refine zlf ?_; repeat' first | exact zso | refine And.intro ?_ ?_ | (refine zim ?_; intro zb hc) | (refine zin ?_; intro zb) | intro j')
  all_goals try refine zbx ?_
  rintro ms1 S1 ⟨k, h1_0, o1_3, h1_4, c1_0, hm1⟩
  obtain ⟨i1_3, h1_3, b1_3, l1_3⟩ := o1_3.out
  have ni1_3 := znds (x := i1_3) (n := S1.n)
  have fL1 := (And.intro h1_0 (And.intro h1_4 (And.intro h1_3 (And.intro b1_3 ni1_3))))
  · have e1 : ((k : Int) - 1).toNat = k - 1 := by omega
    have e2 : (p.drop k).reverse.length = p.length - k := by simp
    refine dEa (And.intro fL1 (And.intro @e1 @e2)) ?_
    all_goals try (refine zlf ?_; repeat' first | exact zso | refine And.intro ?_ ?_ | (refine zim ?_; intro zb hc) | (refine zin ?_; intro zb) | intro j')
    all_goals try refine zbx ?_
    · focus
        refine q_lp_n ((fun (k : Nat) => k) (k-1)) (dC fL1 ?_) ⟨k-1, dC fL1 ?_⟩
        all_goals try (refine zlf ?_; repeat' first | exact zso | refine And.intro ?_ ?_ | (refine zim ?_; intro zb hc) | (refine zin ?_; intro zb) | intro j')
        all_goals try refine zbx ?_
      · simp; omega
      · obtain ⟨j, rfl⟩ : ∃ j, k = j + 1 := ⟨k - 1, by omega⟩
        rw [Nat.add_sub_cancel, dropI_at (k := j) (by omega), List.reverse_cons]
    · obtain rfl : k = 0 := by omega
      rw [List.drop_zero, List.take_of_length_le (by simp)]
  · simp
  · rw [List.drop_length]; rfl
end Go.Gl
