/-
 Rows of a slice's own, in order, each once: the library's compacting, the program's ordering. Conditions: none.
-/
import Derived.Test.YtfjfobbniglaeaaSrtO
import Derived.Test.YtfjfobbniglaeaaLibD
import Derived.Test.YtfjfobbniglaeaaOrd
set_option linter.unusedSimpArgs false
set_option linter.unusedVariables false
set_option maxRecDepth 20000
set_option linter.unusedSectionVars false
namespace Go.Gl
open Go Go.Proofs
variable [Amb] [NoQ]
/-- The places of the rows that compacting keeps. -/
def cpI (L : List (List Int)) : Nat → List Nat
 | 0 => []
 | j + 1 => cpI L j ++ if 0 < j ∧ L.getD j [] = L.getD (j - 1) [] then [] else [j]
theorem cpI_mem {L : List (List Int)} {x : Nat} : ∀ {j : Nat}, x ∈ cpI L j → x < j
 | 0, h => by cases h
 | j + 1, h => by
  rw [cpI] at h
  rcases List.mem_append.1 h with h | h
  ·have := cpI_mem h; omega
  ·split at h
   ·cases h
   ·simp at h; omega
theorem cpI_nd {L : List (List Int)} : ∀ {j : Nat}, (cpI L j).Nodup
 | 0 => List.nodup_nil
 | j + 1 => by
  rw [cpI]
  split
  ·rw [List.append_nil]; exact cpI_nd
  ·rw [List.nodup_append]
   refine ⟨cpI_nd, by simp, fun a ha b hb => ?_⟩
   have := cpI_mem ha
   simp at hb; omega
theorem cpI_map {L : List (List Int)} : ∀ {j : Nat}, (cpI L j).map (fun r => L.getD r []) = cptF L j
 | 0 => rfl
 | j + 1 => by rw [cpI, cptF, List.map_append, cpI_map]; split <;> rfl
theorem cpI_same {L : List (List Int)} : ∀ {j : Nat}, (∀ i, 0 < i → i < j → L.getD i [] ≠ L.getD (i - 1) []) → cpI L j = List.range j
 | 0, _ => rfl
 | j + 1, h1 => by
  rw [cpI, cpI_same fun i a b => h1 i a (by omega), if_neg (fun q => h1 j q.1 (by omega) q.2), List.range_succ]
def sgCp : FuncId → List Bool := fun f => []
theorem sgCp_eq {f : FuncId} : sgCp f = [] := _root_.id rfl
theorem way_sgCp : wayE sgCp = false ∧ wayN sgCp = false ∧ wayS sgCp = false ∧ wayZ sgCp = false ∧ wayM sgCp = false := ⟨rfl, rfl, rfl, rfl, rfl⟩
attribute [go_sem] sgCp_eq way_sgCp
theorem slices_CompactFunc_d (Z : List (List Int)) (hl : Z.length ≤ 1099511627776) (hz : ∀ l ∈ Z, l.length ≤ 1099511627776) :
  CallT Try.prog true 126 [.mu false [.dl (List.map (List.map (PV.int .i64)) Z)], .pv (.fn 71 [] [])] [none, none] [.dl (List.map (List.map (PV.int .i64)) (cptF Z Z.length))] := by
 have e0 : Z.length < 2 → cptF Z Z.length = Z := fun h => by
  rw [cptF_same (Nat.le_refl _) (fun i a b => by omega), List.take_length]
 refine CallT.of (sg := sgCp) (ts := [4]) mo Try.func126 rfl rfl rfl rfl (by kernel_rfl) (by simp only [go_sem]) rfl rfl ?_
 have cD1 := zdh [false, false, false, false, false, false, false, false, false, false, true] []; have cD2 := zdh [false, false, false, false, false, false, false, false, false, false, true, false] []
 refine dTa trivial ?_
 all_goals try (refine zlf ?_; repeat' first | exact zso | refine And.intro ?_ ?_ | (refine zim ?_; intro zb hc) | (refine zin ?_; intro zb) | intro j')
 all_goals try refine zbx ?_
 ·rw [e0 (by omega)]
 refine v_loopB (fun ms1 S1 => ∃ (k : Nat), S1.e 0 = .ref 0 0 (Z).length ∧ S1.h 0 = dk (PV.int .i64) true (Z) ∧ 0 < S1.n ∧ S1.e 1 = .p (.fn 71 [] []) ∧ S1.e 5 = .p (.int .i64 (k)) ∧ (1 ≤ k) ∧ (k ≤ Z.length) ∧ (∀ i, 0 < i → i < k → Z.getD i [] ≠ Z.getD (i - 1) []) ∧ ms1 = Z.length - k) ((fun (k : Nat) => Z.length - k) (1)) ?_ ⟨1, dC trivial ?_⟩
 all_goals try (refine zlf ?_; repeat' first | exact zso | refine And.intro ?_ ?_ | (refine zim ?_; intro zb hc) | (refine zin ?_; intro zb) | intro j')
 all_goals try refine zbx ?_
 rintro ms1 S1 ⟨k, h1_0, b1_0, l1_0, h1_1, h1_5, c1_0, c1_1, c1_2, hm1⟩
 have n0 := znds (x := 0) (n := S1.n)
 have fL1 := (And.intro h1_0 (And.intro b1_0 (And.intro h1_1 (And.intro h1_5 n0))))
 ·by_cases hk : k < Z.length
  ·have e1 : ((k : Int) - 1).toNat = k - 1 := by omega
   have e2 := hz (Z.getD k []) (getD_mem hk)
   have e3 := hz (Z.getD (k - 1) []) (getD_mem (by omega))
   have cE1 := @slices_Equal_int_int_c
   refine dTa (And.intro fL1 @e1) ?_
   all_goals try (refine zlf ?_; repeat' first | exact zso | refine And.intro ?_ ?_ | (refine zim ?_; intro zb hc) | (refine zin ?_; intro zb) | intro j')
   all_goals try refine zbx ?_
   rotate_left
   ·focus
     refine q_lp_n ((fun (k : Nat) => Z.length - k) (k+1)) (dC fL1 ?_) ⟨k+1, dC fL1 ?_⟩
     all_goals try (refine zlf ?_; repeat' first | exact zso | refine And.intro ?_ ?_ | (refine zim ?_; intro zb hc) | (refine zin ?_; intro zb) | intro j')
     all_goals try refine zbx ?_
    intro i h1 h2
    by_cases h3 : i = k
    ·subst h3; exact hc
    ·exact c1_2 i h1 (by omega)
   ·have f1 := cpI_same (L := Z) (j := k) c1_2
    have f2 : cpI Z (k + 1) = List.range k := by rw [cpI, if_pos ⟨by omega, hc⟩, List.append_nil, f1]
    refine v_loopB (fun ms2 S2 => ∃ (j : Nat) (cs : List Nat), S2.e 0 = .ref 0 0 (cs).length ∧ S2.h 0 = dq (PV.int .i64) true (cs) (Z) ∧ 0 < S2.n ∧ S2.e 1 = .p (.fn 71 [] []) ∧ S2.e 5 = .p (.int .i64 ((cpI Z (k + j)).length)) ∧ S2.e 6 = .ref 0 k (Z.length - k) ∧ S2.e 7 = .p (.int .i64 (j)) ∧ (1 ≤ j) ∧ (k + j ≤ Z.length) ∧ (cs.length = Z.length) ∧ (cs.take (cpI Z (k + j)).length = cpI Z (k + j)) ∧ ((cpI Z (k + j)).length < k + j) ∧ (∀ q, k + j ≤ q + 1 → q < Z.length → cs.getD q 0 = q) ∧ S1.n ≤ S2.n ∧ ms2 = Z.length - k - j) ((fun (j : Nat) (cs : List Nat) => Z.length - k - j) (1) (List.range Z.length)) ?_ ⟨1, List.range Z.length, dC fL1 ?_⟩
    all_goals try (refine zlf ?_; repeat' first | exact zso | refine And.intro ?_ ?_ | (refine zim ?_; intro zb hc) | (refine zin ?_; intro zb) | intro j')
    all_goals try refine zbx ?_
    rintro ms2 S2 ⟨j, cs, h2_0, b2_0, l2_0, h2_1, h2_5, h2_6, h2_7, c2_0, c2_1, c2_2, c2_3, c2_4, c2_5, u2_0, hm2⟩
    have n0 := znds (x := 0) (n := S2.n)
    have fL2 := (And.intro h2_0 (And.intro b2_0 (And.intro h2_1 (And.intro h2_5 (And.intro h2_6 (And.intro h2_7 n0))))))
    ·by_cases hj : k + j < Z.length
     ·have g1 := c2_5 (k + j) (by omega) hj
      have g2 := c2_5 (k + j - 1) (by omega) (by omega)
      have g3 := hz (Z.getD (k + j) []) (getD_mem hj)
      have g4 := hz (Z.getD (k + j - 1) []) (getD_mem (by omega))
      have g5 : ((j : Int) - 1).toNat = j - 1 := by omega
      have g6 : k + (j - 1) = k + j - 1 := by omega
      have g7 := av_row (f := PV.int .i64) (id := 0) hj
      have g8 := av_row (f := PV.int .i64) (id := 0) (L := Z) (r := k + j - 1) (by omega)
      have cE1 := @slices_Equal_int_int_c
      refine dTa (And.intro fL2 (And.intro @g1 (And.intro @g2 (And.intro @g5 (And.intro @g6 (And.intro @g7 (And.intro @g8 @c2_2))))))) ?_
      all_goals try (refine zlf ?_; repeat' first | exact zso | refine And.intro ?_ ?_ | (refine zim ?_; intro zb hc) | (refine zin ?_; intro zb) | intro j')
      all_goals try refine zbx ?_
      ·have s1 : cpI Z (k + (j + 1)) = cpI Z (k + j) ++ [k + j] := by rw [show k + (j + 1) = k + j + 1 from rfl, cpI, if_neg (fun q => hc q.2)]
       have s2 : (cpI Z (k + (j + 1))).length = (cpI Z (k + j)).length + 1 := by rw [s1, List.length_append]; rfl
       focus
        refine q_lp_n ((fun (j : Nat) (cs : List Nat) => Z.length - k - j) (j+1) (cs.set (cpI Z (k + j)).length (k + j))) (dC fL2 ?_) ⟨j+1, cs.set (cpI Z (k + j)).length (k + j), dC fL2 ?_⟩
        all_goals try (refine zlf ?_; repeat' first | exact zso | refine And.intro ?_ ?_ | (refine zim ?_; intro zb hc) | (refine zin ?_; intro zb) | intro j')
        all_goals try refine zbx ?_
       all_goals first | (rw [s2, set_take' (by omega), c2_3, s1]; done) | omega | skip
       all_goals try (intro q h5 h6; rw [List.getD_eq_getElem?_getD, List.getElem?_set_ne (by omega), ← List.getD_eq_getElem?_getD]; exact c2_5 q (by omega) h6)
      ·have s1 : cpI Z (k + (j + 1)) = cpI Z (k + j) := by rw [show k + (j + 1) = k + j + 1 from rfl, cpI, if_pos ⟨by omega, hc⟩, List.append_nil]
       focus
        refine q_lp_n ((fun (j : Nat) (cs : List Nat) => Z.length - k - j) (j+1) (cs)) (dC fL2 ?_) ⟨j+1, cs, dC fL2 ?_⟩
        all_goals try (refine zlf ?_; repeat' first | exact zso | refine And.intro ?_ ?_ | (refine zim ?_; intro zb hc) | (refine zin ?_; intro zb) | intro j')
        all_goals try refine zbx ?_
       ·rw [s1]
       ·rw [s1]; exact c2_3
       ·rw [s1]; omega
       ·intro q h5 h6; exact c2_5 q (by omega) h6
     ·have cE1 := trivial
      refine dTa (And.intro fL2 @c2_2) ?_
      all_goals try (refine zlf ?_; repeat' first | exact zso | refine And.intro ?_ ?_ | (refine zim ?_; intro zb hc) | (refine zin ?_; intro zb) | intro j')
      all_goals try refine zbx ?_
      obtain e9 : k + j = Z.length := by omega
      have e6 := cpI_map (L := Z) (j := Z.length)
      rw [List.drop_of_length_le (by omega), List.map_nil, List.append_nil, c2_3, e9]
      exact fd_dqc (f := PV.int .i64) (m := true) (cs := cpI Z Z.length) (L := Z) (fun _ => rfl) (fun r hr => cpI_mem hr) cpI_nd (by rw [← e6, List.map_map]; rfl) trivial
    ·rw [f2, List.length_range]
    ·rw [f2, List.length_range, List.take_range]; congr 1; omega
    ·rw [f2, List.length_range]; omega
    ·intro q h5 h6; rw [List.getD_eq_getElem?_getD, List.getElem?_range h6]; rfl
  ·have cE1 := trivial
   refine dTa fL1 ?_
   all_goals try (refine zlf ?_; repeat' first | exact zso | refine And.intro ?_ ?_ | (refine zim ?_; intro zb hc) | (refine zin ?_; intro zb) | intro j')
   all_goals try refine zbx ?_
   obtain rfl : k = Z.length := by omega
   rw [cptF_same (Nat.le_refl _) c1_2, List.take_length]
def sgOrO : FuncId → List Bool := fun f => if f = 12884902013 then [true] else if f = 126 then [true] else if f = 4294967297 then [true, false, false, false] else []
theorem sgOrO_eq {f : FuncId} : sgOrO f = if f = 12884902013 then [true] else if f = 126 then [true] else if f = 4294967297 then [true, false, false, false] else [] := _root_.id rfl
theorem way_sgOrO : wayE sgOrO = false ∧ wayN sgOrO = true ∧ wayS sgOrO = false ∧ wayZ sgOrO = false ∧ wayM sgOrO = false := ⟨rfl, rfl, rfl, rfl, rfl⟩
attribute [go_sem] sgOrO_eq way_sgOrO
theorem impl_ordered_d_c {e0 m0 : Bool} (L : List (List Int)) (h0 : 0 < L.length) (hL : L.length ≤ 1000) (hl : ∀ l ∈ L, l.length ≤ 1048576) : Fun Try.prog 103 [(.sl (.lent m0) (List.map (elI e0) (L)))] [(.dl (List.map (List.map (PV.int .i64)) (putL L)))] := by
 refine fO sgOrO [2] Try.func103 ?_
 have cE1 := @slices_Clone_c; have cE2 := @impl_comparePerms_c; have cE3 := @slices_Equal_int_int_c; have cM1 := @slices_SortFunc_LLint_int_c; have cM2 := @slices_CompactFunc_LLint_int_c
 refine dEa trivial ?_
 all_goals try (refine zlf ?_; repeat' first | exact zso | refine And.intro ?_ ?_ | (refine zim ?_; intro zb hc) | (refine zin ?_; intro zb) | intro j')
 all_goals try refine zbx ?_
 refine v_loopB (fun ms1 S1 => ∃ (k : Nat), S1.e 7 = .p (.sl (.lent m0) (List.map (elI e0) (L))) ∧ S1.e 8 = .p (.int .i64 (L.length)) ∧ DwnL (S1.e 3) S1.h S1.n (PV.int .i64) ((L.take k).length) (L.take k) ∧ S1.e 9 = .p (.int .i64 (k)) ∧ (k ≤ L.length) ∧ ms1 = L.length - k) ((fun (k : Nat) => L.length - k) (0)) ?_ ⟨0, dC trivial ?_⟩
 all_goals try (refine zlf ?_; repeat' first | exact zso | refine And.intro ?_ ?_ | (refine zim ?_; intro zb hc) | (refine zin ?_; intro zb) | intro j')
 all_goals try refine zbx ?_
 rintro ms1 S1 ⟨k, h1_7, h1_8, o1_3, h1_9, c1_0, hm1⟩
 obtain ⟨i1_3, h1_3, b1_3, l1_3⟩ := o1_3.out
 have ni1_3 := znds (x := i1_3) (n := S1.n)
 have fL1 := (And.intro h1_7 (And.intro h1_8 (And.intro h1_9 (And.intro h1_3 (And.intro b1_3 ni1_3)))))
 ·have b1 : k < L.length → (L.getD k []).length ≤ 1048576 := fun h => hl _ (getD_mem h)
  by_cases hk : k < L.length
  ·have b3 := b1 hk
   refine dEa fL1 ?_
   all_goals try (refine zlf ?_; repeat' first | exact zso | refine And.intro ?_ ?_ | (refine zim ?_; intro zb hc) | (refine zin ?_; intro zb) | intro j')
   all_goals try refine zbx ?_
   focus
    refine q_lp_n ((fun (k : Nat) => L.length - k) (k+1)) (dC fL1 ?_) ⟨k+1, dC fL1 ?_⟩
    all_goals try (refine zlf ?_; repeat' first | exact zso | refine And.intro ?_ ?_ | (refine zim ?_; intro zb hc) | (refine zin ?_; intro zb) | intro j')
    all_goals try refine zbx ?_
   rw [take_getD (d := []) (by omega)]
  ·obtain rfl : k = L.length := by omega
   have z1 : (isortL L).length = L.length := isortL_len
   have z2 : 0 < (isortL L).length := by omega
   rw [List.take_of_length_le (Nat.le_refl _)] at *
   have cM3 := @sort_own; have cM4 := @slices_CompactFunc_d
   refine dXa (And.intro fL1 (And.intro @h0 (And.intro @z1 (And.intro @z2 @hl)))) ?_
   all_goals try (refine zlf ?_; repeat' first | exact zso | refine And.intro ?_ ?_ | (refine zim ?_; intro zb hc) | (refine zin ?_; intro zb) | intro j')
   all_goals try refine zbx ?_
   ·intro l h; have := hl l (isortL_mem.1 h); omega
   ·rw [← isortL_len (L := L), ord_eq]
end Go.Gl
