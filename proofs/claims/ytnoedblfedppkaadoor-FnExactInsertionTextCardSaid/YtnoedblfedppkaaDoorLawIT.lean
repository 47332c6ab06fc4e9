/-
  The law of the tables of a permutation as texts. Conditions: none.
-/
import Derived.Test.YtnoedblfedppkaaDoorIns2
import Derived.Test.YtnoedblfedppkaaDoorTab
set_option linter.unusedSimpArgs false
set_option linter.unusedVariables false
set_option maxRecDepth 20000
set_option linter.unusedSectionVars false
namespace Go.Gl
open Go Go.Proofs
variable [Amb]
variable [TabA]
omit [TabA] in
theorem insT_elts {p : List Int} : ∀ {k : Nat}, (∀ l ∈ (insT p k).2, ∀ x ∈ l, 1 ≤ x ∧ x ≤ (k : Int))
  | 0 => by simp [insT]
  | k + 1 => by
    have ih := insT_elts (p := p) (k := k)
    have hlen := insT_len (p := p) (k := k)
    have g := putT_len (T := (insT p k).1) (n := p.getD k 0)
    rw [insT]
    simp only []
    intro l hl x hx
    split at hl
    · rcases List.mem_append.1 hl with q | q
      · have := ih l q x hx; omega
      · rw [List.mem_singleton] at q; subst q
        rw [List.mem_singleton] at hx; omega
    · rcases List.mem_or_eq_of_mem_set hl with q | q
      · have := ih l q x hx; omega
      · subst q
        rcases List.mem_append.1 hx with q | q
        · have := ih _ (getD_mem (by omega)) x q; omega
        · rw [List.mem_singleton] at q; omega
omit [TabA] in
theorem sumN_leB {B : Nat} : ∀ {l : List Nat}, (∀ x ∈ l, x ≤ B) → sumN l ≤ B * l.length
  | [], _ => by simp [sumN]
  | x :: l, h => by
    have h1 := h x List.mem_cons_self
    have h2 := sumN_leB fun y hy => h y (List.mem_cons_of_mem _ hy)
    rw [sumN, List.length_cons, Nat.mul_add, Nat.mul_one]; omega
omit [TabA] in
theorem insT_all {p : List Int} (hp : isPermB p = true) : (insT p p.length).1.length ≤ 8 ∧ (insT p p.length).2.length ≤ 8 ∧ (∀ l ∈ (insT p p.length).1, l.length ≤ 8) ∧ (∀ l ∈ (insT p p.length).2, l.length ≤ 8) ∧
    sumN ((insT p p.length).1.map List.length) ≤ 64 ∧ sumN ((insT p p.length).2.map List.length) ≤ 64 ∧ (∀ l ∈ (insT p p.length).1, ∀ x ∈ l, 0 ≤ x ∧ x ≤ 8) ∧ (∀ l ∈ (insT p p.length).2, ∀ x ∈ l, 0 ≤ x ∧ x ≤ 8) := by
  have h8 : p.length ≤ 8 := by simp [isPermB] at hp; exact hp.1
  have hq : permB p = true := by simp [isPermB] at hp; exact hp.2
  obtain ⟨h1, h2, h3⟩ := insT_b (p := p) (k := p.length)
  have h4 := insT_len (p := p) (k := p.length)
  have hperm := insT_perm (p := p) (k := p.length) (Nat.le_refl _)
  refine ⟨by omega, by omega, fun l hl => by have := h2 l hl; omega, fun l hl => by have := h3 l hl; omega, ?_, ?_, fun l hl x hx => ?_, fun l hl x hx => ?_⟩
  · have := sumN_leB (B := 8) (l := (insT p p.length).1.map List.length) (fun x hx => by
      obtain ⟨l, hl, rfl⟩ := List.mem_map.1 hx
      have := h2 l hl; omega)
    rw [List.length_map] at this; omega
  · have := sumN_leB (B := 8) (l := (insT p p.length).2.map List.length) (fun x hx => by
      obtain ⟨l, hl, rfl⟩ := List.mem_map.1 hx
      have := h3 l hl; omega)
    rw [List.length_map] at this; omega
  · have hm : x ∈ (insT p p.length).1.flatten := List.mem_flatten.2 ⟨l, hl, hx⟩
    have := (permB_iff.1 hq).1 x (List.mem_of_mem_take (hperm.subset hm)); omega
  · have := insT_elts (p := p) l hl x hx; omega
def sgSi : FuncId → List Bool := fun f => if f = 4294967297 then [true, false, false] else []
theorem sgSi_eq {f : FuncId} : sgSi f = if f = 4294967297 then [true, false, false] else [] := _root_.id rfl
theorem wayE_sgSi : wayE sgSi = false := _root_.id rfl
theorem wayN_sgSi : wayN sgSi = true := _root_.id rfl
theorem wayS_sgSi : wayS sgSi = false := _root_.id rfl
theorem wayZ_sgSi : wayZ sgSi = false := _root_.id rfl
attribute [go_sem] sgSi_eq wayE_sgSi wayN_sgSi wayS_sgSi wayZ_sgSi
theorem spec_InsertPerm_c {m0 : Bool} (p : List Int) (hl : p.length ≤ 1048576) (hp : isPermB p = true) : Fun Tryd.prog 39 [(.sl (.lent m0) (List.map (PV.int .i64) (p)))] [(.dl (List.map (List.map (PV.int .i64)) ((insT p p.length).1))), (.dl (List.map (List.map (PV.int .i64)) ((insT p p.length).2))), (.bool (true))] := by
  refine Fun.of (sg := sgSi) (ts := [2, 3, 4]) mo Tryd.func39 rfl rfl rfl rfl (by kernel_rfl) (by simp only [go_sem]) rfl ?_
  have h8 : p.length ≤ 8 := by simp [isPermB] at hp; exact hp.1
  have fc : True := trivial
  repeat' first
    | with_reducible first | refine stp ?_ | refine q_blk_o rfl ?_ | (refine hK _ ?_; clear hK) | (refine hA ?_; clear hA hB) | (refine hB ?_; clear hA hB) | exact v_end0 | exact v_end0' | refine v_gb1 ?_ ?_ | refine v_gb0 ?_ ?_ | refine And.intro ?_ ?_
    | (with_reducible refine p_ok ?_; decide)
    | ((first | with_reducible first | refine v_region rfl rfl (fun K hK => ?_) | refine v_draws rfl rfl (fun K hK => ?_) | refine v_if (fun A B hA hB => ?_) | refine v_end rfl ?_ | refine v_fin1 ?_ | refine v_finC1 ?_ | refine v_finR1 ?_ | refine v_callE (spec_IsPerm_c _ ?_) ?_ | refine v_callE (spec_l19Insert_c _ ?_) ?_ | refine v_finO1 rfl ?_ | refine v_finN1 rfl ?_ ?_ | refine v_apj ?_ (fun j' => ?_) | refine v_stz ?_ ?_ ?_ ?_ ?_ | refine v_stq ?_ | refine v_cv1 ?_ ?_ ?_ | (intro hc; replace fc := And.intro hc fc; try simp only [hcs] at hc)) <;> (try simp (config := { maxSteps := 1000000 }) only [go_sem, ↓reduceIte, reduceCtorEq, Nat.reduceEqDiff, Nat.reduceAdd, Nat.reduceMul, Nat.reduceSub, Nat.reduceLeDiff, Int.reduceLT, Int.reduceLE, Int.reduceEq, Int.reduceSub, Int.reduceAdd, Int.reduceMul, Int.reduceNeg, Int.reduceToNat, hp, fc]) <;> (try with_reducible rfl))
  all_goals try (first | omega | (simp only [n_i64, n_u8]; omega) | (simp only [n_i64, n_u8, lnA]; omega) | (simp only [lnA]; done) | exact List.take_of_length_le (by simp))
  all_goals trace_state
theorem spec_InsertPerm_n_c {m0 : Bool} (p : List Int) (hl : p.length ≤ 1048576) (hp : isPermB p = false) : Fun Tryd.prog 39 [(.sl (.lent m0) (List.map (PV.int .i64) (p)))] [(.dl (List.map (List.map (PV.int .i64)) (([] : List (List Int))))), (.dl (List.map (List.map (PV.int .i64)) (([] : List (List Int))))), (.bool (false))] := by
  refine Fun.of (sg := sgSi) (ts := [2, 3, 4]) mo Tryd.func39 rfl rfl rfl rfl (by kernel_rfl) (by simp only [go_sem]) rfl ?_
  have fc : True := trivial
  repeat' first
    | with_reducible first | refine stp ?_ | refine q_blk_o rfl ?_ | (refine hK _ ?_; clear hK) | (refine hA ?_; clear hA hB) | (refine hB ?_; clear hA hB) | exact v_end0 | exact v_end0' | refine v_gb1 ?_ ?_ | refine v_gb0 ?_ ?_ | refine And.intro ?_ ?_
    | (with_reducible refine p_ok ?_; decide)
    | ((first | with_reducible first | refine v_region rfl rfl (fun K hK => ?_) | refine v_draws rfl rfl (fun K hK => ?_) | refine v_if (fun A B hA hB => ?_) | refine v_end rfl ?_ | refine v_fin1 ?_ | refine v_finC1 ?_ | refine v_finR1 ?_ | refine v_callE (spec_IsPerm_c _ ?_) ?_ | refine v_callE (spec_l19Insert_c _ ?_) ?_ | refine v_finO1 rfl ?_ | refine v_finN1 rfl ?_ ?_ | refine v_apj ?_ (fun j' => ?_) | refine v_stz ?_ ?_ ?_ ?_ ?_ | refine v_stq ?_ | refine v_cv1 ?_ ?_ ?_ | (intro hc; replace fc := And.intro hc fc; try simp only [hcs] at hc)) <;> (try simp (config := { maxSteps := 1000000 }) only [go_sem, ↓reduceIte, reduceCtorEq, Nat.reduceEqDiff, Nat.reduceAdd, Nat.reduceMul, Nat.reduceSub, Nat.reduceLeDiff, Int.reduceLT, Int.reduceLE, Int.reduceEq, Int.reduceSub, Int.reduceAdd, Int.reduceMul, Int.reduceNeg, Int.reduceToNat, hp, fc]) <;> (try with_reducible rfl))
  all_goals try (first | omega | (simp only [n_i64, n_u8]; omega) | (simp only [n_i64, n_u8, lnA]; omega) | (simp only [lnA]; done) | exact List.take_of_length_le (by simp))
  all_goals trace_state
def sgSz : FuncId → List Bool := fun f => if f = 4294967297 then [true, false, true] else []
theorem sgSz_eq {f : FuncId} : sgSz f = if f = 4294967297 then [true, false, true] else [] := _root_.id rfl
theorem wayE_sgSz : wayE sgSz = false := _root_.id rfl
theorem wayN_sgSz : wayN sgSz = true := _root_.id rfl
theorem wayS_sgSz : wayS sgSz = false := _root_.id rfl
theorem wayZ_sgSz : wayZ sgSz = true := _root_.id rfl
attribute [go_sem] sgSz_eq wayE_sgSz wayN_sgSz wayS_sgSz wayZ_sgSz
theorem impl_InsertPerm_n_c {m0 : Bool} (p : List Int) (hl : p.length ≤ 1048576) (hp : isPermB p = false) : Fun Tryd.prog 41 [(.sl (.lent m0) (List.map (PV.int .i64) (p)))] [(.dl (List.map (List.map (PV.int .i64)) (([] : List (List Int))))), (.dl (List.map (List.map (PV.int .i64)) (([] : List (List Int))))), (.bool (false))] := by
  refine Fun.of (sg := sgSz) (ts := [2, 3, 4]) mo Tryd.func41 rfl rfl rfl rfl (by kernel_rfl) (by simp only [go_sem]) rfl ?_
  have fc : True := trivial
  repeat' first
    | with_reducible first | refine stp ?_ | refine q_blk_o rfl ?_ | (refine hK _ ?_; clear hK) | (refine hA ?_; clear hA hB) | (refine hB ?_; clear hA hB) | exact v_end0 | exact v_end0' | refine v_gb1 ?_ ?_ | refine v_gb0 ?_ ?_ | refine And.intro ?_ ?_
    | (with_reducible refine hK _ _ ?_ ?_; focus (first | exact clearAll_quiet rfl | (refine clearAll_of [false, false, false, false, false, false, false, false, false, false, false, false, false, false, true, true] [] rfl (by decide +kernel) ?_; try simp only [go_sem, ↓reduceIte, reduceCtorEq, Nat.reduceEqDiff, Nat.reduceAdd, Nat.reduceMul, Nat.reduceSub, Nat.reduceLeDiff, Int.reduceLT, Int.reduceLE, Int.reduceEq, Int.reduceSub, Int.reduceAdd, Int.reduceMul, Int.reduceNeg, Int.reduceToNat, hp]) | (refine clearAll_of [false, false, false, false, false, false, false, false, false, true, true, false, false, false, false, false, false, true, true, false, true, false, true] [(0, 9), (1, 9), (2, 9), (3, 9), (4, 9), (5, 9), (6, 9), (7, 9), (0, 10), (1, 10), (2, 10), (3, 10), (9, 11), (10, 11), (9, 12), (10, 12), (9, 13), (10, 13), (9, 14), (10, 14), (9, 15), (10, 15), (9, 16), (10, 16), (0, 17), (1, 17), (2, 17), (3, 17), (4, 17), (5, 17), (6, 17), (7, 17), (8, 17), (9, 17), (10, 17), (11, 17), (12, 17), (13, 17), (14, 17), (0, 18), (1, 18), (2, 18), (3, 18), (2, 20), (3, 20)] rfl (by decide +kernel) ?_; try simp only [go_sem, ↓reduceIte, reduceCtorEq, Nat.reduceEqDiff, Nat.reduceAdd, Nat.reduceMul, Nat.reduceSub, Nat.reduceLeDiff, Int.reduceLT, Int.reduceLE, Int.reduceEq, Int.reduceSub, Int.reduceAdd, Int.reduceMul, Int.reduceNeg, Int.reduceToNat, hp])); all_goals (try clear hK))
    | (with_reducible refine p_ok ?_; decide)
    | ((first | with_reducible first | refine v_region rfl rfl (fun K hK => ?_) | refine v_draws rfl rfl (fun K hK => ?_) | refine v_if (fun A B hA hB => ?_) | refine v_end rfl ?_ | refine v_fin1 ?_ | refine v_finC1 ?_ | refine v_finR1 ?_ | refine v_callE (impl_IsPerm_c _ ?_) ?_ | refine v_callE (slices_IndexFunc_int_int_c _ _ _ _ ?_ ?_) ?_ | refine v_finO1 rfl ?_ | refine v_finN1 rfl ?_ ?_ | refine v_apj ?_ (fun j' => ?_) | refine v_stz ?_ ?_ ?_ ?_ ?_ | refine v_stq ?_ | refine v_cv1 ?_ ?_ ?_ | (intro hc; replace fc := And.intro hc fc; try simp only [hcs] at hc)) <;> (try simp (config := { maxSteps := 1000000 }) only [go_sem, ↓reduceIte, reduceCtorEq, Nat.reduceEqDiff, Nat.reduceAdd, Nat.reduceMul, Nat.reduceSub, Nat.reduceLeDiff, Int.reduceLT, Int.reduceLE, Int.reduceEq, Int.reduceSub, Int.reduceAdd, Int.reduceMul, Int.reduceNeg, Int.reduceToNat, hp, fc]) <;> (try with_reducible rfl))
  all_goals try (first | omega | (simp only [n_i64, n_u8]; omega) | (simp only [n_i64, n_u8, lnA]; omega) | (simp only [lnA]; done) | exact List.take_of_length_le (by simp))
  all_goals trace_state
def itT (p : List Int) : List UInt8 := if isPermB p then (tabT (insT p p.length).1 ++ [32]) ++ tabT (insT p p.length).2 else []
theorem spec_InsertionText_c {m0 : Bool} (p : List Int) (hl : p.length ≤ 1048576) : Fun Tryd.prog 11 [(.sl (.lent m0) (List.map (PV.int .i64) (p)))] [(.str (itT p))] := by
  by_cases hp : isPermB p = true
  · obtain ⟨a1, a2, a3, a4, a5, a6, a7, a8⟩ := insT_all hp
    have g1 : ∀ l ∈ (insT p p.length).1, ∀ x ∈ l, -9223372036854775808 ≤ x ∧ x ≤ 9223372036854775807 := fun l hl x hx => by have := a7 l hl x hx; omega
    have g2 : ∀ l ∈ (insT p p.length).2, ∀ x ∈ l, -9223372036854775808 ≤ x ∧ x ≤ 9223372036854775807 := fun l hl x hx => by have := a8 l hl x hx; omega
    have t1 := tabT_len g1
    have t2 := tabT_len g2
    have g3 : ∀ l ∈ (insT p p.length).1, l.length ≤ 1048576 := fun l hl => by have := a3 l hl; omega
    have g4 : ∀ l ∈ (insT p p.length).2, l.length ≤ 1048576 := fun l hl => by have := a4 l hl; omega
    have c2 := fun m : Bool => spec_InsertPerm_c (m0 := m) p hl hp
    rw [itT, if_pos hp]
    refine Fun.of (sg := sg0) (ts := [2]) mo Tryd.func11 rfl rfl rfl rfl (by kernel_rfl) (by simp only [go_sem]) rfl ?_
    have fc : True := trivial
    repeat' first
      | with_reducible first | refine stp ?_ | refine q_blk_o rfl ?_ | (refine hK _ ?_; clear hK) | (refine hA ?_; clear hA hB) | (refine hB ?_; clear hA hB) | exact v_end0 | exact v_end0' | refine v_gb1 ?_ ?_ | refine v_gb0 ?_ ?_ | refine And.intro ?_ ?_
      | (with_reducible refine p_ok ?_; decide)
      | ((first | with_reducible first | refine v_region rfl rfl (fun K hK => ?_) | refine v_draws rfl rfl (fun K hK => ?_) | refine v_if (fun A B hA hB => ?_) | refine v_end rfl ?_ | refine v_fin1 ?_ | refine v_finC1 ?_ | refine v_finR1 ?_ | refine v_callE (c2 _) ?_ | refine v_callE (spec_TableauText_c _ ?_ ?_ ?_ ?_) ?_ | refine v_finO1 rfl ?_ | refine v_finN1 rfl ?_ ?_ | refine v_apj ?_ (fun j' => ?_) | refine v_stz ?_ ?_ ?_ ?_ ?_ | refine v_stq ?_ | refine v_cv1 ?_ ?_ ?_ | (intro hc; replace fc := And.intro hc fc; try simp only [hcs] at hc)) <;> (try simp (config := { maxSteps := 1000000 }) only [go_sem, ↓reduceIte, reduceCtorEq, Nat.reduceEqDiff, Nat.reduceAdd, Nat.reduceMul, Nat.reduceSub, Nat.reduceLeDiff, Int.reduceLT, Int.reduceLE, Int.reduceEq, Int.reduceSub, Int.reduceAdd, Int.reduceMul, Int.reduceNeg, Int.reduceToNat, fc]) <;> (try with_reducible rfl))
    all_goals try (first | omega | (simp only [n_i64, n_u8]; omega) | (simp only [n_i64, n_u8, lnA]; omega) | (simp only [lnA]; done) | exact List.take_of_length_le (by simp))
    all_goals first | exact g1 | exact g2 | exact g3 | exact g4 | trace_state
  · rw [Bool.not_eq_true] at hp
    have c2 := fun m : Bool => spec_InsertPerm_n_c (m0 := m) p hl hp
    rw [itT, hp]
    refine Fun.of (sg := sg0) (ts := [2]) mo Tryd.func11 rfl rfl rfl rfl (by kernel_rfl) (by simp only [go_sem]) rfl ?_
    have fc : True := trivial
    repeat' first
      | with_reducible first | refine stp ?_ | refine q_blk_o rfl ?_ | (refine hK _ ?_; clear hK) | (refine hA ?_; clear hA hB) | (refine hB ?_; clear hA hB) | exact v_end0 | exact v_end0' | refine v_gb1 ?_ ?_ | refine v_gb0 ?_ ?_ | refine And.intro ?_ ?_
      | (with_reducible refine p_ok ?_; decide)
      | ((first | with_reducible first | refine v_region rfl rfl (fun K hK => ?_) | refine v_draws rfl rfl (fun K hK => ?_) | refine v_if (fun A B hA hB => ?_) | refine v_end rfl ?_ | refine v_fin1 ?_ | refine v_finC1 ?_ | refine v_finR1 ?_ | refine v_callE (c2 _) ?_ | refine v_callE (spec_TableauText_c _ ?_ ?_ ?_ ?_) ?_ | refine v_finO1 rfl ?_ | refine v_finN1 rfl ?_ ?_ | refine v_apj ?_ (fun j' => ?_) | refine v_stz ?_ ?_ ?_ ?_ ?_ | refine v_stq ?_ | refine v_cv1 ?_ ?_ ?_ | (intro hc; replace fc := And.intro hc fc; try simp only [hcs] at hc)) <;> (try simp (config := { maxSteps := 1000000 }) only [go_sem, ↓reduceIte, reduceCtorEq, Nat.reduceEqDiff, Nat.reduceAdd, Nat.reduceMul, Nat.reduceSub, Nat.reduceLeDiff, Int.reduceLT, Int.reduceLE, Int.reduceEq, Int.reduceSub, Int.reduceAdd, Int.reduceMul, Int.reduceNeg, Int.reduceToNat, fc]) <;> (try with_reducible rfl))
    all_goals try (first | omega | (simp only [n_i64, n_u8]; omega) | (simp only [n_i64, n_u8, lnA]; omega) | (simp only [lnA]; done) | exact List.take_of_length_le (by simp))
    all_goals trace_state
theorem impl_InsertionText_c {m0 : Bool} (p : List Int) (hl : p.length ≤ 1048576) : Fun Tryd.prog 13 [(.sl (.lent m0) (List.map (PV.int .i64) (p)))] [(.str (itT p))] := by
  by_cases hp : isPermB p = true
  · obtain ⟨a1, a2, a3, a4, a5, a6, a7, a8⟩ := insT_all hp
    have g1 : ∀ l ∈ (insT p p.length).1, ∀ x ∈ l, -9223372036854775808 ≤ x ∧ x ≤ 9223372036854775807 := fun l hl x hx => by have := a7 l hl x hx; omega
    have g2 : ∀ l ∈ (insT p p.length).2, ∀ x ∈ l, -9223372036854775808 ≤ x ∧ x ≤ 9223372036854775807 := fun l hl x hx => by have := a8 l hl x hx; omega
    have t1 := tabT_len g1
    have t2 := tabT_len g2
    have g3 : ∀ l ∈ (insT p p.length).1, l.length ≤ 1048576 := fun l hl => by have := a3 l hl; omega
    have g4 : ∀ l ∈ (insT p p.length).2, l.length ≤ 1048576 := fun l hl => by have := a4 l hl; omega
    have c2 := fun m : Bool => impl_InsertPerm_c (m0 := m) p hl hp
    rw [itT, if_pos hp]
    refine Fun.of (sg := sg0) (ts := [2]) mo Tryd.func13 rfl rfl rfl rfl (by kernel_rfl) (by simp only [go_sem]) rfl ?_
    have fc : True := trivial
    repeat' first
      | with_reducible first | refine stp ?_ | refine q_blk_o rfl ?_ | (refine hK _ ?_; clear hK) | (refine hA ?_; clear hA hB) | (refine hB ?_; clear hA hB) | exact v_end0 | exact v_end0' | refine v_gb1 ?_ ?_ | refine v_gb0 ?_ ?_ | refine And.intro ?_ ?_
      | (with_reducible refine p_ok ?_; decide)
      | ((first | with_reducible first | refine v_region rfl rfl (fun K hK => ?_) | refine v_draws rfl rfl (fun K hK => ?_) | refine v_if (fun A B hA hB => ?_) | refine v_end rfl ?_ | refine v_fin1 ?_ | refine v_finC1 ?_ | refine v_finR1 ?_ | refine v_callE (c2 _) ?_ | refine v_callE (impl_TableauText_c _ ?_ ?_ ?_ ?_) ?_ | refine v_finO1 rfl ?_ | refine v_finN1 rfl ?_ ?_ | refine v_apj ?_ (fun j' => ?_) | refine v_stz ?_ ?_ ?_ ?_ ?_ | refine v_stq ?_ | refine v_cv1 ?_ ?_ ?_ | (intro hc; replace fc := And.intro hc fc; try simp only [hcs] at hc)) <;> (try simp (config := { maxSteps := 1000000 }) only [go_sem, ↓reduceIte, reduceCtorEq, Nat.reduceEqDiff, Nat.reduceAdd, Nat.reduceMul, Nat.reduceSub, Nat.reduceLeDiff, Int.reduceLT, Int.reduceLE, Int.reduceEq, Int.reduceSub, Int.reduceAdd, Int.reduceMul, Int.reduceNeg, Int.reduceToNat, fc]) <;> (try with_reducible rfl))
    all_goals try (first | omega | (simp only [n_i64, n_u8]; omega) | (simp only [n_i64, n_u8, lnA]; omega) | (simp only [lnA]; done) | exact List.take_of_length_le (by simp))
    all_goals first | exact g1 | exact g2 | exact g3 | exact g4 | trace_state
  · rw [Bool.not_eq_true] at hp
    have c2 := fun m : Bool => impl_InsertPerm_n_c (m0 := m) p hl hp
    rw [itT, hp]
    refine Fun.of (sg := sg0) (ts := [2]) mo Tryd.func13 rfl rfl rfl rfl (by kernel_rfl) (by simp only [go_sem]) rfl ?_
    have fc : True := trivial
    repeat' first
      | with_reducible first | refine stp ?_ | refine q_blk_o rfl ?_ | (refine hK _ ?_; clear hK) | (refine hA ?_; clear hA hB) | (refine hB ?_; clear hA hB) | exact v_end0 | exact v_end0' | refine v_gb1 ?_ ?_ | refine v_gb0 ?_ ?_ | refine And.intro ?_ ?_
      | (with_reducible refine p_ok ?_; decide)
      | ((first | with_reducible first | refine v_region rfl rfl (fun K hK => ?_) | refine v_draws rfl rfl (fun K hK => ?_) | refine v_if (fun A B hA hB => ?_) | refine v_end rfl ?_ | refine v_fin1 ?_ | refine v_finC1 ?_ | refine v_finR1 ?_ | refine v_callE (c2 _) ?_ | refine v_callE (impl_TableauText_c _ ?_ ?_ ?_ ?_) ?_ | refine v_finO1 rfl ?_ | refine v_finN1 rfl ?_ ?_ | refine v_apj ?_ (fun j' => ?_) | refine v_stz ?_ ?_ ?_ ?_ ?_ | refine v_stq ?_ | refine v_cv1 ?_ ?_ ?_ | (intro hc; replace fc := And.intro hc fc; try simp only [hcs] at hc)) <;> (try simp (config := { maxSteps := 1000000 }) only [go_sem, ↓reduceIte, reduceCtorEq, Nat.reduceEqDiff, Nat.reduceAdd, Nat.reduceMul, Nat.reduceSub, Nat.reduceLeDiff, Int.reduceLT, Int.reduceLE, Int.reduceEq, Int.reduceSub, Int.reduceAdd, Int.reduceMul, Int.reduceNeg, Int.reduceToNat, fc]) <;> (try with_reducible rfl))
    all_goals try (first | omega | (simp only [n_i64, n_u8]; omega) | (simp only [n_i64, n_u8, lnA]; omega) | (simp only [lnA]; done) | exact List.take_of_length_le (by simp))
    all_goals trace_state
omit [TabA] in
theorem ssE {a : List UInt8} : decide (a = a) = true := by simp
theorem laws_FnExactInsertionText_c (p : List Int) : Fun Tryd.prog 4 [(.sl (.lent true) (List.map (PV.int .i64) (p)))] [(.bool (true))] := by
  by_cases hs : p.length ≤ 1048576
  · refine Fun.of (sg := sg0) (ts := [2]) mo Tryd.func4 rfl rfl rfl rfl (by kernel_rfl) (by simp only [go_sem]) rfl ?_
    have fc : True := trivial
    repeat' first
      | with_reducible first | refine stp ?_ | refine q_blk_o rfl ?_ | (refine hK _ ?_; clear hK) | (refine hA ?_; clear hA hB) | (refine hB ?_; clear hA hB) | exact v_end0 | exact v_end0' | refine v_gb1 ?_ ?_ | refine v_gb0 ?_ ?_ | refine And.intro ?_ ?_
      | (with_reducible refine p_ok ?_; decide)
      | ((first | with_reducible first | refine v_region rfl rfl (fun K hK => ?_) | refine v_draws rfl rfl (fun K hK => ?_) | refine v_if (fun A B hA hB => ?_) | refine v_end rfl ?_ | refine v_fin1 ?_ | refine v_finC1 ?_ | refine v_finR1 ?_ | refine v_callE (laws_toIntS_c _ ?_) ?_ | refine v_callE (spec_InsertionText_c _ ?_) ?_ | refine v_callE (impl_InsertionText_c _ ?_) ?_ | refine v_callE (laws_eqIntS_c _ _ ?_ ?_) ?_ | refine v_finO1 rfl ?_ | refine v_finN1 rfl ?_ ?_ | refine v_apj ?_ (fun j' => ?_) | refine v_stz ?_ ?_ ?_ ?_ ?_ | refine v_stq ?_ | refine v_cv1 ?_ ?_ ?_ | (intro hc; replace fc := And.intro hc fc; try simp only [hcs] at hc)) <;> (try simp (config := { maxSteps := 1000000 }) only [go_sem, ↓reduceIte, reduceCtorEq, Nat.reduceEqDiff, Nat.reduceAdd, Nat.reduceMul, Nat.reduceSub, Nat.reduceLeDiff, Int.reduceLT, Int.reduceLE, Int.reduceEq, Int.reduceSub, Int.reduceAdd, Int.reduceMul, Int.reduceNeg, Int.reduceToNat, ssE, fc]) <;> (try with_reducible rfl))
    all_goals try (first | omega | (simp only [n_i64, n_u8]; omega) | (simp only [n_i64, n_u8, lnA]; omega) | (simp only [lnA]; done) | exact List.take_of_length_le (by simp))
    all_goals first | omega | (simp at hc; done) | trace_state
  · refine Fun.of (sg := sg0) (ts := [2]) mo Tryd.func4 rfl rfl rfl rfl (by kernel_rfl) (by simp only [go_sem]) rfl ?_
    have c1 : decide ((1048576 : Int) < p.length) = true := decide_eq_true (by omega)
    have fc : True := trivial
    repeat' first
      | with_reducible first | refine stp ?_ | refine q_blk_o rfl ?_ | (refine hK _ ?_; clear hK) | (refine hA ?_; clear hA hB) | (refine hB ?_; clear hA hB) | exact v_end0 | exact v_end0' | refine v_gb1 ?_ ?_ | refine v_gb0 ?_ ?_ | refine And.intro ?_ ?_
      | (with_reducible refine p_ok ?_; decide)
      | ((first | with_reducible first | refine v_region rfl rfl (fun K hK => ?_) | refine v_draws rfl rfl (fun K hK => ?_) | refine v_if (fun A B hA hB => ?_) | refine v_end rfl ?_ | refine v_fin1 ?_ | refine v_finC1 ?_ | refine v_finR1 ?_ | refine v_callE (laws_toIntS_c _ ?_) ?_ | refine v_callE (spec_InsertionText_c _ ?_) ?_ | refine v_callE (impl_InsertionText_c _ ?_) ?_ | refine v_callE (laws_eqIntS_c _ _ ?_ ?_) ?_ | refine v_finO1 rfl ?_ | refine v_finN1 rfl ?_ ?_ | refine v_apj ?_ (fun j' => ?_) | refine v_stz ?_ ?_ ?_ ?_ ?_ | refine v_stq ?_ | refine v_cv1 ?_ ?_ ?_ | (intro hc; replace fc := And.intro hc fc; try simp only [hcs] at hc)) <;> (try simp (config := { maxSteps := 1000000 }) only [go_sem, ↓reduceIte, reduceCtorEq, Nat.reduceEqDiff, Nat.reduceAdd, Nat.reduceMul, Nat.reduceSub, Nat.reduceLeDiff, Int.reduceLT, Int.reduceLE, Int.reduceEq, Int.reduceSub, Int.reduceAdd, Int.reduceMul, Int.reduceNeg, Int.reduceToNat, c1, fc]) <;> (try with_reducible rfl))
end Go.Gl
