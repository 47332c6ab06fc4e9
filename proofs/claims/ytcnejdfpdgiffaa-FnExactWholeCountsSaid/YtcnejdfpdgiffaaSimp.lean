/-
  Simple permutations of a length: what their functions compute. Conditions: none.
-/
import Derived.Test.YtcnejdfpdgiffaaIvl
import Derived.Test.YtcnejdfpdgiffaaPerms
import Derived.Test.YtcnejdfpdgiffaaLibL
import Derived.Test.YtcnejdfpdgiffaaLaw2
set_option linter.unusedSimpArgs false
set_option linter.unusedVariables false
set_option maxRecDepth 20000
namespace Go.Gl
open Go Go.Proofs

theorem permGo_iff {n : Int} : ∀ {p seen : List Int}, permGo n seen p = true ↔ (∀ v ∈ p, 1 ≤ v ∧ v ≤ n) ∧ p.Nodup ∧ ∀ v ∈ p, v ∉ seen
  | [], seen => by simp [permGo]
  | v :: p, seen => by
    rw [permGo, Bool.and_eq_true, permGo_iff]
    simp only [Bool.and_eq_true, decide_eq_true_eq, Bool.not_eq_true', List.nodup_cons, List.mem_append, List.mem_singleton]
    constructor
    · rintro ⟨⟨⟨h1, h2⟩, h3⟩, h4, h5, h6⟩
      have h3' : v ∉ seen := fun h => by rw [← List.contains_iff_mem] at h; rw [h] at h3; cases h3
      refine ⟨fun x hx => ?_, ⟨fun hv => h6 v hv (.inr rfl), h5⟩, fun x hx => ?_⟩
      · rcases List.mem_cons.1 hx with rfl | hx
        · exact ⟨h1, h2⟩
        · exact h4 x hx
      · rcases List.mem_cons.1 hx with rfl | hx
        · exact h3'
        · exact fun hs => h6 x hx (.inl hs)
    · rintro ⟨h1, ⟨h2, h3⟩, h4⟩
      have h5 := h1 v (by simp)
      refine ⟨⟨⟨h5.1, h5.2⟩, ?_⟩, fun x hx => h1 x (by simp [hx]), h3, fun x hx => ?_⟩
      · rw [← Bool.not_eq_true, List.contains_iff_mem]; exact h4 v (by simp)
      · rintro (hs | rfl)
        · exact h4 x (by simp [hx]) hs
        · exact h2 hx
theorem permB_iff {p : List Int} : permB p = true ↔ (∀ v ∈ p, 1 ≤ v ∧ v ≤ p.length) ∧ p.Nodup := by
  rw [permB, permGo_iff]; simp
theorem lackL_mem {p : List Int} {n : Nat} {v : Int} (h : v ∈ lackL p n) : 1 ≤ v ∧ v ≤ n ∧ v ∉ p := by
  simp only [lackL, List.mem_filter, List.mem_map, List.mem_range, Bool.not_eq_true'] at h
  obtain ⟨⟨i, hi, rfl⟩, h2⟩ := h
  refine ⟨by omega, by omega, fun hm => ?_⟩
  rw [← List.contains_iff_mem, h2] at hm; cases hm
theorem lvl_ok {n : Nat} : ∀ {k : Nat} {L : List (List Int)}, (∀ l ∈ L, (∀ v ∈ l, 1 ≤ v ∧ v ≤ (n : Int)) ∧ l.Nodup) → ∀ l ∈ lvl n k L, (∀ v ∈ l, 1 ≤ v ∧ v ≤ (n : Int)) ∧ l.Nodup
  | 0, L, h, l, hl => h l hl
  | k + 1, L, h, l, hl => by
    rw [lvl] at hl
    refine lvl_ok (fun q hq => ?_) l hl
    simp only [List.mem_flatMap, extL, List.mem_map] at hq
    obtain ⟨p, hp, v, hv, rfl⟩ := hq
    obtain ⟨h1, h2⟩ := h p hp
    obtain ⟨g1, g2, g3⟩ := lackL_mem hv
    refine ⟨fun x hx => ?_, ?_⟩
    · rcases List.mem_append.1 hx with hx | hx
      · exact h1 x hx
      · simp at hx; subst hx; exact ⟨g1, g2⟩
    · rw [List.nodup_append]
      refine ⟨h2, by simp, fun a ha b hb e => ?_⟩
      simp at hb; subst hb; subst e; exact g3 ha
theorem permL_perm {n : Nat} {l : List Int} (h : l ∈ permL n) : permB l = true := by
  have h1 := permL_row l h
  have h2 := lvl_ok (n := n) (L := [[]]) (k := n) (by simp) l h
  rw [permB_iff, h1]; exact h2
theorem permL_isPerm {n : Nat} (hn : n ≤ 8) {l : List Int} (h : l ∈ permL n) : isPermB l = true := by
  rw [isPermB, permL_perm h, permL_row l h, decide_eq_true hn]; rfl

theorem impl_simples_1_c {m0 : Bool} (p : List Int) (hl : p.length ≤ 8) (hb : ∀ x ∈ p, 0 ≤ x ∧ x ≤ 1048576) : Fun Try.prog 121 [(.sl (.lent m0) (List.map (PV.int .i64) (p)))] [(.bool (!isSimB p))] := by
  refine Fun.of (sg := sg0) (ts := [2]) mo Try.func121 rfl rfl rfl rfl (by kernel_rfl) (by simp only [go_sem]) rfl ?_
  have fc : True := trivial
  repeat' first
    | with_reducible first | refine stp ?_ | refine q_blk_o rfl ?_ | (refine hK _ ?_; clear hK) | (refine hA ?_; clear hA hB) | (refine hB ?_; clear hA hB) | exact v_end0 | exact v_end0' | refine v_gb1 ?_ ?_ | refine v_gb0 ?_ ?_ | refine And.intro ?_ ?_
    | (with_reducible refine p_ok ?_; decide)
    | ((first | with_reducible first | refine v_region rfl rfl (fun K hK => ?_) | refine v_draws rfl rfl (fun K hK => ?_) | refine v_if (fun A B hA hB => ?_) | refine v_end rfl ?_ | refine v_fin1 ?_ | refine v_finC1 ?_ | refine v_callE (impl_isSimple_c _ ?_ ?_) ?_ | refine v_finO1 rfl ?_ | refine v_finN1 rfl ?_ ?_ | refine v_apj ?_ (fun j' => ?_) | refine v_stz ?_ ?_ ?_ ?_ ?_ | refine v_stq ?_ | refine v_cv1 ?_ ?_ ?_ | (intro hc; replace fc := And.intro hc fc; try simp only [hcs] at hc)) <;> (try simp (config := { maxSteps := 1000000 }) only [go_sem, ↓reduceIte, reduceCtorEq, Nat.reduceEqDiff, Nat.reduceAdd, Nat.reduceMul, Nat.reduceSub, Nat.reduceLeDiff, Int.reduceLT, Int.reduceLE, Int.reduceEq, Int.reduceSub, Int.reduceAdd, Int.reduceMul, Int.reduceNeg, Int.reduceToNat, fc]) <;> (try with_reducible rfl))
  all_goals try (first | omega | (simp only [n_i64, n_u8]; omega) | (simp only [n_i64, n_u8, lnA]; omega))
def sgDl : FuncId → List Bool := fun f => if f = 120 then [true] else []
theorem sgDl_eq {f : FuncId} : sgDl f = if f = 120 then [true] else [] := _root_.id rfl
theorem wayE_sgDl : wayE sgDl = false := _root_.id rfl
theorem wayN_sgDl : wayN sgDl = false := _root_.id rfl
theorem wayS_sgDl : wayS sgDl = false := _root_.id rfl
theorem wayZ_sgDl : wayZ sgDl = false := _root_.id rfl
attribute [go_sem] sgDl_eq wayE_sgDl wayN_sgDl wayS_sgDl wayZ_sgDl
theorem impl_simples_c (L : List (List Int)) (hl : L.length ≤ 1099511627776) (hp : ∀ x ∈ L, x.length ≤ 8 ∧ ∀ v ∈ x, 0 ≤ v ∧ v ≤ 1048576) :
    CallT Try.prog true 77 [.mu false [.dl (List.map (List.map (PV.int .i64)) L)]] [none] [.dl (List.map (List.map (PV.int .i64)) (L.filter isSimB))] := by
  have key := slices_DeleteFunc_LLint_int_c L 121 [] (fun x => !isSimB x) hl fun x hx => impl_simples_1_c x (hp x hx).1 (hp x hx).2
  simp only [Bool.not_not] at key
  refine CallT.of (sg := sgDl) (ts := [2]) mo Try.func77 rfl rfl rfl rfl (by kernel_rfl) (by simp only [go_sem]) rfl rfl ?_
  have fc : True := trivial
  repeat' first
    | with_reducible first | refine stp ?_ | refine q_blk_o rfl ?_ | (refine hK _ ?_; clear hK) | (refine hA ?_; clear hA hB) | (refine hB ?_; clear hA hB) | exact v_end0 | exact v_end0' | refine v_gb1 ?_ ?_ | refine v_gb0 ?_ ?_ | refine And.intro ?_ ?_
    | (with_reducible refine p_ok ?_; decide)
    | ((first | with_reducible first | refine v_region rfl rfl (fun K hK => ?_) | refine v_draws rfl rfl (fun K hK => ?_) | refine v_if (fun A B hA hB => ?_) | refine v_end rfl ?_ | refine v_fin1 ?_ | refine v_finC1 ?_ | refine v_callE (impl_simples_1_c _ ?_ ?_) ?_ | refine v_callN (key) rfl ?_ ?_ | refine v_callT (key) rfl ?_ ?_ | refine v_callTd (key) rfl ?_ ?_ | refine v_callR (key) rfl ?_ ?_ | refine v_callT3 (key) ?_ ?_ | refine v_callT4 (key) ?_ ?_ | refine v_finO1 rfl ?_ | refine v_finN1 rfl ?_ ?_ | refine v_finT1 rfl ?_ | refine v_apj ?_ (fun j' => ?_) | refine v_stz ?_ ?_ ?_ ?_ ?_ | refine v_stq ?_ | refine v_cv1 ?_ ?_ ?_ | (intro hc; replace fc := And.intro hc fc; try simp only [hcs] at hc)) <;> (try simp (config := { maxSteps := 1000000 }) only [go_sem, ↓reduceIte, reduceCtorEq, Nat.reduceEqDiff, Nat.reduceAdd, Nat.reduceMul, Nat.reduceSub, Nat.reduceLeDiff, Int.reduceLT, Int.reduceLE, Int.reduceEq, Int.reduceSub, Int.reduceAdd, Int.reduceMul, Int.reduceNeg, Int.reduceToNat, fc]) <;> (try with_reducible rfl))
  all_goals try (first | omega | (simp only [n_i64, n_u8]; omega) | (simp only [n_i64, n_u8, lnA]; omega))
def simsB (n : Int) : List (List Int) := if 1 ≤ n ∧ n ≤ 6 then (permL n.toNat).filter isSimB else []
theorem simsB_le {n : Int} : (simsB n).length ≤ 8 ^ 8 := by
  unfold simsB; split
  · exact Nat.le_trans (List.length_filter_le _ _) (permL_len (by omega))
  · simp
theorem simsB_row {n : Int} : ∀ l ∈ simsB n, l.length ≤ 6 := by
  unfold simsB; split
  · intro l hl
    have := permL_row l (List.mem_filter.1 hl).1
    omega
  · simp
def sgSm : FuncId → List Bool := fun f => if f = 77 then [true] else if f = 4294967297 then [true, false, true] else []
theorem sgSm_eq {f : FuncId} : sgSm f = if f = 77 then [true] else if f = 4294967297 then [true, false, true] else [] := _root_.id rfl
theorem wayE_sgSm : wayE sgSm = false := _root_.id rfl
theorem wayN_sgSm : wayN sgSm = true := _root_.id rfl
theorem wayS_sgSm : wayS sgSm = false := _root_.id rfl
theorem wayZ_sgSm : wayZ sgSm = true := _root_.id rfl
attribute [go_sem] sgSm_eq wayE_sgSm wayN_sgSm wayS_sgSm wayZ_sgSm
theorem impl_SimplesOf_c (n : Int) : Fun Try.prog 34 [(.int .i64 (n))] [(.dl (List.map (List.map (PV.int .i64)) (simsB n)))] := by
  by_cases hn : 1 ≤ n ∧ n ≤ 6
  · have e1 : simsB n = (permL n.toNat).filter isSimB := if_pos hn
    have hp : ∀ x ∈ permL n.toNat, x.length ≤ 8 ∧ ∀ v ∈ x, 0 ≤ v ∧ v ≤ 1048576 := fun x hx => ⟨by have := permL_row x hx; omega, perm_bd (permL_isPerm (by omega) hx)⟩
    have c1 := impl_perms_c n.toNat (by omega)
    rw [show ((n.toNat : Nat) : Int) = n by omega] at c1
    have b1 := permL_len (n := n.toNat) (by omega)
    rw [e1]
    refine Fun.of (sg := sgSm) (ts := [2]) mo Try.func34 rfl rfl rfl rfl (by kernel_rfl) (by simp only [go_sem]) rfl ?_
    have fc : True := trivial
    repeat' first
      | with_reducible first | refine stp ?_ | refine q_blk_o rfl ?_ | (refine hK _ ?_; clear hK) | (refine hA ?_; clear hA hB) | (refine hB ?_; clear hA hB) | exact v_end0 | exact v_end0' | refine v_gb1 ?_ ?_ | refine v_gb0 ?_ ?_ | refine And.intro ?_ ?_
      | (with_reducible refine p_ok ?_; decide)
      | ((first | with_reducible first | refine v_region rfl rfl (fun K hK => ?_) | refine v_draws rfl rfl (fun K hK => ?_) | refine v_if (fun A B hA hB => ?_) | refine v_end rfl ?_ | refine v_fin1 ?_ | refine v_finC1 ?_ | refine v_callE (c1) ?_ | refine v_callE (impl_perms_c _ ?_) ?_ | refine v_callN (impl_simples_c _ (by omega) hp) rfl ?_ ?_ | refine v_callT (impl_simples_c _ (by omega) hp) rfl ?_ ?_ | refine v_callTd (impl_simples_c _ (by omega) hp) rfl ?_ ?_ | refine v_callR (impl_simples_c _ (by omega) hp) rfl ?_ ?_ | refine v_callT3 (impl_simples_c _ (by omega) hp) ?_ ?_ | refine v_callT4 (impl_simples_c _ (by omega) hp) ?_ ?_ | refine v_finO1 rfl ?_ | refine v_finN1 rfl ?_ ?_ | refine v_apj ?_ (fun j' => ?_) | refine v_stz ?_ ?_ ?_ ?_ ?_ | refine v_stq ?_ | refine v_cv1 ?_ ?_ ?_ | (intro hc; replace fc := And.intro hc fc; try simp only [hcs] at hc)) <;> (try simp (config := { maxSteps := 1000000 }) only [go_sem, ↓reduceIte, reduceCtorEq, Nat.reduceEqDiff, Nat.reduceAdd, Nat.reduceMul, Nat.reduceSub, Nat.reduceLeDiff, Int.reduceLT, Int.reduceLE, Int.reduceEq, Int.reduceSub, Int.reduceAdd, Int.reduceMul, Int.reduceNeg, Int.reduceToNat, fc]) <;> (try with_reducible rfl))
    all_goals try (first | omega | (simp only [n_i64, n_u8]; omega) | (simp only [n_i64, n_u8, lnA]; omega))
  · have e1 : simsB n = [] := if_neg hn
    rw [e1]
    refine Fun.of (sg := sgSm) (ts := [2]) mo Try.func34 rfl rfl rfl rfl (by kernel_rfl) (by simp only [go_sem]) rfl ?_
    have fc : True := trivial
    repeat' first
      | with_reducible first | refine stp ?_ | refine q_blk_o rfl ?_ | (refine hK _ ?_; clear hK) | (refine hA ?_; clear hA hB) | (refine hB ?_; clear hA hB) | exact v_end0 | exact v_end0' | refine v_gb1 ?_ ?_ | refine v_gb0 ?_ ?_ | refine And.intro ?_ ?_
      | (with_reducible refine p_ok ?_; decide)
      | ((first | with_reducible first | refine v_region rfl rfl (fun K hK => ?_) | refine v_draws rfl rfl (fun K hK => ?_) | refine v_if (fun A B hA hB => ?_) | refine v_end rfl ?_ | refine v_fin1 ?_ | refine v_finC1 ?_ | refine v_callE (impl_perms_c _ ?_) ?_ | refine v_finO1 rfl ?_ | refine v_finN1 rfl ?_ ?_ | refine v_apj ?_ (fun j' => ?_) | refine v_stz ?_ ?_ ?_ ?_ ?_ | refine v_stq ?_ | refine v_cv1 ?_ ?_ ?_ | (intro hc; replace fc := And.intro hc fc; try simp only [hcs] at hc)) <;> (try simp (config := { maxSteps := 1000000 }) only [go_sem, ↓reduceIte, reduceCtorEq, Nat.reduceEqDiff, Nat.reduceAdd, Nat.reduceMul, Nat.reduceSub, Nat.reduceLeDiff, Int.reduceLT, Int.reduceLE, Int.reduceEq, Int.reduceSub, Int.reduceAdd, Int.reduceMul, Int.reduceNeg, Int.reduceToNat, fc]) <;> (try with_reducible rfl))
    all_goals try (first | omega | (simp only [n_i64, n_u8]; omega) | (simp only [n_i64, n_u8, lnA]; omega))
theorem spec_SimplesOf_c (n : Int) : Fun Try.prog 33 [(.int .i64 (n))] [(.sl .own (List.map (elI false) (simsB n)))] := by
  by_cases hn : 1 ≤ n ∧ n ≤ 6
  · have e1 : simsB n = (permL n.toNat).filter isSimB := if_pos hn
    have e2 : permsB n = permL n.toNat := if_pos (by omega)
    have hr : ∀ k, k < (permL n.toNat).length → isPermB ((permL n.toNat).getD k []) = true := fun k hk => permL_isPerm (by omega) (getD_mem hk)
    have b1 := permL_len (n := n.toNat) (by omega)
    rw [e1]
    refine Fun.of (sg := sg0) (ts := [2]) mo Try.func33 rfl rfl rfl rfl (by kernel_rfl) (by simp only [go_sem]) rfl ?_
    have fc : True := trivial
    repeat' first
      | with_reducible first | refine stp ?_ | refine q_blk_o rfl ?_ | (refine hK _ ?_; clear hK) | (refine hA ?_; clear hA hB) | (refine hB ?_; clear hA hB) | exact v_end0 | exact v_end0' | refine v_gb1 ?_ ?_ | refine v_gb0 ?_ ?_ | refine And.intro ?_ ?_
      | (with_reducible refine p_ok ?_; decide)
      | ((first | with_reducible first | refine v_region rfl rfl (fun K hK => ?_) | refine v_draws rfl rfl (fun K hK => ?_) | refine v_if (fun A B hA hB => ?_) | refine v_end rfl ?_ | refine v_fin1 ?_ | refine v_finC1 ?_ | refine v_callE (spec_l1In_c _ _ _) ?_ | refine v_callE (spec_PermsOf_c _) ?_ | refine v_callE (spec_IsSimple_c _ ?_) ?_ | refine v_finO1 rfl ?_ | refine v_finN1 rfl ?_ ?_ | refine v_apj ?_ (fun j' => ?_) | refine v_stz ?_ ?_ ?_ ?_ ?_ | refine v_stq ?_ | refine v_cv1 ?_ ?_ ?_ | (intro hc; replace fc := And.intro hc fc; try simp only [hcs] at hc)) <;> (try simp (config := { maxSteps := 1000000 }) only [go_sem, ↓reduceIte, reduceCtorEq, Nat.reduceEqDiff, Nat.reduceAdd, Nat.reduceMul, Nat.reduceSub, Nat.reduceLeDiff, Int.reduceLT, Int.reduceLE, Int.reduceEq, Int.reduceSub, Int.reduceAdd, Int.reduceMul, Int.reduceNeg, Int.reduceToNat, e2, fc]) <;> (try with_reducible rfl))
    all_goals try (first | omega | (simp only [n_i64, n_u8]; omega) | (simp only [n_i64, n_u8, lnA]; omega))
    refine v_loop (fun ms1 S1 => ∃ (k : Nat), OwnL (S1.e 4) S1.h S1.n (elI false) ((permL n.toNat).length) (permL n.toNat) ∧ OwnL (S1.e 3) S1.h S1.n (elI false) ((((permL n.toNat).take k).filter isSimB).length) (((permL n.toNat).take k).filter isSimB) ∧ S1.e 5 = .p (.int .i64 (k)) ∧ (k ≤ (permL n.toNat).length) ∧ NId (S1.e 3) (S1.e 4) ∧ ms1 = (permL n.toNat).length - k) ((fun (k : Nat) => (permL n.toNat).length - k) (0)) ?init1_0 ?body1_0
    case' init1_0 =>
      refine ⟨0, ?_, ?_, ?_, ?_, ?_, rfl⟩
      all_goals (try simp only [go_sem, ↓reduceIte, reduceCtorEq, Nat.reduceEqDiff, Nat.reduceAdd, Nat.reduceMul, Nat.reduceSub, Nat.reduceLeDiff, Int.reduceLT, Int.reduceLE, Int.reduceEq, Int.reduceSub, Int.reduceAdd, Int.reduceMul, Int.reduceNeg, Int.reduceToNat])
      repeat' refine And.intro ?_ ?_
      all_goals try first | rfl | omega | (simp only [lnA] <;> omega) | ((first | refine stp ?_ | refine dkz_eq ?_ ?_) <;> first | rfl | omega | (simp only [lnA] <;> omega) | (simp only [lnA, List.append_assoc, List.cons_append, List.nil_append]; done) | skip)
    case' body1_0 =>
      rintro ms1 S1 ⟨k, o1_4, o1_3, h1_5, c1_0, u1_0, hm1⟩
      obtain ⟨i1_4, h1_4, b1_4, l1_4⟩ := o1_4.out
      obtain ⟨i1_3, h1_3, b1_3, l1_3⟩ := o1_3.out
      have k1_0 := (u1_0).out h1_3 h1_4
      have ni1_4 : ∀ c, (i1_4 = S1.n + c) = False := fun c => eq_false (by omega)
      have pi1_4 : ∀ c, (S1.n + c = i1_4) = False := fun c => eq_false (by omega)
      have qi1_4 : (i1_4 = S1.n) = False := eq_false (by omega)
      have ri1_4 : (S1.n = i1_4) = False := eq_false (by omega)
      have ni1_3 : ∀ c, (i1_3 = S1.n + c) = False := fun c => eq_false (by omega)
      have pi1_3 : ∀ c, (S1.n + c = i1_3) = False := fun c => eq_false (by omega)
      have qi1_3 : (i1_3 = S1.n) = False := eq_false (by omega)
      have ri1_3 : (S1.n = i1_3) = False := eq_false (by omega)
      have di1_4i1_3 : (i1_4 = i1_3) = False := eq_false (by omega)
      have di1_3i1_4 : (i1_3 = i1_4) = False := eq_false (by omega)
    have b2 : (((permL n.toNat).take k).filter isSimB).length ≤ 8 ^ 8 := Nat.le_trans (List.length_filter_le _ _) (by rw [List.length_take]; omega)
    by_cases hk : k < (permL n.toNat).length
    · have e3 := hr k hk
      have e4 := permL_row _ (getD_mem (d := []) hk)
      have fc : True := trivial
      repeat' first
        | with_reducible first | refine stp ?_ | refine q_blk_o rfl ?_ | (refine hK _ ?_; clear hK) | (refine hA ?_; clear hA hB) | (refine hB ?_; clear hA hB) | exact v_end0 | exact v_end0' | refine v_gb1 ?_ ?_ | refine v_gb0 ?_ ?_ | refine And.intro ?_ ?_
        | (with_reducible refine p_ok ?_; decide)
        | ((first | with_reducible first | refine v_region rfl rfl (fun K hK => ?_) | refine v_draws rfl rfl (fun K hK => ?_) | refine v_if (fun A B hA hB => ?_) | refine v_end rfl ?_ | refine v_fin1 ?_ | refine v_finC1 ?_ | refine v_callE (spec_l1In_c _ _ _) ?_ | refine v_callE (spec_PermsOf_c _) ?_ | refine v_callE (spec_IsSimple_c _ ?_) ?_ | refine v_finO1 rfl ?_ | refine v_finN1 rfl ?_ ?_ | refine v_apj ?_ (fun j' => ?_) | refine v_stz ?_ ?_ ?_ ?_ ?_ | refine v_stq ?_ | refine v_cv1 ?_ ?_ ?_ | (intro hc; replace fc := And.intro hc fc; try simp only [hcs] at hc)) <;> (try simp (config := { maxSteps := 1000000 }) only [go_sem, ↓reduceIte, reduceCtorEq, Nat.reduceEqDiff, Nat.reduceAdd, Nat.reduceMul, Nat.reduceSub, Nat.reduceLeDiff, Int.reduceLT, Int.reduceLE, Int.reduceEq, Int.reduceSub, Int.reduceAdd, Int.reduceMul, Int.reduceNeg, Int.reduceToNat, h1_5, h1_4, b1_4, h1_3, b1_3, ni1_4, pi1_4, qi1_4, ri1_4, ni1_3, pi1_3, qi1_3, ri1_3, di1_4i1_3, di1_3i1_4, e3, fc]) <;> (try with_reducible rfl))
      all_goals try (first | omega | (simp only [n_i64, n_u8]; omega) | (simp only [n_i64, n_u8, lnA]; omega))
      · focus
          refine q_lp_n ((fun (k : Nat) => (permL n.toNat).length - k) (k+1)) ?_ ⟨k+1, ?_, ?_, ?_, ?_, ?_, rfl⟩
          all_goals (try simp only [go_sem, ↓reduceIte, reduceCtorEq, Nat.reduceEqDiff, Nat.reduceAdd, Nat.reduceMul, Nat.reduceSub, Nat.reduceLeDiff, Int.reduceLT, Int.reduceLE, Int.reduceEq, Int.reduceSub, Int.reduceAdd, Int.reduceMul, Int.reduceNeg, Int.reduceToNat, h1_5, h1_4, b1_4, h1_3, b1_3, ni1_4, pi1_4, qi1_4, ri1_4, ni1_3, pi1_3, qi1_3, ri1_3, di1_4i1_3, di1_3i1_4])
          repeat' refine And.intro ?_ ?_
          all_goals try first | rfl | omega | (simp only [lnA] <;> omega) | ((first | refine stp ?_ | refine dkz_eq ?_ ?_) <;> first | rfl | omega | (simp only [lnA] <;> omega) | (simp only [lnA, List.append_assoc, List.cons_append, List.nil_append]; done) | skip)
        all_goals (rw [take_getD (d := []) hk, List.filter_append, List.filter_cons, if_pos hc]; simp)
      · focus
          refine q_lp_n ((fun (k : Nat) => (permL n.toNat).length - k) (k+1)) ?_ ⟨k+1, ?_, ?_, ?_, ?_, ?_, rfl⟩
          all_goals (try simp only [go_sem, ↓reduceIte, reduceCtorEq, Nat.reduceEqDiff, Nat.reduceAdd, Nat.reduceMul, Nat.reduceSub, Nat.reduceLeDiff, Int.reduceLT, Int.reduceLE, Int.reduceEq, Int.reduceSub, Int.reduceAdd, Int.reduceMul, Int.reduceNeg, Int.reduceToNat, h1_5, h1_4, b1_4, h1_3, b1_3, ni1_4, pi1_4, qi1_4, ri1_4, ni1_3, pi1_3, qi1_3, ri1_3, di1_4i1_3, di1_3i1_4])
          repeat' refine And.intro ?_ ?_
          all_goals try first | rfl | omega | (simp only [lnA] <;> omega) | ((first | refine stp ?_ | refine dkz_eq ?_ ?_) <;> first | rfl | omega | (simp only [lnA] <;> omega) | (simp only [lnA, List.append_assoc, List.cons_append, List.nil_append]; done) | skip)
        all_goals (rw [take_getD (d := []) hk, List.filter_append, List.filter_cons, if_neg (by rw [hc]; decide)]; simp)
    · have fc : True := trivial
      repeat' first
        | with_reducible first | refine stp ?_ | refine q_blk_o rfl ?_ | (refine hK _ ?_; clear hK) | (refine hA ?_; clear hA hB) | (refine hB ?_; clear hA hB) | exact v_end0 | exact v_end0' | refine v_gb1 ?_ ?_ | refine v_gb0 ?_ ?_ | refine And.intro ?_ ?_
        | (with_reducible refine p_ok ?_; decide)
        | ((first | with_reducible first | refine v_region rfl rfl (fun K hK => ?_) | refine v_draws rfl rfl (fun K hK => ?_) | refine v_if (fun A B hA hB => ?_) | refine v_end rfl ?_ | refine v_fin1 ?_ | refine v_finC1 ?_ | refine v_callE (spec_l1In_c _ _ _) ?_ | refine v_callE (spec_PermsOf_c _) ?_ | refine v_callE (spec_IsSimple_c _ ?_) ?_ | refine v_finO1 rfl ?_ | refine v_finN1 rfl ?_ ?_ | refine v_apj ?_ (fun j' => ?_) | refine v_stz ?_ ?_ ?_ ?_ ?_ | refine v_stq ?_ | refine v_cv1 ?_ ?_ ?_ | (intro hc; replace fc := And.intro hc fc; try simp only [hcs] at hc)) <;> (try simp (config := { maxSteps := 1000000 }) only [go_sem, ↓reduceIte, reduceCtorEq, Nat.reduceEqDiff, Nat.reduceAdd, Nat.reduceMul, Nat.reduceSub, Nat.reduceLeDiff, Int.reduceLT, Int.reduceLE, Int.reduceEq, Int.reduceSub, Int.reduceAdd, Int.reduceMul, Int.reduceNeg, Int.reduceToNat, h1_5, h1_4, b1_4, h1_3, b1_3, ni1_4, pi1_4, qi1_4, ri1_4, ni1_3, pi1_3, qi1_3, ri1_3, di1_4i1_3, di1_3i1_4, fc]) <;> (try with_reducible rfl))
      all_goals try (first | omega | (simp only [n_i64, n_u8]; omega) | (simp only [n_i64, n_u8, lnA]; omega))
      rw [List.take_of_length_le (by omega)]
  · have e1 : simsB n = [] := if_neg hn
    rw [e1]
    refine Fun.of (sg := sg0) (ts := [2]) mo Try.func33 rfl rfl rfl rfl (by kernel_rfl) (by simp only [go_sem]) rfl ?_
    have fc : True := trivial
    repeat' first
      | with_reducible first | refine stp ?_ | refine q_blk_o rfl ?_ | (refine hK _ ?_; clear hK) | (refine hA ?_; clear hA hB) | (refine hB ?_; clear hA hB) | exact v_end0 | exact v_end0' | refine v_gb1 ?_ ?_ | refine v_gb0 ?_ ?_ | refine And.intro ?_ ?_
      | (with_reducible refine p_ok ?_; decide)
      | ((first | with_reducible first | refine v_region rfl rfl (fun K hK => ?_) | refine v_draws rfl rfl (fun K hK => ?_) | refine v_if (fun A B hA hB => ?_) | refine v_end rfl ?_ | refine v_fin1 ?_ | refine v_finC1 ?_ | refine v_callE (spec_l1In_c _ _ _) ?_ | refine v_callE (spec_PermsOf_c _) ?_ | refine v_callE (spec_IsSimple_c _ ?_) ?_ | refine v_finO1 rfl ?_ | refine v_finN1 rfl ?_ ?_ | refine v_apj ?_ (fun j' => ?_) | refine v_stz ?_ ?_ ?_ ?_ ?_ | refine v_stq ?_ | refine v_cv1 ?_ ?_ ?_ | (intro hc; replace fc := And.intro hc fc; try simp only [hcs] at hc)) <;> (try simp (config := { maxSteps := 1000000 }) only [go_sem, ↓reduceIte, reduceCtorEq, Nat.reduceEqDiff, Nat.reduceAdd, Nat.reduceMul, Nat.reduceSub, Nat.reduceLeDiff, Int.reduceLT, Int.reduceLE, Int.reduceEq, Int.reduceSub, Int.reduceAdd, Int.reduceMul, Int.reduceNeg, Int.reduceToNat, fc]) <;> (try with_reducible rfl))
    all_goals try (first | omega | (simp only [n_i64, n_u8]; omega) | (simp only [n_i64, n_u8, lnA]; omega))
def sgLS : FuncId → List Bool := fun f => if f = 25 then [true] else []
theorem sgLS_eq {f : FuncId} : sgLS f = if f = 25 then [true] else [] := _root_.id rfl
theorem wayE_sgLS : wayE sgLS = false := _root_.id rfl
theorem wayN_sgLS : wayN sgLS = false := _root_.id rfl
theorem wayS_sgLS : wayS sgLS = false := _root_.id rfl
theorem wayZ_sgLS : wayZ sgLS = false := _root_.id rfl
attribute [go_sem] sgLS_eq wayE_sgLS wayN_sgLS wayS_sgLS wayZ_sgLS
theorem laws_FnExactSimplesOf_c (n : Int) : Fun Try.prog 7 [(.int .i64 (n))] [(.bool (true))] := by
  refine Fun.of (sg := sgLS) (ts := [2]) mo Try.func7 rfl rfl rfl rfl (by kernel_rfl) (by simp only [go_sem]) rfl ?_
  have w1 := simsB_le (n := n)
  have w2 := simsB_row (n := n)
  have w3 := sumN_bound w2
  have w4 : ∀ l ∈ simsB n, l.length ≤ 1099511627776 := fun l h => by have := w2 l h; omega
  have fc : True := trivial
  repeat' first
    | with_reducible first | refine stp ?_ | refine q_blk_o rfl ?_ | (refine hK _ ?_; clear hK) | (refine hA ?_; clear hA hB) | (refine hB ?_; clear hA hB) | exact v_end0 | exact v_end0' | refine v_gb1 ?_ ?_ | refine v_gb0 ?_ ?_ | refine And.intro ?_ ?_
    | (with_reducible refine p_ok ?_; decide)
    | ((first | with_reducible first | refine v_region rfl rfl (fun K hK => ?_) | refine v_draws rfl rfl (fun K hK => ?_) | refine v_if (fun A B hA hB => ?_) | refine v_end rfl ?_ | refine v_fin1 ?_ | refine v_finC1 ?_ | refine v_callE (spec_SimplesOf_c _) ?_ | refine v_callE (impl_SimplesOf_c _) ?_ | refine v_callE (laws_eqIntSS_c _ _ ?_ ?_ ?_ ?_) ?_ | refine v_callE (laws_heldIntSS_c _ _ ?_ ?_ ?_) ?_ | refine v_callN (laws_markIntSS_c _ _ ?_ ?_ ?_) rfl ?_ ?_ | refine v_callT (laws_markIntSS_c _ _ ?_ ?_ ?_) rfl ?_ ?_ | refine v_callTd (laws_markIntSS_c _ _ ?_ ?_ ?_) rfl ?_ ?_ | refine v_callR (laws_markIntSS_c _ _ ?_ ?_ ?_) rfl ?_ ?_ | refine v_callT3 (laws_markIntSS_c _ _ ?_ ?_ ?_) ?_ ?_ | refine v_callT4 (laws_markIntSS_c _ _ ?_ ?_ ?_) ?_ ?_ | refine v_finO1 rfl ?_ | refine v_finN1 rfl ?_ ?_ | refine v_apj ?_ (fun j' => ?_) | refine v_stz ?_ ?_ ?_ ?_ ?_ | refine v_stq ?_ | refine v_cv1 ?_ ?_ ?_ | (intro hc; replace fc := And.intro hc fc; try simp only [hcs] at hc)) <;> (try simp (config := { maxSteps := 1000000 }) only [go_sem, ↓reduceIte, reduceCtorEq, Nat.reduceEqDiff, Nat.reduceAdd, Nat.reduceMul, Nat.reduceSub, Nat.reduceLeDiff, Int.reduceLT, Int.reduceLE, Int.reduceEq, Int.reduceSub, Int.reduceAdd, Int.reduceMul, Int.reduceNeg, Int.reduceToNat, mkLL_len, List.length_map, fc]) <;> (try with_reducible rfl))
  all_goals first | omega | exact w4 | (simp at hc; done) | skip
end Go.Gl
