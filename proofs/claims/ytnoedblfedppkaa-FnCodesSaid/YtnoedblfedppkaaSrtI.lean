/-
  Numbers in order: what the library's sorting and the reference's compute. Conditions: none.
-/
import Derived.Test.YtnoedblfedppkaaBasis
import Derived.Test.YtnoedblfedppkaaCode
import Derived.Test.YtnoedblfedppkaaLib
import Derived.Test.YtnoedblfedppkaaShelfS
set_option linter.unusedSimpArgs false
set_option linter.unusedVariables false
set_option maxRecDepth 20000
set_option linter.unusedSectionVars false
namespace Go.Gl
open Go Go.Proofs
variable [Amb]
/-- Where x belongs among the first k of a sorted list of numbers. -/
def atI (L : List Int) (x : Int) : Nat → Nat
  | 0 => 0
  | k + 1 => if x < L.getD k 0 then atI L x k else k + 1
theorem atI_spec {L : List Int} {p : Int} : ∀ {k : Nat}, atI L p k ≤ k ∧ (∀ i, atI L p k ≤ i → i < k → p < L.getD i 0) ∧ (atI L p k = 0 ∨ ¬ p < L.getD (atI L p k - 1) 0)
  | 0 => ⟨Nat.le_refl _, fun i _ h => absurd h (by omega), .inl rfl⟩
  | k + 1 => by
    rw [atI]
    by_cases e : p < L.getD k 0
    · rw [if_pos e]
      obtain ⟨h1, h2, h3⟩ := atI_spec (L := L) (p := p) (k := k)
      refine ⟨by omega, fun i hi hk => ?_, h3⟩
      by_cases q : i = k
      · subst q; exact e
      · exact h2 i hi (by omega)
    · rw [if_neg e]
      exact ⟨Nat.le_refl _, fun i hi hk => by omega, .inr e⟩
def inkI (L : List Int) (x : Int) (j : Nat) : List Int := L.take j ++ x :: L.drop j
def insI (L : List Int) (x : Int) : List Int := inkI L x (atI L x L.length)
def srtI (L : List Int) : List Int := L.foldl insI []
theorem inkI_len {L : List Int} {p : Int} {j : Nat} : (inkI L p j).length = L.length + 1 := by
  unfold inkI; simp; omega
theorem insI_perm {L : List Int} {x : Int} : (insI L x).Perm (x :: L) := by
  unfold insI inkI
  refine List.perm_middle.trans ?_
  rw [List.take_append_drop]
theorem srt_perm (L : List Int) : ∀ {A : List Int}, (L.foldl insI A).Perm (L ++ A) := by
  induction L with
  | nil => intro A; exact List.Perm.refl _
  | cons y l ih =>
    intro A
    rw [List.foldl_cons]
    refine (ih).trans ((List.Perm.append_left l insI_perm).trans ?_)
    exact List.perm_middle
theorem srtI_perm {L : List Int} : (srtI L).Perm L := by
  have := srt_perm L (A := [])
  rw [List.append_nil] at this; exact this
theorem srtI_len {L : List Int} : (srtI L).length = L.length := srtI_perm.length_eq
theorem pwI_get {L : List Int} (h : L.Pairwise (· ≤ ·)) {i j : Nat} (hij : i < j) (hj : j < L.length) : L.getD i 0 ≤ L.getD j 0 := by
  rw [List.pairwise_iff_getElem] at h
  have := h i j (by omega) hj hij
  rw [List.getD_eq_getElem?_getD, List.getD_eq_getElem?_getD, List.getElem?_eq_getElem (by omega), List.getElem?_eq_getElem hj]
  exact this
theorem insI_pw {L : List Int} {x : Int} (h : L.Pairwise (· ≤ ·)) : (insI L x).Pairwise (· ≤ ·) := by
  obtain ⟨h1, h2, h3⟩ := atI_spec (L := L) (p := x) (k := L.length)
  have q := h
  rw [← List.take_append_drop (atI L x L.length) L, List.pairwise_append] at q
  unfold insI inkI
  rw [List.pairwise_append, List.pairwise_cons]
  have lo : ∀ y ∈ L.take (atI L x L.length), y ≤ x := fun y hy => by
    obtain ⟨i, hi, e⟩ := List.getElem_of_mem hy
    simp only [List.length_take] at hi
    rw [List.getElem_take] at e
    have e2 : L.getD i 0 = y := by rw [List.getD_eq_getElem?_getD, List.getElem?_eq_getElem (by omega)]; exact e
    rcases h3 with h3 | h3
    · omega
    · by_cases q : i = atI L x L.length - 1
      · rw [← q] at h3; omega
      · have := pwI_get h (i := i) (j := atI L x L.length - 1) (by omega) (by omega); omega
  have hi : ∀ y ∈ L.drop (atI L x L.length), x ≤ y := fun y hy => by
    obtain ⟨i, hi, e⟩ := List.getElem_of_mem hy
    simp only [List.length_drop] at hi
    rw [List.getElem_drop] at e
    have e2 : L.getD (atI L x L.length + i) 0 = y := by rw [List.getD_eq_getElem?_getD, List.getElem?_eq_getElem (by omega)]; exact e
    have := h2 (atI L x L.length + i) (by omega) (by omega)
    omega
  refine ⟨q.1, ⟨hi, q.2.1⟩, fun a ha b hb => ?_⟩
  rcases List.mem_cons.1 hb with rfl | hb
  · exact lo a ha
  · exact q.2.2 a ha b hb
theorem srt_pw (L : List Int) : ∀ {A : List Int}, A.Pairwise (· ≤ ·) → (L.foldl insI A).Pairwise (· ≤ ·) := by
  induction L with
  | nil => exact fun h => h
  | cons x l ih => exact fun h => ih (insI_pw h)
theorem srtI_pw {L : List Int} : (srtI L).Pairwise (· ≤ ·) := srt_pw L List.Pairwise.nil
theorem pw_eq : ∀ {A B : List Int}, A.Pairwise (· ≤ ·) → B.Pairwise (· ≤ ·) → A.Perm B → A = B
  | [], B, _, _, h => by have := h.length_eq; cases B; rfl; simp at this
  | a :: A, [], _, _, h => by have := h.length_eq; simp at this
  | a :: A, b :: B, ha, hb, h => by
    have pa := List.pairwise_cons.1 ha
    have pb := List.pairwise_cons.1 hb
    have e : a = b := by
      have h1 : a ∈ b :: B := h.subset (by simp)
      have h2 : b ∈ a :: A := h.symm.subset (by simp)
      rcases List.mem_cons.1 h1 with q | q
      · exact q
      · rcases List.mem_cons.1 h2 with q2 | q2
        · exact q2.symm
        · have := pa.1 _ q2; have := pb.1 _ q; omega
    subst e
    rw [pw_eq pa.2 pb.2 (List.perm_cons a |>.1 h)]
/-- Nothings out, ahead of the sorting or behind it. -/
theorem srt_filter {C : List Int} (h : ∀ x ∈ C, 0 ≤ x) : (srtI C).filter (fun x => decide (0 < x)) = srtI (C.filter fun x => !decide (x = 0)) := by
  refine pw_eq (List.Pairwise.filter _ srtI_pw) srtI_pw ?_
  refine (List.Perm.filter _ srtI_perm).trans ?_
  have e : C.filter (fun x => decide (0 < x)) = C.filter fun x => !decide (x = 0) := by
    refine List.filter_congr fun x hx => ?_
    have := h x hx
    by_cases q : x = 0
    · subst q; rfl
    · simp [q]; omega
  rw [e]; exact srtI_perm.symm
theorem atI_uniq {L : List Int} {p : Int} : ∀ {k j : Nat}, j ≤ k → (∀ q, j ≤ q → q < k → p < L.getD q 0) → (0 < j → ¬ p < L.getD (j - 1) 0) → atI L p k = j
  | 0, j, h, _, _ => by rw [atI]; omega
  | k + 1, j, h, h1, h2 => by
    rw [atI]
    by_cases e : j = k + 1
    · subst e
      have := h2 (by omega)
      rw [Nat.add_sub_cancel] at this
      rw [if_neg this]
    · rw [if_pos (h1 k (by omega) (by omega))]
      exact atI_uniq (by omega) (fun q a b => h1 q a (by omega)) h2
theorem getI_app1 {α : Type} {A B : List α} {d : α} {i : Nat} (h : i < A.length) : (A ++ B).getD i d = A.getD i d := by
  rw [List.getD_eq_getElem?_getD, List.getD_eq_getElem?_getD, List.getElem?_append_left h]
theorem inkI_at {L : List Int} {p : Int} {j : Nat} (h : j ≤ L.length) : (inkI L p j).getD j 0 = p := by
  unfold inkI
  rw [List.getD_eq_getElem?_getD, List.getElem?_append_right (by simp; omega), List.length_take, Nat.min_eq_left h, Nat.sub_self]; rfl
theorem inkI_lo {L : List Int} {p : Int} {j i : Nat} (h : j ≤ L.length) (hi : i < j) : (inkI L p j).getD i 0 = L.getD i 0 := by
  unfold inkI
  rw [getI_app1 (by simp; omega), List.getD_eq_getElem?_getD, List.getD_eq_getElem?_getD, List.getElem?_take_of_lt hi]
theorem inkI_swap {L : List Int} {p : Int} {j : Nat} (h0 : 0 < j) (h : j ≤ L.length) {R : List Int} : ((inkI L p j ++ R).set j (L.getD (j - 1) 0)).set (j - 1) p = inkI L p (j - 1) ++ R := by
  obtain ⟨i, rfl⟩ : ∃ i, j = i + 1 := ⟨j - 1, by omega⟩
  rw [Nat.add_sub_cancel]
  apply List.ext_getElem?; intro q
  have l1 : (inkI L p (i + 1) ++ R).length = L.length + 1 + R.length := by rw [List.length_append, inkI_len]
  rw [List.getElem?_set, List.getElem?_set, List.length_set, l1]
  have hd : ∀ {a : Nat}, a < L.length → L[a]? = some (L.getD a 0) := fun {a} ha => by rw [List.getD_eq_getElem?_getD, List.getElem?_eq_getElem ha]; rfl
  have key : ∀ {k q : Nat}, k ≤ L.length → q < L.length + 1 → (inkI L p k)[q]? = if q < k then L[q]? else if q = k then some p else L[q - 1]? := fun {k q} hk hq => by
    unfold inkI
    by_cases h1 : q < k
    · rw [if_pos h1, List.getElem?_append_left (by simp; omega), List.getElem?_take_of_lt h1]
    · rw [if_neg h1, List.getElem?_append_right (by simp; omega), List.length_take, Nat.min_eq_left hk]
      by_cases h2 : q = k
      · rw [if_pos h2, h2, Nat.sub_self]; rfl
      · rw [if_neg h2, show q - k = (q - k - 1) + 1 by omega, List.getElem?_cons_succ, List.getElem?_drop]; congr 1; omega
  by_cases hq : q < L.length + 1
  · rw [List.getElem?_append_left (by rw [inkI_len]; exact hq), List.getElem?_append_left (by rw [inkI_len]; exact hq), key (by omega) hq, key (by omega) hq]
    by_cases e1 : i = q
    · subst e1; rw [if_pos rfl, if_pos (by omega), if_neg (by omega), if_pos rfl]
    · rw [if_neg e1]
      by_cases e2 : i + 1 = q
      · subst e2; rw [if_pos rfl, if_pos (by omega), if_neg (by omega), if_neg (by omega), Nat.add_sub_cancel, hd (by omega)]
      · rw [if_neg e2]
        by_cases e3 : q < i
        · rw [if_pos (by omega), if_pos e3]
        · rw [if_neg (by omega), if_neg (by omega), if_neg e3, if_neg (by omega)]
  · rw [if_neg (by omega), if_neg (by omega), List.getElem?_append_right (by rw [inkI_len]; omega), List.getElem?_append_right (by rw [inkI_len]; omega), inkI_len, inkI_len]
theorem srtI_snoc {L : List Int} {i : Nat} (h : i < L.length) : srtI (L.take (i + 1)) = insI (srtI (L.take i)) (L.getD i 0) := by
  rw [take_getD (d := 0) h]; unfold srtI; rw [List.foldl_append]; rfl
theorem srtI_tl {L : List Int} {i : Nat} (h : i ≤ L.length) : (srtI (L.take i)).length = i := by
  rw [srtI_len, List.length_take]; omega
theorem inkI_end {L : List Int} {p : Int} : inkI L p L.length = L ++ [p] := by unfold inkI; simp
theorem srtI_1 {L : List Int} : srtI (L.take 1) = L.take 1 := by
  cases L with
  | nil => rfl
  | cons a l => rfl
theorem cmp_Less_int_c (a b : Int) : Fun Try.prog 256 [(.int .i64 (a)), (.int .i64 (b))] [(.bool (decide (a < b)))] := by
  refine Fun.of (sg := sg0) (ts := [4]) mo Try.func256 rfl rfl rfl rfl (by kernel_rfl) (by simp only [go_sem]) rfl ?_
  have fc : True := trivial
  repeat' first
    | with_reducible first | refine stp ?_ | refine q_blk_o rfl ?_ | (refine hK _ ?_; clear hK) | (refine hA ?_; clear hA hB) | (refine hB ?_; clear hA hB) | exact v_end0 | exact v_end0' | refine v_gb1 ?_ ?_ | refine v_gb0 ?_ ?_ | refine And.intro ?_ ?_
    | (with_reducible refine p_ok ?_; decide)
    | ((first | with_reducible first | refine v_region rfl rfl (fun K hK => ?_) | refine v_draws rfl rfl (fun K hK => ?_) | refine v_if (fun A B hA hB => ?_) | refine v_end rfl ?_ | refine v_fin1 ?_ | refine v_finC1 ?_ | refine v_finR1 ?_ | refine v_callE (cmp_isNaN_int_c _) ?_ | refine v_finO1 rfl ?_ | refine v_finN1 rfl ?_ ?_ | refine v_apj ?_ (fun j' => ?_) | refine v_stz ?_ ?_ ?_ ?_ ?_ | refine v_stq ?_ | refine v_cv1 ?_ ?_ ?_ | (intro hc; replace fc := And.intro hc fc; try simp only [hcs] at hc)) <;> (try simp (config := { maxSteps := 1000000 }) only [go_sem, ↓reduceIte, reduceCtorEq, Nat.reduceEqDiff, Nat.reduceAdd, Nat.reduceMul, Nat.reduceSub, Nat.reduceLeDiff, Int.reduceLT, Int.reduceLE, Int.reduceEq, Int.reduceSub, Int.reduceAdd, Int.reduceMul, Int.reduceNeg, Int.reduceToNat, fc]) <;> (try with_reducible rfl))
  all_goals try (first | omega | (simp only [n_i64, n_u8]; omega) | (simp only [n_i64, n_u8, lnA]; omega) | (simp only [lnA]; done))
theorem bits_Len64_i (n : Int) (h0 : 0 ≤ n) (h1 : n ≤ 255) : Fun Try.prog 272 [.int .u64 n] [.int .i64 (Lib.bitLen n.toNat : Int)] := by
  refine Fun.of_plain Try.func272 rfl rfl rfl ?_
  intro w F G vs _ hv
  simp only [RepL] at hv
  obtain ⟨a, vs1, rfl, ha, rfl⟩ := hv
  have ha := repP_i ha
  subst ha
  exact (Try.bits_Len64 n w h0 (by omega)).mono fun e w' h => ⟨h.1, h.2 ▸ Go.RowKit.Below.refl _ _⟩
--%reg math/bits.Len64 bits_Len64_i _ ?_ ?_
theorem math_bits_Len_i_c (n : Int) (h0 : 0 ≤ n) (h1 : n ≤ 255) : Fun Try.prog 255 [(.int .u64 (n))] [(.int .i64 ((Lib.bitLen n.toNat : Int)))] := by
  refine Fun.of (sg := sg0) (ts := [2]) mo Try.func255 rfl rfl rfl rfl (by kernel_rfl) (by simp only [go_sem]) rfl ?_
  have fc : True := trivial
  repeat' first
    | with_reducible first | refine stp ?_ | refine q_blk_o rfl ?_ | (refine hK _ ?_; clear hK) | (refine hA ?_; clear hA hB) | (refine hB ?_; clear hA hB) | exact v_end0 | exact v_end0' | refine v_gb1 ?_ ?_ | refine v_gb0 ?_ ?_ | refine And.intro ?_ ?_
    | (with_reducible refine p_ok ?_; decide)
    | ((first | with_reducible first | refine v_region rfl rfl (fun K hK => ?_) | refine v_draws rfl rfl (fun K hK => ?_) | refine v_if (fun A B hA hB => ?_) | refine v_end rfl ?_ | refine v_fin1 ?_ | refine v_finC1 ?_ | refine v_finR1 ?_ | refine v_callE (bits_Len64_i _ ?_ ?_) ?_ | refine v_finO1 rfl ?_ | refine v_finN1 rfl ?_ ?_ | refine v_apj ?_ (fun j' => ?_) | refine v_stz ?_ ?_ ?_ ?_ ?_ | refine v_stq ?_ | refine v_cv1 ?_ ?_ ?_ | (intro hc; replace fc := And.intro hc fc; try simp only [hcs] at hc)) <;> (try simp (config := { maxSteps := 1000000 }) only [go_sem, ↓reduceIte, reduceCtorEq, Nat.reduceEqDiff, Nat.reduceAdd, Nat.reduceMul, Nat.reduceSub, Nat.reduceLeDiff, Int.reduceLT, Int.reduceLE, Int.reduceEq, Int.reduceSub, Int.reduceAdd, Int.reduceMul, Int.reduceNeg, Int.reduceToNat, fc]) <;> (try with_reducible rfl))
  all_goals try (first | omega | (simp only [n_i64, n_u8]; omega) | (simp only [n_i64, n_u8, lnA]; omega) | (simp only [lnA]; done))
theorem slices_insertionSortOrdered_int_c (Z : List Int) (hl : Z.length ≤ 12) : CallT Try.prog false 263 [.mu false (List.map (PV.int .i64) (Z)), .pv (.int .i64 (0)), .pv (.int .i64 ((Z.length : Int)))] [some (List.map (PV.int .i64) (srtI Z)), none, none] [] := by
  refine CallT.of (sg := sg0) (ts := []) mo Try.func263 rfl rfl rfl rfl (by kernel_rfl) (by simp only [go_sem]) rfl (by simp only [go_sem]) ?_
  have fc : True := trivial
  repeat' first
    | with_reducible first | refine stp ?_ | refine q_blk_o rfl ?_ | (refine hK _ ?_; clear hK) | (refine hA ?_; clear hA hB) | (refine hB ?_; clear hA hB) | exact v_end0 | exact v_end0' | refine v_gb1 ?_ ?_ | refine v_gb0 ?_ ?_ | refine And.intro ?_ ?_
    | (with_reducible refine hK _ _ ?_ ?_; focus (first | exact clearAll_quiet rfl | (refine clearAll_of [false, false, false, false, false, false, false, false, false, false, false, false, false, true, false] [] rfl (by decide +kernel) ?_; try simp only [go_sem, ↓reduceIte, reduceCtorEq, Nat.reduceEqDiff, Nat.reduceAdd, Nat.reduceMul, Nat.reduceSub, Nat.reduceLeDiff, Int.reduceLT, Int.reduceLE, Int.reduceEq, Int.reduceSub, Int.reduceAdd, Int.reduceMul, Int.reduceNeg, Int.reduceToNat]) | (refine clearAll_of [false, false, false, false, false, false, false, false, false, false, false, false, false, false, false, true, false, true] [(2, 15), (3, 15), (4, 15)] rfl (by decide +kernel) ?_; try simp only [go_sem, ↓reduceIte, reduceCtorEq, Nat.reduceEqDiff, Nat.reduceAdd, Nat.reduceMul, Nat.reduceSub, Nat.reduceLeDiff, Int.reduceLT, Int.reduceLE, Int.reduceEq, Int.reduceSub, Int.reduceAdd, Int.reduceMul, Int.reduceNeg, Int.reduceToNat])); all_goals (try clear hK))
    | (with_reducible refine p_ok ?_; decide)
    | ((first | with_reducible first | refine v_region rfl rfl (fun K hK => ?_) | refine v_draws rfl rfl (fun K hK => ?_) | refine v_if (fun A B hA hB => ?_) | refine v_end rfl ?_ | refine v_fin1 ?_ | refine v_finC1 ?_ | refine v_finR1 ?_ | refine v_callE (cmp_Less_int_c _ _) ?_ | refine v_finO1 rfl ?_ | refine v_finN1 rfl ?_ ?_ | refine v_apj ?_ (fun j' => ?_) | refine v_stz ?_ ?_ ?_ ?_ ?_ | refine v_stq ?_ | refine v_cv1 ?_ ?_ ?_ | (intro hc; replace fc := And.intro hc fc; try simp only [hcs] at hc)) <;> (try simp (config := { maxSteps := 1000000 }) only [go_sem, ↓reduceIte, reduceCtorEq, Nat.reduceEqDiff, Nat.reduceAdd, Nat.reduceMul, Nat.reduceSub, Nat.reduceLeDiff, Int.reduceLT, Int.reduceLE, Int.reduceEq, Int.reduceSub, Int.reduceAdd, Int.reduceMul, Int.reduceNeg, Int.reduceToNat, fc]) <;> (try with_reducible rfl))
  all_goals try (first | omega | (simp only [n_i64, n_u8]; omega) | (simp only [n_i64, n_u8, lnA]; omega) | (simp only [lnA]; done))
  refine v_loop (fun ms1 S1 => ∃ (i : Nat), S1.e 0 = .ref 0 0 (srtI (Z.take i) ++ Z.drop i).length ∧ S1.h 0 = .live true (List.map (PV.int .i64) (srtI (Z.take i) ++ Z.drop i)) ∧ 0 < S1.n ∧ S1.e 1 = .p (.int .i64 (0)) ∧ S1.e 2 = .p (.int .i64 ((Z.length : Int))) ∧ S1.e 6 = .p (.int .i64 (i)) ∧ (i ≤ Z.length ∨ (Z.length = 0 ∧ i = 1)) ∧ (1 ≤ i) ∧ ms1 = Z.length - i) ((fun (i : Nat) => Z.length - i) (1)) ?init1_0 ?body1_0
  case' init1_0 =>
    refine ⟨1, ?_, ?_, ?_, ?_, ?_, ?_, ?_, ?_, rfl⟩
    all_goals (try simp only [go_sem, ↓reduceIte, reduceCtorEq, Nat.reduceEqDiff, Nat.reduceAdd, Nat.reduceMul, Nat.reduceSub, Nat.reduceLeDiff, Int.reduceLT, Int.reduceLE, Int.reduceEq, Int.reduceSub, Int.reduceAdd, Int.reduceMul, Int.reduceNeg, Int.reduceToNat])
    repeat' refine And.intro ?_ ?_
    all_goals try first | rfl | omega | (simp only [lnA] <;> omega) | ((first | refine stp ?_ | refine dkz_eq ?_ ?_) <;> first | rfl | omega | (simp only [lnA] <;> omega) | (simp only [lnA, List.append_assoc, List.cons_append, List.nil_append]; done) | skip)
  case' body1_0 =>
    rintro ms1 S1 ⟨i, h1_0, b1_0, l1_0, h1_1, h1_2, h1_6, c1_0, c1_1, hm1⟩
    have n0 : ∀ c, (0 = S1.n + c) = False := fun c => eq_false (by omega)
    have p0 : ∀ c, (S1.n + c = 0) = False := fun c => eq_false (by omega)
    have q0 : (0 = S1.n) = False := eq_false (by omega)
    have r0 : (S1.n = 0) = False := eq_false (by omega)
  · by_cases hi : i < Z.length
    · have e0 := srtI_tl (L := Z) (i := i) (by omega)
      have fc : True := trivial
      repeat' first
        | with_reducible first | refine stp ?_ | refine q_blk_o rfl ?_ | (refine hK _ ?_; clear hK) | (refine hA ?_; clear hA hB) | (refine hB ?_; clear hA hB) | exact v_end0 | exact v_end0' | refine v_gb1 ?_ ?_ | refine v_gb0 ?_ ?_ | refine And.intro ?_ ?_
        | (with_reducible refine hK _ _ ?_ ?_; focus (first | exact clearAll_quiet rfl | (refine clearAll_of [false, false, false, false, false, false, false, false, false, false, false, false, false, true, false] [] rfl (by decide +kernel) ?_; try simp only [go_sem, ↓reduceIte, reduceCtorEq, Nat.reduceEqDiff, Nat.reduceAdd, Nat.reduceMul, Nat.reduceSub, Nat.reduceLeDiff, Int.reduceLT, Int.reduceLE, Int.reduceEq, Int.reduceSub, Int.reduceAdd, Int.reduceMul, Int.reduceNeg, Int.reduceToNat, h1_0, b1_0, h1_1, h1_2, h1_6, n0, p0, q0, r0]) | (refine clearAll_of [false, false, false, false, false, false, false, false, false, false, false, false, false, false, false, true, false, true] [(2, 15), (3, 15), (4, 15)] rfl (by decide +kernel) ?_; try simp only [go_sem, ↓reduceIte, reduceCtorEq, Nat.reduceEqDiff, Nat.reduceAdd, Nat.reduceMul, Nat.reduceSub, Nat.reduceLeDiff, Int.reduceLT, Int.reduceLE, Int.reduceEq, Int.reduceSub, Int.reduceAdd, Int.reduceMul, Int.reduceNeg, Int.reduceToNat, h1_0, b1_0, h1_1, h1_2, h1_6, n0, p0, q0, r0])); all_goals (try clear hK))
        | (with_reducible refine p_ok ?_; decide)
        | ((first | with_reducible first | refine v_region rfl rfl (fun K hK => ?_) | refine v_draws rfl rfl (fun K hK => ?_) | refine v_if (fun A B hA hB => ?_) | refine v_end rfl ?_ | refine v_fin1 ?_ | refine v_finC1 ?_ | refine v_finR1 ?_ | refine v_callE (cmp_Less_int_c _ _) ?_ | refine v_finO1 rfl ?_ | refine v_finN1 rfl ?_ ?_ | refine v_apj ?_ (fun j' => ?_) | refine v_stz ?_ ?_ ?_ ?_ ?_ | refine v_stq ?_ | refine v_cv1 ?_ ?_ ?_ | (intro hc; replace fc := And.intro hc fc; try simp only [hcs] at hc)) <;> (try simp (config := { maxSteps := 1000000 }) only [go_sem, ↓reduceIte, reduceCtorEq, Nat.reduceEqDiff, Nat.reduceAdd, Nat.reduceMul, Nat.reduceSub, Nat.reduceLeDiff, Int.reduceLT, Int.reduceLE, Int.reduceEq, Int.reduceSub, Int.reduceAdd, Int.reduceMul, Int.reduceNeg, Int.reduceToNat, h1_0, b1_0, h1_1, h1_2, h1_6, n0, p0, q0, r0, fc]) <;> (try with_reducible rfl))
      all_goals try (first | omega | (simp only [n_i64, n_u8]; omega) | (simp only [n_i64, n_u8, lnA]; omega) | (simp only [lnA]; done))
      refine v_loop (fun ms2 S2 => ∃ (j : Nat), S2.e 0 = .ref 0 0 (inkI (srtI (Z.take i)) (Z.getD i 0) j ++ Z.drop (i + 1)).length ∧ S2.h 0 = .live true (List.map (PV.int .i64) (inkI (srtI (Z.take i)) (Z.getD i 0) j ++ Z.drop (i + 1))) ∧ 0 < S2.n ∧ S2.e 1 = .p (.int .i64 (0)) ∧ S2.e 2 = .p (.int .i64 ((Z.length : Int))) ∧ S2.e 6 = .p (.int .i64 (i)) ∧ S2.e 7 = .p (.int .i64 (j)) ∧ (j ≤ i) ∧ (∀ q, j ≤ q → q < i → Z.getD i 0 < (srtI (Z.take i)).getD q 0) ∧ S1.n ≤ S2.n ∧ ms2 = j) ((fun (j : Nat) => j) (i)) ?init2_1 ?body2_1
      case' init2_1 =>
        refine ⟨i, ?_, ?_, ?_, ?_, ?_, ?_, ?_, ?_, ?_, ?_, rfl⟩
        all_goals (try simp only [go_sem, ↓reduceIte, reduceCtorEq, Nat.reduceEqDiff, Nat.reduceAdd, Nat.reduceMul, Nat.reduceSub, Nat.reduceLeDiff, Int.reduceLT, Int.reduceLE, Int.reduceEq, Int.reduceSub, Int.reduceAdd, Int.reduceMul, Int.reduceNeg, Int.reduceToNat, h1_0, b1_0, h1_1, h1_2, h1_6, n0, p0, q0, r0])
        repeat' refine And.intro ?_ ?_
        all_goals try first | rfl | omega | (simp only [lnA] <;> omega) | ((first | refine stp ?_ | refine dkz_eq ?_ ?_) <;> first | rfl | omega | (simp only [lnA] <;> omega) | (simp only [lnA, List.append_assoc, List.cons_append, List.nil_append]; done) | skip)
      case' body2_1 =>
        rintro ms2 S2 ⟨j, h2_0, b2_0, l2_0, h2_1, h2_2, h2_6, h2_7, c2_0, c2_1, u2_0, hm2⟩
        have n0 : ∀ c, (0 = S2.n + c) = False := fun c => eq_false (by omega)
        have p0 : ∀ c, (S2.n + c = 0) = False := fun c => eq_false (by omega)
        have q0 : (0 = S2.n) = False := eq_false (by omega)
        have r0 : (S2.n = 0) = False := eq_false (by omega)
      · have e4 := inkI_len (L := srtI (Z.take i)) (p := Z.getD i 0) (j := j)
        have e1 : (inkI (srtI (Z.take i)) (Z.getD i 0) j ++ Z.drop (i + 1)).getD j 0 = Z.getD i 0 := by rw [getI_app1 (by omega), inkI_at (by omega)]
        by_cases hj : 0 < j
        · have e3 : ((j : Int) - 1).toNat = j - 1 := by omega
          have e2 : (inkI (srtI (Z.take i)) (Z.getD i 0) j ++ Z.drop (i + 1)).getD (j - 1) 0 = (srtI (Z.take i)).getD (j - 1) 0 := by rw [getI_app1 (by omega), inkI_lo (by omega) (by omega)]
          have e7 := inkI_swap (L := srtI (Z.take i)) (p := Z.getD i 0) (j := j) hj (by omega) (R := Z.drop (i + 1))
          have fc : True := trivial
          repeat' first
            | with_reducible first | refine stp ?_ | refine q_blk_o rfl ?_ | (refine hK _ ?_; clear hK) | (refine hA ?_; clear hA hB) | (refine hB ?_; clear hA hB) | exact v_end0 | exact v_end0' | refine v_gb1 ?_ ?_ | refine v_gb0 ?_ ?_ | refine And.intro ?_ ?_
            | (with_reducible refine hK _ _ ?_ ?_; focus (first | exact clearAll_quiet rfl | (refine clearAll_of [false, false, false, false, false, false, false, false, false, false, false, false, false, true, false] [] rfl (by decide +kernel) ?_; try simp only [go_sem, ↓reduceIte, reduceCtorEq, Nat.reduceEqDiff, Nat.reduceAdd, Nat.reduceMul, Nat.reduceSub, Nat.reduceLeDiff, Int.reduceLT, Int.reduceLE, Int.reduceEq, Int.reduceSub, Int.reduceAdd, Int.reduceMul, Int.reduceNeg, Int.reduceToNat, h2_0, b2_0, h2_1, h2_2, h2_6, h2_7, n0, p0, q0, r0, e1, e2, e3, e7]) | (refine clearAll_of [false, false, false, false, false, false, false, false, false, false, false, false, false, false, false, true, false, true] [(2, 15), (3, 15), (4, 15)] rfl (by decide +kernel) ?_; try simp only [go_sem, ↓reduceIte, reduceCtorEq, Nat.reduceEqDiff, Nat.reduceAdd, Nat.reduceMul, Nat.reduceSub, Nat.reduceLeDiff, Int.reduceLT, Int.reduceLE, Int.reduceEq, Int.reduceSub, Int.reduceAdd, Int.reduceMul, Int.reduceNeg, Int.reduceToNat, h2_0, b2_0, h2_1, h2_2, h2_6, h2_7, n0, p0, q0, r0, e1, e2, e3, e7])); all_goals (try clear hK))
            | (with_reducible refine p_ok ?_; decide)
            | ((first | with_reducible first | refine v_region rfl rfl (fun K hK => ?_) | refine v_draws rfl rfl (fun K hK => ?_) | refine v_if (fun A B hA hB => ?_) | refine v_end rfl ?_ | refine v_fin1 ?_ | refine v_finC1 ?_ | refine v_finR1 ?_ | refine v_callE (cmp_Less_int_c _ _) ?_ | refine v_finO1 rfl ?_ | refine v_finN1 rfl ?_ ?_ | refine v_apj ?_ (fun j' => ?_) | refine v_stz ?_ ?_ ?_ ?_ ?_ | refine v_stq ?_ | refine v_cv1 ?_ ?_ ?_ | (intro hc; replace fc := And.intro hc fc; try simp only [hcs] at hc)) <;> (try simp (config := { maxSteps := 1000000 }) only [go_sem, ↓reduceIte, reduceCtorEq, Nat.reduceEqDiff, Nat.reduceAdd, Nat.reduceMul, Nat.reduceSub, Nat.reduceLeDiff, Int.reduceLT, Int.reduceLE, Int.reduceEq, Int.reduceSub, Int.reduceAdd, Int.reduceMul, Int.reduceNeg, Int.reduceToNat, h2_0, b2_0, h2_1, h2_2, h2_6, h2_7, n0, p0, q0, r0, e1, e2, e3, e7, fc]) <;> (try with_reducible rfl))
          all_goals try (first | omega | (simp only [n_i64, n_u8]; omega) | (simp only [n_i64, n_u8, lnA]; omega) | (simp only [lnA]; done))
          · focus
              refine q_lp_n ((fun (j : Nat) => j) (j-1)) ?_ ⟨j-1, ?_, ?_, ?_, ?_, ?_, ?_, ?_, ?_, ?_, ?_, rfl⟩
              all_goals (try simp only [go_sem, ↓reduceIte, reduceCtorEq, Nat.reduceEqDiff, Nat.reduceAdd, Nat.reduceMul, Nat.reduceSub, Nat.reduceLeDiff, Int.reduceLT, Int.reduceLE, Int.reduceEq, Int.reduceSub, Int.reduceAdd, Int.reduceMul, Int.reduceNeg, Int.reduceToNat, h2_0, b2_0, h2_1, h2_2, h2_6, h2_7, n0, p0, q0, r0])
              repeat' refine And.intro ?_ ?_
              all_goals try first | rfl | omega | (simp only [lnA] <;> omega) | ((first | refine stp ?_ | refine dkz_eq ?_ ?_) <;> first | rfl | omega | (simp only [lnA] <;> omega) | (simp only [lnA, List.append_assoc, List.cons_append, List.nil_append]; done) | skip)
            all_goals try (intro q h1 h2; by_cases h3 : q = j - 1)
            all_goals try (subst h3; exact hc)
            all_goals try (exact c2_1 q (by omega) h2)
            rw [List.length_append, List.length_append, inkI_len, inkI_len]
          · have e8 : atI (srtI (Z.take i)) (Z.getD i 0) (srtI (Z.take i)).length = j := atI_uniq (by omega) (fun q a b => c2_1 q a (by omega)) fun _ => by omega
            have e9 : inkI (srtI (Z.take i)) (Z.getD i 0) j = srtI (Z.take (i + 1)) := by rw [srtI_snoc hi, insI, e8]
            focus
              refine q_lp_n ((fun (i : Nat) => Z.length - i) (i+1)) ?_ ⟨i+1, ?_, ?_, ?_, ?_, ?_, ?_, ?_, ?_, rfl⟩
              all_goals (try simp only [go_sem, ↓reduceIte, reduceCtorEq, Nat.reduceEqDiff, Nat.reduceAdd, Nat.reduceMul, Nat.reduceSub, Nat.reduceLeDiff, Int.reduceLT, Int.reduceLE, Int.reduceEq, Int.reduceSub, Int.reduceAdd, Int.reduceMul, Int.reduceNeg, Int.reduceToNat, h2_0, b2_0, h2_1, h2_2, h2_6, h2_7, n0, p0, q0, r0])
              repeat' refine And.intro ?_ ?_
              all_goals try first | rfl | omega | (simp only [lnA] <;> omega) | ((first | refine stp ?_ | refine dkz_eq ?_ ?_) <;> first | rfl | omega | (simp only [lnA] <;> omega) | (simp only [lnA, List.append_assoc, List.cons_append, List.nil_append]; done) | skip)
            all_goals rw [e9]
        · obtain rfl : j = 0 := by omega
          have fc : True := trivial
          repeat' first
            | with_reducible first | refine stp ?_ | refine q_blk_o rfl ?_ | (refine hK _ ?_; clear hK) | (refine hA ?_; clear hA hB) | (refine hB ?_; clear hA hB) | exact v_end0 | exact v_end0' | refine v_gb1 ?_ ?_ | refine v_gb0 ?_ ?_ | refine And.intro ?_ ?_
            | (with_reducible refine hK _ _ ?_ ?_; focus (first | exact clearAll_quiet rfl | (refine clearAll_of [false, false, false, false, false, false, false, false, false, false, false, false, false, true, false] [] rfl (by decide +kernel) ?_; try simp only [go_sem, ↓reduceIte, reduceCtorEq, Nat.reduceEqDiff, Nat.reduceAdd, Nat.reduceMul, Nat.reduceSub, Nat.reduceLeDiff, Int.reduceLT, Int.reduceLE, Int.reduceEq, Int.reduceSub, Int.reduceAdd, Int.reduceMul, Int.reduceNeg, Int.reduceToNat, h2_0, b2_0, h2_1, h2_2, h2_6, h2_7, n0, p0, q0, r0]) | (refine clearAll_of [false, false, false, false, false, false, false, false, false, false, false, false, false, false, false, true, false, true] [(2, 15), (3, 15), (4, 15)] rfl (by decide +kernel) ?_; try simp only [go_sem, ↓reduceIte, reduceCtorEq, Nat.reduceEqDiff, Nat.reduceAdd, Nat.reduceMul, Nat.reduceSub, Nat.reduceLeDiff, Int.reduceLT, Int.reduceLE, Int.reduceEq, Int.reduceSub, Int.reduceAdd, Int.reduceMul, Int.reduceNeg, Int.reduceToNat, h2_0, b2_0, h2_1, h2_2, h2_6, h2_7, n0, p0, q0, r0])); all_goals (try clear hK))
            | (with_reducible refine p_ok ?_; decide)
            | ((first | with_reducible first | refine v_region rfl rfl (fun K hK => ?_) | refine v_draws rfl rfl (fun K hK => ?_) | refine v_if (fun A B hA hB => ?_) | refine v_end rfl ?_ | refine v_fin1 ?_ | refine v_finC1 ?_ | refine v_finR1 ?_ | refine v_callE (cmp_Less_int_c _ _) ?_ | refine v_finO1 rfl ?_ | refine v_finN1 rfl ?_ ?_ | refine v_apj ?_ (fun j' => ?_) | refine v_stz ?_ ?_ ?_ ?_ ?_ | refine v_stq ?_ | refine v_cv1 ?_ ?_ ?_ | (intro hc; replace fc := And.intro hc fc; try simp only [hcs] at hc)) <;> (try simp (config := { maxSteps := 1000000 }) only [go_sem, ↓reduceIte, reduceCtorEq, Nat.reduceEqDiff, Nat.reduceAdd, Nat.reduceMul, Nat.reduceSub, Nat.reduceLeDiff, Int.reduceLT, Int.reduceLE, Int.reduceEq, Int.reduceSub, Int.reduceAdd, Int.reduceMul, Int.reduceNeg, Int.reduceToNat, h2_0, b2_0, h2_1, h2_2, h2_6, h2_7, n0, p0, q0, r0, fc]) <;> (try with_reducible rfl))
          all_goals try (first | omega | (simp only [n_i64, n_u8]; omega) | (simp only [n_i64, n_u8, lnA]; omega) | (simp only [lnA]; done))
          have e8 : atI (srtI (Z.take i)) (Z.getD i 0) (srtI (Z.take i)).length = 0 := atI_uniq (by omega) (fun q a b => c2_1 q a (by omega)) fun h => absurd h (by omega)
          have e9 : inkI (srtI (Z.take i)) (Z.getD i 0) 0 = srtI (Z.take (i + 1)) := by rw [srtI_snoc hi, insI, e8]
          focus
            refine q_lp_n ((fun (i : Nat) => Z.length - i) (i+1)) ?_ ⟨i+1, ?_, ?_, ?_, ?_, ?_, ?_, ?_, ?_, rfl⟩
            all_goals (try simp only [go_sem, ↓reduceIte, reduceCtorEq, Nat.reduceEqDiff, Nat.reduceAdd, Nat.reduceMul, Nat.reduceSub, Nat.reduceLeDiff, Int.reduceLT, Int.reduceLE, Int.reduceEq, Int.reduceSub, Int.reduceAdd, Int.reduceMul, Int.reduceNeg, Int.reduceToNat, h2_0, b2_0, h2_1, h2_2, h2_6, h2_7, n0, p0, q0, r0])
            repeat' refine And.intro ?_ ?_
            all_goals try first | rfl | omega | (simp only [lnA] <;> omega) | ((first | refine stp ?_ | refine dkz_eq ?_ ?_) <;> first | rfl | omega | (simp only [lnA] <;> omega) | (simp only [lnA, List.append_assoc, List.cons_append, List.nil_append]; done) | skip)
          all_goals rw [e9]
      · rw [List.length_append, List.length_append, inkI_len, e0, List.length_drop, List.length_drop]; omega
      · have e1 := inkI_end (L := srtI (Z.take i)) (p := Z.getD i 0)
        rw [e0] at e1
        rw [e1, List.append_assoc, dropI_at hi]; rfl
    · have e1 : srtI (Z.take i) ++ Z.drop i = srtI Z := by
        rw [List.take_of_length_le (by omega), List.drop_of_length_le (by omega), List.append_nil]
      have fc : True := trivial
      repeat' first
        | with_reducible first | refine stp ?_ | refine q_blk_o rfl ?_ | (refine hK _ ?_; clear hK) | (refine hA ?_; clear hA hB) | (refine hB ?_; clear hA hB) | exact v_end0 | exact v_end0' | refine v_gb1 ?_ ?_ | refine v_gb0 ?_ ?_ | refine And.intro ?_ ?_
        | (with_reducible refine hK _ _ ?_ ?_; focus (first | exact clearAll_quiet rfl | (refine clearAll_of [false, false, false, false, false, false, false, false, false, false, false, false, false, true, false] [] rfl (by decide +kernel) ?_; try simp only [go_sem, ↓reduceIte, reduceCtorEq, Nat.reduceEqDiff, Nat.reduceAdd, Nat.reduceMul, Nat.reduceSub, Nat.reduceLeDiff, Int.reduceLT, Int.reduceLE, Int.reduceEq, Int.reduceSub, Int.reduceAdd, Int.reduceMul, Int.reduceNeg, Int.reduceToNat, h1_0, b1_0, h1_1, h1_2, h1_6, n0, p0, q0, r0, e1]) | (refine clearAll_of [false, false, false, false, false, false, false, false, false, false, false, false, false, false, false, true, false, true] [(2, 15), (3, 15), (4, 15)] rfl (by decide +kernel) ?_; try simp only [go_sem, ↓reduceIte, reduceCtorEq, Nat.reduceEqDiff, Nat.reduceAdd, Nat.reduceMul, Nat.reduceSub, Nat.reduceLeDiff, Int.reduceLT, Int.reduceLE, Int.reduceEq, Int.reduceSub, Int.reduceAdd, Int.reduceMul, Int.reduceNeg, Int.reduceToNat, h1_0, b1_0, h1_1, h1_2, h1_6, n0, p0, q0, r0, e1])); all_goals (try clear hK))
        | (with_reducible refine p_ok ?_; decide)
        | ((first | with_reducible first | refine v_region rfl rfl (fun K hK => ?_) | refine v_draws rfl rfl (fun K hK => ?_) | refine v_if (fun A B hA hB => ?_) | refine v_end rfl ?_ | refine v_fin1 ?_ | refine v_finC1 ?_ | refine v_finR1 ?_ | refine v_callE (cmp_Less_int_c _ _) ?_ | refine v_finO1 rfl ?_ | refine v_finN1 rfl ?_ ?_ | refine v_apj ?_ (fun j' => ?_) | refine v_stz ?_ ?_ ?_ ?_ ?_ | refine v_stq ?_ | refine v_cv1 ?_ ?_ ?_ | (intro hc; replace fc := And.intro hc fc; try simp only [hcs] at hc)) <;> (try simp (config := { maxSteps := 1000000 }) only [go_sem, ↓reduceIte, reduceCtorEq, Nat.reduceEqDiff, Nat.reduceAdd, Nat.reduceMul, Nat.reduceSub, Nat.reduceLeDiff, Int.reduceLT, Int.reduceLE, Int.reduceEq, Int.reduceSub, Int.reduceAdd, Int.reduceMul, Int.reduceNeg, Int.reduceToNat, h1_0, b1_0, h1_1, h1_2, h1_6, n0, p0, q0, r0, e1, fc]) <;> (try with_reducible rfl))
      all_goals try (first | omega | (simp only [n_i64, n_u8]; omega) | (simp only [n_i64, n_u8, lnA]; omega) | (simp only [lnA]; done))
  · rw [srtI_1, List.take_append_drop]
  · rw [srtI_1, List.take_append_drop]
def sgPdqI : FuncId → List Bool := fun f => if f = 263 then [true] else []
theorem sgPdqI_eq {f : FuncId} : sgPdqI f = if f = 263 then [true] else [] := _root_.id rfl
theorem wayE_sgPdqI : wayE sgPdqI = false := _root_.id rfl
theorem wayN_sgPdqI : wayN sgPdqI = false := _root_.id rfl
theorem wayS_sgPdqI : wayS sgPdqI = false := _root_.id rfl
theorem wayZ_sgPdqI : wayZ sgPdqI = false := _root_.id rfl
attribute [go_sem] sgPdqI_eq wayE_sgPdqI wayN_sgPdqI wayS_sgPdqI wayZ_sgPdqI
theorem slices_pdqsortOrdered_int_c (Z : List Int) (b : Int) (hl : Z.length ≤ 12) : CallT Try.prog false 254 [.mu false (List.map (PV.int .i64) (Z)), .pv (.int .i64 (0)), .pv (.int .i64 ((Z.length : Int))), .pv (.int .i64 (b))] [some (List.map (PV.int .i64) (srtI Z)), none, none, none] [] := by
  refine CallT.of (sg := sgPdqI) (ts := []) mo Try.func254 rfl rfl rfl rfl (by kernel_rfl) (by simp only [go_sem]) rfl (by simp only [go_sem]) ?_
  have fc : True := trivial
  repeat' first
    | with_reducible first | refine stp ?_ | refine q_blk_o rfl ?_ | (refine hK _ ?_; clear hK) | (refine hA ?_; clear hA hB) | (refine hB ?_; clear hA hB) | exact v_end0 | exact v_end0' | refine v_gb1 ?_ ?_ | refine v_gb0 ?_ ?_ | refine And.intro ?_ ?_
    | (with_reducible refine hK _ _ ?_ ?_; focus (first | exact clearAll_quiet rfl | (refine clearAll_of [false, false, false, false, false, false, false, false, false, false, false, false, true, false, false] [] rfl (by decide +kernel) ?_; try simp only [go_sem, ↓reduceIte, reduceCtorEq, Nat.reduceEqDiff, Nat.reduceAdd, Nat.reduceMul, Nat.reduceSub, Nat.reduceLeDiff, Int.reduceLT, Int.reduceLE, Int.reduceEq, Int.reduceSub, Int.reduceAdd, Int.reduceMul, Int.reduceNeg, Int.reduceToNat])); all_goals (try clear hK))
    | (with_reducible refine p_ok ?_; decide)
    | ((first | with_reducible first | refine v_region rfl rfl (fun K hK => ?_) | refine v_draws rfl rfl (fun K hK => ?_) | refine v_if (fun A B hA hB => ?_) | refine v_end rfl ?_ | refine v_fin1 ?_ | refine v_finC1 ?_ | refine v_finR1 ?_ | refine v_callE (cmp_Less_int_c _ _) ?_ | refine v_callN (slices_insertionSortOrdered_int_c _ ?_) rfl ?_ ?_ | refine v_callT (slices_insertionSortOrdered_int_c _ ?_) rfl ?_ ?_ | refine v_callTd (slices_insertionSortOrdered_int_c _ ?_) rfl ?_ ?_ | refine v_callR (slices_insertionSortOrdered_int_c _ ?_) rfl ?_ ?_ | refine v_callN (slices_pdqsortOrdered_int_c _ _ ?_) rfl ?_ ?_ | refine v_callT (slices_pdqsortOrdered_int_c _ _ ?_) rfl ?_ ?_ | refine v_callTd (slices_pdqsortOrdered_int_c _ _ ?_) rfl ?_ ?_ | refine v_callR (slices_pdqsortOrdered_int_c _ _ ?_) rfl ?_ ?_ | refine v_callT3 (slices_insertionSortOrdered_int_c _ ?_) ?_ ?_ | refine v_callT4 (slices_insertionSortOrdered_int_c _ ?_) ?_ ?_ | refine v_callT3 (slices_pdqsortOrdered_int_c _ _ ?_) ?_ ?_ | refine v_callT4 (slices_pdqsortOrdered_int_c _ _ ?_) ?_ ?_ | refine v_finO1 rfl ?_ | refine v_finN1 rfl ?_ ?_ | refine v_apj ?_ (fun j' => ?_) | refine v_stz ?_ ?_ ?_ ?_ ?_ | refine v_stq ?_ | refine v_cv1 ?_ ?_ ?_ | (intro hc; replace fc := And.intro hc fc; try simp only [hcs] at hc)) <;> (try simp (config := { maxSteps := 1000000 }) only [go_sem, ↓reduceIte, reduceCtorEq, Nat.reduceEqDiff, Nat.reduceAdd, Nat.reduceMul, Nat.reduceSub, Nat.reduceLeDiff, Int.reduceLT, Int.reduceLE, Int.reduceEq, Int.reduceSub, Int.reduceAdd, Int.reduceMul, Int.reduceNeg, Int.reduceToNat, fc]) <;> (try with_reducible rfl))
  refine v_loop (fun ms1 S1 => ∃ (u : Nat), S1.e 0 = .ref 0 0 (Z).length ∧ S1.h 0 = .live true (List.map (PV.int .i64) (Z)) ∧ 0 < S1.n ∧ S1.e 1 = .p (.int .i64 (0)) ∧ S1.e 2 = .p (.int .i64 ((Z.length : Int))) ∧ S1.e 3 = .p (.int .i64 (b)) ∧ S1.e 8 = .p (.bool (true)) ∧ S1.e 9 = .p (.bool (true)) ∧ ms1 = u) ((fun (u : Nat) => u) (0)) ?init1_2 ?body1_2
  case' init1_2 =>
    refine ⟨0, ?_, ?_, ?_, ?_, ?_, ?_, ?_, ?_, rfl⟩
    all_goals (try simp only [go_sem, ↓reduceIte, reduceCtorEq, Nat.reduceEqDiff, Nat.reduceAdd, Nat.reduceMul, Nat.reduceSub, Nat.reduceLeDiff, Int.reduceLT, Int.reduceLE, Int.reduceEq, Int.reduceSub, Int.reduceAdd, Int.reduceMul, Int.reduceNeg, Int.reduceToNat])
    repeat' refine And.intro ?_ ?_
    all_goals try first | rfl | omega | (simp only [lnA] <;> omega) | ((first | refine stp ?_ | refine dkz_eq ?_ ?_) <;> first | rfl | omega | (simp only [lnA] <;> omega) | (simp only [lnA, List.append_assoc, List.cons_append, List.nil_append]; done) | skip)
  case' body1_2 =>
    rintro ms1 S1 ⟨u, h1_0, b1_0, l1_0, h1_1, h1_2, h1_3, h1_8, h1_9, hm1⟩
    have n0 : ∀ c, (0 = S1.n + c) = False := fun c => eq_false (by omega)
    have p0 : ∀ c, (S1.n + c = 0) = False := fun c => eq_false (by omega)
    have q0 : (0 = S1.n) = False := eq_false (by omega)
    have r0 : (S1.n = 0) = False := eq_false (by omega)
  · have e1 : ((Z.length : Int) - 0 ≤ 12) = True := eq_true (by omega)
    have fc : True := trivial
    repeat' first
      | with_reducible first | refine stp ?_ | refine q_blk_o rfl ?_ | (refine hK _ ?_; clear hK) | (refine hA ?_; clear hA hB) | (refine hB ?_; clear hA hB) | exact v_end0 | exact v_end0' | refine v_gb1 ?_ ?_ | refine v_gb0 ?_ ?_ | refine And.intro ?_ ?_
      | (with_reducible refine hK _ _ ?_ ?_; focus (first | exact clearAll_quiet rfl | (refine clearAll_of [false, false, false, false, false, false, false, false, false, false, false, false, true, false, false] [] rfl (by decide +kernel) ?_; try simp only [go_sem, ↓reduceIte, reduceCtorEq, Nat.reduceEqDiff, Nat.reduceAdd, Nat.reduceMul, Nat.reduceSub, Nat.reduceLeDiff, Int.reduceLT, Int.reduceLE, Int.reduceEq, Int.reduceSub, Int.reduceAdd, Int.reduceMul, Int.reduceNeg, Int.reduceToNat, h1_0, b1_0, h1_1, h1_2, h1_3, h1_8, h1_9, n0, p0, q0, r0, e1])); all_goals (try clear hK))
      | (with_reducible refine p_ok ?_; decide)
      | ((first | with_reducible first | refine v_region rfl rfl (fun K hK => ?_) | refine v_draws rfl rfl (fun K hK => ?_) | refine v_if (fun A B hA hB => ?_) | refine v_end rfl ?_ | refine v_fin1 ?_ | refine v_finC1 ?_ | refine v_finR1 ?_ | refine v_callE (cmp_Less_int_c _ _) ?_ | refine v_callN (slices_insertionSortOrdered_int_c _ ?_) rfl ?_ ?_ | refine v_callT (slices_insertionSortOrdered_int_c _ ?_) rfl ?_ ?_ | refine v_callTd (slices_insertionSortOrdered_int_c _ ?_) rfl ?_ ?_ | refine v_callR (slices_insertionSortOrdered_int_c _ ?_) rfl ?_ ?_ | refine v_callN (slices_pdqsortOrdered_int_c _ _ ?_) rfl ?_ ?_ | refine v_callT (slices_pdqsortOrdered_int_c _ _ ?_) rfl ?_ ?_ | refine v_callTd (slices_pdqsortOrdered_int_c _ _ ?_) rfl ?_ ?_ | refine v_callR (slices_pdqsortOrdered_int_c _ _ ?_) rfl ?_ ?_ | refine v_callT3 (slices_insertionSortOrdered_int_c _ ?_) ?_ ?_ | refine v_callT4 (slices_insertionSortOrdered_int_c _ ?_) ?_ ?_ | refine v_callT3 (slices_pdqsortOrdered_int_c _ _ ?_) ?_ ?_ | refine v_callT4 (slices_pdqsortOrdered_int_c _ _ ?_) ?_ ?_ | refine v_finO1 rfl ?_ | refine v_finN1 rfl ?_ ?_ | refine v_apj ?_ (fun j' => ?_) | refine v_stz ?_ ?_ ?_ ?_ ?_ | refine v_stq ?_ | refine v_cv1 ?_ ?_ ?_ | (intro hc; replace fc := And.intro hc fc; try simp only [hcs] at hc)) <;> (try simp (config := { maxSteps := 1000000 }) only [go_sem, ↓reduceIte, reduceCtorEq, Nat.reduceEqDiff, Nat.reduceAdd, Nat.reduceMul, Nat.reduceSub, Nat.reduceLeDiff, Int.reduceLT, Int.reduceLE, Int.reduceEq, Int.reduceSub, Int.reduceAdd, Int.reduceMul, Int.reduceNeg, Int.reduceToNat, h1_0, b1_0, h1_1, h1_2, h1_3, h1_8, h1_9, n0, p0, q0, r0, e1, fc]) <;> (try with_reducible rfl))
    all_goals try (first | omega | (simp only [n_i64, n_u8]; omega) | (simp only [n_i64, n_u8, lnA]; omega) | (simp only [lnA]; done))
def sgSrI : FuncId → List Bool := fun f => if f = 254 then [true] else []
theorem sgSrI_eq {f : FuncId} : sgSrI f = if f = 254 then [true] else [] := _root_.id rfl
theorem wayE_sgSrI : wayE sgSrI = false := _root_.id rfl
theorem wayN_sgSrI : wayN sgSrI = false := _root_.id rfl
theorem wayS_sgSrI : wayS sgSrI = false := _root_.id rfl
theorem wayZ_sgSrI : wayZ sgSrI = false := _root_.id rfl
attribute [go_sem] sgSrI_eq wayE_sgSrI wayN_sgSrI wayS_sgSrI wayZ_sgSrI
theorem slices_Sort_int_int_c (Z : List Int) (hl : Z.length ≤ 12) : CallT Try.prog false 230 [.mu false (List.map (PV.int .i64) (Z))] [some (List.map (PV.int .i64) (srtI Z))] [] := by
  refine CallT.of (sg := sgSrI) (ts := []) mo Try.func230 rfl rfl rfl rfl (by kernel_rfl) (by simp only [go_sem]) rfl (by simp only [go_sem]) ?_
  have u3 : (Try.prog.underlying 3).isSome = true := by rw [Try.underlying3]; rfl
  have fc : True := trivial
  repeat' first
    | with_reducible first | refine stp ?_ | refine q_blk_o rfl ?_ | (refine hK _ ?_; clear hK) | (refine hA ?_; clear hA hB) | (refine hB ?_; clear hA hB) | exact v_end0 | exact v_end0' | refine v_gb1 ?_ ?_ | refine v_gb0 ?_ ?_ | refine And.intro ?_ ?_
    | (with_reducible refine p_ok ?_; decide)
    | ((first | with_reducible first | refine v_region rfl rfl (fun K hK => ?_) | refine v_draws rfl rfl (fun K hK => ?_) | refine v_if (fun A B hA hB => ?_) | refine v_end rfl ?_ | refine v_fin1 ?_ | refine v_finC1 ?_ | refine v_finR1 ?_ | refine v_callE (math_bits_Len_i_c _ ?_ ?_) ?_ | refine v_callN (slices_pdqsortOrdered_int_c _ _ ?_) rfl ?_ ?_ | refine v_callT (slices_pdqsortOrdered_int_c _ _ ?_) rfl ?_ ?_ | refine v_callTd (slices_pdqsortOrdered_int_c _ _ ?_) rfl ?_ ?_ | refine v_callR (slices_pdqsortOrdered_int_c _ _ ?_) rfl ?_ ?_ | refine v_callT3 (slices_pdqsortOrdered_int_c _ _ ?_) ?_ ?_ | refine v_callT4 (slices_pdqsortOrdered_int_c _ _ ?_) ?_ ?_ | refine v_finO1 rfl ?_ | refine v_finN1 rfl ?_ ?_ | refine v_apj ?_ (fun j' => ?_) | refine v_stz ?_ ?_ ?_ ?_ ?_ | refine v_stq ?_ | refine v_cv1 ?_ ?_ ?_ | (intro hc; replace fc := And.intro hc fc; try simp only [hcs] at hc)) <;> (try simp (config := { maxSteps := 1000000 }) only [go_sem, ↓reduceIte, reduceCtorEq, Nat.reduceEqDiff, Nat.reduceAdd, Nat.reduceMul, Nat.reduceSub, Nat.reduceLeDiff, Int.reduceLT, Int.reduceLE, Int.reduceEq, Int.reduceSub, Int.reduceAdd, Int.reduceMul, Int.reduceNeg, Int.reduceToNat, u3, fc]) <;> (try with_reducible rfl))
  all_goals try (first | omega | (simp only [n_i64, n_u8]; omega) | (simp only [n_i64, n_u8, lnA]; omega) | (simp only [lnA]; done))
  · show (0 : Int) ≤ _ ∧ _ ≤ (18446744073709551615 : Int); omega
end Go.Gl
