/-
  Putting numbers into tables: what the reference's functions compute. Conditions: none.
-/
import Derived.Test.YtnoedblfedppkaaDoorDg
import Derived.Test.YtnoedblfedppkaaDoorTab
import Derived.Test.YtnoedblfedppkaaDoorPermF
set_option linter.unusedSimpArgs false
set_option linter.unusedVariables false
set_option maxRecDepth 20000
set_option linter.unusedSectionVars false
namespace Go.Gl
open Go Go.Proofs
variable [Amb]
/-- How many at the front are below n. -/
def fstN (n : Int) : List Int → Nat
  | [] => 0
  | x :: l => if x < n then fstN n l + 1 else 0
theorem fstN_le {n : Int} : ∀ {l : List Int}, fstN n l ≤ l.length
  | [] => Nat.le_refl _
  | x :: l => by have := fstN_le (n := n) (l := l); rw [fstN, List.length_cons]; split <;> omega
theorem fstN_spec {n : Int} : ∀ {l : List Int}, (∀ j, j < fstN n l → l.getD j 0 < n) ∧ (fstN n l < l.length → ¬ l.getD (fstN n l) 0 < n)
  | [] => by simp [fstN]
  | x :: l => by
    obtain ⟨h1, h2⟩ := fstN_spec (n := n) (l := l)
    rw [fstN]
    by_cases q : x < n
    · rw [if_pos q]
      refine ⟨fun j hj => ?_, fun h => ?_⟩
      · cases j with
        | zero => exact q
        | succ j => exact h1 j (by omega)
      · exact h2 (by simpa using h)
    · rw [if_neg q]
      exact ⟨fun j hj => absurd hj (by omega), fun _ => q⟩
/-- A number put into a table, and the row that grew. -/
def putT : List (List Int) → Int → List (List Int) × Nat
  | [], n => ([[n]], 0)
  | l :: T, n => if fstN n l = l.length then ((l ++ [n]) :: T, 0) else (l.set (fstN n l) n :: (putT T (l.getD (fstN n l) 0)).1, (putT T (l.getD (fstN n l) 0)).2 + 1)
theorem putT_len : ∀ {T : List (List Int)} {n : Int}, (putT T n).2 ≤ T.length ∧ (putT T n).1.length = if (putT T n).2 = T.length then T.length + 1 else T.length
  | [], n => by simp [putT]
  | l :: T, n => by
    rw [putT]
    split
    · simp
    · have := putT_len (T := T) (n := l.getD (fstN n l) 0)
      simp only [List.length_cons]
      refine ⟨by omega, ?_⟩
      rw [this.2]; split <;> split <;> omega
/-- Both tables of the first numbers. -/
def insT (p : List Int) : Nat → List (List Int) × List (List Int)
  | 0 => ([], [])
  | k + 1 => ((putT (insT p k).1 (p.getD k 0)).1, if (putT (insT p k).1 (p.getD k 0)).2 = (insT p k).2.length then (insT p k).2 ++ [[(k : Int) + 1]] else (insT p k).2.set (putT (insT p k).1 (p.getD k 0)).2 ((insT p k).2.getD (putT (insT p k).1 (p.getD k 0)).2 [] ++ [(k : Int) + 1]))
theorem insT_len {p : List Int} : ∀ {k : Nat}, (insT p k).1.length = (insT p k).2.length
  | 0 => rfl
  | k + 1 => by
    have h := insT_len (p := p) (k := k)
    have h2 := putT_len (T := (insT p k).1) (n := p.getD k 0)
    rw [insT]
    simp only []
    rw [h2.2, h]
    split <;> simp
/-! ### how great it may become -/
theorem putT_row {B : Nat} : ∀ {T : List (List Int)} {n : Int}, (∀ l ∈ T, l.length ≤ B) → ∀ l ∈ (putT T n).1, l.length ≤ B + 1
  | [], n, _, l, hl => by simp [putT] at hl; subst hl; simp
  | r :: T, n, h, l, hl => by
    have h0 := h r List.mem_cons_self
    rw [putT] at hl
    split at hl
    · rcases List.mem_cons.1 hl with q | q
      · subst q; simp; omega
      · have := h l (List.mem_cons_of_mem _ q); omega
    · rcases List.mem_cons.1 hl with q | q
      · subst q; simp; omega
      · exact putT_row (fun x hx => h x (List.mem_cons_of_mem _ hx)) l q
theorem insT_b {p : List Int} : ∀ {k : Nat}, (insT p k).1.length ≤ k ∧ (∀ l ∈ (insT p k).1, l.length ≤ k) ∧ ∀ l ∈ (insT p k).2, l.length ≤ k
  | 0 => by simp [insT]
  | k + 1 => by
    obtain ⟨h1, h2, h3⟩ := insT_b (p := p) (k := k)
    have g := putT_len (T := (insT p k).1) (n := p.getD k 0)
    rw [insT]
    refine ⟨by simp only []; rw [g.2]; split <;> omega, putT_row h2, fun l hl => ?_⟩
    simp only [] at hl
    split at hl
    · rcases List.mem_append.1 hl with q | q
      · have := h3 l q; omega
      · simp at q; subst q; simp
    · rcases List.mem_or_eq_of_mem_set hl with q | q
      · have := h3 l q; omega
      · subst q
        rename_i hr
        have hlen := insT_len (p := p) (k := k)
        have := h3 _ (getD_mem (d := []) (show (putT (insT p k).1 (p.getD k 0)).2 < (insT p k).2.length by omega))
        rw [List.length_append, List.length_singleton]; omega
section
variable {P : Program} {h : Nat → Blk} {k : Nat} {C : R → Prop}
/-- Rows lent, handed back as rows, with a number. -/
theorem v_callTe {α : Type} {g : α → PV} {L : List (List α)} {kd : IntKind} {n : Int} {f : FuncId} {c : List PV} {ag : List Arg} {os : List (Option (List PV))} {rd : List Nat} {ms : List (Option (Nat × Option Nat))} {id : Nat}
    (hf : CallT P true f (.mu false c :: ag) (none :: os) [.dl (L.map (List.map g)), .int kd n]) (hn : (ms.all Option.isNone) = true) (hid : id ∉ rd)
    (hc : C ⟨.tup [.ref k 0 L.length, .p (.int kd n)], [(id, .dead), (k, dk g (flg (h id)) L)], id :: rd⟩) : Pk P h k f C (.mu false c :: ag) rd (some (id, none) :: ms) := by
  refine v_callM hf hn hid ?_
  simp only [List.getElem?_cons_zero]
  have e1 : impAll k [.dl (L.map (List.map g)), .int kd n] = .tup [.ref k 0 L.length, .p (.int kd n)] := by simp [impAll, imps, imp, imp1]
  have e2 : impWs (true && flg (h id)) k [.dl (L.map (List.map g)), .int kd n] = [(k, dk g (flg (h id)) L)] := by simp [impWs, impW, impW1, dk]
  rw [e1, e2]
  exact hc
theorem api_dk {α : Type} {f : α → PV} {m : Bool} {L : List (List α)} {id r len : Nat} {ys : List PV} {rd : List Nat} : apI (dk f m L) id r len k C ys rd = (r < L.length ∧ len = (L.getD r []).length ∧ id ∉ rd ∧ len + ys.length ≤ 1099511627776 ∧ C ⟨.ref k 0 (len + ys.length), [(id, dgo f m (List.range L.length) ((L.map some).set r none)), (k, .live m ((L.getD r []).map f ++ ys))], id :: rd⟩) := by
  rw [dk_dgo, api_go, List.getElem?_map]
  by_cases hr : r < L.length
  · rw [List.getElem?_eq_getElem hr, Option.map_some, apQ_eq]
    have e : L.getD r [] = L[r] := by rw [List.getD_eq_getElem?_getD, List.getElem?_eq_getElem hr]; rfl
    simp only [e, hr, true_and]
  · rw [List.getElem?_eq_none (by omega)]; simp [hr, apQ]
theorem ft_dli {id off len : Nat} {rows : List (List PV)} {kd kd' : IntKind} {n n' : Int} : fins true h k [.ref id off len, .p (.int kd n)] [.dl rows, .int kd' n'] F0 = (fdB (h id) true k id off len rows FT ∧ kd = kd' ∧ n = n') := by
  simp only [fins, fin, fin1, fdB]
  cases h id with
  | deep m cs rs =>
    simp only [AV.p.injEq, PV.int.injEq, List.append_nil, F0, FT, List.pairwise_cons, List.not_mem_nil, false_imp_iff, implies_true, List.Pairwise.nil, and_true, _root_.and_true, and_self]
    apply propext; constructor
    · rintro ⟨h1, h2, sel, h3, h4, h5⟩; exact ⟨⟨h1, h2, sel, h3, h4⟩, h5.1, h5.2⟩
    · rintro ⟨⟨h1, h2, sel, h3, h4⟩, h5, h6⟩; exact ⟨h1, h2, sel, h3, h4, h5, h6⟩
  | _ => simp
theorem str_g1 {m m' : Bool} {cs : List Nat} {L : List (Option (List Int))} {n : Int} {id off id' off' len : Nat} : stRB (dgo (PV.int .i64) m cs L) (.live m' [PV.int .i64 n]) id off id' off' len C = ((m' = true → m = true) ∧ off' = 0 ∧ len = 1 ∧ off < cs.length ∧ id' ≠ id ∧ C ⟨.p .any, [(id', .dead), (id, dgo (PV.int .i64) m (cs.set off L.length) (L ++ [some [n]]))], [id, id']⟩) := str_go (l := [n])
theorem ad_d1 {m : Bool} {U : List (List Int)} {v : Int} {id len j n : Nat} : adB (dk (PV.int .i64) m U) (.deep false [.row 0] [some [PV.int .i64 v]]) id len j n k C = adB (dk (PV.int .i64) m U) (dk (PV.int .i64) false [[v]]) id len j n k C := _root_.id rfl
end
attribute [go_sem] api_dk ad_d1 ft_dli str_g1
def sgIns : FuncId → List Bool := fun f => if f = 106 then [true] else if f = 4294967297 then [true, false, false] else []
theorem sgIns_eq {f : FuncId} : sgIns f = if f = 106 then [true] else if f = 4294967297 then [true, false, false] else [] := _root_.id rfl
theorem wayE_sgIns : wayE sgIns = false := _root_.id rfl
theorem wayN_sgIns : wayN sgIns = true := _root_.id rfl
theorem wayS_sgIns : wayS sgIns = false := _root_.id rfl
theorem wayZ_sgIns : wayZ sgIns = false := _root_.id rfl
attribute [go_sem] sgIns_eq wayE_sgIns wayN_sgIns wayS_sgIns wayZ_sgIns
theorem drop_cons {T : List (List Int)} {r : Nat} (h : r < T.length) : T.drop r = T.getD r [] :: T.drop (r + 1) := by
  rw [List.getD_eq_getElem?_getD, List.getElem?_eq_getElem h, Option.getD_some, List.drop_eq_getElem_cons h]
theorem tset {β : Type} {l : List β} {i : Nat} {x : β} (h : i < l.length) : (l.set i x).take (i + 1) = l.take i ++ [x] := by
  rw [List.set_eq_take_append_cons_drop, if_pos h, List.take_append, List.take_of_length_le (by simp; omega), List.length_take, Nat.min_eq_left (by omega), Nat.add_sub_cancel_left]; rfl
theorem tdrop {β : Type} {l : List β} {i : Nat} {x : β} : (l.set i x).drop (i + 1) = l.drop (i + 1) := by rw [List.drop_set, if_pos (by omega)]
theorem tcut {β : Type} {l : List β} {i : Nat} {x : β} (h : i < l.length) : l.set i x = l.take i ++ x :: l.drop (i + 1) := by rw [List.set_eq_take_append_cons_drop, if_pos h]
theorem rg_at {n i : Nat} (h : i < n) : (List.range n).getD i 0 = i := by rw [List.getD_eq_getElem?_getD, List.getElem?_range h]; rfl
set_option maxHeartbeats 1600000 in
theorem spec_l19Put_c (T : List (List Int)) (n : Int) (hT : T.length ≤ 1000) (hl : ∀ l ∈ T, l.length ≤ 1000) :
    CallT Tryd.prog true 106 [.mu false [.dl (List.map (List.map (PV.int .i64)) T)], .pv (.int .i64 n)] [none, none] [.dl (List.map (List.map (PV.int .i64)) (putT T n).1), .int .i64 ((putT T n).2 : Int)] := by
  refine CallT.of (sg := sgIns) (ts := [4, 5]) mo Tryd.func106 rfl rfl rfl rfl (by kernel_rfl) (by simp only [go_sem]) rfl (by simp only [go_sem]) ?_
  have fc : True := trivial
  repeat' first
    | with_reducible first | refine stp ?_ | refine q_blk_o rfl ?_ | (refine hK _ ?_; clear hK) | (refine hA ?_; clear hA hB) | (refine hB ?_; clear hA hB) | exact v_end0 | exact v_end0' | refine v_gb1 ?_ ?_ | refine v_gb0 ?_ ?_ | refine And.intro ?_ ?_
    | (with_reducible refine p_ok ?_; decide)
    | ((first | with_reducible first | refine v_region rfl rfl (fun K hK => ?_) | refine v_draws rfl rfl (fun K hK => ?_) | refine v_if (fun A B hA hB => ?_) | refine v_end rfl ?_ | refine v_fin1 ?_ | refine v_finC1 ?_ | refine v_finR1 ?_ | refine v_finO1 rfl ?_ | refine v_finN1 rfl ?_ ?_ | refine v_finT1 rfl ?_ | refine v_apj ?_ (fun j' => ?_) | refine v_stz ?_ ?_ ?_ ?_ ?_ | refine v_stq ?_ | refine v_cv1 ?_ ?_ ?_ | (intro hc; replace fc := And.intro hc fc; try simp only [hcs] at hc)) <;> (try simp (config := { maxSteps := 1000000 }) only [go_sem, ↓reduceIte, reduceCtorEq, Nat.reduceEqDiff, Nat.reduceAdd, Nat.reduceMul, Nat.reduceSub, Nat.reduceLeDiff, Int.reduceLT, Int.reduceLE, Int.reduceEq, Int.reduceSub, Int.reduceAdd, Int.reduceMul, Int.reduceNeg, Int.reduceToNat, fc]) <;> (try with_reducible rfl))
  all_goals try (first | omega | (simp only [n_i64, n_u8]; omega) | (simp only [n_i64, n_u8, lnA]; omega) | (simp only [lnA]; done) | exact List.take_of_length_le (by simp))
  refine v_loop (fun ms1 S1 => ∃ (r : Nat) (U : List (List Int)) (v : Int), S1.e 0 = .ref 0 0 (U).length ∧ S1.h 0 = dk (PV.int .i64) true (U) ∧ 0 < S1.n ∧ S1.e 1 = .p (.int .i64 (v)) ∧ S1.e 6 = .p (.int .i64 (r)) ∧ (r ≤ T.length) ∧ (U.length = T.length) ∧ (U.drop r = T.drop r) ∧ ((putT T n).1 = U.take r ++ (putT (T.drop r) v).1) ∧ ((putT T n).2 = r + (putT (T.drop r) v).2) ∧ ms1 = T.length - r) ((fun (r : Nat) (U : List (List Int)) (v : Int) => T.length - r) (0) (T) (n)) ?init1_0 ?body1_0
  case' init1_0 =>
    refine ⟨0, T, n, ?_, ?_, ?_, ?_, ?_, ?_, ?_, ?_, ?_, ?_, rfl⟩
    all_goals (try simp only [go_sem, ↓reduceIte, reduceCtorEq, Nat.reduceEqDiff, Nat.reduceAdd, Nat.reduceMul, Nat.reduceSub, Nat.reduceLeDiff, Int.reduceLT, Int.reduceLE, Int.reduceEq, Int.reduceSub, Int.reduceAdd, Int.reduceMul, Int.reduceNeg, Int.reduceToNat])
    repeat' refine And.intro ?_ ?_
    all_goals try first | rfl | omega | (simp only [lnA] <;> omega) | ((first | refine stp ?_ | refine dkz_eq ?_ ?_) <;> first | rfl | omega | (simp only [lnA] <;> omega) | (simp only [lnA, List.append_assoc, List.cons_append, List.nil_append]; done) | skip)
  case' body1_0 =>
    rintro ms1 S1 ⟨r, U, v, h1_0, b1_0, l1_0, h1_1, h1_6, c1_0, c1_1, c1_2, c1_3, c1_4, hm1⟩
    have n0 : ∀ c, (0 = S1.n + c) = False := fun c => eq_false (by omega)
    have p0 : ∀ c, (S1.n + c = 0) = False := fun c => eq_false (by omega)
    have q0 : (0 = S1.n) = False := eq_false (by omega)
    have r0 : (S1.n = 0) = False := eq_false (by omega)
  · by_cases hr : r < T.length
    · have d1 : T.drop r = U.getD r [] :: T.drop (r + 1) := by
        rw [← c1_2, drop_cons (by omega), show U.drop (r + 1) = T.drop (r + 1) by rw [← List.drop_drop, ← List.drop_drop, c1_2]]
      have d2 : (U.getD r []).length ≤ 1000 := by
        refine hl _ ?_
        have : U.getD r [] ∈ T.drop r := by rw [d1]; exact List.mem_cons_self
        exact List.mem_of_mem_drop this
      obtain ⟨row, hrow⟩ : ∃ row, U.getD r [] = row := ⟨_, rfl⟩
      rw [hrow] at d1 d2
      obtain ⟨s1, s2⟩ := fstN_spec (n := v) (l := row)
      have s3 := fstN_le (n := v) (l := row)
      have fc : True := trivial
      repeat' first
        | with_reducible first | refine stp ?_ | refine q_blk_o rfl ?_ | (refine hK _ ?_; clear hK) | (refine hA ?_; clear hA hB) | (refine hB ?_; clear hA hB) | exact v_end0 | exact v_end0' | refine v_gb1 ?_ ?_ | refine v_gb0 ?_ ?_ | refine And.intro ?_ ?_
        | (with_reducible refine p_ok ?_; decide)
        | ((first | with_reducible first | refine v_region rfl rfl (fun K hK => ?_) | refine v_draws rfl rfl (fun K hK => ?_) | refine v_if (fun A B hA hB => ?_) | refine v_end rfl ?_ | refine v_fin1 ?_ | refine v_finC1 ?_ | refine v_finR1 ?_ | refine v_finO1 rfl ?_ | refine v_finN1 rfl ?_ ?_ | refine v_finT1 rfl ?_ | refine v_apj ?_ (fun j' => ?_) | refine v_stz ?_ ?_ ?_ ?_ ?_ | refine v_stq ?_ | refine v_cv1 ?_ ?_ ?_ | (intro hc; replace fc := And.intro hc fc; try simp only [hcs] at hc)) <;> (try simp (config := { maxSteps := 1000000 }) only [go_sem, ↓reduceIte, reduceCtorEq, Nat.reduceEqDiff, Nat.reduceAdd, Nat.reduceMul, Nat.reduceSub, Nat.reduceLeDiff, Int.reduceLT, Int.reduceLE, Int.reduceEq, Int.reduceSub, Int.reduceAdd, Int.reduceMul, Int.reduceNeg, Int.reduceToNat, h1_0, b1_0, h1_1, h1_6, n0, p0, q0, r0, hrow, fc]) <;> (try with_reducible rfl))
      all_goals try (first | omega | (simp only [n_i64, n_u8]; omega) | (simp only [n_i64, n_u8, lnA]; omega) | (simp only [lnA]; done) | exact List.take_of_length_le (by simp))
      refine v_loop (fun ms2 S2 => ∃ (c : Nat), S2.e 0 = .ref 0 0 (U).length ∧ S2.h 0 = dk (PV.int .i64) true (U) ∧ 0 < S2.n ∧ S2.e 1 = .p (.int .i64 (v)) ∧ S2.e 6 = .p (.int .i64 (r)) ∧ S2.e 7 = .p (.int .i64 (c)) ∧ (c ≤ fstN v row) ∧ S1.n ≤ S2.n ∧ ms2 = fstN v row - c) ((fun (c : Nat) => fstN v row - c) (0)) ?init2_1 ?body2_1
      case' init2_1 =>
        refine ⟨0, ?_, ?_, ?_, ?_, ?_, ?_, ?_, ?_, rfl⟩
        all_goals (try simp only [go_sem, ↓reduceIte, reduceCtorEq, Nat.reduceEqDiff, Nat.reduceAdd, Nat.reduceMul, Nat.reduceSub, Nat.reduceLeDiff, Int.reduceLT, Int.reduceLE, Int.reduceEq, Int.reduceSub, Int.reduceAdd, Int.reduceMul, Int.reduceNeg, Int.reduceToNat, h1_0, b1_0, h1_1, h1_6, n0, p0, q0, r0])
        repeat' refine And.intro ?_ ?_
        all_goals try first | rfl | omega | (simp only [lnA] <;> omega) | ((first | refine stp ?_ | refine dkz_eq ?_ ?_) <;> first | rfl | omega | (simp only [lnA] <;> omega) | (simp only [lnA, List.append_assoc, List.cons_append, List.nil_append]; done) | skip)
      case' body2_1 =>
        rintro ms2 S2 ⟨c, h2_0, b2_0, l2_0, h2_1, h2_6, h2_7, c2_0, u2_0, hm2⟩
        have n0 : ∀ c, (0 = S2.n + c) = False := fun c => eq_false (by omega)
        have p0 : ∀ c, (S2.n + c = 0) = False := fun c => eq_false (by omega)
        have q0 : (0 = S2.n) = False := eq_false (by omega)
        have r0 : (S2.n = 0) = False := eq_false (by omega)
      · by_cases hc : c < fstN v row
        · have s4 := s1 c hc
          have fc : True := trivial
          repeat' first
            | with_reducible first | refine stp ?_ | refine q_blk_o rfl ?_ | (refine hK _ ?_; clear hK) | (refine hA ?_; clear hA hB) | (refine hB ?_; clear hA hB) | exact v_end0 | exact v_end0' | refine v_gb1 ?_ ?_ | refine v_gb0 ?_ ?_ | refine And.intro ?_ ?_
            | (with_reducible refine p_ok ?_; decide)
            | ((first | with_reducible first | refine v_region rfl rfl (fun K hK => ?_) | refine v_draws rfl rfl (fun K hK => ?_) | refine v_if (fun A B hA hB => ?_) | refine v_end rfl ?_ | refine v_fin1 ?_ | refine v_finC1 ?_ | refine v_finR1 ?_ | refine v_finO1 rfl ?_ | refine v_finN1 rfl ?_ ?_ | refine v_finT1 rfl ?_ | refine v_apj ?_ (fun j' => ?_) | refine v_stz ?_ ?_ ?_ ?_ ?_ | refine v_stq ?_ | refine v_cv1 ?_ ?_ ?_ | (intro hc; replace fc := And.intro hc fc; try simp only [hcs] at hc)) <;> (try simp (config := { maxSteps := 1000000 }) only [go_sem, ↓reduceIte, reduceCtorEq, Nat.reduceEqDiff, Nat.reduceAdd, Nat.reduceMul, Nat.reduceSub, Nat.reduceLeDiff, Int.reduceLT, Int.reduceLE, Int.reduceEq, Int.reduceSub, Int.reduceAdd, Int.reduceMul, Int.reduceNeg, Int.reduceToNat, h2_0, b2_0, h2_1, h2_6, h2_7, n0, p0, q0, r0, hrow, fc]) <;> (try with_reducible rfl))
          all_goals try (first | omega | (simp only [n_i64, n_u8]; omega) | (simp only [n_i64, n_u8, lnA]; omega) | (simp only [lnA]; done) | exact List.take_of_length_le (by simp))
          focus
            refine q_lp_n ((fun (c : Nat) => fstN v row - c) (c+1)) ?_ ⟨c+1, ?_, ?_, ?_, ?_, ?_, ?_, ?_, ?_, rfl⟩
            all_goals (try simp only [go_sem, ↓reduceIte, reduceCtorEq, Nat.reduceEqDiff, Nat.reduceAdd, Nat.reduceMul, Nat.reduceSub, Nat.reduceLeDiff, Int.reduceLT, Int.reduceLE, Int.reduceEq, Int.reduceSub, Int.reduceAdd, Int.reduceMul, Int.reduceNeg, Int.reduceToNat, h2_0, b2_0, h2_1, h2_6, h2_7, n0, p0, q0, r0])
            repeat' refine And.intro ?_ ?_
            all_goals try first | rfl | omega | (simp only [lnA] <;> omega) | ((first | refine stp ?_ | refine dkz_eq ?_ ?_) <;> first | rfl | omega | (simp only [lnA] <;> omega) | (simp only [lnA, List.append_assoc, List.cons_append, List.nil_append]; done) | skip)
        · obtain rfl : c = fstN v row := by omega
          by_cases he : fstN v row = row.length
          · have p1 : putT (T.drop r) v = ((row ++ [v]) :: T.drop (r + 1), 0) := by rw [d1, putT, if_pos he]
            rw [p1] at c1_3 c1_4
            have p2 : (putT T n).1 = U.set r (row ++ [v]) := by
              rw [c1_3, tcut (by omega), show U.drop (r + 1) = T.drop (r + 1) by rw [← List.drop_drop, ← List.drop_drop, c1_2]]
            have p3 := tb_grow (tb_range (T := U)) (i := r) (l := row ++ [v]) (by omega)
            rw [rg_at (by omega)] at p3
            have fc : True := trivial
            repeat' first
              | with_reducible first | refine stp ?_ | refine q_blk_o rfl ?_ | (refine hK _ ?_; clear hK) | (refine hA ?_; clear hA hB) | (refine hB ?_; clear hA hB) | exact v_end0 | exact v_end0' | refine v_gb1 ?_ ?_ | refine v_gb0 ?_ ?_ | refine And.intro ?_ ?_
              | (with_reducible refine p_ok ?_; decide)
              | ((first | with_reducible first | refine v_region rfl rfl (fun K hK => ?_) | refine v_draws rfl rfl (fun K hK => ?_) | refine v_if (fun A B hA hB => ?_) | refine v_end rfl ?_ | refine v_fin1 ?_ | refine v_finC1 ?_ | refine v_finR1 ?_ | refine v_finO1 rfl ?_ | refine v_finN1 rfl ?_ ?_ | refine v_finT1 rfl ?_ | refine v_apj ?_ (fun j' => ?_) | refine v_stz ?_ ?_ ?_ ?_ ?_ | refine v_stq ?_ | refine v_cv1 ?_ ?_ ?_ | (intro hc; replace fc := And.intro hc fc; try simp only [hcs] at hc)) <;> (try simp (config := { maxSteps := 1000000 }) only [go_sem, ↓reduceIte, reduceCtorEq, Nat.reduceEqDiff, Nat.reduceAdd, Nat.reduceMul, Nat.reduceSub, Nat.reduceLeDiff, Int.reduceLT, Int.reduceLE, Int.reduceEq, Int.reduceSub, Int.reduceAdd, Int.reduceMul, Int.reduceNeg, Int.reduceToNat, h2_0, b2_0, h2_1, h2_6, h2_7, n0, p0, q0, r0, hrow, he, fc]) <;> (try with_reducible rfl))
            all_goals try (first | omega | (simp only [n_i64, n_u8]; omega) | (simp only [n_i64, n_u8, lnA]; omega) | (simp only [lnA]; done) | exact List.take_of_length_le (by simp))
            · exact fd_go (T := U.set r (row ++ [v])) p3 (fun h => h) (by rw [p2]) (by simp) trivial
          · have s4 := s2 (by omega)
            have p1 : putT (T.drop r) v = (row.set (fstN v row) v :: (putT (T.drop (r + 1)) (row.getD (fstN v row) 0)).1, (putT (T.drop (r + 1)) (row.getD (fstN v row) 0)).2 + 1) := by rw [d1, putT, if_neg he]
            rw [p1] at c1_3 c1_4
            have fc : True := trivial
            repeat' first
              | with_reducible first | refine stp ?_ | refine q_blk_o rfl ?_ | (refine hK _ ?_; clear hK) | (refine hA ?_; clear hA hB) | (refine hB ?_; clear hA hB) | exact v_end0 | exact v_end0' | refine v_gb1 ?_ ?_ | refine v_gb0 ?_ ?_ | refine And.intro ?_ ?_
              | (with_reducible refine p_ok ?_; decide)
              | ((first | with_reducible first | refine v_region rfl rfl (fun K hK => ?_) | refine v_draws rfl rfl (fun K hK => ?_) | refine v_if (fun A B hA hB => ?_) | refine v_end rfl ?_ | refine v_fin1 ?_ | refine v_finC1 ?_ | refine v_finR1 ?_ | refine v_finO1 rfl ?_ | refine v_finN1 rfl ?_ ?_ | refine v_finT1 rfl ?_ | refine v_apj ?_ (fun j' => ?_) | refine v_stz ?_ ?_ ?_ ?_ ?_ | refine v_stq ?_ | refine v_cv1 ?_ ?_ ?_ | (intro hc; replace fc := And.intro hc fc; try simp only [hcs] at hc)) <;> (try simp (config := { maxSteps := 1000000 }) only [go_sem, ↓reduceIte, reduceCtorEq, Nat.reduceEqDiff, Nat.reduceAdd, Nat.reduceMul, Nat.reduceSub, Nat.reduceLeDiff, Int.reduceLT, Int.reduceLE, Int.reduceEq, Int.reduceSub, Int.reduceAdd, Int.reduceMul, Int.reduceNeg, Int.reduceToNat, h2_0, b2_0, h2_1, h2_6, h2_7, n0, p0, q0, r0, hrow, fc]) <;> (try with_reducible rfl))
            all_goals try (first | omega | (simp only [n_i64, n_u8]; omega) | (simp only [n_i64, n_u8, lnA]; omega) | (simp only [lnA]; done) | exact List.take_of_length_le (by simp))
            focus
              refine q_lp_n ((fun (r : Nat) (U : List (List Int)) (v : Int) => T.length - r) (r+1) (U.set r (row.set (fstN v row) v)) (row.getD (fstN v row) 0)) ?_ ⟨r+1, U.set r (row.set (fstN v row) v), row.getD (fstN v row) 0, ?_, ?_, ?_, ?_, ?_, ?_, ?_, ?_, ?_, ?_, rfl⟩
              all_goals (try simp only [go_sem, ↓reduceIte, reduceCtorEq, Nat.reduceEqDiff, Nat.reduceAdd, Nat.reduceMul, Nat.reduceSub, Nat.reduceLeDiff, Int.reduceLT, Int.reduceLE, Int.reduceEq, Int.reduceSub, Int.reduceAdd, Int.reduceMul, Int.reduceNeg, Int.reduceToNat, h2_0, b2_0, h2_1, h2_6, h2_7, n0, p0, q0, r0])
              repeat' refine And.intro ?_ ?_
              all_goals try first | rfl | omega | (simp only [lnA] <;> omega) | ((first | refine stp ?_ | refine dkz_eq ?_ ?_) <;> first | rfl | omega | (simp only [lnA] <;> omega) | (simp only [lnA, List.append_assoc, List.cons_append, List.nil_append]; done) | skip)
            all_goals first | (rw [tdrop, ← List.drop_drop, ← List.drop_drop, c1_2]; done) | (rw [tset (by omega), c1_3]; simp; done) | (rw [c1_4]; omega) | trace_state
    · have p1 : putT (T.drop r) v = ([[v]], 0) := by rw [List.drop_of_length_le (by omega), putT]
      rw [p1] at c1_3 c1_4
      rw [List.take_of_length_le (by omega)] at c1_3
      have fc : True := trivial
      repeat' first
        | with_reducible first | refine stp ?_ | refine q_blk_o rfl ?_ | (refine hK _ ?_; clear hK) | (refine hA ?_; clear hA hB) | (refine hB ?_; clear hA hB) | exact v_end0 | exact v_end0' | refine v_gb1 ?_ ?_ | refine v_gb0 ?_ ?_ | refine And.intro ?_ ?_
        | (with_reducible refine p_ok ?_; decide)
        | ((first | with_reducible first | refine v_region rfl rfl (fun K hK => ?_) | refine v_draws rfl rfl (fun K hK => ?_) | refine v_if (fun A B hA hB => ?_) | refine v_end rfl ?_ | refine v_fin1 ?_ | refine v_finC1 ?_ | refine v_finR1 ?_ | refine v_finO1 rfl ?_ | refine v_finN1 rfl ?_ ?_ | refine v_finT1 rfl ?_ | refine v_apj ?_ (fun j' => ?_) | refine v_stz ?_ ?_ ?_ ?_ ?_ | refine v_stq ?_ | refine v_cv1 ?_ ?_ ?_ | (intro hc; replace fc := And.intro hc fc; try simp only [hcs] at hc)) <;> (try simp (config := { maxSteps := 1000000 }) only [go_sem, ↓reduceIte, reduceCtorEq, Nat.reduceEqDiff, Nat.reduceAdd, Nat.reduceMul, Nat.reduceSub, Nat.reduceLeDiff, Int.reduceLT, Int.reduceLE, Int.reduceEq, Int.reduceSub, Int.reduceAdd, Int.reduceMul, Int.reduceNeg, Int.reduceToNat, h1_0, b1_0, h1_1, h1_6, n0, p0, q0, r0, fc]) <;> (try with_reducible rfl))
      all_goals try (first | omega | (simp only [n_i64, n_u8]; omega) | (simp only [n_i64, n_u8, lnA]; omega) | (simp only [lnA]; done) | exact List.take_of_length_le (by simp))
      · rw [List.take_of_length_le (by simp), c1_3]
  all_goals trace_state
set_option maxHeartbeats 1600000 in
theorem spec_l19Insert_c {m0 : Bool} (p : List Int) (h8 : p.length ≤ 8) : Fun Tryd.prog 72 [(.sl (.lent m0) (List.map (PV.int .i64) (p)))] [(.dl (List.map (List.map (PV.int .i64)) ((insT p p.length).1))), (.dl (List.map (List.map (PV.int .i64)) ((insT p p.length).2)))] := by
  refine Fun.of (sg := sgIns) (ts := [2, 3]) mo Tryd.func72 rfl rfl rfl rfl (by kernel_rfl) (by simp only [go_sem]) rfl ?_
  have fc : True := trivial
  repeat' first
    | with_reducible first | refine stp ?_ | refine q_blk_o rfl ?_ | (refine hK _ ?_; clear hK) | (refine hA ?_; clear hA hB) | (refine hB ?_; clear hA hB) | exact v_end0 | exact v_end0' | refine v_gb1 ?_ ?_ | refine v_gb0 ?_ ?_ | refine And.intro ?_ ?_
    | (with_reducible refine p_ok ?_; decide)
    | ((first | with_reducible first | refine v_region rfl rfl (fun K hK => ?_) | refine v_draws rfl rfl (fun K hK => ?_) | refine v_if (fun A B hA hB => ?_) | refine v_end rfl ?_ | refine v_fin1 ?_ | refine v_finC1 ?_ | refine v_finR1 ?_ | refine v_finO1 rfl ?_ | refine v_finN1 rfl ?_ ?_ | refine v_apj ?_ (fun j' => ?_) | refine v_stz ?_ ?_ ?_ ?_ ?_ | refine v_stq ?_ | refine v_cv1 ?_ ?_ ?_ | (intro hc; replace fc := And.intro hc fc; try simp only [hcs] at hc)) <;> (try simp (config := { maxSteps := 1000000 }) only [go_sem, ↓reduceIte, reduceCtorEq, Nat.reduceEqDiff, Nat.reduceAdd, Nat.reduceMul, Nat.reduceSub, Nat.reduceLeDiff, Int.reduceLT, Int.reduceLE, Int.reduceEq, Int.reduceSub, Int.reduceAdd, Int.reduceMul, Int.reduceNeg, Int.reduceToNat, fc]) <;> (try with_reducible rfl))
  all_goals try (first | omega | (simp only [n_i64, n_u8]; omega) | (simp only [n_i64, n_u8, lnA]; omega) | (simp only [lnA]; done) | exact List.take_of_length_le (by simp))
  refine v_loop (fun ms1 S1 => ∃ (k : Nat) (cs : List Nat) (L : List (Option (List Int))), S1.e 0 = .p (.sl (.lent m0) (List.map (PV.int .i64) (p))) ∧ DwnL (S1.e 4) S1.h S1.n (PV.int .i64) (((insT p k).1).length) ((insT p k).1) ∧ GwnL (S1.e 5) S1.h S1.n (PV.int .i64) (cs) (L) ∧ S1.e 6 = .p (.int .i64 (k)) ∧ (k ≤ p.length) ∧ (Tb cs L (insT p k).2) ∧ NId (S1.e 5) (S1.e 4) ∧ ms1 = p.length - k) ((fun (k : Nat) (cs : List Nat) (L : List (Option (List Int))) => p.length - k) (0) ([]) ([])) ?init1_2 ?body1_2
  case' init1_2 =>
    refine ⟨0, [], [], ?_, ?_, ?_, ?_, ?_, ?_, ?_, rfl⟩
    all_goals (try simp only [go_sem, ↓reduceIte, reduceCtorEq, Nat.reduceEqDiff, Nat.reduceAdd, Nat.reduceMul, Nat.reduceSub, Nat.reduceLeDiff, Int.reduceLT, Int.reduceLE, Int.reduceEq, Int.reduceSub, Int.reduceAdd, Int.reduceMul, Int.reduceNeg, Int.reduceToNat])
    repeat' refine And.intro ?_ ?_
    all_goals try first | rfl | omega | (simp only [lnA] <;> omega) | ((first | refine stp ?_ | refine dkz_eq ?_ ?_) <;> first | rfl | omega | (simp only [lnA] <;> omega) | (simp only [lnA, List.append_assoc, List.cons_append, List.nil_append]; done) | skip)
  case' body1_2 =>
    rintro ms1 S1 ⟨k, cs, L, h1_0, o1_4, o1_5, h1_6, c1_0, c1_1, u1_0, hm1⟩
    obtain ⟨i1_4, h1_4, b1_4, l1_4⟩ := o1_4.out
    obtain ⟨i1_5, h1_5, b1_5, l1_5⟩ := o1_5.out
    have k1_0 := (u1_0).out h1_5 h1_4
    have ni1_4 : ∀ c, (i1_4 = S1.n + c) = False := fun c => eq_false (by omega)
    have pi1_4 : ∀ c, (S1.n + c = i1_4) = False := fun c => eq_false (by omega)
    have qi1_4 : (i1_4 = S1.n) = False := eq_false (by omega)
    have ri1_4 : (S1.n = i1_4) = False := eq_false (by omega)
    have ni1_5 : ∀ c, (i1_5 = S1.n + c) = False := fun c => eq_false (by omega)
    have pi1_5 : ∀ c, (S1.n + c = i1_5) = False := fun c => eq_false (by omega)
    have qi1_5 : (i1_5 = S1.n) = False := eq_false (by omega)
    have ri1_5 : (S1.n = i1_5) = False := eq_false (by omega)
    have di1_4i1_5 : (i1_4 = i1_5) = False := eq_false (by omega)
    have di1_5i1_4 : (i1_5 = i1_4) = False := eq_false (by omega)
  · obtain ⟨i1, i2, i3⟩ := insT_b (p := p) (k := k)
    have i4 := insT_len (p := p) (k := k)
    by_cases hk : k < p.length
    · have hT := c1_1.len
      have q1 := putT_len (T := (insT p k).1) (n := p.getD k 0)
      have q2 : insT p (k + 1) = ((putT (insT p k).1 (p.getD k 0)).1, if (putT (insT p k).1 (p.getD k 0)).2 = (insT p k).2.length then (insT p k).2 ++ [[(k : Int) + 1]] else (insT p k).2.set (putT (insT p k).1 (p.getD k 0)).2 ((insT p k).2.getD (putT (insT p k).1 (p.getD k 0)).2 [] ++ [(k : Int) + 1])) := rfl
      have cp := spec_l19Put_c (insT p k).1 (p.getD k 0) (by omega) (fun l hl => by have := i2 l hl; omega)
      generalize hA : (insT p k).1 = TA at *
      generalize hB : (insT p k).2 = TB at *
      generalize hP : putT TA (p.getD k 0) = W at *
      obtain ⟨TA', r⟩ := W
      simp only [] at q1 q2 cp
      by_cases hr : r = TB.length
      · rw [if_pos hr] at q2
        have g0 : ((r : Int) = cs.length) = True := eq_true (by omega)
        have t1 := tb_snoc (l := ([] : List Int)) c1_1
        have t2 := tb_grow (i := r) (l := [(k : Int) + 1]) t1 (by simp; omega)
        have e1 : (cs ++ [L.length]).getD r 0 = L.length := ga_eq (by omega)
        have e2 : (L ++ [some ([] : List Int)])[L.length]? = some (some []) := ge_eq rfl
        rw [e1] at t2
        have e9 : (TB ++ [([] : List Int)]).set r [(k : Int) + 1] = TB ++ [[(k : Int) + 1]] := by subst hr; simp
        rw [e9] at t2
        have fc : True := trivial
        repeat' first
          | with_reducible first | refine stp ?_ | refine q_blk_o rfl ?_ | (refine hK _ ?_; clear hK) | (refine hA ?_; clear hA hB) | (refine hB ?_; clear hA hB) | exact v_end0 | exact v_end0' | refine v_gb1 ?_ ?_ | refine v_gb0 ?_ ?_ | refine And.intro ?_ ?_
          | (with_reducible refine p_ok ?_; decide)
          | ((first | with_reducible first | refine v_region rfl rfl (fun K hK => ?_) | refine v_draws rfl rfl (fun K hK => ?_) | refine v_if (fun A B hA hB => ?_) | refine v_end rfl ?_ | refine v_fin1 ?_ | refine v_finC1 ?_ | refine v_finR1 ?_ | refine v_callTe (cp) rfl ?_ ?_ | refine v_callN (cp) rfl ?_ ?_ | refine v_callT (cp) rfl ?_ ?_ | refine v_callTd (cp) rfl ?_ ?_ | refine v_callR (cp) rfl ?_ ?_ | refine v_callT3 (cp) ?_ ?_ | refine v_callT4 (cp) ?_ ?_ | refine v_finO1 rfl ?_ | refine v_finN1 rfl ?_ ?_ | refine v_apj ?_ (fun j' => ?_) | refine v_stz ?_ ?_ ?_ ?_ ?_ | refine v_stq ?_ | refine v_cv1 ?_ ?_ ?_ | (intro hc; replace fc := And.intro hc fc; try simp only [hcs] at hc)) <;> (try simp (config := { maxSteps := 1000000 }) only [go_sem, ↓reduceIte, reduceCtorEq, Nat.reduceEqDiff, Nat.reduceAdd, Nat.reduceMul, Nat.reduceSub, Nat.reduceLeDiff, Int.reduceLT, Int.reduceLE, Int.reduceEq, Int.reduceSub, Int.reduceAdd, Int.reduceMul, Int.reduceNeg, Int.reduceToNat, h1_0, h1_6, h1_4, b1_4, h1_5, b1_5, ni1_4, pi1_4, qi1_4, ri1_4, ni1_5, pi1_5, qi1_5, ri1_5, di1_4i1_5, di1_5i1_4, g0, e1, e2, fc]) <;> (try with_reducible rfl))
        all_goals try (first | omega | (simp only [n_i64, n_u8]; omega) | (simp only [n_i64, n_u8, lnA]; omega) | (simp only [lnA]; done) | exact List.take_of_length_le (by simp))
        focus
          refine q_lp_n ((fun (k : Nat) (cs : List Nat) (L : List (Option (List Int))) => p.length - k) (k+1) ((cs ++ [L.length]).set r ((L ++ [some []]).set L.length none).length) ((L ++ [some []]).set L.length none ++ [some [(k : Int) + 1]])) ?_ ⟨k+1, (cs ++ [L.length]).set r ((L ++ [some []]).set L.length none).length, (L ++ [some []]).set L.length none ++ [some [(k : Int) + 1]], ?_, ?_, ?_, ?_, ?_, ?_, ?_, rfl⟩
          all_goals (try simp only [go_sem, ↓reduceIte, reduceCtorEq, Nat.reduceEqDiff, Nat.reduceAdd, Nat.reduceMul, Nat.reduceSub, Nat.reduceLeDiff, Int.reduceLT, Int.reduceLE, Int.reduceEq, Int.reduceSub, Int.reduceAdd, Int.reduceMul, Int.reduceNeg, Int.reduceToNat, h1_0, h1_6, h1_4, b1_4, h1_5, b1_5, ni1_4, pi1_4, qi1_4, ri1_4, ni1_5, pi1_5, qi1_5, ri1_5, di1_4i1_5, di1_5i1_4])
          repeat' refine And.intro ?_ ?_
          all_goals try first | rfl | omega | (simp only [lnA] <;> omega) | ((first | refine stp ?_ | refine dkz_eq ?_ ?_) <;> first | rfl | omega | (simp only [lnA] <;> omega) | (simp only [lnA, List.append_assoc, List.cons_append, List.nil_append]; done) | skip)
        all_goals first | (rw [q2]; exact t2) | (rw [q2]; done) | (rw [q2]; rfl) | trace_state
      · rw [if_neg hr] at q2
        have g0 : ((r : Int) = cs.length) = False := eq_false (by omega)
        have e2 := c1_1.at_ r (by omega)
        have t2 := tb_grow (i := r) (l := TB.getD r [] ++ [(k : Int) + 1]) c1_1 (by omega)
        have e3 := i3 (TB.getD r []) (getD_mem (by omega))
        have fc : True := trivial
        repeat' first
          | with_reducible first | refine stp ?_ | refine q_blk_o rfl ?_ | (refine hK _ ?_; clear hK) | (refine hA ?_; clear hA hB) | (refine hB ?_; clear hA hB) | exact v_end0 | exact v_end0' | refine v_gb1 ?_ ?_ | refine v_gb0 ?_ ?_ | refine And.intro ?_ ?_
          | (with_reducible refine p_ok ?_; decide)
          | ((first | with_reducible first | refine v_region rfl rfl (fun K hK => ?_) | refine v_draws rfl rfl (fun K hK => ?_) | refine v_if (fun A B hA hB => ?_) | refine v_end rfl ?_ | refine v_fin1 ?_ | refine v_finC1 ?_ | refine v_finR1 ?_ | refine v_callTe (cp) rfl ?_ ?_ | refine v_callN (cp) rfl ?_ ?_ | refine v_callT (cp) rfl ?_ ?_ | refine v_callTd (cp) rfl ?_ ?_ | refine v_callR (cp) rfl ?_ ?_ | refine v_callT3 (cp) ?_ ?_ | refine v_callT4 (cp) ?_ ?_ | refine v_finO1 rfl ?_ | refine v_finN1 rfl ?_ ?_ | refine v_apj ?_ (fun j' => ?_) | refine v_stz ?_ ?_ ?_ ?_ ?_ | refine v_stq ?_ | refine v_cv1 ?_ ?_ ?_ | (intro hc; replace fc := And.intro hc fc; try simp only [hcs] at hc)) <;> (try simp (config := { maxSteps := 1000000 }) only [go_sem, ↓reduceIte, reduceCtorEq, Nat.reduceEqDiff, Nat.reduceAdd, Nat.reduceMul, Nat.reduceSub, Nat.reduceLeDiff, Int.reduceLT, Int.reduceLE, Int.reduceEq, Int.reduceSub, Int.reduceAdd, Int.reduceMul, Int.reduceNeg, Int.reduceToNat, h1_0, h1_6, h1_4, b1_4, h1_5, b1_5, ni1_4, pi1_4, qi1_4, ri1_4, ni1_5, pi1_5, qi1_5, ri1_5, di1_4i1_5, di1_5i1_4, g0, e2, fc]) <;> (try with_reducible rfl))
        all_goals try (first | omega | (simp only [n_i64, n_u8]; omega) | (simp only [n_i64, n_u8, lnA]; omega) | (simp only [lnA]; done) | exact List.take_of_length_le (by simp))
        focus
          refine q_lp_n ((fun (k : Nat) (cs : List Nat) (L : List (Option (List Int))) => p.length - k) (k+1) (cs.set r (L.set (cs.getD r 0) none).length) (L.set (cs.getD r 0) none ++ [some (TB.getD r [] ++ [(k : Int) + 1])])) ?_ ⟨k+1, cs.set r (L.set (cs.getD r 0) none).length, L.set (cs.getD r 0) none ++ [some (TB.getD r [] ++ [(k : Int) + 1])], ?_, ?_, ?_, ?_, ?_, ?_, ?_, rfl⟩
          all_goals (try simp only [go_sem, ↓reduceIte, reduceCtorEq, Nat.reduceEqDiff, Nat.reduceAdd, Nat.reduceMul, Nat.reduceSub, Nat.reduceLeDiff, Int.reduceLT, Int.reduceLE, Int.reduceEq, Int.reduceSub, Int.reduceAdd, Int.reduceMul, Int.reduceNeg, Int.reduceToNat, h1_0, h1_6, h1_4, b1_4, h1_5, b1_5, ni1_4, pi1_4, qi1_4, ri1_4, ni1_5, pi1_5, qi1_5, ri1_5, di1_4i1_5, di1_5i1_4])
          repeat' refine And.intro ?_ ?_
          all_goals try first | rfl | omega | (simp only [lnA] <;> omega) | ((first | refine stp ?_ | refine dkz_eq ?_ ?_) <;> first | rfl | omega | (simp only [lnA] <;> omega) | (simp only [lnA, List.append_assoc, List.cons_append, List.nil_append]; done) | skip)
        all_goals first | (rw [q2]; exact t2) | (rw [q2]; done) | (rw [q2]; rfl) | trace_state
    · obtain rfl : k = p.length := by omega
      have fc : True := trivial
      repeat' first
        | with_reducible first | refine stp ?_ | refine q_blk_o rfl ?_ | (refine hK _ ?_; clear hK) | (refine hA ?_; clear hA hB) | (refine hB ?_; clear hA hB) | exact v_end0 | exact v_end0' | refine v_gb1 ?_ ?_ | refine v_gb0 ?_ ?_ | refine And.intro ?_ ?_
        | (with_reducible refine p_ok ?_; decide)
        | ((first | with_reducible first | refine v_region rfl rfl (fun K hK => ?_) | refine v_draws rfl rfl (fun K hK => ?_) | refine v_if (fun A B hA hB => ?_) | refine v_end rfl ?_ | refine v_fin1 ?_ | refine v_finC1 ?_ | refine v_finR1 ?_ | refine v_finO1 rfl ?_ | refine v_finN1 rfl ?_ ?_ | refine v_apj ?_ (fun j' => ?_) | refine v_stz ?_ ?_ ?_ ?_ ?_ | refine v_stq ?_ | refine v_cv1 ?_ ?_ ?_ | (intro hc; replace fc := And.intro hc fc; try simp only [hcs] at hc)) <;> (try simp (config := { maxSteps := 1000000 }) only [go_sem, ↓reduceIte, reduceCtorEq, Nat.reduceEqDiff, Nat.reduceAdd, Nat.reduceMul, Nat.reduceSub, Nat.reduceLeDiff, Int.reduceLT, Int.reduceLE, Int.reduceEq, Int.reduceSub, Int.reduceAdd, Int.reduceMul, Int.reduceNeg, Int.reduceToNat, h1_0, h1_6, h1_4, b1_4, h1_5, b1_5, ni1_4, pi1_4, qi1_4, ri1_4, ni1_5, pi1_5, qi1_5, ri1_5, di1_4i1_5, di1_5i1_4, fc]) <;> (try with_reducible rfl))
      all_goals try (first | omega | (simp only [n_i64, n_u8]; omega) | (simp only [n_i64, n_u8, lnA]; omega) | (simp only [lnA]; done) | exact List.take_of_length_le (by simp))
      refine fd_go c1_1 (fun h => by cases h) rfl c1_1.len ?_
      simp only [FK, FL, fins, F0, List.nil_append, List.cons_append, List.append_nil]
      refine List.Pairwise.cons (fun q hq => ?_) (List.pairwise_singleton _ _)
      rw [List.mem_singleton] at hq
      subst hq
      exact .inl (show i1_4 ≠ i1_5 by omega)
  all_goals exact Tb.nil
