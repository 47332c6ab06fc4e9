/-
  Rows in order: what the library's sorting and compacting and the reference's putting in compute. Conditions: none.
-/
import Derived.Test.YtdpahkppdakenaaBasis
import Derived.Test.YtdpahkppdakenaaSess
import Derived.Test.YtdpahkppdakenaaShelfS
set_option linter.unusedSimpArgs false
set_option linter.unusedVariables false
set_option maxRecDepth 20000
set_option linter.unusedSectionVars false
namespace Go.Gl
open Go Go.Proofs
variable [Amb]
theorem cmpI_anti {a b : Int} : cmpI b a = - cmpI a b := by
  unfold cmpI; split <;> split <;> first | omega | (split <;> omega)
theorem cmpL_anti : ∀ {a b : List Int}, cmpL b a = - cmpL a b
  | [], [] => rfl
  | [], _ :: _ => rfl
  | _ :: _, [] => rfl
  | a :: x, b :: y => by
    rw [cmpL, cmpL, cmpI_anti]
    by_cases h : cmpI a b = 0
    · rw [if_neg (by omega), if_neg (by omega), cmpL_anti]
    · rw [if_pos (by omega), if_pos h]
theorem cmpP_anti {a b : List Int} : cmpP b a = - cmpP a b := by
  unfold cmpP
  rw [cmpI_anti (a := a.length)]
  by_cases h : cmpI a.length b.length = 0
  · rw [if_neg (by omega), if_neg (by omega), cmpL_anti]
  · rw [if_pos (by omega), if_pos h]
theorem cmpL_0 : ∀ {a b : List Int}, cmpL a b = 0 → a = b
  | [], [], _ => rfl
  | [], _ :: _, h => by simp [cmpL] at h
  | _ :: _, [], h => by simp [cmpL] at h
  | a :: x, b :: y, h => by
    rw [cmpL] at h
    by_cases e : cmpI a b = 0
    · rw [if_neg (by omega)] at h; rw [cmpI_0.1 e, cmpL_0 h]
    · rw [if_pos e] at h; exact absurd h e
theorem cmpP_0 {a b : List Int} (h : cmpP a b = 0) : a = b := by
  unfold cmpP at h
  by_cases e : cmpI a.length b.length = 0
  · rw [if_neg (by omega)] at h; exact cmpL_0 h
  · rw [if_pos e] at h; exact absurd h e
theorem cmpL_self : ∀ {a : List Int}, cmpL a a = 0
  | [] => rfl
  | a :: x => by rw [cmpL, if_neg (fun h => h (cmpI_0.2 rfl))]; exact cmpL_self
theorem cmpI_lt_iff {a b : Int} : cmpI a b < 0 ↔ a < b := by unfold cmpI; split; omega; split <;> omega
theorem cmpL_trans : ∀ {a b c : List Int}, cmpL a b < 0 → cmpL b c < 0 → cmpL a c < 0
  | [], [], _, h, _ => by simp [cmpL] at h
  | [], _ :: _, [], _, h => by simp [cmpL] at h
  | [], _ :: _, _ :: _, _, _ => by simp [cmpL]
  | _ :: _, [], _, h, _ => by simp [cmpL] at h
  | _ :: _, _ :: _, [], _, h => by simp [cmpL] at h
  | a :: x, b :: y, c :: z, h1, h2 => by
    rw [cmpL] at h1 h2 ⊢
    by_cases e1 : cmpI a b = 0
    · rw [if_neg (by omega)] at h1
      rw [cmpI_0.1 e1]
      by_cases e2 : cmpI b c = 0
      · rw [if_neg (by omega)] at h2 ⊢; exact cmpL_trans h1 h2
      · rw [if_pos e2] at h2 ⊢; exact h2
    · rw [if_pos e1] at h1
      have g1 := cmpI_lt_iff.1 h1
      by_cases e2 : cmpI b c = 0
      · have := cmpI_0.1 e2; subst this; rw [if_pos e1]; exact h1
      · rw [if_pos e2] at h2
        have g2 := cmpI_lt_iff.1 h2
        have g3 : cmpI a c < 0 := cmpI_lt_iff.2 (by omega)
        rw [if_pos (by omega)]; exact g3
theorem bef_iff {a b : List Int} : befB a b = true ↔ a.length < b.length ∨ (a.length = b.length ∧ cmpL a b < 0) := by
  rw [befB, decide_eq_true_eq, cmpP]
  by_cases e : cmpI a.length b.length = 0
  · rw [if_neg (by omega)]; have := cmpI_0.1 e; omega
  · rw [if_pos e, cmpI_lt_iff]
    have : ¬ (a.length : Int) = b.length := fun h => e (cmpI_0.2 h)
    omega
theorem bef_trans {a b c : List Int} (h1 : befB a b = true) (h2 : befB b c = true) : befB a c = true := by
  rw [bef_iff] at *
  rcases h1 with h1 | ⟨h1, g1⟩ <;> rcases h2 with h2 | ⟨h2, g2⟩
  · left; omega
  · left; omega
  · left; omega
  · exact .inr ⟨by omega, cmpL_trans g1 g2⟩
theorem bef_irr {a : List Int} : befB a a = false := by
  rw [Bool.eq_false_iff]; intro h; rw [bef_iff] at h
  rcases h with h | ⟨_, h⟩
  · omega
  · rw [cmpL_self] at h; omega
theorem bef_tot {a b : List Int} (h : befB a b = false) (hne : a ≠ b) : befB b a = true := by
  have h1 : ¬ cmpP a b < 0 := by simpa [befB] using h
  have h2 : ¬ cmpP a b = 0 := fun e => hne (cmpP_0 e)
  have h3 := cmpP_anti (a := a) (b := b)
  simp [befB]; omega
/-- Weakly before. -/
def leP (a b : List Int) : Prop := befB b a = false
theorem leP_trans {a b c : List Int} (h1 : leP a b) (h2 : leP b c) : leP a c := by
  unfold leP at *
  rw [Bool.eq_false_iff]; intro h
  by_cases e : a = b
  · subst e; rw [h] at h2; cases h2
  · have := bef_tot h1 (Ne.symm e)
    rw [bef_trans h this] at h2; cases h2
theorem bef_leP {a b : List Int} (h : befB a b = true) : leP a b := by
  unfold leP; rw [Bool.eq_false_iff]; intro h2
  have := bef_trans h h2; rw [bef_irr] at this; cases this
/-- Where p belongs among the first k of a sorted list. -/
def atP (L : List (List Int)) (p : List Int) : Nat → Nat
  | 0 => 0
  | k + 1 => if befB p (L.getD k []) = true then atP L p k else k + 1
theorem atP_spec {L : List (List Int)} {p : List Int} : ∀ {k : Nat}, atP L p k ≤ k ∧ (∀ i, atP L p k ≤ i → i < k → befB p (L.getD i []) = true) ∧ (atP L p k = 0 ∨ befB p (L.getD (atP L p k - 1) []) = false)
  | 0 => ⟨Nat.le_refl _, fun i _ h => absurd h (by omega), .inl rfl⟩
  | k + 1 => by
    rw [atP]
    by_cases e : befB p (L.getD k []) = true
    · rw [if_pos e]
      obtain ⟨h1, h2, h3⟩ := atP_spec (L := L) (p := p) (k := k)
      refine ⟨by omega, fun i hi hk => ?_, h3⟩
      by_cases q : i = k
      · subst q; exact e
      · exact h2 i hi (by omega)
    · rw [if_neg e]
      refine ⟨Nat.le_refl _, fun i hi hk => by omega, .inr ?_⟩
      simpa using e
/-- p into the list, at place j. -/
def insK (L : List (List Int)) (p : List Int) (j : Nat) : List (List Int) := L.take j ++ p :: L.drop j
def insS (L : List (List Int)) (p : List Int) : List (List Int) := insK L p (atP L p L.length)
def putP (L : List (List Int)) (p : List Int) : List (List Int) := if 0 < atP L p L.length ∧ L.getD (atP L p L.length - 1) [] = p then L else insS L p
def isortL (L : List (List Int)) : List (List Int) := L.foldl insS []
def putL (L : List (List Int)) : List (List Int) := L.foldl putP []
theorem insK_len {L : List (List Int)} {p : List Int} {j : Nat} : (insK L p j).length = L.length + 1 := by
  unfold insK; simp; omega
theorem insK_mem {L : List (List Int)} {p x : List Int} {j : Nat} : x ∈ insK L p j ↔ x = p ∨ x ∈ L := by
  unfold insK
  rw [List.mem_append, List.mem_cons]
  have : x ∈ L ↔ x ∈ L.take j ∨ x ∈ L.drop j := by rw [← List.mem_append, List.take_append_drop]
  rw [this]; constructor
  · rintro (h | h | h) <;> simp [h]
  · rintro (h | h | h) <;> simp [h]
def WS (L : List (List Int)) : Prop := L.Pairwise leP
def SS (L : List (List Int)) : Prop := L.Pairwise fun a b => befB a b = true
theorem pw_get {R : List Int → List Int → Prop} {L : List (List Int)} (h : L.Pairwise R) {i j : Nat} (hij : i < j) (hj : j < L.length) : R (L.getD i []) (L.getD j []) := by
  rw [List.pairwise_iff_getElem] at h
  have := h i j (by omega) hj hij
  rw [List.getD_eq_getElem?_getD, List.getD_eq_getElem?_getD, List.getElem?_eq_getElem (by omega), List.getElem?_eq_getElem hj]
  exact this
theorem take_mem {L : List (List Int)} {j : Nat} {x : List Int} (h : x ∈ L.take j) : ∃ i, i < j ∧ i < L.length ∧ L.getD i [] = x := by
  obtain ⟨i, hi, e⟩ := List.getElem_of_mem h
  simp only [List.length_take] at hi
  refine ⟨i, by omega, by omega, ?_⟩
  rw [List.getElem_take] at e
  rw [List.getD_eq_getElem?_getD, List.getElem?_eq_getElem (by omega)]; exact e
theorem drop_mem {L : List (List Int)} {j : Nat} {x : List Int} (h : x ∈ L.drop j) : ∃ i, j ≤ i ∧ i < L.length ∧ L.getD i [] = x := by
  obtain ⟨i, hi, e⟩ := List.getElem_of_mem h
  simp only [List.length_drop] at hi
  refine ⟨j + i, by omega, by omega, ?_⟩
  rw [List.getElem_drop] at e
  rw [List.getD_eq_getElem?_getD, List.getElem?_eq_getElem (by omega)]; exact e
theorem insK_pw {R : List Int → List Int → Prop} {L : List (List Int)} {p : List Int} {j : Nat} (h : L.Pairwise R) (h1 : ∀ i, i < j → i < L.length → R (L.getD i []) p) (h2 : ∀ i, j ≤ i → i < L.length → R p (L.getD i [])) : (insK L p j).Pairwise R := by
  unfold insK
  have h3 := h
  rw [← List.take_append_drop j L, List.pairwise_append] at h3
  rw [List.pairwise_append, List.pairwise_cons]
  refine ⟨h3.1, ⟨fun x hx => ?_, h3.2.1⟩, fun x hx y hy => ?_⟩
  · obtain ⟨i, q1, q2, rfl⟩ := drop_mem hx; exact h2 i q1 q2
  · rcases List.mem_cons.1 hy with rfl | hy
    · obtain ⟨i, q1, q2, rfl⟩ := take_mem hx; exact h1 i q1 q2
    · exact h3.2.2 x hx y hy
theorem at_le {L : List (List Int)} {p : List Int} (h : L.Pairwise leP) {i : Nat} (hi : i < atP L p L.length) : leP (L.getD i []) p := by
  obtain ⟨h1, h2, h3⟩ := atP_spec (L := L) (p := p) (k := L.length)
  rcases h3 with h3 | h3
  · omega
  · by_cases e : i = atP L p L.length - 1
    · rw [e]; exact h3
    · exact leP_trans (pw_get h (i := i) (j := atP L p L.length - 1) (by omega) (by omega)) h3
theorem insS_ws {L : List (List Int)} {p : List Int} (h : WS L) : WS (insS L p) :=
  insK_pw h (fun _ hi _ => at_le h hi) fun i hi hl => bef_leP ((atP_spec (L := L) (p := p) (k := L.length)).2.1 i hi hl)
theorem SS_ws {L : List (List Int)} (h : SS L) : WS L := h.imp bef_leP
theorem putP_ss {L : List (List Int)} {p : List Int} (h : SS L) : SS (putP L p) := by
  unfold putP
  split
  · exact h
  · rename_i hn
    refine insK_pw h (fun i hi hl => ?_) fun i hi hl => (atP_spec (L := L) (p := p) (k := L.length)).2.1 i hi hl
    have h0 := at_le (SS_ws h) hi
    have h1 := (atP_spec (L := L) (p := p) (k := L.length)).1
    refine bef_tot h0 fun e => hn ⟨by omega, ?_⟩
    by_cases q : i = atP L p L.length - 1
    · rw [← q]; exact e.symm
    · have h2 := pw_get h (i := i) (j := atP L p L.length - 1) (by omega) (by omega)
      have h3 := at_le (SS_ws h) (L := L) (p := p) (i := atP L p L.length - 1) (by omega)
      rw [← e] at h2
      unfold leP at h3; rw [h2] at h3; cases h3
theorem putP_mem {L : List (List Int)} {p x : List Int} : x ∈ putP L p ↔ x = p ∨ x ∈ L := by
  unfold putP
  split
  · rename_i h
    constructor
    · exact .inr
    · rintro (rfl | h2)
      · rw [← h.2]; exact getD_mem (by have := (atP_spec (L := L) (p := x) (k := L.length)).1; omega)
      · exact h2
  · exact insK_mem
theorem isort_ws (L : List (List Int)) : ∀ {A : List (List Int)}, WS A → WS (L.foldl insS A) := by
  induction L with
  | nil => exact fun h => h
  | cons x l ih => exact fun h => ih (insS_ws h)
theorem isort_mem (L : List (List Int)) : ∀ {A : List (List Int)} {x : List Int}, x ∈ L.foldl insS A ↔ x ∈ L ∨ x ∈ A := by
  induction L with
  | nil => simp
  | cons y l ih => intro A x; rw [List.foldl_cons, ih]; unfold insS; rw [insK_mem, List.mem_cons, or_left_comm, or_assoc]
theorem put_ss (L : List (List Int)) : ∀ {A : List (List Int)}, SS A → SS (L.foldl putP A) := by
  induction L with
  | nil => exact fun h => h
  | cons x l ih => exact fun h => ih (putP_ss h)
theorem put_mem (L : List (List Int)) : ∀ {A : List (List Int)} {x : List Int}, x ∈ L.foldl putP A ↔ x ∈ L ∨ x ∈ A := by
  induction L with
  | nil => simp
  | cons y l ih => intro A x; rw [List.foldl_cons, ih, putP_mem, List.mem_cons, or_left_comm, or_assoc]
theorem insS_len {L : List (List Int)} {p : List Int} : (insS L p).length = L.length + 1 := insK_len
theorem isort_len (L : List (List Int)) : ∀ {A : List (List Int)}, (L.foldl insS A).length = L.length + A.length := by
  induction L with
  | nil => simp
  | cons y l ih => intro A; rw [List.foldl_cons, ih, insS_len, List.length_cons]; omega
theorem put_len (L : List (List Int)) : ∀ {A : List (List Int)}, (L.foldl putP A).length ≤ L.length + A.length := by
  induction L with
  | nil => simp
  | cons y l ih =>
    intro A; rw [List.foldl_cons]
    have h := ih (A := putP A y)
    have : (putP A y).length ≤ A.length + 1 := by unfold putP; split; omega; rw [insS_len]; omega
    rw [List.length_cons]; omega
/-- Neighbours that are one are told once: of the first j. -/
def cptF (L : List (List Int)) : Nat → List (List Int)
  | 0 => []
  | j + 1 => cptF L j ++ if 0 < j ∧ L.getD j [] = L.getD (j - 1) [] then [] else [L.getD j []]
theorem cptF_mem {L : List (List Int)} {x : List Int} : ∀ {j : Nat}, x ∈ cptF L j ↔ ∃ i, i < j ∧ L.getD i [] = x
  | 0 => by simp [cptF]
  | j + 1 => by
    rw [cptF, List.mem_append, cptF_mem]
    constructor
    · rintro (⟨i, h1, h2⟩ | h)
      · exact ⟨i, by omega, h2⟩
      · split at h
        · cases h
        · simp at h; exact ⟨j, by omega, h.symm⟩
    · rintro ⟨i, h1, h2⟩
      by_cases e : i = j
      · subst e
        by_cases q : 0 < i ∧ L.getD i [] = L.getD (i - 1) []
        · left; exact ⟨i - 1, by omega, by rw [← q.2]; exact h2⟩
        · right; rw [if_neg q, h2]; exact List.mem_singleton.2 rfl
      · left; exact ⟨i, by omega, h2⟩
theorem cptF_ss {L : List (List Int)} (h : WS L) : ∀ {j : Nat}, j ≤ L.length → SS (cptF L j)
  | 0, _ => List.Pairwise.nil
  | j + 1, hj => by
    rw [cptF]
    by_cases q : 0 < j ∧ L.getD j [] = L.getD (j - 1) []
    · rw [if_pos q, List.append_nil]; exact cptF_ss h (by omega)
    · rw [if_neg q]
      refine List.pairwise_append.2 ⟨cptF_ss h (by omega), List.pairwise_singleton _ _, fun a ha b hb => ?_⟩
      rw [List.mem_singleton] at hb; subst hb
      obtain ⟨i, h1, rfl⟩ := cptF_mem.1 ha
      have h2 : befB (L.getD (j - 1) []) (L.getD j []) = true := bef_tot (pw_get h (i := j - 1) (j := j) (by omega) (by omega)) (fun e => q ⟨by omega, e⟩)
      by_cases e : i = j - 1
      · rw [e]; exact h2
      · have h3 := pw_get h (i := i) (j := j - 1) (by omega) (by omega)
        by_cases e2 : L.getD i [] = L.getD (j - 1) []
        · rw [e2]; exact h2
        · exact bef_trans (bef_tot h3 (Ne.symm e2)) h2
theorem ss_ext : ∀ {A B : List (List Int)}, SS A → SS B → (∀ x, x ∈ A ↔ x ∈ B) → A = B
  | [], [], _, _, _ => rfl
  | [], b :: B, _, _, h => by have := (h b).2 (by simp); cases this
  | a :: A, [], _, _, h => by have := (h a).1 (by simp); cases this
  | a :: A, b :: B, ha, hb, h => by
    have pa := List.pairwise_cons.1 ha
    have pb := List.pairwise_cons.1 hb
    have hn : ∀ {x y : List Int}, befB x y = true → befB y x = true → False := fun h1 h2 => by
      have := bef_trans h1 h2; rw [bef_irr] at this; cases this
    have e : a = b := by
      rcases List.mem_cons.1 ((h a).1 (by simp)) with q | q
      · exact q
      · rcases List.mem_cons.1 ((h b).2 (by simp)) with q2 | q2
        · exact q2.symm
        · exact (hn (pb.1 _ q) (pa.1 _ q2)).elim
    subst e
    rw [ss_ext pa.2 pb.2 fun x => ?_]
    constructor
    · intro hx
      rcases List.mem_cons.1 ((h x).1 (by simp [hx])) with rfl | q
      · have := pa.1 _ hx; rw [bef_irr] at this; cases this
      · exact q
    · intro hx
      rcases List.mem_cons.1 ((h x).2 (by simp [hx])) with rfl | q
      · have := pb.1 _ hx; rw [bef_irr] at this; cases this
      · exact q
/-- What the library's sorting and compacting gives is what is put in one after the other. -/
theorem ord_eq (L : List (List Int)) : cptF (isortL L) (isortL L).length = putL L := by
  refine ss_ext (cptF_ss (isort_ws L List.Pairwise.nil) (Nat.le_refl _)) (put_ss L List.Pairwise.nil) fun x => ?_
  rw [cptF_mem, putL, put_mem]
  have h : x ∈ isortL L ↔ x ∈ L := by unfold isortL; rw [isort_mem]; simp
  constructor
  · rintro ⟨i, h1, rfl⟩; exact .inl (h.1 (getD_mem h1))
  · rintro (h1 | h1)
    · have := h.2 h1
      obtain ⟨i, hi, e⟩ := List.getElem_of_mem this
      exact ⟨i, hi, by rw [List.getD_eq_getElem?_getD, List.getElem?_eq_getElem hi]; exact e⟩
    · cases h1
theorem atP_uniq {L : List (List Int)} {p : List Int} : ∀ {k j : Nat}, j ≤ k → (∀ q, j ≤ q → q < k → befB p (L.getD q []) = true) → (0 < j → befB p (L.getD (j - 1) []) = false) → atP L p k = j
  | 0, j, h, _, _ => by rw [atP]; omega
  | k + 1, j, h, h1, h2 => by
    rw [atP]
    by_cases e : j = k + 1
    · subst e
      have := h2 (by omega)
      rw [Nat.add_sub_cancel] at this
      rw [this]; rfl
    · rw [if_pos (h1 k (by omega) (by omega))]
      exact atP_uniq (by omega) (fun q a b => h1 q a (by omega)) h2
theorem getD_app1 {α : Type} {A B : List α} {d : α} {i : Nat} (h : i < A.length) : (A ++ B).getD i d = A.getD i d := by
  rw [List.getD_eq_getElem?_getD, List.getD_eq_getElem?_getD, List.getElem?_append_left h]
theorem insK_at {L : List (List Int)} {p : List Int} {j : Nat} (h : j ≤ L.length) : (insK L p j).getD j [] = p := by
  unfold insK
  rw [List.getD_eq_getElem?_getD, List.getElem?_append_right (by simp; omega), List.length_take, Nat.min_eq_left h, Nat.sub_self]; rfl
theorem insK_lo {L : List (List Int)} {p : List Int} {j i : Nat} (h : j ≤ L.length) (hi : i < j) : (insK L p j).getD i [] = L.getD i [] := by
  unfold insK
  rw [getD_app1 (by simp; omega), List.getD_eq_getElem?_getD, List.getD_eq_getElem?_getD, List.getElem?_take_of_lt hi]
theorem insK_swap {L : List (List Int)} {p : List Int} {j : Nat} (h0 : 0 < j) (h : j ≤ L.length) {R : List (List Int)} : ((insK L p j ++ R).set j (L.getD (j - 1) [])).set (j - 1) p = insK L p (j - 1) ++ R := by
  obtain ⟨i, rfl⟩ : ∃ i, j = i + 1 := ⟨j - 1, by omega⟩
  rw [Nat.add_sub_cancel]
  apply List.ext_getElem?; intro q
  have l1 : (insK L p (i + 1) ++ R).length = L.length + 1 + R.length := by rw [List.length_append, insK_len]
  rw [List.getElem?_set, List.getElem?_set, List.length_set, l1]
  have hd : ∀ {a : Nat}, a < L.length → L[a]? = some (L.getD a []) := fun {a} ha => by rw [List.getD_eq_getElem?_getD, List.getElem?_eq_getElem ha]; rfl
  have key : ∀ {k q : Nat}, k ≤ L.length → q < L.length + 1 → (insK L p k)[q]? = if q < k then L[q]? else if q = k then some p else L[q - 1]? := fun {k q} hk hq => by
    unfold insK
    by_cases h1 : q < k
    · rw [if_pos h1, List.getElem?_append_left (by simp; omega), List.getElem?_take_of_lt h1]
    · rw [if_neg h1, List.getElem?_append_right (by simp; omega), List.length_take, Nat.min_eq_left hk]
      by_cases h2 : q = k
      · rw [if_pos h2, h2, Nat.sub_self]; rfl
      · rw [if_neg h2, show q - k = (q - k - 1) + 1 by omega, List.getElem?_cons_succ, List.getElem?_drop]; congr 1; omega
  by_cases hq : q < L.length + 1
  · rw [List.getElem?_append_left (by rw [insK_len]; exact hq), List.getElem?_append_left (by rw [insK_len]; exact hq), key (by omega) hq, key (by omega) hq]
    by_cases e1 : i = q
    · subst e1; rw [if_pos rfl, if_pos (by omega), if_neg (by omega), if_pos rfl]
    · rw [if_neg e1]
      by_cases e2 : i + 1 = q
      · subst e2; rw [if_pos rfl, if_pos (by omega), if_neg (by omega), if_neg (by omega), Nat.add_sub_cancel, hd (by omega)]
      · rw [if_neg e2]
        by_cases e3 : q < i
        · rw [if_pos (by omega), if_pos e3]
        · rw [if_neg (by omega), if_neg (by omega), if_neg e3, if_neg (by omega)]
  · rw [if_neg (by omega), if_neg (by omega), List.getElem?_append_right (by rw [insK_len]; omega), List.getElem?_append_right (by rw [insK_len]; omega), insK_len, insK_len]
theorem isort_snoc {L : List (List Int)} {i : Nat} (h : i < L.length) : isortL (L.take (i + 1)) = insS (isortL (L.take i)) (L.getD i []) := by
  rw [take_getD (d := []) h]; unfold isortL; rw [List.foldl_append]; rfl
theorem isort_tl {L : List (List Int)} {i : Nat} (h : i ≤ L.length) : (isortL (L.take i)).length = i := by
  unfold isortL; rw [isort_len, List.length_take, List.length_nil]; omega
theorem insK_end {L : List (List Int)} {p : List Int} : insK L p L.length = L ++ [p] := by unfold insK; simp
theorem isort_1 {L : List (List Int)} : isortL (L.take 1) = L.take 1 := by
  cases L with
  | nil => rfl
  | cons a l => rfl
theorem isort_sub {L : List (List Int)} {i : Nat} {x : List Int} (h : x ∈ isortL (L.take i)) : x ∈ L := by
  unfold isortL at h
  rw [isort_mem] at h
  rcases h with h | h
  · exact List.mem_of_mem_take h
  · cases h
theorem bits_Len64_c (n : Int) (h0 : 0 ≤ n) (h1 : n ≤ 255) : Fun Try.prog 224 [.int .u64 n] [.int .i64 (Lib.bitLen n.toNat : Int)] := by
  refine Fun.of_plain Try.func224 rfl rfl rfl ?_
  intro w F G vs _ hv
  simp only [RepL] at hv
  obtain ⟨a, vs1, rfl, ha, rfl⟩ := hv
  have ha := repP_i ha
  subst ha
  exact (Try.bits_Len64 n w h0 (by omega)).mono fun e w' h => ⟨h.1, h.2 ▸ Go.RowKit.Below.refl _ _⟩
--%reg math/bits.Len64 bits_Len64_c _ ?_ ?_
theorem slices_insertionSortCmpFunc_int_c (Z : List (List Int)) (hl : Z.length ≤ 12) (hz : ∀ l ∈ Z, l.length ≤ 1048576) : CallT Try.prog false 240 [.mu false (List.map (elI false) (Z)), .pv (.int .i64 (0)), .pv (.int .i64 ((Z.length : Int))), .pv (.fn 174 [] [])] [some (List.map (elI false) (isortL Z)), none, none, none] [] := by
  refine CallT.of (sg := sg0) (ts := []) mo Try.func240 rfl rfl rfl rfl (by kernel_rfl) (by simp only [go_sem]) rfl (by simp only [go_sem]) ?_
  have fc : True := trivial
  repeat' first
    | with_reducible first | refine stp ?_ | refine q_blk_o rfl ?_ | (refine hK _ ?_; clear hK) | (refine hA ?_; clear hA hB) | (refine hB ?_; clear hA hB) | exact v_end0 | exact v_end0' | refine v_gb1 ?_ ?_ | refine v_gb0 ?_ ?_ | refine And.intro ?_ ?_
    | (with_reducible refine hK _ _ ?_ ?_; focus (first | exact clearAll_quiet rfl | (refine clearAll_of [false, false, false, false, false, false, false, false, false, false, false, false, false, false, true, false, false] [] rfl (by decide +kernel) ?_; try simp only [go_sem, ↓reduceIte, reduceCtorEq, Nat.reduceEqDiff, Nat.reduceAdd, Nat.reduceMul, Nat.reduceSub, Nat.reduceLeDiff, Int.reduceLT, Int.reduceLE, Int.reduceEq, Int.reduceSub, Int.reduceAdd, Int.reduceMul, Int.reduceNeg, Int.reduceToNat]) | (refine clearAll_of [false, false, false, false, false, false, false, false, false, false, false, false, false, false, false, true, false, true] [(2, 15), (3, 15), (4, 15)] rfl (by decide +kernel) ?_; try simp only [go_sem, ↓reduceIte, reduceCtorEq, Nat.reduceEqDiff, Nat.reduceAdd, Nat.reduceMul, Nat.reduceSub, Nat.reduceLeDiff, Int.reduceLT, Int.reduceLE, Int.reduceEq, Int.reduceSub, Int.reduceAdd, Int.reduceMul, Int.reduceNeg, Int.reduceToNat])); all_goals (try clear hK))
    | (with_reducible refine p_ok ?_; decide)
    | ((first | with_reducible first | refine v_region rfl rfl (fun K hK => ?_) | refine v_draws rfl rfl (fun K hK => ?_) | refine v_if (fun A B hA hB => ?_) | refine v_end rfl ?_ | refine v_fin1 ?_ | refine v_finC1 ?_ | refine v_finR1 ?_ | refine v_finO1 rfl ?_ | refine v_finN1 rfl ?_ ?_ | refine v_apj ?_ (fun j' => ?_) | refine v_stz ?_ ?_ ?_ ?_ ?_ | refine v_stq ?_ | refine v_cv1 ?_ ?_ ?_ | (intro hc; replace fc := And.intro hc fc; try simp only [hcs] at hc)) <;> (try simp (config := { maxSteps := 1000000 }) only [go_sem, ↓reduceIte, reduceCtorEq, Nat.reduceEqDiff, Nat.reduceAdd, Nat.reduceMul, Nat.reduceSub, Nat.reduceLeDiff, Int.reduceLT, Int.reduceLE, Int.reduceEq, Int.reduceSub, Int.reduceAdd, Int.reduceMul, Int.reduceNeg, Int.reduceToNat, fc]) <;> (try with_reducible rfl))
  all_goals try (first | omega | (simp only [n_i64, n_u8]; omega) | (simp only [n_i64, n_u8, lnA]; omega) | (simp only [lnA]; done))
  refine v_loop (fun ms1 S1 => ∃ (i : Nat), S1.e 0 = .ref 0 0 (isortL (Z.take i) ++ Z.drop i).length ∧ S1.h 0 = .live true (List.map (elI false) (isortL (Z.take i) ++ Z.drop i)) ∧ 0 < S1.n ∧ S1.e 1 = .p (.int .i64 (0)) ∧ S1.e 2 = .p (.int .i64 ((Z.length : Int))) ∧ S1.e 3 = .p (.fn 174 [] []) ∧ S1.e 8 = .p (.int .i64 (i)) ∧ (i ≤ Z.length ∨ (Z.length = 0 ∧ i = 1)) ∧ (1 ≤ i) ∧ ms1 = Z.length - i) ((fun (i : Nat) => Z.length - i) (1)) ?init1_0 ?body1_0
  case' init1_0 =>
    refine ⟨1, ?_, ?_, ?_, ?_, ?_, ?_, ?_, ?_, ?_, rfl⟩
    all_goals (try simp only [go_sem, ↓reduceIte, reduceCtorEq, Nat.reduceEqDiff, Nat.reduceAdd, Nat.reduceMul, Nat.reduceSub, Nat.reduceLeDiff, Int.reduceLT, Int.reduceLE, Int.reduceEq, Int.reduceSub, Int.reduceAdd, Int.reduceMul, Int.reduceNeg, Int.reduceToNat])
    repeat' refine And.intro ?_ ?_
    all_goals try first | rfl | omega | (simp only [lnA] <;> omega) | ((first | refine stp ?_ | refine dkz_eq ?_ ?_) <;> first | rfl | omega | (simp only [lnA] <;> omega) | (simp only [lnA, List.append_assoc, List.cons_append, List.nil_append]; done) | skip)
  case' body1_0 =>
    rintro ms1 S1 ⟨i, h1_0, b1_0, l1_0, h1_1, h1_2, h1_3, h1_8, c1_0, c1_1, hm1⟩
    have n0 : ∀ c, (0 = S1.n + c) = False := fun c => eq_false (by omega)
    have p0 : ∀ c, (S1.n + c = 0) = False := fun c => eq_false (by omega)
    have q0 : (0 = S1.n) = False := eq_false (by omega)
    have r0 : (S1.n = 0) = False := eq_false (by omega)
  · by_cases hi : i < Z.length
    · have e0 := isort_tl (L := Z) (i := i) (by omega)
      have fc : True := trivial
      repeat' first
        | with_reducible first | refine stp ?_ | refine q_blk_o rfl ?_ | (refine hK _ ?_; clear hK) | (refine hA ?_; clear hA hB) | (refine hB ?_; clear hA hB) | exact v_end0 | exact v_end0' | refine v_gb1 ?_ ?_ | refine v_gb0 ?_ ?_ | refine And.intro ?_ ?_
        | (with_reducible refine hK _ _ ?_ ?_; focus (first | exact clearAll_quiet rfl | (refine clearAll_of [false, false, false, false, false, false, false, false, false, false, false, false, false, false, true, false, false] [] rfl (by decide +kernel) ?_; try simp only [go_sem, ↓reduceIte, reduceCtorEq, Nat.reduceEqDiff, Nat.reduceAdd, Nat.reduceMul, Nat.reduceSub, Nat.reduceLeDiff, Int.reduceLT, Int.reduceLE, Int.reduceEq, Int.reduceSub, Int.reduceAdd, Int.reduceMul, Int.reduceNeg, Int.reduceToNat, h1_0, b1_0, h1_1, h1_2, h1_3, h1_8, n0, p0, q0, r0]) | (refine clearAll_of [false, false, false, false, false, false, false, false, false, false, false, false, false, false, false, true, false, true] [(2, 15), (3, 15), (4, 15)] rfl (by decide +kernel) ?_; try simp only [go_sem, ↓reduceIte, reduceCtorEq, Nat.reduceEqDiff, Nat.reduceAdd, Nat.reduceMul, Nat.reduceSub, Nat.reduceLeDiff, Int.reduceLT, Int.reduceLE, Int.reduceEq, Int.reduceSub, Int.reduceAdd, Int.reduceMul, Int.reduceNeg, Int.reduceToNat, h1_0, b1_0, h1_1, h1_2, h1_3, h1_8, n0, p0, q0, r0])); all_goals (try clear hK))
        | (with_reducible refine p_ok ?_; decide)
        | ((first | with_reducible first | refine v_region rfl rfl (fun K hK => ?_) | refine v_draws rfl rfl (fun K hK => ?_) | refine v_if (fun A B hA hB => ?_) | refine v_end rfl ?_ | refine v_fin1 ?_ | refine v_finC1 ?_ | refine v_finR1 ?_ | refine v_finO1 rfl ?_ | refine v_finN1 rfl ?_ ?_ | refine v_apj ?_ (fun j' => ?_) | refine v_stz ?_ ?_ ?_ ?_ ?_ | refine v_stq ?_ | refine v_cv1 ?_ ?_ ?_ | (intro hc; replace fc := And.intro hc fc; try simp only [hcs] at hc)) <;> (try simp (config := { maxSteps := 1000000 }) only [go_sem, ↓reduceIte, reduceCtorEq, Nat.reduceEqDiff, Nat.reduceAdd, Nat.reduceMul, Nat.reduceSub, Nat.reduceLeDiff, Int.reduceLT, Int.reduceLE, Int.reduceEq, Int.reduceSub, Int.reduceAdd, Int.reduceMul, Int.reduceNeg, Int.reduceToNat, h1_0, b1_0, h1_1, h1_2, h1_3, h1_8, n0, p0, q0, r0, fc]) <;> (try with_reducible rfl))
      all_goals try (first | omega | (simp only [n_i64, n_u8]; omega) | (simp only [n_i64, n_u8, lnA]; omega) | (simp only [lnA]; done))
      refine v_loop (fun ms2 S2 => ∃ (j : Nat), S2.e 0 = .ref 0 0 (insK (isortL (Z.take i)) (Z.getD i []) j ++ Z.drop (i + 1)).length ∧ S2.h 0 = .live true (List.map (elI false) (insK (isortL (Z.take i)) (Z.getD i []) j ++ Z.drop (i + 1))) ∧ 0 < S2.n ∧ S2.e 1 = .p (.int .i64 (0)) ∧ S2.e 2 = .p (.int .i64 ((Z.length : Int))) ∧ S2.e 3 = .p (.fn 174 [] []) ∧ S2.e 8 = .p (.int .i64 (i)) ∧ S2.e 9 = .p (.int .i64 (j)) ∧ (j ≤ i) ∧ (∀ q, j ≤ q → q < i → befB (Z.getD i []) ((isortL (Z.take i)).getD q []) = true) ∧ S1.n ≤ S2.n ∧ ms2 = j) ((fun (j : Nat) => j) (i)) ?init2_1 ?body2_1
      case' init2_1 =>
        refine ⟨i, ?_, ?_, ?_, ?_, ?_, ?_, ?_, ?_, ?_, ?_, ?_, rfl⟩
        all_goals (try simp only [go_sem, ↓reduceIte, reduceCtorEq, Nat.reduceEqDiff, Nat.reduceAdd, Nat.reduceMul, Nat.reduceSub, Nat.reduceLeDiff, Int.reduceLT, Int.reduceLE, Int.reduceEq, Int.reduceSub, Int.reduceAdd, Int.reduceMul, Int.reduceNeg, Int.reduceToNat, h1_0, b1_0, h1_1, h1_2, h1_3, h1_8, n0, p0, q0, r0])
        repeat' refine And.intro ?_ ?_
        all_goals try first | rfl | omega | (simp only [lnA] <;> omega) | ((first | refine stp ?_ | refine dkz_eq ?_ ?_) <;> first | rfl | omega | (simp only [lnA] <;> omega) | (simp only [lnA, List.append_assoc, List.cons_append, List.nil_append]; done) | skip)
      case' body2_1 =>
        rintro ms2 S2 ⟨j, h2_0, b2_0, l2_0, h2_1, h2_2, h2_3, h2_8, h2_9, c2_0, c2_1, u2_0, hm2⟩
        have n0 : ∀ c, (0 = S2.n + c) = False := fun c => eq_false (by omega)
        have p0 : ∀ c, (S2.n + c = 0) = False := fun c => eq_false (by omega)
        have q0 : (0 = S2.n) = False := eq_false (by omega)
        have r0 : (S2.n = 0) = False := eq_false (by omega)
      · have e4 := insK_len (L := isortL (Z.take i)) (p := Z.getD i []) (j := j)
        have e1 : (insK (isortL (Z.take i)) (Z.getD i []) j ++ Z.drop (i + 1)).getD j [] = Z.getD i [] := by rw [getD_app1 (by omega), insK_at (by omega)]
        have e5 := hz (Z.getD i []) (getD_mem hi)
        by_cases hj : 0 < j
        · have e3 : ((j : Int) - 1).toNat = j - 1 := by omega
          have e2 : (insK (isortL (Z.take i)) (Z.getD i []) j ++ Z.drop (i + 1)).getD (j - 1) [] = (isortL (Z.take i)).getD (j - 1) [] := by rw [getD_app1 (by omega), insK_lo (by omega) (by omega)]
          have e6 := hz ((isortL (Z.take i)).getD (j - 1) []) (isort_sub (getD_mem (by omega)))
          have e7 := insK_swap (L := isortL (Z.take i)) (p := Z.getD i []) (j := j) hj (by omega) (R := Z.drop (i + 1))
          have fc : True := trivial
          repeat' first
            | with_reducible first | refine stp ?_ | refine q_blk_o rfl ?_ | (refine hK _ ?_; clear hK) | (refine hA ?_; clear hA hB) | (refine hB ?_; clear hA hB) | exact v_end0 | exact v_end0' | refine v_gb1 ?_ ?_ | refine v_gb0 ?_ ?_ | refine And.intro ?_ ?_
            | (with_reducible refine hK _ _ ?_ ?_; focus (first | exact clearAll_quiet rfl | (refine clearAll_of [false, false, false, false, false, false, false, false, false, false, false, false, false, false, true, false, false] [] rfl (by decide +kernel) ?_; try simp only [go_sem, ↓reduceIte, reduceCtorEq, Nat.reduceEqDiff, Nat.reduceAdd, Nat.reduceMul, Nat.reduceSub, Nat.reduceLeDiff, Int.reduceLT, Int.reduceLE, Int.reduceEq, Int.reduceSub, Int.reduceAdd, Int.reduceMul, Int.reduceNeg, Int.reduceToNat, h2_0, b2_0, h2_1, h2_2, h2_3, h2_8, h2_9, n0, p0, q0, r0, e1, e2, e3, e7]) | (refine clearAll_of [false, false, false, false, false, false, false, false, false, false, false, false, false, false, false, true, false, true] [(2, 15), (3, 15), (4, 15)] rfl (by decide +kernel) ?_; try simp only [go_sem, ↓reduceIte, reduceCtorEq, Nat.reduceEqDiff, Nat.reduceAdd, Nat.reduceMul, Nat.reduceSub, Nat.reduceLeDiff, Int.reduceLT, Int.reduceLE, Int.reduceEq, Int.reduceSub, Int.reduceAdd, Int.reduceMul, Int.reduceNeg, Int.reduceToNat, h2_0, b2_0, h2_1, h2_2, h2_3, h2_8, h2_9, n0, p0, q0, r0, e1, e2, e3, e7])); all_goals (try clear hK))
            | (with_reducible refine p_ok ?_; decide)
            | ((first | with_reducible first | refine v_region rfl rfl (fun K hK => ?_) | refine v_draws rfl rfl (fun K hK => ?_) | refine v_if (fun A B hA hB => ?_) | refine v_end rfl ?_ | refine v_fin1 ?_ | refine v_finC1 ?_ | refine v_finR1 ?_ | refine v_callE (impl_comparePerms_c _ _ ?_ ?_) ?_ | refine v_finO1 rfl ?_ | refine v_finN1 rfl ?_ ?_ | refine v_apj ?_ (fun j' => ?_) | refine v_stz ?_ ?_ ?_ ?_ ?_ | refine v_stq ?_ | refine v_cv1 ?_ ?_ ?_ | (intro hc; replace fc := And.intro hc fc; try simp only [hcs] at hc)) <;> (try simp (config := { maxSteps := 1000000 }) only [go_sem, ↓reduceIte, reduceCtorEq, Nat.reduceEqDiff, Nat.reduceAdd, Nat.reduceMul, Nat.reduceSub, Nat.reduceLeDiff, Int.reduceLT, Int.reduceLE, Int.reduceEq, Int.reduceSub, Int.reduceAdd, Int.reduceMul, Int.reduceNeg, Int.reduceToNat, h2_0, b2_0, h2_1, h2_2, h2_3, h2_8, h2_9, n0, p0, q0, r0, e1, e2, e3, e7, fc]) <;> (try with_reducible rfl))
          all_goals try (first | omega | (simp only [n_i64, n_u8]; omega) | (simp only [n_i64, n_u8, lnA]; omega) | (simp only [lnA]; done))
          · focus
              refine q_lp_n ((fun (j : Nat) => j) (j-1)) ?_ ⟨j-1, ?_, ?_, ?_, ?_, ?_, ?_, ?_, ?_, ?_, ?_, ?_, rfl⟩
              all_goals (try simp only [go_sem, ↓reduceIte, reduceCtorEq, Nat.reduceEqDiff, Nat.reduceAdd, Nat.reduceMul, Nat.reduceSub, Nat.reduceLeDiff, Int.reduceLT, Int.reduceLE, Int.reduceEq, Int.reduceSub, Int.reduceAdd, Int.reduceMul, Int.reduceNeg, Int.reduceToNat, h2_0, b2_0, h2_1, h2_2, h2_3, h2_8, h2_9, n0, p0, q0, r0])
              repeat' refine And.intro ?_ ?_
              all_goals try first | rfl | omega | (simp only [lnA] <;> omega) | ((first | refine stp ?_ | refine dkz_eq ?_ ?_) <;> first | rfl | omega | (simp only [lnA] <;> omega) | (simp only [lnA, List.append_assoc, List.cons_append, List.nil_append]; done) | skip)
            all_goals try (intro q h1 h2; by_cases h3 : q = j - 1)
            all_goals try (subst h3; exact decide_eq_true hc)
            all_goals try (exact c2_1 q (by omega) h2)
            rw [List.length_append, List.length_append, insK_len, insK_len]
          · have e8 : atP (isortL (Z.take i)) (Z.getD i []) (isortL (Z.take i)).length = j := atP_uniq (by omega) (fun q a b => c2_1 q a (by omega)) fun _ => decide_eq_false (by omega)
            have e9 : insK (isortL (Z.take i)) (Z.getD i []) j = isortL (Z.take (i + 1)) := by rw [isort_snoc hi, insS, e8]
            focus
              refine q_lp_n ((fun (i : Nat) => Z.length - i) (i+1)) ?_ ⟨i+1, ?_, ?_, ?_, ?_, ?_, ?_, ?_, ?_, ?_, rfl⟩
              all_goals (try simp only [go_sem, ↓reduceIte, reduceCtorEq, Nat.reduceEqDiff, Nat.reduceAdd, Nat.reduceMul, Nat.reduceSub, Nat.reduceLeDiff, Int.reduceLT, Int.reduceLE, Int.reduceEq, Int.reduceSub, Int.reduceAdd, Int.reduceMul, Int.reduceNeg, Int.reduceToNat, h2_0, b2_0, h2_1, h2_2, h2_3, h2_8, h2_9, n0, p0, q0, r0])
              repeat' refine And.intro ?_ ?_
              all_goals try first | rfl | omega | (simp only [lnA] <;> omega) | ((first | refine stp ?_ | refine dkz_eq ?_ ?_) <;> first | rfl | omega | (simp only [lnA] <;> omega) | (simp only [lnA, List.append_assoc, List.cons_append, List.nil_append]; done) | skip)
            all_goals rw [e9]
        · obtain rfl : j = 0 := by omega
          have fc : True := trivial
          repeat' first
            | with_reducible first | refine stp ?_ | refine q_blk_o rfl ?_ | (refine hK _ ?_; clear hK) | (refine hA ?_; clear hA hB) | (refine hB ?_; clear hA hB) | exact v_end0 | exact v_end0' | refine v_gb1 ?_ ?_ | refine v_gb0 ?_ ?_ | refine And.intro ?_ ?_
            | (with_reducible refine hK _ _ ?_ ?_; focus (first | exact clearAll_quiet rfl | (refine clearAll_of [false, false, false, false, false, false, false, false, false, false, false, false, false, false, true, false, false] [] rfl (by decide +kernel) ?_; try simp only [go_sem, ↓reduceIte, reduceCtorEq, Nat.reduceEqDiff, Nat.reduceAdd, Nat.reduceMul, Nat.reduceSub, Nat.reduceLeDiff, Int.reduceLT, Int.reduceLE, Int.reduceEq, Int.reduceSub, Int.reduceAdd, Int.reduceMul, Int.reduceNeg, Int.reduceToNat, h2_0, b2_0, h2_1, h2_2, h2_3, h2_8, h2_9, n0, p0, q0, r0]) | (refine clearAll_of [false, false, false, false, false, false, false, false, false, false, false, false, false, false, false, true, false, true] [(2, 15), (3, 15), (4, 15)] rfl (by decide +kernel) ?_; try simp only [go_sem, ↓reduceIte, reduceCtorEq, Nat.reduceEqDiff, Nat.reduceAdd, Nat.reduceMul, Nat.reduceSub, Nat.reduceLeDiff, Int.reduceLT, Int.reduceLE, Int.reduceEq, Int.reduceSub, Int.reduceAdd, Int.reduceMul, Int.reduceNeg, Int.reduceToNat, h2_0, b2_0, h2_1, h2_2, h2_3, h2_8, h2_9, n0, p0, q0, r0])); all_goals (try clear hK))
            | (with_reducible refine p_ok ?_; decide)
            | ((first | with_reducible first | refine v_region rfl rfl (fun K hK => ?_) | refine v_draws rfl rfl (fun K hK => ?_) | refine v_if (fun A B hA hB => ?_) | refine v_end rfl ?_ | refine v_fin1 ?_ | refine v_finC1 ?_ | refine v_finR1 ?_ | refine v_finO1 rfl ?_ | refine v_finN1 rfl ?_ ?_ | refine v_apj ?_ (fun j' => ?_) | refine v_stz ?_ ?_ ?_ ?_ ?_ | refine v_stq ?_ | refine v_cv1 ?_ ?_ ?_ | (intro hc; replace fc := And.intro hc fc; try simp only [hcs] at hc)) <;> (try simp (config := { maxSteps := 1000000 }) only [go_sem, ↓reduceIte, reduceCtorEq, Nat.reduceEqDiff, Nat.reduceAdd, Nat.reduceMul, Nat.reduceSub, Nat.reduceLeDiff, Int.reduceLT, Int.reduceLE, Int.reduceEq, Int.reduceSub, Int.reduceAdd, Int.reduceMul, Int.reduceNeg, Int.reduceToNat, h2_0, b2_0, h2_1, h2_2, h2_3, h2_8, h2_9, n0, p0, q0, r0, fc]) <;> (try with_reducible rfl))
          all_goals try (first | omega | (simp only [n_i64, n_u8]; omega) | (simp only [n_i64, n_u8, lnA]; omega) | (simp only [lnA]; done))
          have e8 : atP (isortL (Z.take i)) (Z.getD i []) (isortL (Z.take i)).length = 0 := atP_uniq (by omega) (fun q a b => c2_1 q a (by omega)) fun h => absurd h (by omega)
          have e9 : insK (isortL (Z.take i)) (Z.getD i []) 0 = isortL (Z.take (i + 1)) := by rw [isort_snoc hi, insS, e8]
          focus
            refine q_lp_n ((fun (i : Nat) => Z.length - i) (i+1)) ?_ ⟨i+1, ?_, ?_, ?_, ?_, ?_, ?_, ?_, ?_, ?_, rfl⟩
            all_goals (try simp only [go_sem, ↓reduceIte, reduceCtorEq, Nat.reduceEqDiff, Nat.reduceAdd, Nat.reduceMul, Nat.reduceSub, Nat.reduceLeDiff, Int.reduceLT, Int.reduceLE, Int.reduceEq, Int.reduceSub, Int.reduceAdd, Int.reduceMul, Int.reduceNeg, Int.reduceToNat, h2_0, b2_0, h2_1, h2_2, h2_3, h2_8, h2_9, n0, p0, q0, r0])
            repeat' refine And.intro ?_ ?_
            all_goals try first | rfl | omega | (simp only [lnA] <;> omega) | ((first | refine stp ?_ | refine dkz_eq ?_ ?_) <;> first | rfl | omega | (simp only [lnA] <;> omega) | (simp only [lnA, List.append_assoc, List.cons_append, List.nil_append]; done) | skip)
          all_goals rw [e9]
      · rw [List.length_append, List.length_append, insK_len, e0, List.length_drop, List.length_drop]; omega
      · have e1 := insK_end (L := isortL (Z.take i)) (p := Z.getD i [])
        rw [e0] at e1
        rw [e1, List.append_assoc, dropL_at hi]; rfl
    · have e1 : isortL (Z.take i) ++ Z.drop i = isortL Z := by
        rcases c1_0 with h | ⟨h, _⟩
        · rw [List.take_of_length_le (by omega), List.drop_of_length_le (by omega), List.append_nil]
        · rw [List.take_of_length_le (by omega), List.drop_of_length_le (by omega), List.append_nil]
      have fc : True := trivial
      repeat' first
        | with_reducible first | refine stp ?_ | refine q_blk_o rfl ?_ | (refine hK _ ?_; clear hK) | (refine hA ?_; clear hA hB) | (refine hB ?_; clear hA hB) | exact v_end0 | exact v_end0' | refine v_gb1 ?_ ?_ | refine v_gb0 ?_ ?_ | refine And.intro ?_ ?_
        | (with_reducible refine hK _ _ ?_ ?_; focus (first | exact clearAll_quiet rfl | (refine clearAll_of [false, false, false, false, false, false, false, false, false, false, false, false, false, false, true, false, false] [] rfl (by decide +kernel) ?_; try simp only [go_sem, ↓reduceIte, reduceCtorEq, Nat.reduceEqDiff, Nat.reduceAdd, Nat.reduceMul, Nat.reduceSub, Nat.reduceLeDiff, Int.reduceLT, Int.reduceLE, Int.reduceEq, Int.reduceSub, Int.reduceAdd, Int.reduceMul, Int.reduceNeg, Int.reduceToNat, h1_0, b1_0, h1_1, h1_2, h1_3, h1_8, n0, p0, q0, r0, e1]) | (refine clearAll_of [false, false, false, false, false, false, false, false, false, false, false, false, false, false, false, true, false, true] [(2, 15), (3, 15), (4, 15)] rfl (by decide +kernel) ?_; try simp only [go_sem, ↓reduceIte, reduceCtorEq, Nat.reduceEqDiff, Nat.reduceAdd, Nat.reduceMul, Nat.reduceSub, Nat.reduceLeDiff, Int.reduceLT, Int.reduceLE, Int.reduceEq, Int.reduceSub, Int.reduceAdd, Int.reduceMul, Int.reduceNeg, Int.reduceToNat, h1_0, b1_0, h1_1, h1_2, h1_3, h1_8, n0, p0, q0, r0, e1])); all_goals (try clear hK))
        | (with_reducible refine p_ok ?_; decide)
        | ((first | with_reducible first | refine v_region rfl rfl (fun K hK => ?_) | refine v_draws rfl rfl (fun K hK => ?_) | refine v_if (fun A B hA hB => ?_) | refine v_end rfl ?_ | refine v_fin1 ?_ | refine v_finC1 ?_ | refine v_finR1 ?_ | refine v_finO1 rfl ?_ | refine v_finN1 rfl ?_ ?_ | refine v_apj ?_ (fun j' => ?_) | refine v_stz ?_ ?_ ?_ ?_ ?_ | refine v_stq ?_ | refine v_cv1 ?_ ?_ ?_ | (intro hc; replace fc := And.intro hc fc; try simp only [hcs] at hc)) <;> (try simp (config := { maxSteps := 1000000 }) only [go_sem, ↓reduceIte, reduceCtorEq, Nat.reduceEqDiff, Nat.reduceAdd, Nat.reduceMul, Nat.reduceSub, Nat.reduceLeDiff, Int.reduceLT, Int.reduceLE, Int.reduceEq, Int.reduceSub, Int.reduceAdd, Int.reduceMul, Int.reduceNeg, Int.reduceToNat, h1_0, b1_0, h1_1, h1_2, h1_3, h1_8, n0, p0, q0, r0, e1, fc]) <;> (try with_reducible rfl))
      all_goals try (first | omega | (simp only [n_i64, n_u8]; omega) | (simp only [n_i64, n_u8, lnA]; omega) | (simp only [lnA]; done))
  · rw [isort_1, List.take_append_drop]
  · rw [isort_1, List.take_append_drop]
theorem math_bits_Len_c (n : Int) (h0 : 0 ≤ n) (h1 : n ≤ 255) : Fun Try.prog 188 [(.int .u64 (n))] [(.int .i64 ((Lib.bitLen n.toNat : Int)))] := by
  refine Fun.of (sg := sg0) (ts := [2]) mo Try.func188 rfl rfl rfl rfl (by kernel_rfl) (by simp only [go_sem]) rfl ?_
  have fc : True := trivial
  repeat' first
    | with_reducible first | refine stp ?_ | refine q_blk_o rfl ?_ | (refine hK _ ?_; clear hK) | (refine hA ?_; clear hA hB) | (refine hB ?_; clear hA hB) | exact v_end0 | exact v_end0' | refine v_gb1 ?_ ?_ | refine v_gb0 ?_ ?_ | refine And.intro ?_ ?_
    | (with_reducible refine p_ok ?_; decide)
    | ((first | with_reducible first | refine v_region rfl rfl (fun K hK => ?_) | refine v_draws rfl rfl (fun K hK => ?_) | refine v_if (fun A B hA hB => ?_) | refine v_end rfl ?_ | refine v_fin1 ?_ | refine v_finC1 ?_ | refine v_finR1 ?_ | refine v_callE (bits_Len64_c _ ?_ ?_) ?_ | refine v_finO1 rfl ?_ | refine v_finN1 rfl ?_ ?_ | refine v_apj ?_ (fun j' => ?_) | refine v_stz ?_ ?_ ?_ ?_ ?_ | refine v_stq ?_ | refine v_cv1 ?_ ?_ ?_ | (intro hc; replace fc := And.intro hc fc; try simp only [hcs] at hc)) <;> (try simp (config := { maxSteps := 1000000 }) only [go_sem, ↓reduceIte, reduceCtorEq, Nat.reduceEqDiff, Nat.reduceAdd, Nat.reduceMul, Nat.reduceSub, Nat.reduceLeDiff, Int.reduceLT, Int.reduceLE, Int.reduceEq, Int.reduceSub, Int.reduceAdd, Int.reduceMul, Int.reduceNeg, Int.reduceToNat, fc]) <;> (try with_reducible rfl))
  all_goals try (first | omega | (simp only [n_i64, n_u8]; omega) | (simp only [n_i64, n_u8, lnA]; omega) | (simp only [lnA]; done))
def sgPdq : FuncId → List Bool := fun f => if f = 240 then [true] else []
theorem sgPdq_eq {f : FuncId} : sgPdq f = if f = 240 then [true] else [] := _root_.id rfl
theorem wayE_sgPdq : wayE sgPdq = false := _root_.id rfl
theorem wayN_sgPdq : wayN sgPdq = false := _root_.id rfl
theorem wayS_sgPdq : wayS sgPdq = false := _root_.id rfl
theorem wayZ_sgPdq : wayZ sgPdq = false := _root_.id rfl
attribute [go_sem] sgPdq_eq wayE_sgPdq wayN_sgPdq wayS_sgPdq wayZ_sgPdq
theorem slices_pdqsortCmpFunc_int_c (Z : List (List Int)) (b : Int) (hl : Z.length ≤ 12) (hz : ∀ l ∈ Z, l.length ≤ 1048576) : CallT Try.prog false 227 [.mu false (List.map (elI false) (Z)), .pv (.int .i64 (0)), .pv (.int .i64 ((Z.length : Int))), .pv (.int .i64 (b)), .pv (.fn 174 [] [])] [some (List.map (elI false) (isortL Z)), none, none, none, none] [] := by
  refine CallT.of (sg := sgPdq) (ts := []) mo Try.func227 rfl rfl rfl rfl (by kernel_rfl) (by simp only [go_sem]) rfl (by simp only [go_sem]) ?_
  have fc : True := trivial
  repeat' first
    | with_reducible first | refine stp ?_ | refine q_blk_o rfl ?_ | (refine hK _ ?_; clear hK) | (refine hA ?_; clear hA hB) | (refine hB ?_; clear hA hB) | exact v_end0 | exact v_end0' | refine v_gb1 ?_ ?_ | refine v_gb0 ?_ ?_ | refine And.intro ?_ ?_
    | (with_reducible refine hK _ _ ?_ ?_; focus (first | exact clearAll_quiet rfl | (refine clearAll_of [false, false, false, false, false, false, false, false, false, false, false, false, false, true, false, false, false] [] rfl (by decide +kernel) ?_; try simp only [go_sem, ↓reduceIte, reduceCtorEq, Nat.reduceEqDiff, Nat.reduceAdd, Nat.reduceMul, Nat.reduceSub, Nat.reduceLeDiff, Int.reduceLT, Int.reduceLE, Int.reduceEq, Int.reduceSub, Int.reduceAdd, Int.reduceMul, Int.reduceNeg, Int.reduceToNat])); all_goals (try clear hK))
    | (with_reducible refine p_ok ?_; decide)
    | ((first | with_reducible first | refine v_region rfl rfl (fun K hK => ?_) | refine v_draws rfl rfl (fun K hK => ?_) | refine v_if (fun A B hA hB => ?_) | refine v_end rfl ?_ | refine v_fin1 ?_ | refine v_finC1 ?_ | refine v_finR1 ?_ | refine v_callN (slices_insertionSortCmpFunc_int_c _ ?_ ?_) rfl ?_ ?_ | refine v_callT (slices_insertionSortCmpFunc_int_c _ ?_ ?_) rfl ?_ ?_ | refine v_callTd (slices_insertionSortCmpFunc_int_c _ ?_ ?_) rfl ?_ ?_ | refine v_callR (slices_insertionSortCmpFunc_int_c _ ?_ ?_) rfl ?_ ?_ | refine v_callN (slices_pdqsortCmpFunc_int_c _ _ ?_ ?_) rfl ?_ ?_ | refine v_callT (slices_pdqsortCmpFunc_int_c _ _ ?_ ?_) rfl ?_ ?_ | refine v_callTd (slices_pdqsortCmpFunc_int_c _ _ ?_ ?_) rfl ?_ ?_ | refine v_callR (slices_pdqsortCmpFunc_int_c _ _ ?_ ?_) rfl ?_ ?_ | refine v_callT3 (slices_insertionSortCmpFunc_int_c _ ?_ ?_) ?_ ?_ | refine v_callT4 (slices_insertionSortCmpFunc_int_c _ ?_ ?_) ?_ ?_ | refine v_callT3 (slices_pdqsortCmpFunc_int_c _ _ ?_ ?_) ?_ ?_ | refine v_callT4 (slices_pdqsortCmpFunc_int_c _ _ ?_ ?_) ?_ ?_ | refine v_finO1 rfl ?_ | refine v_finN1 rfl ?_ ?_ | refine v_apj ?_ (fun j' => ?_) | refine v_stz ?_ ?_ ?_ ?_ ?_ | refine v_stq ?_ | refine v_cv1 ?_ ?_ ?_ | (intro hc; replace fc := And.intro hc fc; try simp only [hcs] at hc)) <;> (try simp (config := { maxSteps := 1000000 }) only [go_sem, ↓reduceIte, reduceCtorEq, Nat.reduceEqDiff, Nat.reduceAdd, Nat.reduceMul, Nat.reduceSub, Nat.reduceLeDiff, Int.reduceLT, Int.reduceLE, Int.reduceEq, Int.reduceSub, Int.reduceAdd, Int.reduceMul, Int.reduceNeg, Int.reduceToNat, fc]) <;> (try with_reducible rfl))
  refine v_loop (fun ms1 S1 => ∃ (u : Nat), S1.e 0 = .ref 0 0 (Z).length ∧ S1.h 0 = .live true (List.map (elI false) (Z)) ∧ 0 < S1.n ∧ S1.e 1 = .p (.int .i64 (0)) ∧ S1.e 2 = .p (.int .i64 ((Z.length : Int))) ∧ S1.e 3 = .p (.int .i64 (b)) ∧ S1.e 4 = .p (.fn 174 [] []) ∧ S1.e 10 = .p (.bool (true)) ∧ S1.e 11 = .p (.bool (true)) ∧ ms1 = u) ((fun (u : Nat) => u) (0)) ?init1_2 ?body1_2
  case' init1_2 =>
    refine ⟨0, ?_, ?_, ?_, ?_, ?_, ?_, ?_, ?_, ?_, rfl⟩
    all_goals (try simp only [go_sem, ↓reduceIte, reduceCtorEq, Nat.reduceEqDiff, Nat.reduceAdd, Nat.reduceMul, Nat.reduceSub, Nat.reduceLeDiff, Int.reduceLT, Int.reduceLE, Int.reduceEq, Int.reduceSub, Int.reduceAdd, Int.reduceMul, Int.reduceNeg, Int.reduceToNat])
    repeat' refine And.intro ?_ ?_
    all_goals try first | rfl | omega | (simp only [lnA] <;> omega) | ((first | refine stp ?_ | refine dkz_eq ?_ ?_) <;> first | rfl | omega | (simp only [lnA] <;> omega) | (simp only [lnA, List.append_assoc, List.cons_append, List.nil_append]; done) | skip)
  case' body1_2 =>
    rintro ms1 S1 ⟨u, h1_0, b1_0, l1_0, h1_1, h1_2, h1_3, h1_4, h1_10, h1_11, hm1⟩
    have n0 : ∀ c, (0 = S1.n + c) = False := fun c => eq_false (by omega)
    have p0 : ∀ c, (S1.n + c = 0) = False := fun c => eq_false (by omega)
    have q0 : (0 = S1.n) = False := eq_false (by omega)
    have r0 : (S1.n = 0) = False := eq_false (by omega)
  · have e1 : ((Z.length : Int) - 0 ≤ 12) = True := eq_true (by omega)
    have fc : True := trivial
    repeat' first
      | with_reducible first | refine stp ?_ | refine q_blk_o rfl ?_ | (refine hK _ ?_; clear hK) | (refine hA ?_; clear hA hB) | (refine hB ?_; clear hA hB) | exact v_end0 | exact v_end0' | refine v_gb1 ?_ ?_ | refine v_gb0 ?_ ?_ | refine And.intro ?_ ?_
      | (with_reducible refine hK _ _ ?_ ?_; focus (first | exact clearAll_quiet rfl | (refine clearAll_of [false, false, false, false, false, false, false, false, false, false, false, false, false, true, false, false, false] [] rfl (by decide +kernel) ?_; try simp only [go_sem, ↓reduceIte, reduceCtorEq, Nat.reduceEqDiff, Nat.reduceAdd, Nat.reduceMul, Nat.reduceSub, Nat.reduceLeDiff, Int.reduceLT, Int.reduceLE, Int.reduceEq, Int.reduceSub, Int.reduceAdd, Int.reduceMul, Int.reduceNeg, Int.reduceToNat, h1_0, b1_0, h1_1, h1_2, h1_3, h1_4, h1_10, h1_11, n0, p0, q0, r0, e1])); all_goals (try clear hK))
      | (with_reducible refine p_ok ?_; decide)
      | ((first | with_reducible first | refine v_region rfl rfl (fun K hK => ?_) | refine v_draws rfl rfl (fun K hK => ?_) | refine v_if (fun A B hA hB => ?_) | refine v_end rfl ?_ | refine v_fin1 ?_ | refine v_finC1 ?_ | refine v_finR1 ?_ | refine v_callN (slices_insertionSortCmpFunc_int_c _ ?_ ?_) rfl ?_ ?_ | refine v_callT (slices_insertionSortCmpFunc_int_c _ ?_ ?_) rfl ?_ ?_ | refine v_callTd (slices_insertionSortCmpFunc_int_c _ ?_ ?_) rfl ?_ ?_ | refine v_callR (slices_insertionSortCmpFunc_int_c _ ?_ ?_) rfl ?_ ?_ | refine v_callN (slices_pdqsortCmpFunc_int_c _ _ ?_ ?_) rfl ?_ ?_ | refine v_callT (slices_pdqsortCmpFunc_int_c _ _ ?_ ?_) rfl ?_ ?_ | refine v_callTd (slices_pdqsortCmpFunc_int_c _ _ ?_ ?_) rfl ?_ ?_ | refine v_callR (slices_pdqsortCmpFunc_int_c _ _ ?_ ?_) rfl ?_ ?_ | refine v_callT3 (slices_insertionSortCmpFunc_int_c _ ?_ ?_) ?_ ?_ | refine v_callT4 (slices_insertionSortCmpFunc_int_c _ ?_ ?_) ?_ ?_ | refine v_callT3 (slices_pdqsortCmpFunc_int_c _ _ ?_ ?_) ?_ ?_ | refine v_callT4 (slices_pdqsortCmpFunc_int_c _ _ ?_ ?_) ?_ ?_ | refine v_finO1 rfl ?_ | refine v_finN1 rfl ?_ ?_ | refine v_apj ?_ (fun j' => ?_) | refine v_stz ?_ ?_ ?_ ?_ ?_ | refine v_stq ?_ | refine v_cv1 ?_ ?_ ?_ | (intro hc; replace fc := And.intro hc fc; try simp only [hcs] at hc)) <;> (try simp (config := { maxSteps := 1000000 }) only [go_sem, ↓reduceIte, reduceCtorEq, Nat.reduceEqDiff, Nat.reduceAdd, Nat.reduceMul, Nat.reduceSub, Nat.reduceLeDiff, Int.reduceLT, Int.reduceLE, Int.reduceEq, Int.reduceSub, Int.reduceAdd, Int.reduceMul, Int.reduceNeg, Int.reduceToNat, h1_0, b1_0, h1_1, h1_2, h1_3, h1_4, h1_10, h1_11, n0, p0, q0, r0, e1, fc]) <;> (try with_reducible rfl))
    all_goals try (first | omega | (simp only [n_i64, n_u8]; omega) | (simp only [n_i64, n_u8, lnA]; omega) | (simp only [lnA]; done))
def sgSrf : FuncId → List Bool := fun f => if f = 227 then [true] else []
theorem sgSrf_eq {f : FuncId} : sgSrf f = if f = 227 then [true] else [] := _root_.id rfl
theorem wayE_sgSrf : wayE sgSrf = false := _root_.id rfl
theorem wayN_sgSrf : wayN sgSrf = false := _root_.id rfl
theorem wayS_sgSrf : wayS sgSrf = false := _root_.id rfl
theorem wayZ_sgSrf : wayZ sgSrf = false := _root_.id rfl
attribute [go_sem] sgSrf_eq wayE_sgSrf wayN_sgSrf wayS_sgSrf wayZ_sgSrf
theorem slices_SortFunc_LLint_int_c (Z : List (List Int)) (hl : Z.length ≤ 12) (hz : ∀ l ∈ Z, l.length ≤ 1048576) : CallT Try.prog false 198 [.mu false (List.map (elI false) (Z)), .pv (.fn 174 [] [])] [some (List.map (elI false) (isortL Z)), none] [] := by
  refine CallT.of (sg := sgSrf) (ts := []) mo Try.func198 rfl rfl rfl rfl (by kernel_rfl) (by simp only [go_sem]) rfl (by simp only [go_sem]) ?_
  have u3 : (Try.prog.underlying 3).isSome = true := by rw [Try.underlying3]; rfl
  have fc : True := trivial
  repeat' first
    | with_reducible first | refine stp ?_ | refine q_blk_o rfl ?_ | (refine hK _ ?_; clear hK) | (refine hA ?_; clear hA hB) | (refine hB ?_; clear hA hB) | exact v_end0 | exact v_end0' | refine v_gb1 ?_ ?_ | refine v_gb0 ?_ ?_ | refine And.intro ?_ ?_
    | (with_reducible refine p_ok ?_; decide)
    | ((first | with_reducible first | refine v_region rfl rfl (fun K hK => ?_) | refine v_draws rfl rfl (fun K hK => ?_) | refine v_if (fun A B hA hB => ?_) | refine v_end rfl ?_ | refine v_fin1 ?_ | refine v_finC1 ?_ | refine v_finR1 ?_ | refine v_callE (math_bits_Len_c _ ?_ ?_) ?_ | refine v_callN (slices_pdqsortCmpFunc_int_c _ _ ?_ ?_) rfl ?_ ?_ | refine v_callT (slices_pdqsortCmpFunc_int_c _ _ ?_ ?_) rfl ?_ ?_ | refine v_callTd (slices_pdqsortCmpFunc_int_c _ _ ?_ ?_) rfl ?_ ?_ | refine v_callR (slices_pdqsortCmpFunc_int_c _ _ ?_ ?_) rfl ?_ ?_ | refine v_callT3 (slices_pdqsortCmpFunc_int_c _ _ ?_ ?_) ?_ ?_ | refine v_callT4 (slices_pdqsortCmpFunc_int_c _ _ ?_ ?_) ?_ ?_ | refine v_finO1 rfl ?_ | refine v_finN1 rfl ?_ ?_ | refine v_apj ?_ (fun j' => ?_) | refine v_stz ?_ ?_ ?_ ?_ ?_ | refine v_stq ?_ | refine v_cv1 ?_ ?_ ?_ | (intro hc; replace fc := And.intro hc fc; try simp only [hcs] at hc)) <;> (try simp (config := { maxSteps := 1000000 }) only [go_sem, ↓reduceIte, reduceCtorEq, Nat.reduceEqDiff, Nat.reduceAdd, Nat.reduceMul, Nat.reduceSub, Nat.reduceLeDiff, Int.reduceLT, Int.reduceLE, Int.reduceEq, Int.reduceSub, Int.reduceAdd, Int.reduceMul, Int.reduceNeg, Int.reduceToNat, u3, fc]) <;> (try with_reducible rfl))
  all_goals try (first | omega | (simp only [n_i64, n_u8]; omega) | (simp only [n_i64, n_u8, lnA]; omega) | (simp only [lnA]; done))
  · show (0 : Int) ≤ _ ∧ _ ≤ (18446744073709551615 : Int); omega
end Go.Gl
