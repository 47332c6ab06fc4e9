/-
 The order of rows: sorting, putting in, compacting as lists. Conditions: none.
-/
import Derived.Test.YtfjfobbniglaeaaBasis
import Derived.Test.YtfjfobbniglaeaaSess
set_option linter.unusedSimpArgs false
set_option linter.unusedVariables false
set_option maxRecDepth 20000
set_option linter.unusedSectionVars false
namespace Go.Gl
open Go Go.Proofs
variable [Amb] [NoQ]
theorem cmpI_anti {a b : Int} : cmpI b a = - cmpI a b := by
 unfold cmpI; split <;> split <;> first | omega | (split <;> omega)
theorem cmpL_anti : ∀ {a b : List Int}, cmpL b a = - cmpL a b
 | [], [] => rfl
 | [], _ :: _ => rfl
 | _ :: _, [] => rfl
 | a :: x, b :: y => by
  rw [cmpL, cmpL, cmpI_anti]
  by_cases h : cmpI a b = 0
  ·rw [if_neg (by omega), if_neg (by omega), cmpL_anti]
  ·rw [if_pos (by omega), if_pos h]
theorem cmpP_anti {a b : List Int} : cmpP b a = - cmpP a b := by
 unfold cmpP
 rw [cmpI_anti (a := a.length)]
 by_cases h : cmpI a.length b.length = 0
 ·rw [if_neg (by omega), if_neg (by omega), cmpL_anti]
 ·rw [if_pos (by omega), if_pos h]
theorem cmpL_0 : ∀ {a b : List Int}, cmpL a b = 0 → a = b
 | [], [], _ => rfl
 | [], _ :: _, h => by simp [cmpL] at h
 | _ :: _, [], h => by simp [cmpL] at h
 | a :: x, b :: y, h => by
  rw [cmpL] at h
  by_cases e : cmpI a b = 0
  ·rw [if_neg (by omega)] at h; rw [cmpI_0.1 e, cmpL_0 h]
  ·rw [if_pos e] at h; exact absurd h e
theorem cmpP_0 {a b : List Int} (h : cmpP a b = 0) : a = b := by
 unfold cmpP at h
 by_cases e : cmpI a.length b.length = 0
 ·rw [if_neg (by omega)] at h; exact cmpL_0 h
 ·rw [if_pos e] at h; exact absurd h e
theorem cmpL_self : ∀ {a : List Int}, cmpL a a = 0
 | [] => rfl
 | a :: x => by rw [cmpL, if_neg (fun h => h (cmpI_0.2 rfl))]; exact cmpL_self
theorem cmpI_lt_iff {a b : Int} : cmpI a b < 0 ↔ a < b := by unfold cmpI; split; omega; split <;> omega
theorem cmpL_trans : ∀ {a b c : List Int}, cmpL a b < 0 → cmpL b c < 0 → cmpL a c < 0
 | [], [], _, h, _ => by simp [cmpL] at h
 | [], _ :: _, [], _, h => by simp [cmpL] at h
 | [], _ :: _, _ :: _, _, _ => by simp [cmpL]
 | _ :: _, [], _, h, _ => by simp [cmpL] at h
 | _ :: _, _ :: _, [], _, h => by simp [cmpL] at h
 | a :: x, b :: y, c :: z, h1, h2 => by
  rw [cmpL] at h1 h2 ⊢
  by_cases e1 : cmpI a b = 0
  ·rw [if_neg (by omega)] at h1
   rw [cmpI_0.1 e1]
   by_cases e2 : cmpI b c = 0
   ·rw [if_neg (by omega)] at h2 ⊢; exact cmpL_trans h1 h2
   ·rw [if_pos e2] at h2 ⊢; exact h2
  ·rw [if_pos e1] at h1
   have g1 := cmpI_lt_iff.1 h1
   by_cases e2 : cmpI b c = 0
   ·have := cmpI_0.1 e2; subst this; rw [if_pos e1]; exact h1
   ·rw [if_pos e2] at h2
    have g2 := cmpI_lt_iff.1 h2
    have g3 : cmpI a c < 0 := cmpI_lt_iff.2 (by omega)
    rw [if_pos (by omega)]; exact g3
theorem bef_iff {a b : List Int} : befB a b = true ↔ a.length < b.length ∨ (a.length = b.length ∧ cmpL a b < 0) := by
 rw [befB, decide_eq_true_eq, cmpP]
 by_cases e : cmpI a.length b.length = 0
 ·rw [if_neg (by omega)]; have := cmpI_0.1 e; omega
 ·rw [if_pos e, cmpI_lt_iff]
  have : ¬ (a.length : Int) = b.length := fun h => e (cmpI_0.2 h)
  omega
theorem bef_trans {a b c : List Int} (h1 : befB a b = true) (h2 : befB b c = true) : befB a c = true := by
 rw [bef_iff] at *
 rcases h1 with h1 | ⟨h1, g1⟩ <;> rcases h2 with h2 | ⟨h2, g2⟩
 ·left; omega
 ·left; omega
 ·left; omega
 ·exact .inr ⟨by omega, cmpL_trans g1 g2⟩
theorem bef_irr {a : List Int} : befB a a = false := by
 rw [Bool.eq_false_iff]; intro h; rw [bef_iff] at h
 rcases h with h | ⟨_, h⟩
 ·omega
 ·rw [cmpL_self] at h; omega
theorem bef_tot {a b : List Int} (h : befB a b = false) (hne : a ≠ b) : befB b a = true := by
 have h1 : ¬ cmpP a b < 0 := by simpa [befB] using h
 have h2 : ¬ cmpP a b = 0 := fun e => hne (cmpP_0 e)
 have h3 := cmpP_anti (a := a) (b := b)
 simp [befB]; omega
/-- Weakly before. -/
def leP (a b : List Int) : Prop := befB b a = false
theorem leP_trans {a b c : List Int} (h1 : leP a b) (h2 : leP b c) : leP a c := by
 unfold leP at *
 rw [Bool.eq_false_iff]; intro h
 by_cases e : a = b
 ·subst e; rw [h] at h2; cases h2
 ·have := bef_tot h1 (Ne.symm e)
  rw [bef_trans h this] at h2; cases h2
theorem bef_leP {a b : List Int} (h : befB a b = true) : leP a b := by
 unfold leP; rw [Bool.eq_false_iff]; intro h2
 have := bef_trans h h2; rw [bef_irr] at this; cases this
/-- Where p belongs among the first k of a sorted list. -/
def atP (L : List (List Int)) (p : List Int) : Nat → Nat
 | 0 => 0
 | k + 1 => if befB p (L.getD k []) = true then atP L p k else k + 1
theorem atP_spec {L : List (List Int)} {p : List Int} : ∀ {k : Nat}, atP L p k ≤ k ∧ (∀ i, atP L p k ≤ i → i < k → befB p (L.getD i []) = true) ∧ (atP L p k = 0 ∨ befB p (L.getD (atP L p k - 1) []) = false)
 | 0 => ⟨Nat.le_refl _, fun i _ h => absurd h (by omega), .inl rfl⟩
 | k + 1 => by
  rw [atP]
  by_cases e : befB p (L.getD k []) = true
  ·rw [if_pos e]
   obtain ⟨h1, h2, h3⟩ := atP_spec (L := L) (p := p) (k := k)
   refine ⟨by omega, fun i hi hk => ?_, h3⟩
   by_cases q : i = k
   ·subst q; exact e
   ·exact h2 i hi (by omega)
  ·rw [if_neg e]
   refine ⟨Nat.le_refl _, fun i hi hk => by omega, .inr ?_⟩
   simpa using e
/-- p into the list, at place j. -/
def insK (L : List (List Int)) (p : List Int) (j : Nat) : List (List Int) := L.take j ++ p :: L.drop j
def insS (L : List (List Int)) (p : List Int) : List (List Int) := insK L p (atP L p L.length)
def putP (L : List (List Int)) (p : List Int) : List (List Int) := if 0 < atP L p L.length ∧ L.getD (atP L p L.length - 1) [] = p then L else insS L p
def isortL (L : List (List Int)) : List (List Int) := L.foldl insS []
def putL (L : List (List Int)) : List (List Int) := L.foldl putP []
theorem insK_len {L : List (List Int)} {p : List Int} {j : Nat} : (insK L p j).length = L.length + 1 := by
 unfold insK; simp; omega
theorem insK_mem {L : List (List Int)} {p x : List Int} {j : Nat} : x ∈ insK L p j ↔ x = p ∨ x ∈ L := by
 unfold insK
 rw [List.mem_append, List.mem_cons]
 have : x ∈ L ↔ x ∈ L.take j ∨ x ∈ L.drop j := by rw [← List.mem_append, List.take_append_drop]
 rw [this]; constructor
 ·rintro (h | h | h) <;> simp [h]
 ·rintro (h | h | h) <;> simp [h]
def WS (L : List (List Int)) : Prop := L.Pairwise leP
def SS (L : List (List Int)) : Prop := L.Pairwise fun a b => befB a b = true
theorem pw_get {R : List Int → List Int → Prop} {L : List (List Int)} (h : L.Pairwise R) {i j : Nat} (hij : i < j) (hj : j < L.length) : R (L.getD i []) (L.getD j []) := by
 rw [List.pairwise_iff_getElem] at h
 have := h i j (by omega) hj hij
 rw [List.getD_eq_getElem?_getD, List.getD_eq_getElem?_getD, List.getElem?_eq_getElem (by omega), List.getElem?_eq_getElem hj]
 exact this
theorem take_mem {L : List (List Int)} {j : Nat} {x : List Int} (h : x ∈ L.take j) : ∃ i, i < j ∧ i < L.length ∧ L.getD i [] = x := by
 obtain ⟨i, hi, e⟩ := List.getElem_of_mem h
 simp only [List.length_take] at hi
 refine ⟨i, by omega, by omega, ?_⟩
 rw [List.getElem_take] at e
 rw [List.getD_eq_getElem?_getD, List.getElem?_eq_getElem (by omega)]; exact e
theorem drop_mem {L : List (List Int)} {j : Nat} {x : List Int} (h : x ∈ L.drop j) : ∃ i, j ≤ i ∧ i < L.length ∧ L.getD i [] = x := by
 obtain ⟨i, hi, e⟩ := List.getElem_of_mem h
 simp only [List.length_drop] at hi
 refine ⟨j + i, by omega, by omega, ?_⟩
 rw [List.getElem_drop] at e
 rw [List.getD_eq_getElem?_getD, List.getElem?_eq_getElem (by omega)]; exact e
theorem insK_pw {R : List Int → List Int → Prop} {L : List (List Int)} {p : List Int} {j : Nat} (h : L.Pairwise R) (h1 : ∀ i, i < j → i < L.length → R (L.getD i []) p) (h2 : ∀ i, j ≤ i → i < L.length → R p (L.getD i [])) : (insK L p j).Pairwise R := by
 unfold insK
 have h3 := h
 rw [← List.take_append_drop j L, List.pairwise_append] at h3
 rw [List.pairwise_append, List.pairwise_cons]
 refine ⟨h3.1, ⟨fun x hx => ?_, h3.2.1⟩, fun x hx y hy => ?_⟩
 ·obtain ⟨i, q1, q2, rfl⟩ := drop_mem hx; exact h2 i q1 q2
 ·rcases List.mem_cons.1 hy with rfl | hy
  ·obtain ⟨i, q1, q2, rfl⟩ := take_mem hx; exact h1 i q1 q2
  ·exact h3.2.2 x hx y hy
theorem at_le {L : List (List Int)} {p : List Int} (h : L.Pairwise leP) {i : Nat} (hi : i < atP L p L.length) : leP (L.getD i []) p := by
 obtain ⟨h1, h2, h3⟩ := atP_spec (L := L) (p := p) (k := L.length)
 rcases h3 with h3 | h3
 ·omega
 ·by_cases e : i = atP L p L.length - 1
  ·rw [e]; exact h3
  ·exact leP_trans (pw_get h (i := i) (j := atP L p L.length - 1) (by omega) (by omega)) h3
theorem insS_ws {L : List (List Int)} {p : List Int} (h : WS L) : WS (insS L p) :=
 insK_pw h (fun _ hi _ => at_le h hi) fun i hi hl => bef_leP ((atP_spec (L := L) (p := p) (k := L.length)).2.1 i hi hl)
theorem SS_ws {L : List (List Int)} (h : SS L) : WS L := h.imp bef_leP
theorem putP_ss {L : List (List Int)} {p : List Int} (h : SS L) : SS (putP L p) := by
 unfold putP
 split
 ·exact h
 ·rename_i hn
  refine insK_pw h (fun i hi hl => ?_) fun i hi hl => (atP_spec (L := L) (p := p) (k := L.length)).2.1 i hi hl
  have h0 := at_le (SS_ws h) hi
  have h1 := (atP_spec (L := L) (p := p) (k := L.length)).1
  refine bef_tot h0 fun e => hn ⟨by omega, ?_⟩
  by_cases q : i = atP L p L.length - 1
  ·rw [← q]; exact e.symm
  ·have h2 := pw_get h (i := i) (j := atP L p L.length - 1) (by omega) (by omega)
   have h3 := at_le (SS_ws h) (L := L) (p := p) (i := atP L p L.length - 1) (by omega)
   rw [← e] at h2
   unfold leP at h3; rw [h2] at h3; cases h3
theorem putP_mem {L : List (List Int)} {p x : List Int} : x ∈ putP L p ↔ x = p ∨ x ∈ L := by
 unfold putP
 split
 ·rename_i h
  constructor
  ·exact .inr
  ·rintro (rfl | h2)
   ·rw [← h.2]; exact getD_mem (by have := (atP_spec (L := L) (p := x) (k := L.length)).1; omega)
   ·exact h2
 ·exact insK_mem
theorem isort_ws (L : List (List Int)) : ∀ {A : List (List Int)}, WS A → WS (L.foldl insS A) := by
 induction L with
 | nil => exact fun h => h
 | cons x l ih => exact fun h => ih (insS_ws h)
theorem isort_mem (L : List (List Int)) : ∀ {A : List (List Int)} {x : List Int}, x ∈ L.foldl insS A ↔ x ∈ L ∨ x ∈ A := by
 induction L with
 | nil => simp
 | cons y l ih => intro A x; rw [List.foldl_cons, ih]; unfold insS; rw [insK_mem, List.mem_cons, or_left_comm, or_assoc]
theorem put_ss (L : List (List Int)) : ∀ {A : List (List Int)}, SS A → SS (L.foldl putP A) := by
 induction L with
 | nil => exact fun h => h
 | cons x l ih => exact fun h => ih (putP_ss h)
theorem put_mem (L : List (List Int)) : ∀ {A : List (List Int)} {x : List Int}, x ∈ L.foldl putP A ↔ x ∈ L ∨ x ∈ A := by
 induction L with
 | nil => simp
 | cons y l ih => intro A x; rw [List.foldl_cons, ih, putP_mem, List.mem_cons, or_left_comm, or_assoc]
theorem insS_len {L : List (List Int)} {p : List Int} : (insS L p).length = L.length + 1 := insK_len
theorem isort_len (L : List (List Int)) : ∀ {A : List (List Int)}, (L.foldl insS A).length = L.length + A.length := by
 induction L with
 | nil => simp
 | cons y l ih => intro A; rw [List.foldl_cons, ih, insS_len, List.length_cons]; omega
theorem put_len (L : List (List Int)) : ∀ {A : List (List Int)}, (L.foldl putP A).length ≤ L.length + A.length := by
 induction L with
 | nil => simp
 | cons y l ih =>
  intro A; rw [List.foldl_cons]
  have h := ih (A := putP A y)
  have : (putP A y).length ≤ A.length + 1 := by unfold putP; split; omega; rw [insS_len]; omega
  rw [List.length_cons]; omega
/-- Neighbours that are one are told once: of the first j. -/
def cptF (L : List (List Int)) : Nat → List (List Int)
 | 0 => []
 | j + 1 => cptF L j ++ if 0 < j ∧ L.getD j [] = L.getD (j - 1) [] then [] else [L.getD j []]
theorem cptF_mem {L : List (List Int)} {x : List Int} : ∀ {j : Nat}, x ∈ cptF L j ↔ ∃ i, i < j ∧ L.getD i [] = x
 | 0 => by simp [cptF]
 | j + 1 => by
  rw [cptF, List.mem_append, cptF_mem]
  constructor
  ·rintro (⟨i, h1, h2⟩ | h)
   ·exact ⟨i, by omega, h2⟩
   ·split at h
    ·cases h
    ·simp at h; exact ⟨j, by omega, h.symm⟩
  ·rintro ⟨i, h1, h2⟩
   by_cases e : i = j
   ·subst e
    by_cases q : 0 < i ∧ L.getD i [] = L.getD (i - 1) []
    ·left; exact ⟨i - 1, by omega, by rw [← q.2]; exact h2⟩
    ·right; rw [if_neg q, h2]; exact List.mem_singleton.2 rfl
   ·left; exact ⟨i, by omega, h2⟩
theorem cptF_ss {L : List (List Int)} (h : WS L) : ∀ {j : Nat}, j ≤ L.length → SS (cptF L j)
 | 0, _ => List.Pairwise.nil
 | j + 1, hj => by
  rw [cptF]
  by_cases q : 0 < j ∧ L.getD j [] = L.getD (j - 1) []
  ·rw [if_pos q, List.append_nil]; exact cptF_ss h (by omega)
  ·rw [if_neg q]
   refine List.pairwise_append.2 ⟨cptF_ss h (by omega), List.pairwise_singleton _ _, fun a ha b hb => ?_⟩
   rw [List.mem_singleton] at hb; subst hb
   obtain ⟨i, h1, rfl⟩ := cptF_mem.1 ha
   have h2 : befB (L.getD (j - 1) []) (L.getD j []) = true := bef_tot (pw_get h (i := j - 1) (j := j) (by omega) (by omega)) (fun e => q ⟨by omega, e⟩)
   by_cases e : i = j - 1
   ·rw [e]; exact h2
   ·have h3 := pw_get h (i := i) (j := j - 1) (by omega) (by omega)
    by_cases e2 : L.getD i [] = L.getD (j - 1) []
    ·rw [e2]; exact h2
    ·exact bef_trans (bef_tot h3 (Ne.symm e2)) h2
theorem ss_ext : ∀ {A B : List (List Int)}, SS A → SS B → (∀ x, x ∈ A ↔ x ∈ B) → A = B
 | [], [], _, _, _ => rfl
 | [], b :: B, _, _, h => by have := (h b).2 (by simp); cases this
 | a :: A, [], _, _, h => by have := (h a).1 (by simp); cases this
 | a :: A, b :: B, ha, hb, h => by
  have pa := List.pairwise_cons.1 ha
  have pb := List.pairwise_cons.1 hb
  have hn : ∀ {x y : List Int}, befB x y = true → befB y x = true → False := fun h1 h2 => by
   have := bef_trans h1 h2; rw [bef_irr] at this; cases this
  have e : a = b := by
   rcases List.mem_cons.1 ((h a).1 (by simp)) with q | q
   ·exact q
   ·rcases List.mem_cons.1 ((h b).2 (by simp)) with q2 | q2
    ·exact q2.symm
    ·exact (hn (pb.1 _ q) (pa.1 _ q2)).elim
  subst e
  rw [ss_ext pa.2 pb.2 fun x => ?_]
  constructor
  ·intro hx
   rcases List.mem_cons.1 ((h x).1 (by simp [hx])) with rfl | q
   ·have := pa.1 _ hx; rw [bef_irr] at this; cases this
   ·exact q
  ·intro hx
   rcases List.mem_cons.1 ((h x).2 (by simp [hx])) with rfl | q
   ·have := pb.1 _ hx; rw [bef_irr] at this; cases this
   ·exact q
/-- What the library's sorting and compacting gives is what is put in one after the other. -/
theorem ord_eq (L : List (List Int)) : cptF (isortL L) (isortL L).length = putL L := by
 refine ss_ext (cptF_ss (isort_ws L List.Pairwise.nil) (Nat.le_refl _)) (put_ss L List.Pairwise.nil) fun x => ?_
 rw [cptF_mem, putL, put_mem]
 have h : x ∈ isortL L ↔ x ∈ L := by unfold isortL; rw [isort_mem]; simp
 constructor
 ·rintro ⟨i, h1, rfl⟩; exact .inl (h.1 (getD_mem h1))
 ·rintro (h1 | h1)
  ·have := h.2 h1
   obtain ⟨i, hi, e⟩ := List.getElem_of_mem this
   exact ⟨i, hi, by rw [List.getD_eq_getElem?_getD, List.getElem?_eq_getElem hi]; exact e⟩
  ·cases h1
theorem atP_uniq {L : List (List Int)} {p : List Int} : ∀ {k j : Nat}, j ≤ k → (∀ q, j ≤ q → q < k → befB p (L.getD q []) = true) → (0 < j → befB p (L.getD (j - 1) []) = false) → atP L p k = j
 | 0, j, h, _, _ => by rw [atP]; omega
 | k + 1, j, h, h1, h2 => by
  rw [atP]
  by_cases e : j = k + 1
  ·subst e
   have := h2 (by omega)
   rw [Nat.add_sub_cancel] at this
   rw [this]; rfl
  ·rw [if_pos (h1 k (by omega) (by omega))]
   exact atP_uniq (by omega) (fun q a b => h1 q a (by omega)) h2
theorem getD_app1 {α : Type} {A B : List α} {d : α} {i : Nat} (h : i < A.length) : (A ++ B).getD i d = A.getD i d := by
 rw [List.getD_eq_getElem?_getD, List.getD_eq_getElem?_getD, List.getElem?_append_left h]
theorem insK_at {L : List (List Int)} {p : List Int} {j : Nat} (h : j ≤ L.length) : (insK L p j).getD j [] = p := by
 unfold insK
 rw [List.getD_eq_getElem?_getD, List.getElem?_append_right (by simp; omega), List.length_take, Nat.min_eq_left h, Nat.sub_self]; rfl
theorem insK_lo {L : List (List Int)} {p : List Int} {j i : Nat} (h : j ≤ L.length) (hi : i < j) : (insK L p j).getD i [] = L.getD i [] := by
 unfold insK
 rw [getD_app1 (by simp; omega), List.getD_eq_getElem?_getD, List.getD_eq_getElem?_getD, List.getElem?_take_of_lt hi]
theorem insK_swap {L : List (List Int)} {p : List Int} {j : Nat} (h0 : 0 < j) (h : j ≤ L.length) {R : List (List Int)} : ((insK L p j ++ R).set j (L.getD (j - 1) [])).set (j - 1) p = insK L p (j - 1) ++ R := by
 obtain ⟨i, rfl⟩ : ∃ i, j = i + 1 := ⟨j - 1, by omega⟩
 rw [Nat.add_sub_cancel]
 apply List.ext_getElem?; intro q
 have l1 : (insK L p (i + 1) ++ R).length = L.length + 1 + R.length := by rw [List.length_append, insK_len]
 rw [List.getElem?_set, List.getElem?_set, List.length_set, l1]
 have hd : ∀ {a : Nat}, a < L.length → L[a]? = some (L.getD a []) := fun {a} ha => by rw [List.getD_eq_getElem?_getD, List.getElem?_eq_getElem ha]; rfl
 have key : ∀ {k q : Nat}, k ≤ L.length → q < L.length + 1 → (insK L p k)[q]? = if q < k then L[q]? else if q = k then some p else L[q - 1]? := fun {k q} hk hq => by
  unfold insK
  by_cases h1 : q < k
  ·rw [if_pos h1, List.getElem?_append_left (by simp; omega), List.getElem?_take_of_lt h1]
  ·rw [if_neg h1, List.getElem?_append_right (by simp; omega), List.length_take, Nat.min_eq_left hk]
   by_cases h2 : q = k
   ·rw [if_pos h2, h2, Nat.sub_self]; rfl
   ·rw [if_neg h2, show q - k = (q - k - 1) + 1 by omega, List.getElem?_cons_succ, List.getElem?_drop]; congr 1; omega
 by_cases hq : q < L.length + 1
 ·rw [List.getElem?_append_left (by rw [insK_len]; exact hq), List.getElem?_append_left (by rw [insK_len]; exact hq), key (by omega) hq, key (by omega) hq]
  by_cases e1 : i = q
  ·subst e1; rw [if_pos rfl, if_pos (by omega), if_neg (by omega), if_pos rfl]
  ·rw [if_neg e1]
   by_cases e2 : i + 1 = q
   ·subst e2; rw [if_pos rfl, if_pos (by omega), if_neg (by omega), if_neg (by omega), Nat.add_sub_cancel, hd (by omega)]
   ·rw [if_neg e2]
    by_cases e3 : q < i
    ·rw [if_pos (by omega), if_pos e3]
    ·rw [if_neg (by omega), if_neg (by omega), if_neg e3, if_neg (by omega)]
 ·rw [if_neg (by omega), if_neg (by omega), List.getElem?_append_right (by rw [insK_len]; omega), List.getElem?_append_right (by rw [insK_len]; omega), insK_len, insK_len]
theorem isort_snoc {L : List (List Int)} {i : Nat} (h : i < L.length) : isortL (L.take (i + 1)) = insS (isortL (L.take i)) (L.getD i []) := by
 rw [take_getD (d := []) h]; unfold isortL; rw [List.foldl_append]; rfl
theorem isort_tl {L : List (List Int)} {i : Nat} (h : i ≤ L.length) : (isortL (L.take i)).length = i := by
 unfold isortL; rw [isort_len, List.length_take, List.length_nil]; omega
theorem insK_end {L : List (List Int)} {p : List Int} : insK L p L.length = L ++ [p] := by unfold insK; simp
theorem isort_1 {L : List (List Int)} : isortL (L.take 1) = L.take 1 := by
 cases L with
 | nil => rfl
 | cons a l => rfl
theorem isort_sub {L : List (List Int)} {i : Nat} {x : List Int} (h : x ∈ isortL (L.take i)) : x ∈ L := by
 unfold isortL at h
 rw [isort_mem] at h
 rcases h with h | h
 ·exact List.mem_of_mem_take h
 ·cases h
end Go.Gl
