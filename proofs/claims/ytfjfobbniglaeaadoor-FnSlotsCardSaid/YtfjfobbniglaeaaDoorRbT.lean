/-
  Rows told by what is filled: the plain part of the round trip. Conditions: none.
-/
import Derived.Test.YtfjfobbniglaeaaDoorRbM
set_option linter.unusedSimpArgs false
set_option linter.unusedVariables false
set_option maxRecDepth 20000
set_option linter.unusedSectionVars false
namespace Go.Gl
open Go Go.Proofs
variable [Amb] [NoQ]
/-- A row where only the numbers up to v stand; each open part is one 0. -/
def clR (v : Int) : Bool → List Int → List Int
  | _, [] => []
  | o, x :: r => if 1 ≤ x ∧ x ≤ v then x :: clR v false r else if o = true then clR v true r else 0 :: clR v true r
/-- Is a row's end open? -/
def enO (v : Int) : Bool → List Int → Bool
  | o, [] => o
  | _, x :: r => enO v (!decide (1 ≤ x ∧ x ≤ v)) r
theorem clR_app {v : Int} : ∀ {o : Bool} {A B : List Int}, clR v o (A ++ B) = clR v o A ++ clR v (enO v o A) B
  | o, [], B => rfl
  | o, x :: A, B => by
    rw [List.cons_append, clR, clR, enO]
    split
    · rename_i h; rw [clR_app, List.cons_append, decide_eq_true h]; rfl
    · rename_i h
      rw [decide_eq_false h]
      split <;> rw [clR_app] <;> rfl
theorem enO_app {v : Int} : ∀ {o : Bool} {A B : List Int}, enO v o (A ++ B) = enO v (enO v o A) B
  | _, [], _ => rfl
  | o, x :: A, B => by rw [List.cons_append, enO, enO, enO_app]
theorem clR_ne {v : Int} : ∀ {o : Bool} {A : List Int}, (∀ x ∈ A, x ≠ v + 1) → clR (v + 1) o A = clR v o A ∧ enO (v + 1) o A = enO v o A
  | _, [], _ => ⟨rfl, rfl⟩
  | o, x :: A, h => by
    have h1 : (1 ≤ x ∧ x ≤ v + 1) ↔ (1 ≤ x ∧ x ≤ v) := by have := h x (by simp); omega
    have ih := fun o => clR_ne (v := v) (o := o) (A := A) fun y hy => h y (by simp [hy])
    rw [clR, clR, enO, enO]
    simp only [h1, (ih _).1, (ih _).2, and_self]
/-- Does a row begin with an open part? -/
def hdO (v : Int) : List Int → Bool
  | [] => false
  | x :: _ => !decide (1 ≤ x ∧ x ≤ v)
theorem clR_hd {v : Int} {B : List Int} : clR v false B = (if hdO v B = true then [0] else []) ++ clR v true B := by
  cases B with
  | nil => rfl
  | cons x B =>
    rw [clR, clR, hdO]
    by_cases h : 1 ≤ x ∧ x ≤ v
    · rw [if_pos h, if_pos h, decide_eq_true h]; rfl
    · rw [if_neg h, if_neg h, decide_eq_false h]; rfl
theorem clR_end {v : Int} : ∀ {A : List Int}, (enO v false A = true → ∃ Z, clR v false A = Z ++ [0]) ∧ (∀ o, o = true → enO v o A = true → A.any (fun x => decide (1 ≤ x ∧ x ≤ v)) = true → ∃ Z, clR v o A = Z ++ [0])
  | [] => ⟨by simp [enO], by simp⟩
  | x :: A => by
    have ih := clR_end (v := v) (A := A)
    by_cases h : 1 ≤ x ∧ x ≤ v
    · have key : ∀ o, enO v o (x :: A) = true → ∃ Z, clR v o (x :: A) = Z ++ [0] := fun o ho => by
        rw [enO, decide_eq_true h] at ho
        obtain ⟨Z, hZ⟩ := ih.1 ho
        exact ⟨x :: Z, by rw [clR, if_pos h, hZ]; rfl⟩
      exact ⟨key false, fun o _ ho _ => key o ho⟩
    · have nx : enO v true A = true → ∃ Z, 0 :: clR v true A = Z ++ [0] := fun ho => by
        by_cases ha : A.any (fun x => decide (1 ≤ x ∧ x ≤ v)) = true
        · obtain ⟨Z, hZ⟩ := ih.2 true rfl ho ha
          exact ⟨0 :: Z, by rw [hZ]; rfl⟩
        · refine ⟨[], ?_⟩
          have : ∀ B : List Int, B.any (fun x => decide (1 ≤ x ∧ x ≤ v)) = false → clR v true B = [] := by
            intro B
            induction B with
            | nil => intro _; rfl
            | cons y B ihB =>
              intro hB
              simp only [List.any_cons, Bool.or_eq_false_iff, decide_eq_false_iff_not] at hB
              rw [clR, if_neg hB.1, if_pos rfl, ihB hB.2]
          rw [this A (by simpa using ha)]; rfl
      refine ⟨fun ho => ?_, fun o e ho ha => ?_⟩
      · rw [enO, decide_eq_false h] at ho
        obtain ⟨Z, hZ⟩ := nx ho
        exact ⟨Z, by rw [clR, if_neg h, if_neg (by simp), hZ]⟩
      · subst e
        rw [enO, decide_eq_false h] at ho
        rw [List.any_cons, decide_eq_false h, Bool.false_or] at ha
        obtain ⟨Z, hZ⟩ := ih.2 true rfl ho ha
        exact ⟨Z, by rw [clR, if_neg h, if_pos rfl, hZ]⟩
/-- The letter of a number with its neighbours. -/
def leR (b a : Bool) : UInt8 := if b && a then 109 else if b then 114 else if a then 108 else 102
theorem pp_le {b a : Bool} {v : Int} : ppL (leR b a) v = (if b = true then [0] else []) ++ ([v] ++ (if a = true then [0] else [])) := by
  cases b <;> cases a <;> rfl
/-- A row and the next one. -/
theorem cl_step {k : Int} {A B : List Int} (hk : 0 ≤ k) (hA : ∀ x ∈ A, x ≠ k + 1) (hB : ∀ x ∈ B, x ≠ k + 1) :
    ∃ Z T, clR k false (A ++ (k + 1) :: B) = Z ++ 0 :: T ∧ clR (k + 1) false (A ++ (k + 1) :: B) = Z ++ (ppL (leR (enO k false A) (hdO k B)) (k + 1) ++ T) ∧ clR k false (A ++ [k + 1]) = Z ++ [0] := by
  have n1 : ¬ (1 ≤ k + 1 ∧ k + 1 ≤ k) := by omega
  have n2 : 1 ≤ k + 1 ∧ k + 1 ≤ k + 1 := by omega
  have h1 := clR_ne (v := k) (o := false) hA
  have h2 := clR_ne (v := k) (o := false) hB
  have h3 := clR_hd (v := k) (B := B)
  rw [clR_app, clR_app, clR_app, clR, if_neg n1, clR, if_pos n2, clR, if_neg n1, h1.1, h2.1, h3, pp_le]
  cases he : enO k false A with
  | true =>
    obtain ⟨Z, hZ⟩ := clR_end.1 he
    refine ⟨Z, clR k true B, ?_, ?_, ?_⟩ <;> rw [hZ] <;> simp [clR]
  | false =>
    refine ⟨clR k false A, clR k true B, ?_, ?_, ?_⟩ <;> simp [clR]
/-! ### slots -/
theorem atF_find {L : List Int} {s : Int} {i : Nat} (h0 : L.getD i 0 = 0) (hs : s = zcN L (i + 1)) : ∀ {j : Nat}, i < j → atF L s j = i
  | 0, h => absurd h (Nat.not_lt_zero i)
  | j + 1, h => by
    rw [atF]
    by_cases e : i = j
    · subst e; rw [if_pos ⟨h0, by omega⟩]
    · have ih := atF_find h0 hs (j := j) (by omega)
      rw [if_neg fun q => atF_once ih (Nat.le_refl _) q.1 q.2]; exact ih
theorem stepR_mid {Z T : List Int} {v : Int} {c : UInt8} (hp : ppL c v ≠ []) : stepR (Z ++ 0 :: T) v c (zcA Z + 1) = some (Z ++ (ppL c v ++ T)) := by
  have h0 : (Z ++ 0 :: T).getD Z.length 0 = 0 := by
    rw [List.getD_eq_getElem?_getD, List.getElem?_append_right (Nat.le_refl _), Nat.sub_self]; rfl
  have h1 : zcN (Z ++ 0 :: T) (Z.length + 1) = zcA Z + 1 := by
    rw [zcN_app, zcA, zcN, zcN]; simp [bitI]
  rw [stepR_at hp (atF_find (j := (Z ++ 0 :: T).length) h0 h1.symm (by simp))]
  congr 1
  rw [List.take_left, ← List.drop_drop, List.drop_left]; rfl
theorem stepR_in {L R : List Int} {v s : Int} {c : UInt8} (h : stepR L v c s = some R) : ∃ Z T, L = Z ++ 0 :: T ∧ R = Z ++ (ppL c v ++ T) ∧ s = zcA Z + 1 ∧ ppL c v ≠ [] := by
  obtain ⟨hp, ha, _⟩ := stepR_yes h
  obtain ⟨i, hi⟩ : ∃ i : Nat, atF L s L.length = i := ⟨(atF L s L.length).toNat, by omega⟩
  obtain ⟨h1, h2, h3⟩ := atF_at hi
  have e := stepR_at hp hi
  rw [h] at e
  have hL : L = L.take i ++ 0 :: L.drop (i + 1) := by
    conv => lhs; rw [← List.take_append_drop i L]
    rw [List.drop_eq_getElem_cons h1]
    rw [List.getD_eq_getElem?_getD, List.getElem?_eq_getElem h1] at h2
    simp only [Option.getD_some] at h2
    rw [h2]
  refine ⟨L.take i, L.drop (i + 1), hL, Option.some.inj e, ?_, hp⟩
  rw [h3, zcN_0 h2]
  have : zcN L i = zcA (L.take i) := by
    have hl : (L.take i).length = i := by simp; omega
    have := zcN_app (A := L.take i) (B := 0 :: L.drop (i + 1)) (j := 0)
    rw [← hL, hl] at this
    rw [zcA, hl]
    simpa [zcN] using this
  omega
/-! ### from a row back -/
theorem clR_tf {k j : Int} {L : List Int} : clR k true (clR j false L) = clR k true (clR j true L) := by
  rw [clR_hd]
  split
  · rw [List.singleton_append, clR, if_neg (by omega), if_pos rfl]
  · rfl
theorem clR_cl {k : Int} (hk : 0 ≤ k) : ∀ {o : Bool} {L : List Int}, clR k o (clR (k + 1) o L) = clR k o L
  | _, [] => rfl
  | o, x :: L => by
    have z0 : ¬ ((1 : Int) ≤ 0 ∧ (0 : Int) ≤ k) := by omega
    by_cases h1 : 1 ≤ x ∧ x ≤ k
    · rw [clR, if_pos (by omega), clR, if_pos h1, clR, if_pos h1, clR_cl hk]
    · by_cases h2 : 1 ≤ x ∧ x ≤ k + 1
      · rw [clR, if_pos h2, clR, if_neg h1, clR, if_neg h1, clR_tf, clR_cl hk]
      · cases o
        · rw [clR, if_neg h2, if_neg (by simp), clR, if_neg z0, if_neg (by simp), clR_cl hk, clR, if_neg h1, if_neg (by simp)]
        · rw [clR, if_neg h2, if_pos rfl, clR_cl hk, clR, if_neg h1, if_pos rfl]
/-- No open parts side by side, no number beyond k. -/
def sepR (k : Int) (L : List Int) : Prop := (∀ x ∈ L, 0 ≤ x ∧ x ≤ k) ∧ clR k false L = L
theorem sep_mid {k : Int} {Z T : List Int} (h : sepR k (Z ++ 0 :: T)) : enO k false Z = false ∧ clR k false Z = Z ∧ clR k true T = T ∧ hdO k T = false := by
  obtain ⟨h1, h2⟩ := h
  have hl : ∀ {o : Bool} {L : List Int}, (clR k o L).length ≤ L.length := by
    intro o L
    induction L generalizing o with
    | nil => exact Nat.le_refl _
    | cons x L ih =>
      rw [clR]
      split
      · have := ih (o := false); simp; omega
      · split
        · have := ih (o := true); simp; omega
        · have := ih (o := true); simp; omega
  rw [clR_app] at h2
  have hz : (clR k false Z).length = Z.length := by
    have a1 := hl (o := false) (L := Z)
    have a2 := hl (o := enO k false Z) (L := 0 :: T)
    have := congrArg List.length h2
    rw [List.length_append, List.length_append] at this; omega
  obtain ⟨e1, e2⟩ := List.append_inj h2 hz
  have z0 : ¬ ((1 : Int) ≤ 0 ∧ (0 : Int) ≤ k) := by omega
  rw [clR, if_neg z0] at e2
  have he : enO k false Z = false := by
    cases he : enO k false Z with
    | false => rfl
    | true =>
      rw [he, if_pos rfl] at e2
      have a2 := hl (o := true) (L := T)
      have := congrArg List.length e2
      simp at this; omega
  rw [he, if_neg (by simp)] at e2
  have e3 := List.tail_eq_of_cons_eq e2
  refine ⟨he, e1, e3, ?_⟩
  cases T with
  | nil => rfl
  | cons y T =>
    rw [hdO]
    by_cases hy : 1 ≤ y ∧ y ≤ k
    · rw [decide_eq_true hy]; rfl
    · exfalso
      rw [clR, if_neg hy, if_pos rfl] at e3
      have a2 := hl (o := true) (L := T)
      have := congrArg List.length e3
      simp at this; omega
theorem pp_ne0 {c : UInt8} {v : Int} (h : ppL c v ≠ []) : ppL c v = [v] ∨ ppL c v = [v, 0] ∨ ppL c v = [0, v] ∨ ppL c v = [0, v, 0] := by
  unfold ppL at h ⊢; (repeat' split at h) <;> simp_all
theorem pp_inf {k : Int} (hk : 0 ≤ k) {c : UInt8} (h : ppL c (k + 1) ≠ []) : ∃ (o : Nat) (z : Int), (∀ T, (ppL c (k + 1) ++ T).idxOf (k + 1) = o) ∧ zcA (ppL c (k + 1)) = z ∧
    ((c = 102 ∧ o = 0 ∧ z = 0) ∨ (c = 108 ∧ o = 0 ∧ z = 1) ∨ (c = 114 ∧ o = 1 ∧ z = 1) ∨ (c = 109 ∧ o = 1 ∧ z = 2)) := by
  have hv : ¬ (k + 1 = 0) := by omega
  have hw : ((0 : Int) == k + 1) = false := by rw [beq_eq_false_iff_ne]; omega
  by_cases h1 : c = 102
  · refine ⟨0, 0, ?_, ?_, .inl ⟨h1, rfl, rfl⟩⟩ <;> simp [ppL, h1, zcA, zcN, bitI, hv]
  by_cases h2 : c = 108
  · refine ⟨0, 1, ?_, ?_, .inr (.inl ⟨h2, rfl, rfl⟩)⟩ <;> simp [ppL, h2, zcA, zcN, bitI, hv]
  by_cases h3 : c = 114
  · refine ⟨1, 1, ?_, ?_, .inr (.inr (.inl ⟨h3, rfl, rfl⟩))⟩ <;> simp [ppL, h3, zcA, zcN, bitI, hv, List.idxOf_cons, hw]
  by_cases h4 : c = 109
  · refine ⟨1, 2, ?_, ?_, .inr (.inr (.inr ⟨h4, rfl, rfl⟩))⟩ <;> simp [ppL, h4, zcA, zcN, bitI, hv, List.idxOf_cons, hw]
  exact absurd (by simp [ppL, h1, h2, h3, h4]) h
theorem pp_cl {k : Int} (hk : 0 ≤ k) {c : UInt8} (hp : ppL c (k + 1) ≠ []) : ∀ T : List Int, clR k false (ppL c (k + 1) ++ T) = 0 :: clR k true T := by
  intro T
  have z0 : ¬ ((1 : Int) ≤ 0 ∧ (0 : Int) ≤ k) := by omega
  have z1 : ¬ (1 ≤ k + 1 ∧ k + 1 ≤ k) := by omega
  rcases pp_ne0 hp with e | e | e | e <;> rw [e] <;> simp [clR, z0, z1]
theorem pp_sep {k : Int} (hk : 0 ≤ k) {c : UInt8} (hp : ppL c (k + 1) ≠ []) {T : List Int} (hT : clR (k + 1) true T = T) (hh : hdO (k + 1) T = false) : clR (k + 1) false (ppL c (k + 1) ++ T) = ppL c (k + 1) ++ T := by
  have hT2 : clR (k + 1) false T = T := by rw [clR_hd, hh, hT]; rfl
  have z0 : ¬ ((1 : Int) ≤ 0 ∧ (0 : Int) ≤ k + 1) := by omega
  have z1 : 1 ≤ k + 1 ∧ k + 1 ≤ k + 1 := by omega
  rcases pp_ne0 hp with e | e | e | e <;> rw [e] <;> simp [clR, z0, z1, hT, hT2]
/-- A step keeps rows apart, and can be taken back. -/
theorem sep_step {k s : Int} (hk : 0 ≤ k) {L R : List Int} {c : UInt8} (hs : sepR k L) (h : stepR L (k + 1) c s = some R) : sepR (k + 1) R ∧ clR k false R = L ∧ (R.filter (fun x => !decide (x = 0))).Perm ((k + 1) :: L.filter (fun x => !decide (x = 0))) := by
  obtain ⟨Z, T, rfl, rfl, _, hp⟩ := stepR_in h
  obtain ⟨q1, q2, q3, q4⟩ := sep_mid hs
  have nZ : ∀ x ∈ Z, x ≠ k + 1 := fun x hx => by have := hs.1 x (by simp [hx]); omega
  have nT : ∀ x ∈ T, x ≠ k + 1 := fun x hx => by have := hs.1 x (by simp [hx]); omega
  have hpm : ∀ x ∈ ppL c (k + 1), 0 ≤ x ∧ x ≤ k + 1 := by
    rcases pp_ne0 hp with e | e | e | e <;> rw [e] <;> simp <;> omega
  have r1 := clR_ne (v := k) (o := false) nZ
  have r2 := clR_ne (v := k) (o := true) nT
  have r3 : hdO (k + 1) T = false := by
    cases T with
    | nil => rfl
    | cons y T =>
      rw [hdO] at q4 ⊢
      have := nT y (by simp)
      simp only [Bool.not_eq_false', decide_eq_true_eq] at q4 ⊢; omega
  refine ⟨⟨fun x hx => ?_, ?_⟩, ?_, ?_⟩
  · rcases List.mem_append.1 hx with hx | hx
    · have := hs.1 x (by simp [hx]); omega
    · rcases List.mem_append.1 hx with hx | hx
      · exact hpm x hx
      · have := hs.1 x (by simp [hx]); omega
  · rw [clR_app, r1.1, r1.2, q1, q2, pp_sep hk hp (by rw [r2.1, q3]) r3]
  · rw [clR_app, q1, q2, pp_cl hk hp, q3]
  · have hf : (ppL c (k + 1)).filter (fun x => !decide (x = 0)) = [k + 1] := by
      have : ¬ (k + 1 = 0) := by omega
      rcases pp_ne0 hp with e | e | e | e <;> rw [e] <;> simp [this]
    rw [List.filter_append, List.filter_append, hf, List.filter_append, List.filter_cons_of_neg (by simp)]
    exact List.perm_middle
/-- What was put in can be told. -/
theorem step_inj {k s s' : Int} (hk : 0 ≤ k) {L R : List Int} {c c' : UInt8} (hs : sepR k L) (h : stepR L (k + 1) c s = some R) (h' : stepR L (k + 1) c' s' = some R) : c = c' ∧ s = s' := by
  obtain ⟨Z, T, e1, e2, e3, hp⟩ := stepR_in h
  obtain ⟨Z', T', f1, f2, f3, hp'⟩ := stepR_in h'
  have nm : ∀ x ∈ L, x ≠ k + 1 := fun x hx => by have := hs.1 x hx; omega
  have nZ : k + 1 ∉ Z := fun hx => nm _ (by rw [e1]; simp [hx]) rfl
  have nZ' : k + 1 ∉ Z' := fun hx => nm _ (by rw [f1]; simp [hx]) rfl
  obtain ⟨o, z, hc, hz, hd⟩ := pp_inf hk hp
  obtain ⟨o', z', hc', hz', hd'⟩ := pp_inf hk hp'
  have i1 : R.idxOf (k + 1) = Z.length + o := by rw [e2, List.idxOf_append, if_neg nZ, hc T, Nat.add_comm]
  have i2 : R.idxOf (k + 1) = Z'.length + o' := by rw [f2, List.idxOf_append, if_neg nZ', hc' T', Nat.add_comm]
  have z1 : zcA R = zcA L - 1 + zcA (ppL c (k + 1)) := by
    rw [e2, e1, zcA_app, zcA_app, zcA_app, show (0 :: T : List Int) = [0] ++ T from rfl, zcA_app, zcA_one]; simp [bitI]; omega
  have z2 : zcA R = zcA L - 1 + zcA (ppL c' (k + 1)) := by
    rw [f2, f1, zcA_app, zcA_app, zcA_app, show (0 :: T' : List Int) = [0] ++ T' from rfl, zcA_app, zcA_one]; simp [bitI]; omega
  have same : Z.length = Z'.length → s = s' := fun e => by
    have : Z = Z' := (List.append_inj (e1.symm.trans f1) e).1
    rw [e3, f3, this]
  have far : ∀ {A A' B B' : List Int}, L = A ++ 0 :: B → L = A' ++ 0 :: B' → A.length ≠ A'.length + 1 := by
    intro A A' B B' g1 g2 e
    rw [g2] at hs
    have hq := (sep_mid hs).2.2.2
    have g3 : B' = B'.take 0 ++ B' := rfl
    have : L.getD A.length 1 = 0 := by rw [g1, List.getD_eq_getElem?_getD, List.getElem?_append_right (Nat.le_refl _), Nat.sub_self]; rfl
    rw [g2, e, List.getD_eq_getElem?_getD, List.getElem?_append_right (by omega), show A'.length + 1 - A'.length = 1 by omega] at this
    cases B' with
    | nil => simp at this
    | cons y B' =>
      simp at this
      subst this
      simp [hdO] at hq
  rw [hz] at z1
  rw [hz'] at z2
  have f1' := far e1 f1
  have f2' := far f1 e1
  rcases hd with ⟨a1, a2, a3⟩ | ⟨a1, a2, a3⟩ | ⟨a1, a2, a3⟩ | ⟨a1, a2, a3⟩ <;> rcases hd' with ⟨b1, b2, b3⟩ | ⟨b1, b2, b3⟩ | ⟨b1, b2, b3⟩ | ⟨b1, b2, b3⟩
  all_goals first | (exfalso; omega) | exact ⟨a1.trans b1.symm, same (by omega)⟩
end Go.Gl
