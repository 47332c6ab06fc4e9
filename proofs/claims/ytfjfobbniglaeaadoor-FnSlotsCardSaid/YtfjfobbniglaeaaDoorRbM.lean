/-
  Rows that are built slot by slot: the plain part. Conditions: none.
-/
import Derived.Test.YtfjfobbniglaeaaDoorClone
import Derived.Test.YtfjfobbniglaeaaDoorLaw0
set_option linter.unusedSimpArgs false
set_option linter.unusedVariables false
set_option maxRecDepth 20000
set_option linter.unusedSectionVars false
namespace Go.Gl
open Go Go.Proofs
variable [Amb] [NoQ]
/-- The zeros among the first numbers of a row. -/
def zcN (L : List Int) : Nat → Int
  | 0 => 0
  | j + 1 => zcN L j + bitI (decide (L.getD j 0 = 0))
theorem zcN_r (L : List Int) : ∀ j : Nat, 0 ≤ zcN L j ∧ zcN L j ≤ j
  | 0 => by simp [zcN]
  | j + 1 => by
    have := zcN_r L j
    rw [zcN]
    cases decide (L.getD j 0 = 0) <;> simp [bitI] <;> omega
theorem zcN_0 {L : List Int} {j : Nat} (h : L.getD j 0 = 0) : zcN L (j + 1) = zcN L j + 1 := by rw [zcN, decide_eq_true h]; rfl
theorem zcN_n {L : List Int} {j : Nat} (h : L.getD j 0 ≠ 0) : zcN L (j + 1) = zcN L j := by rw [zcN, decide_eq_false h]; simp [bitI]
theorem zcN_mono {L : List Int} {i : Nat} : ∀ {j : Nat}, i ≤ j → zcN L i ≤ zcN L j
  | 0, h => by obtain rfl : i = 0 := by omega
               exact Int.le_refl _
  | j + 1, h => by
    by_cases e : i = j + 1
    · rw [e]; exact Int.le_refl _
    · have := zcN_mono (L := L) (i := i) (j := j) (by omega)
      rw [zcN]
      cases decide (L.getD j 0 = 0) <;> simp [bitI] <;> omega
/-- The place of slot s among the first numbers of a row, or -1. -/
def atF (L : List Int) (s : Int) : Nat → Int
  | 0 => -1
  | j + 1 => if L.getD j 0 = 0 ∧ s - zcN L (j + 1) = 0 then j else atF L s j
theorem atF_r {L : List Int} {s : Int} : ∀ j : Nat, -1 ≤ atF L s j ∧ atF L s j < j
  | 0 => by simp [atF]
  | j + 1 => by
    have := atF_r (L := L) (s := s) j
    rw [atF]; split <;> omega
theorem atF_at {L : List Int} {s : Int} : ∀ {j i : Nat}, atF L s j = i → i < j ∧ L.getD i 0 = 0 ∧ s = zcN L (i + 1)
  | 0, i, h => by simp only [atF] at h; omega
  | j + 1, i, h => by
    rw [atF] at h
    split at h
    · rename_i q
      obtain rfl : j = i := by omega
      exact ⟨by omega, q.1, by omega⟩
    · have := atF_at h
      exact ⟨by omega, this.2⟩
theorem atF_once {L : List Int} {s : Int} {j i : Nat} (h : atF L s j = i) {q : Nat} (hq : j ≤ q) (h0 : L.getD q 0 = 0) : s - zcN L (q + 1) ≠ 0 := by
  obtain ⟨h1, _, h3⟩ := atF_at h
  have := zcN_mono (L := L) (i := i + 1) (j := q) (by omega)
  rw [zcN_0 h0]; omega
/-- What stands for a slot. -/
def ppL (c : UInt8) (v : Int) : List Int := if c = 102 then [v] else if c = 108 then [v, 0] else if c = 114 then [0, v] else if c = 109 then [0, v, 0] else []
/-- A row, with what stands for its slot, told from its beginning. -/
def ptL (L : List Int) (ps : List Int) (s : Int) : Nat → List Int
  | 0 => []
  | j + 1 => ptL L ps s j ++ (if L.getD j 0 = 0 ∧ s - zcN L (j + 1) = 0 then ps else [L.getD j 0])
theorem ptL_at {L ps : List Int} {s : Int} : ∀ {j : Nat}, j ≤ L.length → (atF L s j = -1 ∧ ptL L ps s j = L.take j) ∨ ∃ i : Nat, atF L s j = i ∧ i < j ∧ ptL L ps s j = L.take i ++ (ps ++ (L.take j).drop (i + 1))
  | 0, _ => by simp [atF, ptL]
  | j + 1, hj => by
    have hj2 : j < L.length := by omega
    have tk : L.take (j + 1) = L.take j ++ [L.getD j 0] := take_getD (d := 0) hj2
    rcases ptL_at (L := L) (ps := ps) (s := s) (j := j) (by omega) with ⟨h1, h2⟩ | ⟨i, h1, h3, h2⟩
    · rw [atF, ptL]
      split
      · refine .inr ⟨j, rfl, by omega, ?_⟩
        rw [h2, tk, List.drop_eq_nil_of_le (by simp; omega), List.append_nil]
      · exact .inl ⟨h1, by rw [h2, tk]⟩
    · have hn : ¬ (L.getD j 0 = 0 ∧ s - zcN L (j + 1) = 0) := fun q => atF_once h1 (Nat.le_refl _) q.1 q.2
      rw [atF, ptL, if_neg hn, if_neg hn]
      refine .inr ⟨i, h1, by omega, ?_⟩
      rw [h2, tk, List.drop_append_of_le_length (by simp; omega)]
      simp
/-- One step: a slot gets its number. -/
def stepR (L : List Int) (v : Int) (c : UInt8) (s : Int) : Option (List Int) :=
  if ppL c v = [] then none else if atF L s L.length < 0 then none else some (ptL L (ppL c v) s L.length)
theorem stepR_at {L : List Int} {v s : Int} {c : UInt8} {i : Nat} (hp : ppL c v ≠ []) (h : atF L s L.length = i) : stepR L v c s = some (L.take i ++ (ppL c v ++ L.drop (i + 1))) := by
  rw [stepR, if_neg hp, if_neg (by omega)]
  rcases ptL_at (L := L) (ps := ppL c v) (s := s) (Nat.le_refl _) with ⟨h1, _⟩ | ⟨k, h1, _, h2⟩
  · omega
  · obtain rfl : k = i := by omega
    rw [h2, List.take_length]
theorem ppL_len (c : UInt8) (v : Int) : (ppL c v).length ≤ 3 := by unfold ppL; (repeat' split) <;> simp
theorem zcN_app {A B : List Int} : ∀ {j : Nat}, zcN (A ++ B) (A.length + j) = zcN A A.length + zcN B j
  | 0 => by
    have : ∀ j, j ≤ A.length → zcN (A ++ B) j = zcN A j := by
      intro j
      induction j with
      | zero => simp [zcN]
      | succ j ih => intro h; rw [zcN, zcN, ih (by omega), List.getD_eq_getElem?_getD, List.getD_eq_getElem?_getD, List.getElem?_append_left (by omega)]
    simp only [Nat.add_zero, zcN]; rw [this _ (Nat.le_refl _), Int.add_zero]
  | j + 1 => by
    rw [← Nat.add_assoc, zcN, zcN, zcN_app (j := j), List.getD_eq_getElem?_getD, List.getD_eq_getElem?_getD, List.getElem?_append_right (by omega), Nat.add_sub_cancel_left]; omega
/-- The zeros of a row. -/
def zcA (L : List Int) : Int := zcN L L.length
theorem zcA_app {A B : List Int} : zcA (A ++ B) = zcA A + zcA B := by rw [zcA, List.length_append, zcN_app]; rfl
theorem zcA_one {x : Int} : zcA [x] = bitI (decide (x = 0)) := by simp [zcA, zcN]
theorem zcA_pp {c : UInt8} {v : Int} (hv : v ≠ 0) : zcA (ppL c v) ≤ 2 := by
  have e0 : ∀ l : List Int, l ≠ [] → True := fun _ _ => trivial
  have hb : bitI (decide (v = 0)) = 0 := by rw [decide_eq_false hv]; rfl
  unfold ppL
  (repeat' split) <;> simp [zcA, zcN, bitI, hv]
theorem stepR_b {L R : List Int} {v s : Int} {c : UInt8} (hv : v ≠ 0) (h : stepR L v c s = some R) : R.length ≤ L.length + 2 ∧ zcA R ≤ zcA L + 1 ∧ 1 ≤ s ∧ s ≤ zcA L ∧ ppL c v ≠ [] := by
  unfold stepR at h
  split at h
  · cases h
  · rename_i hp
    split at h
    · cases h
    · rename_i ha
      have hr := atF_r (L := L) (s := s) L.length
      obtain ⟨i, hi⟩ : ∃ i : Nat, atF L s L.length = i := ⟨(atF L s L.length).toNat, by omega⟩
      obtain ⟨h1, h2, h3⟩ := atF_at hi
      have e := stepR_at hp hi
      rw [stepR, if_neg hp, if_neg ha] at e
      rw [e] at h
      have hR : R = L.take i ++ (ppL c v ++ L.drop (i + 1)) := by simpa using h.symm
      have hL : zcA L = zcA (L.take i) + (1 + zcA (L.drop (i + 1))) := by
        have e2 : L = L.take i ++ ([0] ++ L.drop (i + 1)) := by
          conv => lhs; rw [← List.take_append_drop i L]
          rw [List.drop_eq_getElem_cons h1]
          rw [List.getD_eq_getElem?_getD, List.getElem?_eq_getElem h1] at h2
          simp only [Option.getD_some] at h2
          rw [h2]; rfl
        conv => lhs; rw [e2]
        rw [zcA_app, zcA_app, zcA_one]; rfl
      have hz := zcA_pp (c := c) hv
      have hl := ppL_len c v
      have m1 := zcN_mono (L := L) (i := i + 1) (j := L.length) (by omega)
      have m2 := zcN_r L i
      have m3 := zcN_0 h2
      subst hR
      refine ⟨by simp; omega, by rw [zcA_app, zcA_app]; omega, by omega, by rw [zcA]; omega, hp⟩
theorem stepR_no {L : List Int} {v s : Int} {c : UInt8} (hv : v ≠ 0) (h : stepR L v c s = none) (hp : ppL c v ≠ []) : atF L s L.length < 0 := by
  by_cases e : atF L s L.length < 0
  · exact e
  · rw [stepR, if_neg hp, if_neg e] at h; cases h
theorem stepR_yes {L R : List Int} {v s : Int} {c : UInt8} (h : stepR L v c s = some R) : ppL c v ≠ [] ∧ 0 ≤ atF L s L.length ∧ ptL L (ppL c v) s L.length = R := by
  rw [stepR] at h
  split at h
  · cases h
  · rename_i hp
    split at h
    · cases h
    · exact ⟨hp, by omega, by simpa using h⟩
/-- The slot's digit. -/
def dgI (c : UInt8) : Int := (c.toNat : Int) - 48
/-- The row after k steps of a text. -/
def rbF (s : List UInt8) : Nat → Option (List Int)
  | 0 => some [0]
  | k + 1 => match rbF s k with
    | some L => stepR L ((k : Int) + 1) (s.getD (2 * k) 0) (dgI (s.getD (2 * k + 1) 0))
    | none => none
theorem rbF_succ {s : List UInt8} {k : Nat} {L : List Int} (h : rbF s k = some L) : rbF s (k + 1) = stepR L ((k : Int) + 1) (s.getD (2 * k) 0) (dgI (s.getD (2 * k + 1) 0)) := by rw [rbF, h]
theorem rbF_none {s : List UInt8} {k : Nat} (h : rbF s k = none) : ∀ {m : Nat}, k ≤ m → rbF s m = none
  | 0, hm => by obtain rfl : k = 0 := by omega
                exact h
  | m + 1, hm => by
    by_cases e : k = m + 1
    · rw [← e]; exact h
    · rw [rbF, rbF_none h (m := m) (by omega)]
theorem rbF_b {s : List UInt8} : ∀ {k : Nat} {L : List Int}, rbF s k = some L → L.length ≤ 2 * k + 1 ∧ zcA L ≤ (k : Int) + 1
  | 0, L, h => by cases h; simp [zcA, zcN, bitI]
  | k + 1, L, h => by
    rw [rbF] at h
    split at h
    · rename_i L0 e
      have h1 := rbF_b e
      have h2 := stepR_b (by omega) h
      omega
    · cases h
/-- What a text builds. -/
def rbR (s : List UInt8) : Option (List Int) :=
  if s.length % 2 = 0 ∧ 2 ≤ s.length ∧ s.length ≤ 16 then match rbF s (s.length / 2) with
    | some L => if L.contains 0 then none else some L
    | none => none
  else none
def rbL (s : List UInt8) : List Int := (rbR s).getD []
def rbB (s : List UInt8) : Bool := (rbR s).isSome
theorem rb_len {s : List UInt8} (h : ¬ (s.length % 2 = 0 ∧ 2 ≤ s.length ∧ s.length ≤ 16)) : rbL s = [] ∧ rbB s = false := by simp [rbL, rbB, rbR, h]
theorem rb_fail {s : List UInt8} {k : Nat} (h : rbF s k = none) (hk : 2 * k ≤ s.length) : rbL s = [] ∧ rbB s = false := by
  have := rbF_none h (m := s.length / 2) (by omega)
  simp [rbL, rbB, rbR, this]
theorem rb_zero {s : List UInt8} {k : Nat} {L : List Int} (h : rbF s k = some L) (hk : s.length = 2 * k) (h0 : L.contains 0 = true) : rbL s = [] ∧ rbB s = false := by
  have e : s.length / 2 = k := by omega
  simp only [rbL, rbB, rbR, e, h, h0, if_true]
  split <;> exact ⟨rfl, rfl⟩
theorem rb_ok {s : List UInt8} {k : Nat} {L : List Int} (h : rbF s k = some L) (hk : s.length = 2 * k) (h2 : 2 ≤ s.length) (h16 : s.length ≤ 16) (h0 : L.contains 0 = false) : rbL s = L ∧ rbB s = true := by
  have e : s.length / 2 = k := by omega
  simp only [rbL, rbB, rbR, e, h, h0]
  rw [if_pos ⟨by omega, h2, h16⟩]
  exact ⟨rfl, rfl⟩
end Go.Gl
