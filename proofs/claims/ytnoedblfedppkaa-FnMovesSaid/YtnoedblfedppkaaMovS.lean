/-
  Moves that sort: which permutations they sort, what they make. Conditions: none.
-/
import Derived.Test.YtnoedblfedppkaaMovM
import Derived.Test.YtnoedblfedppkaaPat
set_option linter.unusedSimpArgs false
set_option linter.unusedVariables false
set_option maxRecDepth 20000
set_option linter.unusedSectionVars false
namespace Go.Gl
open Go Go.Proofs
variable [Amb]
/-- How many are taken off the stack in a row. -/
def popN : Nat → List Int → Int → Nat
  | 0, _, _ => 0
  | f + 1, st, nx => if st ≠ [] ∧ topI st = nx then popN f (st.take (st.length - 1)) (nx + 1) + 1 else 0
theorem popN_spec : ∀ {f : Nat} {st : List Int} {nx : Int}, st.length ≤ f → popN f st nx ≤ st.length ∧ (∀ x, x ∈ st ↔ x ∈ st.take (st.length - popN f st nx) ∨ nx ≤ x ∧ x < nx + popN f st nx) ∧ (st.take (st.length - popN f st nx) = [] ∨ topI (st.take (st.length - popN f st nx)) ≠ nx + popN f st nx)
  | 0, st, nx, h => by
    obtain rfl : st = [] := List.eq_nil_of_length_eq_zero (by omega)
    simp [popN]
  | f + 1, st, nx, h => by
    rw [popN]
    by_cases q : st ≠ [] ∧ topI st = nx
    · obtain ⟨s, x, rfl⟩ := snoc_of q.1
      have q1 := q.2
      rw [topI_snoc] at q1
      subst q1
      rw [if_pos q, cutI_snoc]
      rw [List.length_append, List.length_singleton] at h ⊢
      obtain ⟨h1, h2, h3⟩ := popN_spec (f := f) (st := s) (nx := x + 1) (by omega)
      have e : (s ++ [x]).take (s.length + 1 - (popN f s (x + 1) + 1)) = s.take (s.length - popN f s (x + 1)) := by
        rw [List.take_append_of_le_length (by omega)]; congr 1; omega
      rw [e]
      refine ⟨by omega, fun y => ?_, ?_⟩
      · rw [List.mem_append, h2, List.mem_singleton]
        constructor
        · rintro ((a | a) | a)
          · exact .inl a
          · exact .inr (by omega)
          · exact .inr (by omega)
        · rintro (a | a)
          · exact .inl (.inl a)
          · by_cases e : y = x
            · exact .inr e
            · exact .inl (.inr (by omega))
      · rcases h3 with h3 | h3
        · exact .inl h3
        · refine .inr fun g => h3 ?_; rw [g]; omega
    · rw [if_neg q]
      simp only [Nat.sub_zero, List.take_length]
      refine ⟨by omega, fun x => ⟨.inl, fun h => h.elim (fun h => h) fun h => by omega⟩, ?_⟩
      by_cases e : st = []
      · exact .inl e
      · exact .inr fun g => q ⟨e, by omega⟩
/-- The moves that sort, from a state on, and what is left on the stack. -/
def srF : List Int → List Int → Int → List UInt8 × List Int
  | [], st, _ => ([], st)
  | v :: p, st, nx =>
    let c := popN (st.length + 1) (st ++ [v]) nx
    let r := srF p ((st ++ [v]).take (st.length + 1 - c)) (nx + c)
    (73 :: (List.replicate c 79 ++ r.1), r.2)
structure SInv (p st : List Int) (nx N : Int) : Prop where
  nd : p.Nodup
  sd : st.Nodup
  ap : ∀ x ∈ p, x ∉ st
  me : ∀ x, (x ∈ p ∨ x ∈ st) ↔ nx ≤ x ∧ x ≤ N
  tp : st = [] ∨ topI st ≠ nx
theorem sinv_step {v : Int} {p st : List Int} {nx N : Int} (h : SInv (v :: p) st nx N) :
    SInv p ((st ++ [v]).take (st.length + 1 - popN (st.length + 1) (st ++ [v]) nx)) (nx + popN (st.length + 1) (st ++ [v]) nx) N ∧
    (∀ x, x ∈ st ++ [v] ↔ x ∈ (st ++ [v]).take (st.length + 1 - popN (st.length + 1) (st ++ [v]) nx) ∨ nx ≤ x ∧ x < nx + popN (st.length + 1) (st ++ [v]) nx) := by
  obtain ⟨h1, h2, h3⟩ := popN_spec (f := st.length + 1) (st := st ++ [v]) (nx := nx) (by simp)
  rw [List.length_append, List.length_singleton] at h1 h2 h3
  obtain ⟨n1, n2⟩ := List.nodup_cons.1 h.nd
  have hs : (st ++ [v]).Nodup := by
    rw [List.nodup_append]
    refine ⟨h.sd, by simp, fun a ha b hb e => ?_⟩
    simp at hb; subst hb; subst e
    exact h.ap _ List.mem_cons_self ha
  have hlo : ∀ x ∈ (st ++ [v]).take (st.length + 1 - popN (st.length + 1) (st ++ [v]) nx), nx + (popN (st.length + 1) (st ++ [v]) nx : Int) ≤ x := by
    intro x hx
    obtain ⟨c, hc⟩ : ∃ c, c = popN (st.length + 1) (st ++ [v]) nx := ⟨_, rfl⟩
    rw [← hc] at h1 h2 hx ⊢
    refine Classical.byContradiction fun g => ?_
    have m1 : x ∈ st ++ [v] := List.mem_of_mem_take hx
    have m2 : nx ≤ x := by
      rcases List.mem_append.1 m1 with q | q
      · exact ((h.me x).1 (.inr q)).1
      · simp at q; subst q; exact ((h.me x).1 (.inl List.mem_cons_self)).1
    -- the dropped ones are c different numbers; x would be among them
    have hd : ∀ y, nx ≤ y → y < nx + c → y ∈ (st ++ [v]).take (st.length + 1 - c) ∨ y ∈ (st ++ [v]).drop (st.length + 1 - c) := fun y a b => by
      have := (h2 y).2 (.inr ⟨a, b⟩)
      rw [← List.take_append_drop (st.length + 1 - c) (st ++ [v])] at this
      exact List.mem_append.1 this
    have hsplit := hs
    rw [← List.take_append_drop (st.length + 1 - c) (st ++ [v]), List.nodup_append] at hsplit
    have hdr : ∀ y ∈ (st ++ [v]).drop (st.length + 1 - c), nx ≤ y ∧ y < nx + c := fun y hy => by
      have m : y ∈ st ++ [v] := List.mem_of_mem_drop hy
      rcases (h2 y).1 m with q | q
      · exact absurd rfl (hsplit.2.2 y q y hy)
      · exact q
    have hl : ((st ++ [v]).drop (st.length + 1 - c)).length = c := by rw [List.length_drop, List.length_append, List.length_singleton]; omega
    -- x joined to the dropped ones: c + 1 different numbers out of c
    have hn : (x :: (st ++ [v]).drop (st.length + 1 - c)).Nodup := List.nodup_cons.2 ⟨fun hm => hsplit.2.2 x hx x hm rfl, hsplit.2.1⟩
    have hle := nodup_le (n := c) (a := nx - 1) hn (fun y hy => by
      rcases List.mem_cons.1 hy with rfl | hy
      · omega
      · have := hdr y hy; omega)
    rw [List.length_cons, hl] at hle; omega
  refine ⟨⟨n2, hs.sublist (List.take_sublist _ _), fun x hx hm => ?_, fun x => ?_, ?_⟩, h2⟩
  · have m := List.mem_of_mem_take hm
    rcases List.mem_append.1 m with q | q
    · exact h.ap x (List.mem_cons_of_mem _ hx) q
    · simp at q; subst q; exact n1 hx
  · constructor
    · rintro (a | a)
      · have g1 := (h.me x).1 (.inl (List.mem_cons_of_mem _ a))
        refine ⟨?_, g1.2⟩
        refine Classical.byContradiction fun g => ?_
        have := (h2 x).2 (.inr ⟨g1.1, by omega⟩)
        rcases List.mem_append.1 this with q | q
        · exact h.ap x (List.mem_cons_of_mem _ a) q
        · simp at q; subst q; exact n1 a
      · refine ⟨hlo x a, ?_⟩
        rcases List.mem_append.1 (List.mem_of_mem_take a) with q | q
        · exact ((h.me x).1 (.inr q)).2
        · simp at q; subst q; exact ((h.me x).1 (.inl List.mem_cons_self)).2
    · rintro ⟨a, b⟩
      rcases (h.me x).2 ⟨by omega, b⟩ with q | q
      · rcases List.mem_cons.1 q with rfl | q
        · rcases (h2 x).1 (by simp) with g | g
          · exact .inr g
          · omega
        · exact .inl q
      · rcases (h2 x).1 (by simp [q]) with g | g
        · exact .inr g
        · omega
  · exact h3
/-- One below a greater one on the stack. -/
def ascS (st : List Int) : Prop := ∃ a b : Nat, a < b ∧ b < st.length ∧ st.getD a 0 < st.getD b 0
theorem take_getD' {α : Type} {l : List α} {n i : Nat} {d : α} (h : i < n) : (l.take n).getD i d = l.getD i d := by
  rw [List.getD_eq_getElem?_getD, List.getD_eq_getElem?_getD, List.getElem?_take_of_lt h]
theorem asc_keep {st : List Int} : ∀ {f : Nat} {nx : Int}, (∀ x ∈ st, nx ≤ x) → st.Nodup → ascS st → ascS (st.take (st.length - popN f st nx))
  := by
  intro f nx hlo hn ⟨a, b, hab, hb, hlt⟩
  -- nothing at or below place b is taken off
  have key : ∀ (f : Nat) (s : List Int) (nx : Int), (∀ x ∈ s, nx ≤ x) → s.Nodup → b < s.length → s.getD a 0 < s.getD b 0 → b < s.length - popN f s nx := by
    intro f
    induction f with
    | zero => intro s nx _ _ h _; simpa [popN] using h
    | succ f ih =>
      intro s nx h1 h2 h3 h4
      rw [popN]
      split
      · rename_i q
        obtain ⟨s', x, rfl⟩ := snoc_of q.1
        have q1 := q.2
        rw [topI_snoc] at q1
        rw [cutI_snoc]
        rw [List.length_append, List.length_singleton] at h3 ⊢
        have h5 : b < s'.length := by
          refine Classical.byContradiction fun g => ?_
          obtain rfl : b = s'.length := by omega
          have e1 : (s' ++ [x]).getD s'.length 0 = x := by rw [List.getD_eq_getElem?_getD, List.getElem?_append_right (Nat.le_refl _)]; simp
          rw [e1] at h4
          have := h1 _ (getD_mem (l := s' ++ [x]) (i := a) (d := 0) (by simp; omega))
          omega
        have e2 : ∀ i, i < s'.length → (s' ++ [x]).getD i 0 = s'.getD i 0 := fun i hi => by rw [List.getD_eq_getElem?_getD, List.getD_eq_getElem?_getD, List.getElem?_append_left hi]
        rw [List.nodup_append] at h2
        have := ih s' (nx + 1) (fun y hy => by
          have g1 := h1 y (by simp [hy])
          have g2 : y ≠ x := h2.2.2 y hy x (by simp)
          omega) h2.1 h5 (by rw [← e2 a (by omega), ← e2 b h5]; exact h4)
        omega
      · simpa using h3
  have h := key f st nx hlo hn hb hlt
  exact ⟨a, b, hab, by rw [List.length_take]; omega, by rw [take_getD' (by omega), take_getD' (by omega)]; exact hlt⟩
theorem asc_fail : ∀ {p st : List Int} {nx N : Int}, SInv p st nx N → ascS st → (srF p st nx).2 ≠ []
  | [], st, nx, N, _, ⟨a, b, _, hb, _⟩ => by rw [srF]; intro e; have e : st = [] := e; subst e; simp at hb
  | v :: p, st, nx, N, h, ⟨a, b, hab, hb, hlt⟩ => by
    obtain ⟨h1, h2⟩ := sinv_step h
    rw [srF]
    refine asc_fail h1 ?_
    have e : ∀ i, i < st.length → (st ++ [v]).getD i 0 = st.getD i 0 := fun i hi => by rw [List.getD_eq_getElem?_getD, List.getD_eq_getElem?_getD, List.getElem?_append_left hi]
    have := asc_keep (st := st ++ [v]) (f := st.length + 1) (nx := nx) (fun x hx => by
      rcases List.mem_append.1 hx with q | q
      · exact ((h.me x).1 (.inr q)).1
      · simp at q; subst q; exact ((h.me x).1 (.inl List.mem_cons_self)).1) (by
        rw [List.nodup_append]
        refine ⟨h.sd, by simp, fun a ha b hb e5 => ?_⟩
        simp at hb; subst hb; subst e5
        exact h.ap _ List.mem_cons_self ha) ⟨a, b, hab, by simp; omega, by rw [e a (by omega), e b hb]; exact hlt⟩
    rw [List.length_append, List.length_singleton] at this
    exact this
def badS (p st : List Int) : Prop := (∃ u ∈ st, ∃ j l : Nat, j < l ∧ l < p.length ∧ p.getD l 0 < u ∧ u < p.getD j 0) ∨ p231 p
theorem badS_cons {v : Int} {p st : List Int} : badS (v :: p) st ↔ (∃ u ∈ st, u < v ∧ ∃ x ∈ p, x < u) ∨ badS p (st ++ [v]) := by
  unfold badS p231
  constructor
  · rintro (⟨u, hu, j, l, h1, h2, h3, h4⟩ | ⟨i, j, l, h1, h2, h3, h4, h5⟩)
    · obtain ⟨l, rfl⟩ : ∃ m, l = m + 1 := ⟨l - 1, by omega⟩
      rw [List.length_cons] at h2
      rw [List.getD_cons_succ] at h3
      cases j with
      | zero => exact .inl ⟨u, hu, h4, _, getD_mem (by omega), h3⟩
      | succ j => exact .inr (.inl ⟨u, by simp [hu], j, l, by omega, by omega, h3, by simpa using h4⟩)
    · obtain ⟨l, rfl⟩ : ∃ m, l = m + 1 := ⟨l - 1, by omega⟩
      obtain ⟨j, rfl⟩ : ∃ m, j = m + 1 := ⟨j - 1, by omega⟩
      rw [List.length_cons] at h3
      rw [List.getD_cons_succ] at h4 h5
      cases i with
      | zero => exact .inr (.inl ⟨v, by simp, j, l, by omega, by omega, by simpa using h4, by simpa using h5⟩)
      | succ i => exact .inr (.inr ⟨i, j, l, by omega, by omega, by omega, by simpa using h4, by simpa using h5⟩)
  · rintro (⟨u, hu, h1, x, hx, h2⟩ | ⟨u, hu, j, l, h1, h2, h3, h4⟩ | ⟨i, j, l, h1, h2, h3, h4, h5⟩)
    · obtain ⟨i, hi, rfl⟩ := List.getElem_of_mem hx
      exact .inl ⟨u, hu, 0, i + 1, by omega, by simp; omega, by simpa [List.getD_eq_getElem?_getD, List.getElem?_eq_getElem hi] using h2, by simpa using h1⟩
    · rcases List.mem_append.1 hu with q | q
      · exact .inl ⟨u, q, j + 1, l + 1, by omega, by simp; omega, by simpa using h3, by simpa using h4⟩
      · simp at q; subst q
        exact .inr ⟨0, j + 1, l + 1, by omega, by omega, by simp; omega, by simpa using h3, by simpa using h4⟩
    · exact .inr ⟨i + 1, j + 1, l + 1, by omega, by omega, by simp; omega, by simpa using h4, by simpa using h5⟩
theorem badS_sub {p st : List Int} {s : List Int} (h : badS p st) (hs : ∀ u ∈ st, (∃ x ∈ p, x < u) → u ∈ s) : badS p s := by
  rcases h with ⟨u, hu, j, l, h1, h2, h3, h4⟩ | h
  · exact .inl ⟨u, hs u hu ⟨_, getD_mem h2, h3⟩, j, l, h1, h2, h3, h4⟩
  · exact .inr h
theorem sr_bad : ∀ {p st : List Int} {nx N : Int}, SInv p st nx N → ¬ ascS st → ((srF p st nx).2 ≠ [] ↔ badS p st)
  | [], st, nx, N, h, hd => by
    rw [srF]
    constructor
    · intro (hs : st ≠ [])
      exfalso
      obtain ⟨s, x, rfl⟩ := snoc_of hs
      have h1 : nx ∈ s ++ [x] := by
        have := (h.me x).1 (.inr (by simp))
        rcases (h.me nx).2 ⟨by omega, by omega⟩ with q | q
        · cases q
        · exact q
      rcases h.tp with q | q
      · exact hs q
      · rw [topI_snoc] at q
        rcases List.mem_append.1 h1 with g | g
        · obtain ⟨i, hi, e⟩ := List.getElem_of_mem g
          have := (h.me x).1 (.inr (by simp))
          refine hd ⟨i, s.length, hi, by simp, ?_⟩
          have e1 : (s ++ [x]).getD s.length 0 = x := by rw [List.getD_eq_getElem?_getD, List.getElem?_append_right (Nat.le_refl _)]; simp
          have e2 : (s ++ [x]).getD i 0 = nx := by rw [List.getD_eq_getElem?_getD, List.getElem?_append_left hi, List.getElem?_eq_getElem hi]; exact e
          rw [e1, e2]; omega
        · simp at g; exact q g.symm
    · rintro (⟨u, hu, j, l, _, h2, _⟩ | ⟨i, j, l, _, _, h3, _⟩)
      · simp at h2
      · simp at h3
  | v :: p, st, nx, N, h, hd => by
    obtain ⟨h1, h2⟩ := sinv_step h
    have hlo : ∀ x ∈ st ++ [v], nx ≤ x := fun x hx => by
      rcases List.mem_append.1 hx with q | q
      · exact ((h.me x).1 (.inr q)).1
      · simp at q; subst q; exact ((h.me x).1 (.inl List.mem_cons_self)).1
    have hlast : (st ++ [v]).getD st.length 0 = v := by rw [List.getD_eq_getElem?_getD, List.getElem?_append_right (Nat.le_refl _)]; simp
    have hst : ∀ i, i < st.length → (st ++ [v]).getD i 0 = st.getD i 0 := fun i hi => by rw [List.getD_eq_getElem?_getD, List.getD_eq_getElem?_getD, List.getElem?_append_left hi]
    have hmin : ∀ u ∈ st, u ≠ nx := fun u hu e => by
      subst e
      rcases h.tp with q | q
      · subst q; cases hu
      · have hne : st ≠ [] := List.ne_nil_of_mem hu
        obtain ⟨s, x, rfl⟩ := snoc_of hne
        rw [topI_snoc] at q
        rcases List.mem_append.1 hu with g | g
        · obtain ⟨i, hi, e⟩ := List.getElem_of_mem g
          have := ((h.me x).1 (.inr (by simp))).1
          refine hd ⟨i, s.length, hi, by simp, ?_⟩
          have e1 : (s ++ [x]).getD s.length 0 = x := by rw [List.getD_eq_getElem?_getD, List.getElem?_append_right (Nat.le_refl _)]; simp
          have e2 : (s ++ [x]).getD i 0 = u := by rw [List.getD_eq_getElem?_getD, List.getElem?_append_left hi, List.getElem?_eq_getElem hi]; exact e
          rw [e1, e2]; omega
        · simp at g; exact q g.symm
    have hnd : (st ++ [v]).Nodup := by
      rw [List.nodup_append]
      refine ⟨h.sd, by simp, fun a ha b hb e => ?_⟩
      simp at hb; subst hb; subst e
      exact h.ap _ List.mem_cons_self ha
    rw [srF, badS_cons]
    by_cases hv : ∃ u ∈ st, u < v
    · obtain ⟨u, hu, huv⟩ := hv
      have hu2 := hmin u hu
      have hu3 := hlo u (by simp [hu])
      have hx : nx ∈ p := by
        have hN := ((h.me u).1 (.inr hu)).2
        rcases (h.me nx).2 ⟨by omega, by omega⟩ with q | q
        · rcases List.mem_cons.1 q with q | q
          · omega
          · exact q
        · exact absurd rfl (hmin nx q)
      constructor
      · exact fun _ => .inl ⟨u, hu, huv, nx, hx, by omega⟩
      · intro _
        refine asc_fail h1 ?_
        have := asc_keep (st := st ++ [v]) (f := st.length + 1) (nx := nx) hlo hnd (by
          obtain ⟨i, hi, e⟩ := List.getElem_of_mem hu
          refine ⟨i, st.length, hi, by simp, ?_⟩
          rw [hlast, hst i hi, List.getD_eq_getElem?_getD, List.getElem?_eq_getElem hi]
          show st[i] < v
          rw [e]; exact huv)
        rw [List.length_append, List.length_singleton] at this
        exact this
    · have hd2 : ¬ ascS ((st ++ [v]).take (st.length + 1 - popN (st.length + 1) (st ++ [v]) nx)) := by
        rintro ⟨a, b, hab, hb, hlt⟩
        rw [List.length_take, List.length_append, List.length_singleton] at hb
        rw [take_getD' (by omega), take_getD' (by omega)] at hlt
        by_cases g : b < st.length
        · rw [hst a (by omega), hst b g] at hlt
          exact hd ⟨a, b, hab, g, hlt⟩
        · obtain rfl : b = st.length := by omega
          rw [hlast, hst a hab] at hlt
          exact hv ⟨_, getD_mem hab, hlt⟩
      rw [sr_bad h1 hd2]
      constructor
      · intro g
        exact .inr (badS_sub g fun u hu _ => List.mem_of_mem_take hu)
      · rintro (⟨u, hu, huv, _⟩ | g)
        · exact absurd ⟨u, hu, huv⟩ hv
        · refine badS_sub g fun u hu ⟨x, hx, hxu⟩ => ?_
          rcases (h2 u).1 hu with q | q
          · exact q
          · have := ((h1.me x).1 (.inl hx)).1
            omega
theorem sinv_0 {p : List Int} (h : permB p = true) : SInv p [] 1 p.length := by
  obtain ⟨h1, h2⟩ := permB_iff.1 h
  refine ⟨h2, List.nodup_nil, fun x _ h => (by cases h), fun x => ⟨fun g => ?_, fun g => .inl ?_⟩, .inl rfl⟩
  · rcases g with g | g
    · exact h1 x g
    · cases g
  · exact (perm_id h).symm.subset (idL_mem.2 g)
/-- A stack sorts a permutation unless 231 occurs. -/
theorem sr_231 {p : List Int} (h : permB p = true) : (srF p [] 1).2 ≠ [] ↔ hasB p [2, 3, 1] = true := by
  rw [sr_bad (sinv_0 h) (by rintro ⟨a, b, _, hb, _⟩; simp at hb), has231 h]
  constructor
  · rintro (⟨u, hu, _⟩ | h)
    · cases hu
    · exact h
  · exact .inr
/-! ### what is made by the moves that sort -/
theorem run_pops {r : List Int} (hr : permB r = true) : ∀ {f : Nat} {sg : List Int} {out : List Int} {nx : Int} {s : List UInt8} {most k : Int}, (∀ i ∈ sg, 1 ≤ i ∧ i ≤ r.length) → 1 ≤ nx → out = (inv r).take (nx - 1).toNat →
    runM (List.replicate (popN f (sg.map fun i => r.getD (i - 1).toNat 0) nx) 79 ++ s) out sg most k = runM s ((inv r).take (nx - 1 + popN f (sg.map fun i => r.getD (i - 1).toNat 0) nx).toNat) (sg.take (sg.length - popN f (sg.map fun i => r.getD (i - 1).toNat 0) nx)) most k
  | 0, sg, out, nx, s, most, k, _, _, ho => by
    rw [popN]
    simp only [List.replicate_zero, List.nil_append, Nat.sub_zero, List.take_length]
    rw [ho]; congr 3; omega
  | f + 1, sg, out, nx, s, most, k, hg, hn, ho => by
    rw [popN]
    by_cases q : (sg.map fun i => r.getD (i - 1).toNat 0) ≠ [] ∧ topI (sg.map fun i => r.getD (i - 1).toNat 0) = nx
    · have hne : sg ≠ [] := fun e => q.1 (by rw [e]; rfl)
      obtain ⟨g, x, rfl⟩ := snoc_of hne
      rw [if_pos q]
      have q2 := q.2
      rw [List.map_append, List.map_singleton, topI_snoc] at q2
      have e1 : ((g ++ [x]).map fun i => r.getD (i - 1).toNat 0).take (((g ++ [x]).map fun i => r.getD (i - 1).toNat 0).length - 1) = g.map fun i => r.getD (i - 1).toNat 0 := by
        rw [List.map_append, List.map_singleton, cutI_snoc]
      rw [e1, List.replicate_succ, List.cons_append, runM_O rfl (by simp)]
      have e2 := topI_snoc (st := g) (x := x)
      unfold topI at e2
      have hx := hg x (by simp)
      have hxl : (x - 1).toNat < r.length := by omega
      have e3 := invL_at hr (Nat.le_refl _) (x - 1).toNat hxl
      rw [q2] at e3
      have hnr := (permB_iff.1 hr).1 _ (getD_mem (d := 0) hxl)
      rw [q2] at hnr
      have hil : (inv r).length = r.length := inv_len
      have e4 : out ++ [x] = (inv r).take (nx + 1 - 1).toNat := by
        rw [ho, show (nx + 1 - 1).toNat = (nx - 1).toNat + 1 by omega, take_getD (d := 0) (by omega)]
        congr 2
        unfold inv
        rw [e3]; omega
      rw [e2, cutI_snoc, run_pops hr (f := f) (sg := g) (out := out ++ [x]) (nx := nx + 1) (fun i hi => hg i (by simp [hi])) (by omega) e4]
      have hpl : popN f (g.map fun i => r.getD (i - 1).toNat 0) (nx + 1) ≤ (g.map fun i => r.getD (i - 1).toNat 0).length := by
        have : ∀ (f : Nat) (s : List Int) (n : Int), popN f s n ≤ s.length := by
          intro f
          induction f with
          | zero => intro s n; exact Nat.zero_le _
          | succ f ih =>
            intro s n
            rw [popN]
            split
            · rename_i q
              have h1 := ih (s.take (s.length - 1)) (n + 1)
              rw [List.length_take] at h1
              have := List.length_pos_iff.2 q.1
              omega
            · omega
        exact this _ _ _
      rw [List.length_map] at hpl
      congr 1
      · congr 1; omega
      · rw [List.length_append, List.length_singleton, List.take_append_of_le_length (by omega)]; congr 1; omega
    · rw [if_neg q]
      simp only [List.replicate_zero, List.nil_append, Nat.sub_zero, List.take_length]
      rw [ho]; congr 3; omega
theorem sr_run {r : List Int} (hr : permB r = true) : ∀ {j : Nat} {sg out : List Int} {nx most : Int} {k : Nat}, k + j = r.length → (∀ i ∈ sg, 1 ≤ i ∧ i ≤ (k : Int)) → 1 ≤ nx → nx - 1 + sg.length = k → out = (inv r).take (nx - 1).toNat →
    ∃ (m : Int) (sg' : List Int) (nx' : Int), runM (srF (r.drop k) (sg.map fun i => r.getD (i - 1).toNat 0) nx).1 out sg most k = some ((inv r).take (nx' - 1).toNat, sg', m, (r.length : Int)) ∧ (srF (r.drop k) (sg.map fun i => r.getD (i - 1).toNat 0) nx).2 = (sg'.map fun i => r.getD (i - 1).toNat 0) ∧ nx' - 1 + sg'.length = r.length ∧ 1 ≤ nx'
  | 0, sg, out, nx, most, k, hk, hs, hn, hc, ho => by
    rw [List.drop_of_length_le (by omega), srF]
    refine ⟨most, sg, nx, ?_, rfl, by omega, hn⟩
    simp only [runM]
    rw [ho, show k = r.length by omega]
  | j + 1, sg, out, nx, most, k, hk, hs, hn, hc, ho => by
    have hkl : k < r.length := by omega
    rw [dropI_at hkl, srF]
    simp only []
    have e1 : (sg.map fun i => r.getD (i - 1).toNat 0) ++ [r.getD k 0] = (sg ++ [(k : Int) + 1]).map fun i => r.getD (i - 1).toNat 0 := by
      rw [List.map_append, List.map_singleton]; congr 3; omega
    rw [e1, List.length_map]
    obtain ⟨c, hcc⟩ : ∃ c, c = popN (sg.length + 1) ((sg ++ [(k : Int) + 1]).map fun i => r.getD (i - 1).toNat 0) nx := ⟨_, rfl⟩
    have hcl : c ≤ sg.length + 1 := by
      have := (popN_spec (f := sg.length + 1) (st := (sg ++ [(k : Int) + 1]).map fun i => r.getD (i - 1).toNat 0) (nx := nx) (by simp)).1
      rw [← hcc, List.length_map, List.length_append, List.length_singleton] at this; exact this
    have e2 : ((sg ++ [(k : Int) + 1]).map fun i => r.getD (i - 1).toNat 0).take (sg.length + 1 - c) = ((sg ++ [(k : Int) + 1]).take (sg.length + 1 - c)).map fun i => r.getD (i - 1).toNat 0 := List.map_take.symm
    rw [← hcc, e2]
    have hb : ∀ i ∈ sg ++ [(k : Int) + 1], 1 ≤ i ∧ i ≤ ((k + 1 : Nat) : Int) := fun i hi => by
      rcases List.mem_append.1 hi with q | q
      · have := hs i q; omega
      · simp at q; omega
    obtain ⟨m, sg', nx', g1, g2, g3, g4⟩ := sr_run hr (j := j) (sg := (sg ++ [(k : Int) + 1]).take (sg.length + 1 - c)) (out := (inv r).take (nx + c - 1).toNat) (nx := nx + c) (most := max most (sg.length + 1)) (k := k + 1) (by omega) (fun i hi => hb i (List.mem_of_mem_take hi)) (by omega) (by rw [List.length_take, List.length_append, List.length_singleton]; omega) rfl
    refine ⟨m, sg', nx', ?_, g2, g3, g4⟩
    rw [runM_I rfl]
    have hp := run_pops hr (f := sg.length + 1) (sg := sg ++ [(k : Int) + 1]) (out := out) (nx := nx) (s := (srF (r.drop (k + 1)) (((sg ++ [(k : Int) + 1]).take (sg.length + 1 - c)).map fun i => r.getD (i - 1).toNat 0) (nx + c)).1) (most := max most (sg.length + 1)) (k := ((k + 1 : Nat) : Int)) (fun i hi => by have := hb i hi; omega) hn ho
    rw [← hcc] at hp
    rw [show (k : Int) + 1 = ((k + 1 : Nat) : Int) by omega] at hp ⊢
    rw [hp, List.length_append, List.length_singleton, show nx - 1 + (c : Int) = nx + c - 1 by omega]
    exact g1
theorem sr_len : ∀ {p st : List Int} {nx : Int}, (srF p st nx).1.length ≤ 2 * p.length + st.length
  | [], st, nx => by simp [srF]
  | v :: p, st, nx => by
    rw [srF]
    simp only []
    have h1 := (popN_spec (f := st.length + 1) (st := st ++ [v]) (nx := nx) (by simp)).1
    have h2 := sr_len (p := p) (st := (st ++ [v]).take (st.length + 1 - popN (st.length + 1) (st ++ [v]) nx)) (nx := nx + popN (st.length + 1) (st ++ [v]) nx)
    rw [List.length_take, List.length_append, List.length_singleton] at h2
    rw [List.length_append, List.length_singleton] at h1
    rw [List.length_cons, List.length_append, List.length_replicate, List.length_cons]
    omega
/-- The moves that sort make the inverse. -/
theorem sr_out {p : List Int} (h : isPermB p = true) (e : (srF p [] 1).2 = []) : runOk (srF p [] 1).1 = true ∧ runOut (srF p [] 1).1 = inv p := by
  obtain ⟨h8, hp⟩ : p.length ≤ 8 ∧ permB p = true := by simpa [isPermB] using h
  obtain ⟨m, sg', nx', g1, g2, g3, g4⟩ := sr_run hp (j := p.length) (k := 0) (sg := []) (out := []) (nx := 1) (most := 0) (by omega) (fun i hi => by cases hi) (by omega) (by simp) (by simp)
  rw [List.drop_zero, List.map_nil] at g1 g2
  rw [e] at g2
  have : sg' = [] := List.map_eq_nil_iff.1 g2.symm
  subst this
  have g1' : runM (srF p [] 1).1 [] [] 0 0 = some ((inv p).take (nx' - 1).toNat, [], m, (p.length : Int)) := g1
  rw [List.length_nil] at g3
  unfold runOk runOut
  rw [g1', List.take_of_length_le (by rw [inv_len]; omega)]
  exact ⟨by simp; omega, rfl⟩
end Go.Gl
