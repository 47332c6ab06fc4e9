/-
  Moves of a stack: which permutations they make, which they sort. Conditions: none.
-/
import Derived.Test.YtnoedblfedppkaaMoves
import Derived.Test.YtnoedblfedppkaaHas
import Derived.Test.YtnoedblfedppkaaCodM
set_option linter.unusedSimpArgs false
set_option linter.unusedVariables false
set_option maxRecDepth 20000
set_option linter.unusedSectionVars false
namespace Go.Gl
open Go Go.Proofs
variable [Amb]
/-- The next numbers behind a. -/
def upR (a k : Nat) : List Int := (List.range k).map fun i : Nat => ((a + i : Nat) : Int) + 1
theorem upR_succ {a k : Nat} : upR a (k + 1) = upR a k ++ [((a + k : Nat) : Int) + 1] := by simp [upR, List.range_succ]
theorem upR_cons {a k : Nat} : upR a (k + 1) = ((a : Int) + 1) :: upR (a + 1) k := by
  unfold upR
  rw [List.range_succ_eq_map, List.map_cons, List.map_map]
  simp only [Nat.add_zero]
  congr 1
  refine List.map_congr_left fun i _ => ?_
  simp only [Function.comp]
  congr 2; omega
theorem upR_mem {a k : Nat} {x : Int} : x ∈ upR a k ↔ (a : Int) < x ∧ x ≤ (a + k : Nat) := by
  unfold upR
  simp only [List.mem_map, List.mem_range]
  constructor
  · rintro ⟨i, h, rfl⟩; omega
  · intro h; exact ⟨(x - 1 - a).toNat, by omega, by omega⟩
theorem upR_si {a k : Nat} : SI (upR a k) := by
  unfold SI upR
  rw [List.pairwise_map]
  exact List.Pairwise.imp (fun h => by omega) List.pairwise_lt_range
def topI (st : List Int) : Int := st.getD (st.length - 1) 0
theorem topI_snoc {st : List Int} {x : Int} : topI (st ++ [x]) = x := by
  unfold topI
  rw [List.getD_eq_getElem?_getD, List.getElem?_append_right (by simp)]; simp
theorem cutI_snoc {st : List Int} {x : Int} : (st ++ [x]).take ((st ++ [x]).length - 1) = st := by
  rw [List.length_append, List.length_singleton, Nat.add_sub_cancel, List.take_left']; rfl
theorem snoc_of {st : List Int} (h : st ≠ []) : ∃ s x, st = s ++ [x] := ⟨st.dropLast, st.getLast h, (List.dropLast_concat_getLast h).symm⟩
theorem mem_gd {l : List Int} {x : Int} (h : x ∈ l) : ∃ i, i < l.length ∧ l.getD i 0 = x := by
  obtain ⟨i, hi, e⟩ := List.getElem_of_mem h
  exact ⟨i, hi, by rw [List.getD_eq_getElem?_getD, List.getElem?_eq_getElem hi]; exact e⟩
/-- The moves that make a permutation, from a state on. -/
def mvF : List Int → List Int → Nat → Option (List UInt8)
  | [], _, _ => some []
  | v :: p, st, k =>
    let d := v.toNat - k
    let st' := st ++ upR k d
    if topI st' = v ∧ st' ≠ [] then (mvF p (st'.take (st'.length - 1)) (k + d)).map fun t => List.replicate d 73 ++ 79 :: t else none
/-- What is on the stack: of those to come, the ones that were there. -/
structure MInv (p st : List Int) (k N : Nat) : Prop where
  nd : p.Nodup
  rg : ∀ x ∈ p, 1 ≤ x ∧ x ≤ N
  si : SI st
  me : ∀ x, x ∈ st ↔ x ∈ p ∧ x ≤ k
  hi : ∀ x : Int, (k : Int) < x → x ≤ N → x ∈ p
def badM : List Int → Int → Prop
  | [], _ => False
  | v :: p, k => (∃ x ∈ p, v < x ∧ x ≤ k) ∨ badM p (max k v)
theorem si_app {a b : List Int} : SI (a ++ b) ↔ SI a ∧ SI b ∧ ∀ x ∈ a, ∀ y ∈ b, x < y := List.pairwise_append
theorem minv_push {v : Int} {p st : List Int} {k N : Nat} (h : MInv (v :: p) st k N) :
    SI (st ++ upR k (v.toNat - k)) ∧ (∀ x, x ∈ st ++ upR k (v.toNat - k) ↔ x ∈ v :: p ∧ x ≤ (k + (v.toNat - k) : Nat)) := by
  have hv := h.rg v List.mem_cons_self
  constructor
  · rw [si_app]
    refine ⟨h.si, upR_si, fun x hx y hy => ?_⟩
    have := ((h.me x).1 hx).2; have := (upR_mem.1 hy).1; omega
  · intro x
    rw [List.mem_append, h.me, upR_mem]
    constructor
    · rintro (⟨a, b⟩ | ⟨a, b⟩)
      · exact ⟨a, by omega⟩
      · exact ⟨h.hi x a (by omega), b⟩
    · rintro ⟨a, b⟩
      by_cases e : x ≤ k
      · exact .inl ⟨a, e⟩
      · exact .inr ⟨by omega, b⟩
theorem top_max {l : List Int} (hs : SI l) (h : l ≠ []) : topI l ∈ l ∧ ∀ x ∈ l, x ≤ topI l := by
  obtain ⟨s, x, rfl⟩ := snoc_of h
  rw [topI_snoc]
  refine ⟨by simp, fun y hy => ?_⟩
  rcases List.mem_append.1 hy with hy | hy
  · have := (si_app.1 hs).2.2 y hy x (by simp); omega
  · simp at hy; omega
theorem minv_pop {v : Int} {p st : List Int} {k N : Nat} (h : MInv (v :: p) st k N) {s : List Int} (e : st ++ upR k (v.toNat - k) = s ++ [v]) : MInv p s (k + (v.toNat - k)) N := by
  obtain ⟨h1, h2⟩ := minv_push h
  rw [e] at h1 h2
  obtain ⟨g1, g2⟩ := List.nodup_cons.1 h.nd
  refine ⟨g2, fun x hx => h.rg x (List.mem_cons_of_mem _ hx), (si_app.1 h1).1, fun x => ?_, fun x a b => ?_⟩
  · constructor
    · intro hx
      have := (si_app.1 h1).2.2 x hx v (by simp)
      obtain ⟨q1, q2⟩ := (h2 x).1 (by simp [hx])
      rcases List.mem_cons.1 q1 with q | q
      · omega
      · exact ⟨q, q2⟩
    · rintro ⟨a, b⟩
      have := (h2 x).2 ⟨List.mem_cons_of_mem _ a, b⟩
      rcases List.mem_append.1 this with q | q
      · exact q
      · simp at q; subst q; exact absurd a g1
  · rcases List.mem_cons.1 (h.hi x (by omega) b) with q | q
    · subst q; omega
    · exact q
theorem mv_bad : ∀ {p st : List Int} {k N : Nat}, MInv p st k N → (mvF p st k = none ↔ badM p k)
  | [], _, _, _, _ => by simp [mvF, badM]
  | v :: p, st, k, N, h => by
    obtain ⟨h1, h2⟩ := minv_push h
    have hv := h.rg v List.mem_cons_self
    have hm : v ∈ st ++ upR k (v.toNat - k) := (h2 v).2 ⟨List.mem_cons_self, by omega⟩
    have hne : st ++ upR k (v.toNat - k) ≠ [] := List.ne_nil_of_mem hm
    obtain ⟨t1, t2⟩ := top_max h1 hne
    rw [mvF, badM]
    by_cases e : topI (st ++ upR k (v.toNat - k)) = v
    · obtain ⟨s, x, hs⟩ := snoc_of hne
      rw [hs, topI_snoc] at e
      subst e
      rw [if_pos ⟨by rw [hs, topI_snoc], hne⟩, Option.map_eq_none_iff, hs, cutI_snoc]
      have ih := mv_bad (minv_pop h hs)
      rw [ih]
      have e1 : ((k + (x.toNat - k) : Nat) : Int) = max (k : Int) x := by omega
      rw [e1]
      constructor
      · exact .inr
      · rintro (⟨y, hy, a, b⟩ | q)
        · have := t2 y ((h2 y).2 ⟨List.mem_cons_of_mem _ hy, by omega⟩)
          rw [hs, topI_snoc] at this; omega
        · exact q
    · rw [if_neg fun q => e q.1]
      simp only [true_iff]
      left
      obtain ⟨q1, q2⟩ := (h2 _).1 t1
      have q3 := t2 v hm
      have q4 : v < topI (st ++ upR k (v.toNat - k)) := by omega
      rcases List.mem_cons.1 q1 with q | q
      · exact absurd q e
      · exact ⟨_, q, q4, by omega⟩
theorem minv_0 {p : List Int} (h : permB p = true) : MInv p [] 0 p.length := by
  obtain ⟨h1, h2⟩ := permB_iff.1 h
  refine ⟨h2, h1, List.Pairwise.nil, fun x => ⟨fun h => (by cases h), fun ⟨a, b⟩ => ?_⟩, fun x a b => ?_⟩
  · have := h1 x a; omega
  · exact (perm_id h).symm.subset (idL_mem.2 ⟨by omega, b⟩)
/-! ### the pattern 312 -/
def p312 (p : List Int) : Prop := ∃ i j l : Nat, i < j ∧ j < l ∧ l < p.length ∧ p.getD j 0 < p.getD l 0 ∧ p.getD l 0 < p.getD i 0
def p231 (p : List Int) : Prop := ∃ i j l : Nat, i < j ∧ j < l ∧ l < p.length ∧ p.getD l 0 < p.getD i 0 ∧ p.getD i 0 < p.getD j 0
theorem bad_iff : ∀ {p : List Int} {k : Int}, badM p k ↔ (∃ j l : Nat, j < l ∧ l < p.length ∧ p.getD j 0 < p.getD l 0 ∧ p.getD l 0 ≤ k) ∨ ∃ i j l : Nat, i < j ∧ j < l ∧ l < p.length ∧ p.getD j 0 < p.getD l 0 ∧ p.getD l 0 ≤ p.getD i 0
  | [], k => by simp [badM]
  | v :: p, k => by
    rw [badM, bad_iff]
    constructor
    · rintro (⟨x, hx, a, b⟩ | ⟨j, l, h1, h2, h3, h4⟩ | ⟨i, j, l, h1, h2, h3, h4, h5⟩)
      · obtain ⟨i, hi, rfl⟩ := mem_gd hx
        exact .inl ⟨0, i + 1, by omega, by simp; omega, a, b⟩
      · by_cases q : p.getD l 0 ≤ k
        · exact .inl ⟨j + 1, l + 1, by omega, by simp; omega, by simpa using h3, by simpa using q⟩
        · exact .inr ⟨0, j + 1, l + 1, by omega, by omega, by simp; omega, by simpa using h3, by simp only [List.getD_cons_zero, List.getD_cons_succ]; omega⟩
      · exact .inr ⟨i + 1, j + 1, l + 1, by omega, by omega, by simp; omega, by simpa using h4, by simpa using h5⟩
    · rintro (⟨j, l, h1, h2, h3, h4⟩ | ⟨i, j, l, h1, h2, h3, h4, h5⟩)
      · obtain ⟨l, rfl⟩ : ∃ m, l = m + 1 := ⟨l - 1, by omega⟩
        rw [List.length_cons] at h2
        rw [List.getD_cons_succ] at h3 h4
        cases j with
        | zero => exact .inl ⟨_, getD_mem (by omega), h3, h4⟩
        | succ j => exact .inr (.inl ⟨j, l, by omega, by omega, h3, by omega⟩)
      · obtain ⟨l, rfl⟩ : ∃ m, l = m + 1 := ⟨l - 1, by omega⟩
        obtain ⟨j, rfl⟩ : ∃ m, j = m + 1 := ⟨j - 1, by omega⟩
        rw [List.length_cons] at h3
        rw [List.getD_cons_succ] at h4 h5
        rw [List.getD_cons_succ] at h4
        cases i with
        | zero => rw [List.getD_cons_zero] at h5; exact .inr (.inl ⟨j, l, by omega, by omega, h4, by omega⟩)
        | succ i => exact .inr (.inr ⟨i, j, l, by omega, by omega, by omega, h4, h5⟩)
theorem occ_ex {b : Int} {p q : List Int} {d : Nat} {c : List Int} : occ b p q (d + 1) c ≠ [] ↔ ∃ j : Nat, (j : Int) < (p.length : Int) + b - fromI b c ∧ fitB b p q c (fromI b c + j) = true ∧ occ b p q d (c ++ [fromI b c + j]) ≠ [] := by
  rw [occ, Ne, List.flatMap_eq_nil_iff]
  constructor
  · intro h
    refine Classical.byContradiction fun hn => h fun j hj => ?_
    rw [List.mem_range] at hj
    split
    · rename_i hf
      refine Classical.byContradiction fun ho => hn ⟨j, by omega, hf, ho⟩
    · rfl
  · rintro ⟨j, h1, h2, h3⟩ h
    have := h j (List.mem_range.2 (by omega))
    rw [if_pos h2] at this
    exact h3 this
theorem has_ne {p q : List Int} : hasB p q = true ↔ occ 0 p q q.length [] ≠ [] := by
  unfold hasB
  cases occ 0 p q q.length [] <;> simp
theorem has3 {p : List Int} {a b c : Int} : hasB p [a, b, c] = true ↔ ∃ i j l : Nat, i < j ∧ j < l ∧ l < p.length ∧ (a < b ↔ p.getD i 0 < p.getD j 0) ∧ (a < c ↔ p.getD i 0 < p.getD l 0) ∧ (b < c ↔ p.getD j 0 < p.getD l 0) := by
  rw [has_ne]
  simp only [List.length_cons, List.length_nil]
  rw [occ_ex]
  constructor
  · rintro ⟨i, h1, _, h2⟩
    rw [occ_ex] at h2
    obtain ⟨j, h3, h4, h5⟩ := h2
    rw [occ_ex] at h5
    obtain ⟨l, h6, h7, _⟩ := h5
    simp [fromI, fitB, fitK, List.range_succ] at h1 h3 h4 h6 h7
    refine ⟨i, i + 1 + j, i + 1 + j + 1 + l, by omega, by omega, by omega, ?_⟩
    have e1 : ((i : Int) + 1 + j).toNat = i + 1 + j := by omega
    have e2 : ((i : Int) + 1 + j + 1 + l).toNat = i + 1 + j + 1 + l := by omega
    rw [e1] at h4
    rw [e1, e2] at h7
    simp only [List.getD_eq_getElem?_getD]
    exact ⟨h4, h7.1, h7.2⟩
  · rintro ⟨i, j, l, h1, h2, h3, h4, h5, h6⟩
    refine ⟨i, by simp [fromI]; omega, by simp [fitB, fitK], ?_⟩
    rw [occ_ex]
    refine ⟨j - i - 1, by simp [fromI]; omega, ?_, ?_⟩
    · have e1 : (((0 : Int) + i + 1 + ((j - i - 1 : Nat) : Int))).toNat = j := by omega
      simp [fromI, fitB, fitK, List.range_succ] at e1 ⊢
      rw [show ((i : Int) + 1 + ((j - i - 1 : Nat) : Int)).toNat = j by omega]
      simpa [List.getD_eq_getElem?_getD] using h4
    · rw [occ_ex]
      refine ⟨l - j - 1, by simp [fromI]; omega, ?_, by simp [occ]⟩
      simp [fromI, fitB, fitK, List.range_succ]
      rw [show ((i : Int) + 1 + ((j - i - 1 : Nat) : Int)).toNat = j by omega, show ((i : Int) + 1 + ((j - i - 1 : Nat) : Int) + 1 + ((l - j - 1 : Nat) : Int)).toNat = l by omega]
      simpa [List.getD_eq_getElem?_getD] using And.intro h5 h6
theorem perm_ne {p : List Int} (h : permB p = true) {i j : Nat} (hi : i < p.length) (hj : j < p.length) (e : i ≠ j) : p.getD i 0 ≠ p.getD j 0 := fun q => e (perm_inj h hi hj q)
theorem has312 {p : List Int} (h : permB p = true) : hasB p [3, 1, 2] = true ↔ p312 p := by
  rw [has3]
  refine exists_congr fun i => exists_congr fun j => exists_congr fun l => ?_
  constructor
  · rintro ⟨h1, h2, h3, h4, h5, h6⟩
    have := perm_ne h (i := i) (j := l) (by omega) h3 (by omega)
    exact ⟨h1, h2, h3, by omega, by omega⟩
  · rintro ⟨h1, h2, h3, h4, h5⟩
    refine ⟨h1, h2, h3, ?_, ?_, ?_⟩ <;> omega
theorem has231 {p : List Int} (h : permB p = true) : hasB p [2, 3, 1] = true ↔ p231 p := by
  rw [has3]
  refine exists_congr fun i => exists_congr fun j => exists_congr fun l => ?_
  constructor
  · rintro ⟨h1, h2, h3, h4, h5, h6⟩
    have := perm_ne h (i := i) (j := l) (by omega) h3 (by omega)
    have := perm_ne h (i := j) (j := l) (by omega) h3 (by omega)
    exact ⟨h1, h2, h3, by omega, by omega⟩
  · rintro ⟨h1, h2, h3, h4, h5⟩
    refine ⟨h1, h2, h3, ?_, ?_, ?_⟩ <;> omega
/-- A stack makes a permutation unless 312 occurs. -/
theorem mv_312 {p : List Int} (h : permB p = true) : mvF p [] 0 = none ↔ hasB p [3, 1, 2] = true := by
  rw [mv_bad (minv_0 h), has312 h, bad_iff]
  constructor
  · rintro (⟨j, l, h1, h2, h3, h4⟩ | ⟨i, j, l, h1, h2, h3, h4, h5⟩)
    · have := (permB_iff.1 h).1 _ (getD_mem (d := 0) h2); omega
    · have := perm_ne h (i := i) (j := l) (by omega) h3 (by omega)
      exact ⟨i, j, l, h1, h2, h3, h4, by omega⟩
  · rintro ⟨i, j, l, h1, h2, h3, h4, h5⟩
    exact .inr ⟨i, j, l, h1, h2, h3, h4, by omega⟩
/-! ### what the moves make -/
theorem run_push {out : List Int} : ∀ {d : Nat} {s : List UInt8} {st : List Int} {most : Int} {k : Nat}, ∃ m, runM (List.replicate d 73 ++ s) out st most k = runM s out (st ++ upR k d) m ((k + d : Nat) : Int)
  | 0, s, st, most, k => ⟨most, by simp [upR]⟩
  | d + 1, s, st, most, k => by
    obtain ⟨m, hm⟩ := run_push (out := out) (d := d) (s := s) (st := st ++ [(k : Int) + 1]) (most := max most (st.length + 1)) (k := k + 1)
    refine ⟨m, ?_⟩
    rw [List.replicate_succ, List.cons_append, runM_I rfl, show (k : Int) + 1 = ((k + 1 : Nat) : Int) by omega, show [((k + 1 : Nat) : Int)] = [(k : Int) + 1] by simp, hm, upR_cons, show k + 1 + d = k + (d + 1) by omega]
    simp
theorem mv_run : ∀ {p st : List Int} {k N : Nat} {t : List UInt8}, MInv p st k N → mvF p st k = some t → ∀ out most, ∃ m k' : Nat, ∃ m' : Int, runM t out st most k = some (out ++ p, [], m', (k' : Int)) ∧ (k ≤ k' ∧ k' ≤ max k N) ∧ t.length ≤ (k' - k) + p.length
  | [], st, k, N, t, h, e, out, most => by
    rw [mvF] at e; cases e
    have : st = [] := List.eq_nil_iff_forall_not_mem.2 fun x hx => by cases ((h.me x).1 hx).1
    subst this
    exact ⟨0, k, most, by simp [runM], ⟨by omega, by omega⟩, by simp⟩
  | v :: p, st, k, N, t, h, e, out, most => by
    have hv := h.rg v List.mem_cons_self
    rw [mvF] at e
    by_cases q : topI (st ++ upR k (v.toNat - k)) = v ∧ st ++ upR k (v.toNat - k) ≠ []
    · rw [if_pos q, Option.map_eq_some_iff] at e
      obtain ⟨t', e1, rfl⟩ := e
      obtain ⟨s, x, hs⟩ := snoc_of q.2
      have q1 := q.1
      rw [hs, topI_snoc] at q1
      subst q1
      rw [hs, cutI_snoc] at e1
      obtain ⟨m1, hm1⟩ := run_push (out := out) (d := x.toNat - k) (s := 79 :: t') (st := st) (most := most) (k := k)
      obtain ⟨m, k', m', g1, g2, g3⟩ := mv_run (minv_pop h hs) e1 (out ++ [x]) m1
      refine ⟨m, k', m', ?_, ⟨by omega, by omega⟩, ?_⟩
      · rw [hm1, hs, runM_O rfl (by simp)]
        have e2 := topI_snoc (st := s) (x := x)
        unfold topI at e2
        rw [e2, cutI_snoc, g1]; simp
      · rw [List.length_append, List.length_replicate, List.length_cons, List.length_cons]
        omega
    · rw [if_neg q] at e; cases e
theorem mv_len {p : List Int} {t : List UInt8} (h : permB p = true) (e : mvF p [] 0 = some t) : t.length ≤ 2 * p.length := by
  obtain ⟨_, k', _, _, h2, h3⟩ := mv_run (minv_0 h) e [] 0
  omega
/-- The moves that make a permutation do so. -/
theorem mv_out {p : List Int} {t : List UInt8} (h : isPermB p = true) (e : mvF p [] 0 = some t) : runOk t = true ∧ runOut t = p := by
  obtain ⟨h8, hp⟩ : p.length ≤ 8 ∧ permB p = true := by simpa [isPermB] using h
  obtain ⟨_, k', m', h1, h2, _⟩ := mv_run (minv_0 hp) e [] 0
  rw [List.nil_append] at h1
  have h1' : runM t [] [] 0 0 = some (p, [], m', (k' : Int)) := h1
  unfold runOk runOut
  rw [h1']
  exact ⟨by simp; omega, rfl⟩
/-! ### back from what was made -/
theorem run_perm : ∀ {t : List UInt8} {out st : List Int} {most : Int} {k : Nat} {o s : List Int} {m n : Int}, runM t out st most k = some (o, s, m, n) → (out ++ st).Perm (idL k) → ∃ k' : Nat, n = k' ∧ (o ++ s).Perm (idL k') ∧ ∃ r, o = out ++ r
  | [], out, st, most, k, o, s, m, n, h, hp => by
    simp only [runM, Option.some.injEq, Prod.mk.injEq] at h
    obtain ⟨rfl, rfl, rfl, rfl⟩ := h
    exact ⟨k, rfl, hp, [], by simp⟩
  | c :: t, out, st, most, k, o, s, m, n, h, hp => by
    by_cases h1 : c.toNat = 73
    · rw [runM_I h1] at h
      have := run_perm (k := k + 1) h (by rw [idL_succ, ← List.append_assoc]; exact List.Perm.append_right _ hp)
      exact this
    · by_cases h2 : c.toNat = 79 ∧ 0 < st.length
      · rw [runM_O h2.1 h2.2] at h
        obtain ⟨s', x, rfl⟩ := snoc_of (List.length_pos_iff.1 h2.2)
        have e2 := topI_snoc (st := s') (x := x)
        unfold topI at e2
        rw [e2, cutI_snoc] at h
        obtain ⟨k', g1, g2, r, g3⟩ := run_perm (k := k) h (by
          refine List.Perm.trans ?_ hp
          rw [List.append_assoc]
          exact List.Perm.append_left _ List.perm_append_comm)
        exact ⟨k', g1, g2, [x] ++ r, by rw [g3, List.append_assoc]⟩
      · rw [runM_X h1 h2] at h; cases h
theorem run_mv : ∀ {t : List UInt8} {out st p : List Int} {most : Int} {k : Nat} {m n : Int}, (∀ x ∈ st, 1 ≤ x ∧ x ≤ (k : Int)) → runM t out st most k = some (out ++ p, [], m, n) → mvF p st k = some t
  | [], out, st, p, most, k, m, n, hb, h => by
    simp only [runM, Option.some.injEq, Prod.mk.injEq] at h
    obtain ⟨h1, rfl, _⟩ := h
    have : p = [] := by
      have := congrArg List.length h1
      rw [List.length_append] at this
      exact List.eq_nil_of_length_eq_zero (by omega)
    subst this; rfl
  | c :: t, out, st, p, most, k, m, n, hb, h => by
    by_cases h1 : c.toNat = 73
    · have hc : c = 73 := UInt8.toNat_inj.1 h1
      rw [runM_I h1] at h
      have h' : runM t out (st ++ [(k : Int) + 1]) (max most (st.length + 1)) ((k + 1 : Nat) : Int) = some (out ++ p, [], m, n) := h
      have ih := run_mv (k := k + 1) (fun x hx => by
        rcases List.mem_append.1 hx with q | q
        · have := hb x q; omega
        · simp at q; omega) h'
      cases p with
      | nil =>
        exfalso
        rw [mvF] at ih
        cases ih
        simp [runM] at h'
      | cons v p =>
        rw [mvF] at ih ⊢
        by_cases q : topI (st ++ [(k : Int) + 1] ++ upR (k + 1) (v.toNat - (k + 1))) = v ∧ st ++ [(k : Int) + 1] ++ upR (k + 1) (v.toNat - (k + 1)) ≠ []
        · rw [if_pos q, Option.map_eq_some_iff] at ih
          obtain ⟨t', e1, rfl⟩ := ih
          have hk : k + 1 ≤ v.toNat := by
            by_cases g : k + 1 ≤ v.toNat
            · exact g
            · have q1 := q.1
              rw [show v.toNat - (k + 1) = 0 by omega] at q1
              simp only [upR, List.range_zero, List.map_nil, List.append_nil] at q1
              rw [topI_snoc] at q1; omega
          obtain ⟨d, hd⟩ : ∃ d, v.toNat = k + 1 + d := ⟨v.toNat - (k + 1), by omega⟩
          rw [hd, Nat.add_sub_cancel_left] at q e1
          have e0 : k + 1 + d - k = d + 1 := by omega
          rw [hd, e0, upR_cons]
          rw [List.append_assoc, List.singleton_append] at q e1
          rw [if_pos q, show k + (d + 1) = k + 1 + d by omega, e1, hc, Nat.add_sub_cancel_left]
          simp [List.replicate_succ]
        · rw [if_neg q] at ih; cases ih
    · by_cases h2 : c.toNat = 79 ∧ 0 < st.length
      · have hc : c = 79 := UInt8.toNat_inj.1 h2.1
        rw [runM_O h2.1 h2.2] at h
        obtain ⟨s', x, rfl⟩ := snoc_of (List.length_pos_iff.1 h2.2)
        have e2 := topI_snoc (st := s') (x := x)
        unfold topI at e2
        rw [e2, cutI_snoc] at h
        have hx := hb x (by simp)
        have hr : ∃ r, p = x :: r := by
          have : ∀ {t : List UInt8} {out st : List Int} {most k : Int} {o s : List Int} {m n : Int}, runM t out st most k = some (o, s, m, n) → ∃ r, o = out ++ r := by
            intro t
            induction t with
            | nil => intro out st most k o s m n h; simp only [runM, Option.some.injEq, Prod.mk.injEq] at h; exact ⟨[], by simp [h.1]⟩
            | cons c t ih =>
              intro out st most k o s m n h
              by_cases g1 : c.toNat = 73
              · rw [runM_I g1] at h; exact ih h
              · by_cases g2 : c.toNat = 79 ∧ 0 < st.length
                · rw [runM_O g2.1 g2.2] at h
                  obtain ⟨r, hr⟩ := ih h
                  exact ⟨_, by rw [hr, List.append_assoc]⟩
                · rw [runM_X g1 g2] at h; cases h
          obtain ⟨r, hr⟩ := this h
          rw [List.append_assoc] at hr
          exact ⟨r, List.append_cancel_left hr⟩
        obtain ⟨r, rfl⟩ := hr
        have ih := run_mv (k := k) (out := out ++ [x]) (p := r) (st := s') (fun y hy => hb y (by simp [hy])) (most := most) (m := m) (n := n) (by rw [h]; simp)
        rw [mvF, show x.toNat - k = 0 by omega]
        simp only [upR, List.range_zero, List.map_nil, List.append_nil, Nat.add_zero]
        rw [if_pos ⟨topI_snoc, by simp⟩, cutI_snoc, ih, hc]; rfl
      · rw [runM_X h1 h2] at h; cases h
theorem run_ok {t : List UInt8} (h : runOk t = true) : ∃ m n, runM t [] [] 0 0 = some (runOut t, [], m, n) ∧ n ≤ 8 := by
  unfold runOk at h; unfold runOut
  split at h
  · rename_i o s m n e
    rw [e]
    simp at h
    obtain ⟨rfl, h2⟩ := h
    exact ⟨m, n, rfl, h2⟩
  · cases h
/-- What is made is a permutation, and these are its moves. -/
theorem run_back {t : List UInt8} (h : runOk t = true) : isPermB (runOut t) = true ∧ mvF (runOut t) [] 0 = some t := by
  obtain ⟨m, n, e, hn⟩ := run_ok h
  have e' : runM t [] [] 0 ((0 : Nat) : Int) = some (runOut t, [], m, n) := e
  obtain ⟨k, rfl, hp, _⟩ := run_perm e' (List.Perm.refl _)
  rw [List.append_nil] at hp
  obtain ⟨h1, h2⟩ := id_permB hp
  refine ⟨by simp only [isPermB, h1, Bool.and_true, decide_eq_true_eq]; omega, run_mv (k := 0) (fun x hx => by cases hx) (by rw [List.nil_append]; exact e')⟩
end Go.Gl
