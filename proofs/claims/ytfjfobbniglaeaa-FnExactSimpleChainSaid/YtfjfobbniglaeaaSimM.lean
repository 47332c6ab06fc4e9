/-
 Every simple permutation of four to eight numbers has a simple one just below, or is one of ten that are known. Conditions: none.
-/
import Derived.Test.YtfjfobbniglaeaaExc
set_option linter.unusedSimpArgs false
set_option linter.unusedVariables false
set_option maxRecDepth 20000
set_option linter.unusedSectionVars false
namespace Go.Gl
open Go Go.Proofs
variable [Amb] [NoQ]
def mxN (a b : Nat) : Nat := bif Nat.ble a b then b else a
def mnN (a b : Nat) : Nat := bif Nat.ble a b then a else b
def bdH (n lo hi c : Nat) : List Nat → Bool
 | [] => false
 | x :: l => (Nat.beq (mxN hi x) (mnN lo x + c) && Nat.ble (c + 2) n) || bdH n (mnN lo x) (mxN hi x) (c + 1) l
def smN (n : Nat) : List Nat → Bool
 | [] => true
 | v :: l => !(bdH n v v 1 l) && smN n l
def elN (x : Nat) : List Nat → Bool
 | [] => false
 | y :: l => Nat.beq x y || elN x l
def cntN (x : Nat) : List Nat → Nat
 | [] => 1
 | y :: l => bif Nat.ble x y then cntN x l else cntN x l + 1
def ptN (l : List Nat) : List Nat := l.map fun x => cntN x l
def alN : Nat → (Nat → Bool) → Bool
 | 0, _ => true
 | k + 1, f => f (k + 1) && alN k f
def dlN (m : Nat) : List Nat → List Nat → Bool
 | _, [] => false
 | u, v :: l => smN m (ptN (u ++ l)) || dlN m (u ++ [v]) l
def eqN : List Nat → List Nat → Bool
 | [], [] => true
 | x :: a, y :: b => Nat.beq x y && eqN a b
 | _, _ => false
def exN : Nat → List (List Nat)
 | 4 => [[2,4,1,3],[3,1,4,2]]
 | 6 => [[2,4,6,1,3,5],[5,3,1,6,4,2],[4,1,5,2,6,3],[3,6,2,5,1,4]]
 | 8 => [[2,4,6,8,1,3,5,7],[7,5,3,1,8,6,4,2],[5,1,6,2,7,3,8,4],[4,8,3,7,2,6,1,5]]
 | _ => []
def lfN (n : Nat) (l : List Nat) : Bool := (exN n).any (eqN l) || dlN (n - 1) [] l
def srN (n : Nat) : Nat → List Nat → Bool
 | 0, l => lfN n l
 | d + 1, l => alN n fun v => elN v l || bdH n v v 1 l || srN n d (v :: l)
theorem sr_4 : srN 4 4 [] = true := by decide +kernel
theorem sr_5 : srN 5 5 [] = true := by decide +kernel
theorem sr_6 : srN 6 6 [] = true := by decide +kernel
theorem sr_7 : srN 7 7 [] = true := by decide +kernel
theorem sr_8 : srN 8 8 [] = true := by decide +kernel
theorem mx_eq {a b : Nat} : mxN a b = max a b := by
 unfold mxN
 cases h : Nat.ble a b with
 | true => have := Nat.le_of_ble_eq_true h; simp only [cond_true]; omega
 | false =>
  have : ¬ a ≤ b := fun g => by rw [Nat.ble_eq_true_of_le g] at h; cases h
  simp only [cond_false]; omega
theorem mn_eq {a b : Nat} : mnN a b = min a b := by
 unfold mnN
 cases h : Nat.ble a b with
 | true => have := Nat.le_of_ble_eq_true h; simp only [cond_true]; omega
 | false =>
  have : ¬ a ≤ b := fun g => by rw [Nat.ble_eq_true_of_le g] at h; cases h
  simp only [cond_false]; omega
theorem beq_iff {a b : Nat} : Nat.beq a b = true ↔ a = b := ⟨Nat.eq_of_beq_eq_true, fun h => by subst h; exact Nat.beq_refl a⟩
theorem ble_iff {a b : Nat} : Nat.ble a b = true ↔ a ≤ b := ⟨Nat.le_of_ble_eq_true, Nat.ble_eq_true_of_le⟩
theorem el_iff {x : Nat} : ∀ {l : List Nat}, elN x l = true ↔ x ∈ l
 | [] => by simp [elN]
 | y :: l => by rw [elN, Bool.or_eq_true, beq_iff, el_iff, List.mem_cons]
theorem al_spec {f : Nat → Bool} : ∀ {k : Nat}, alN k f = true → ∀ v, 1 ≤ v → v ≤ k → f v = true
 | 0, _, v, h1, h2 => by omega
 | k + 1, h, v, h1, h2 => by
  rw [alN, Bool.and_eq_true] at h
  by_cases e : v = k + 1
  ·subst e; exact h.1
  ·exact al_spec h.2 v h1 (by omega)
theorem sm_tail {n : Nat} {l : List Nat} : ∀ {t : List Nat}, smN n (t ++ l) = true → smN n l = true
 | [], h => h
 | v :: t, h => by
  rw [List.cons_append, smN, Bool.and_eq_true] at h
  exact sm_tail h.2
theorem sr_spec {n : Nat} : ∀ {d : Nat} {l : List Nat}, srN n d l = true → ∀ t : List Nat, t.length = d → (∀ x ∈ t, 1 ≤ x ∧ x ≤ n) → (t ++ l).Nodup → smN n (t ++ l) = true → lfN n (t ++ l) = true
 | 0, l, h, t, ht, _, _, _ => by
  rw [List.length_eq_zero_iff] at ht; subst ht; exact h
 | d + 1, l, h, t, ht, hb, hn, hs => by
  obtain ⟨u, v, rfl⟩ : ∃ u v, t = u ++ [v] := ⟨t.dropLast, t.getLast (by intro e; subst e; cases ht), (List.dropLast_concat_getLast _).symm⟩
  have e : u ++ [v] ++ l = u ++ (v :: l) := by simp
  rw [e] at hn hs ⊢
  have hv := hb v (by simp)
  have h1 := al_spec h v hv.1 hv.2
  have h2 : elN v l = false := by
   rw [← Bool.not_eq_true, el_iff]
   have := (List.nodup_append.1 hn).2.1
   exact (List.nodup_cons.1 this).1
  have h3 : bdH n v v 1 l = false := by
   have := sm_tail hs
   rw [smN, Bool.and_eq_true, Bool.not_eq_true'] at this
   exact this.1
  rw [h2, h3, Bool.false_or, Bool.false_or] at h1
  exact sr_spec h1 u (by simpa using ht) (fun x hx => hb x (by simp [hx])) hn hs
theorem sr_n {n : Nat} (h4 : 4 ≤ n) (h8 : n ≤ 8) : srN n n [] = true := by
 obtain rfl | rfl | rfl | rfl | rfl : n = 4 ∨ n = 5 ∨ n = 6 ∨ n = 7 ∨ n = 8 := by omega
 ·exact sr_4
 ·exact sr_5
 ·exact sr_6
 ·exact sr_7
 ·exact sr_8
/-! ### numbers told as naturals -/
def upL (q : List Nat) : List Int := q.map fun x : Nat => (x : Int)
theorem up_len {q : List Nat} : (upL q).length = q.length := List.length_map ..
theorem up_back {p : List Int} (h : ∀ x ∈ p, 0 ≤ x) : upL (p.map Int.toNat) = p := by
 rw [upL, List.map_map]
 exact (List.map_congr_left fun x hx => by show ((x.toNat : Nat) : Int) = x; exact Int.toNat_of_nonneg (h x hx)).trans (List.map_id _)
theorem foldmax {a : Nat} : ∀ {l : List Nat}, (upL l).foldl max (a : Int) = ((l.foldl mxN a : Nat) : Int)
 | [] => rfl
 | x :: l => by
  show (upL l).foldl max (max (a : Int) (x : Int)) = _
  rw [show max (a : Int) (x : Int) = ((mxN a x : Nat) : Int) by rw [mx_eq]; omega, foldmax]; rfl
theorem foldmin {a : Nat} : ∀ {l : List Nat}, (upL l).foldl min (a : Int) = ((l.foldl mnN a : Nat) : Int)
 | [] => rfl
 | x :: l => by
  show (upL l).foldl min (min (a : Int) (x : Int)) = _
  rw [show min (a : Int) (x : Int) = ((mnN a x : Nat) : Int) by rw [mn_eq]; omega, foldmin]; rfl
theorem bdH_iff {n : Nat} : ∀ {l : List Nat} {lo hi c : Nat}, bdH n lo hi c l = true ↔ ∃ j, j < l.length ∧ (l.take (j + 1)).foldl mxN hi = (l.take (j + 1)).foldl mnN lo + (c + j) ∧ c + j + 2 ≤ n
 | [], lo, hi, c => by simp [bdH]
 | x :: l, lo, hi, c => by
  rw [bdH, Bool.or_eq_true, Bool.and_eq_true, beq_iff, ble_iff, bdH_iff]
  constructor
  ·rintro (⟨h1, h2⟩ | ⟨j, h1, h2, h3⟩)
   ·exact ⟨0, by simp, by simpa using h1, by omega⟩
   ·refine ⟨j + 1, by simpa using h1, ?_, by omega⟩
    rw [List.take_succ_cons, List.foldl_cons, List.foldl_cons, h2]; omega
  ·rintro ⟨j, h1, h2, h3⟩
   cases j with
   | zero => exact .inl ⟨by simpa using h2, by omega⟩
   | succ j =>
    refine .inr ⟨j, by simpa using h1, ?_, by omega⟩
    rw [List.take_succ_cons, List.foldl_cons, List.foldl_cons] at h2
    rw [h2]; omega
theorem smN_iff {n : Nat} : ∀ {l : List Nat}, smN n l = true ↔ ∀ a v t, l.drop a = v :: t → bdH n v v 1 t = false
 | [] => by simp [smN]
 | x :: l => by
  rw [smN, Bool.and_eq_true, Bool.not_eq_true', smN_iff]
  constructor
  ·rintro ⟨h1, h2⟩ a v t h
   cases a with
   | zero => rw [List.drop_zero, List.cons.injEq] at h; obtain ⟨rfl, rfl⟩ := h; exact h1
   | succ a => exact h2 a v t h
  ·intro h
   exact ⟨h 0 x l rfl, fun a v t e => h (a + 1) v t e⟩
theorem minL_cons {v : Nat} {t : List Nat} : minL (upL (v :: t)) = ((t.foldl mnN v : Nat) : Int) := by
 rw [minL, minT, List.take_of_length_le (Nat.le_refl _)]
 show (upL (v :: t)).foldl min (v : Int) = _
 rw [foldmin, List.foldl_cons, mn_eq, Nat.min_self]
theorem maxL_cons {v : Nat} {t : List Nat} : maxL (upL (v :: t)) = ((t.foldl mxN v : Nat) : Int) := by
 rw [maxL, maxT, List.take_of_length_le (Nat.le_refl _)]
 show (upL (v :: t)).foldl max (v : Int) = _
 rw [foldmax, List.foldl_cons, mx_eq, Nat.max_self]
theorem seg_up {q : List Nat} {a i v : Nat} {t : List Nat} (h : q.drop a = v :: t) : segL (upL q) a (a + 2 + i) = upL (v :: t.take (i + 1)) := by
 rw [segL, upL, ← List.map_take, ← List.map_drop, List.drop_take, h, show a + 2 + i - a = (i + 1) + 1 by omega, List.take_succ_cons]; rfl
theorem int_iff {q : List Nat} {a i v : Nat} {t : List Nat} (h : q.drop a = v :: t) : isIntB (upL q) a (a + 2 + i) = true ↔ (t.take (i + 1)).foldl mxN v = (t.take (i + 1)).foldl mnN v + (1 + i) := by
 rw [isIntB, decide_eq_true_eq, show ((a : Int)).toNat = a by omega, show ((a : Int) + 2 + i).toNat = a + 2 + i by omega, seg_up h, minL_cons, maxL_cons]
 omega
theorem ivs_nil {p : List Int} : (ivsL p).length = 0 ↔ ∀ a, a < p.length → ∀ i, i < p.length - 1 - a → ¬ ((i : Int) + 2 < p.length ∧ isIntB p a (a + 2 + i) = true) := by
 rw [List.length_eq_zero_iff, ivsL, ivA, List.flatMap_eq_nil_iff]
 constructor
 ·intro h a ha i hi hc
  have h1 := h a (List.mem_range.2 ha)
  rw [ivR, List.flatMap_eq_nil_iff] at h1
  have h2 := h1 i (List.mem_range.2 hi)
  rw [if_pos hc] at h2; cases h2
 ·intro h a ha
  rw [ivR, List.flatMap_eq_nil_iff]
  intro i hi
  rw [if_neg (h a (List.mem_range.1 ha) i (List.mem_range.1 hi))]
theorem sim_up {q : List Nat} : isSimB (upL q) = true ↔ 0 < q.length ∧ smN q.length q = true := by
 rw [isSimB, Bool.and_eq_true, decide_eq_true_eq, decide_eq_true_eq, up_len, ivs_nil, up_len, smN_iff]
 refine and_congr_right fun _ => ⟨fun h a v t e => ?_, fun h a ha i hi hc => ?_⟩
 ·rw [← Bool.not_eq_true, bdH_iff]
  rintro ⟨j, h1, h2, h3⟩
  have ha : a < q.length := by
   rcases Nat.lt_or_ge a q.length with g | g
   ·exact g
   ·rw [List.drop_of_length_le g] at e; cases e
  have hl : q.length - a = t.length + 1 := by rw [← List.length_drop, e]; rfl
  exact h a ha j (by omega) ⟨by omega, (int_iff e).2 h2⟩
 ·obtain ⟨v, t, e⟩ : ∃ v t, q.drop a = v :: t := by
   cases e : q.drop a with
   | nil => rw [List.drop_eq_nil_iff] at e; omega
   | cons v t => exact ⟨v, t, rfl⟩
  have hl : q.length - a = t.length + 1 := by rw [← List.length_drop, e]; rfl
  have h1 := h a v t e
  rw [← Bool.not_eq_true, bdH_iff] at h1
  exact h1 ⟨i, by omega, (int_iff e).1 hc.2, by omega⟩
theorem cnt_up {x : Nat} : ∀ {l : List Nat}, (((upL l).filter fun y => decide (y < (x : Int))).length : Int) + 1 = (cntN x l : Int)
 | [] => rfl
 | y :: l => by
  have ih := cnt_up (x := x) (l := l)
  show ((((y : Int) :: upL l).filter fun y => decide (y < (x : Int))).length : Int) + 1 = _
  rw [List.filter_cons, cntN]
  cases h : Nat.ble x y with
  | true =>
   have := Nat.le_of_ble_eq_true h
   rw [if_neg (by simp; omega)]; exact ih
  | false =>
   have : ¬ x ≤ y := fun g => by rw [Nat.ble_eq_true_of_le g] at h; cases h
   rw [if_pos (by simp; omega)]
   simp only [List.length_cons, cond_false]; omega
theorem pat_up {l : List Nat} : patL (upL l) = upL (ptN l) := by
 rw [patL, ptN, upL, upL, List.map_map, List.map_map]
 refine List.map_congr_left fun x _ => ?_
 simp only [Function.comp, rkI]
 rw [List.take_of_length_le (Nat.le_refl _)]
 exact cnt_up
theorem wo_up {q : List Nat} {k : Nat} : woL (upL q) k = upL (ptN (q.take k ++ q.drop (k + 1))) := by
 rw [woL, ← pat_up]
 congr 1
 simp only [upL, List.map_append, List.map_take, List.map_drop]
theorem pt_len {l : List Nat} : (ptN l).length = l.length := List.length_map ..
theorem dl_spec {m : Nat} : ∀ {l u : List Nat}, dlN m u l = true → ∃ k, k < l.length ∧ smN m (ptN (u ++ (l.take k ++ l.drop (k + 1)))) = true
 | [], _, h => by cases h
 | v :: l, u, h => by
  rw [dlN, Bool.or_eq_true] at h
  rcases h with h | h
  ·exact ⟨0, by simp, h⟩
  ·obtain ⟨k, h1, h2⟩ := dl_spec h
   exact ⟨k + 1, by simpa using h1, by simpa using h2⟩
theorem eqN_spec : ∀ {a b : List Nat}, eqN a b = true → a = b
 | [], [], _ => rfl
 | [], _ :: _, h => by cases h
 | _ :: _, [], h => by cases h
 | x :: a, y :: b, h => by
  rw [eqN, Bool.and_eq_true, beq_iff] at h
  rw [h.1, eqN_spec h.2]
/-- The ten. -/
def exL (n : Nat) : List (List Int) := (exN n).map upL
theorem sim_down {p : List Int} (hp : permB p = true) (h8 : p.length ≤ 8) (h4 : 4 ≤ p.length) (hs : isSimB p = true) : (∃ k, k < p.length ∧ isSimB (woL p k) = true) ∨ p ∈ exL p.length := by
 obtain ⟨g1, g2⟩ := permB_iff.1 hp
 obtain ⟨q, rfl⟩ : ∃ q, p = upL q := ⟨p.map Int.toNat, (up_back fun x hx => by have := g1 x hx; omega).symm⟩
 rw [up_len] at h8 h4 g1 ⊢
 have hq : ∀ x ∈ q, 1 ≤ x ∧ x ≤ q.length := fun x hx => by
  have := g1 (x : Int) (List.mem_map.2 ⟨x, hx, rfl⟩); omega
 have hn : q.Nodup := by
  rw [upL, List.nodup_iff_pairwise_ne, List.pairwise_map] at g2
  rw [List.nodup_iff_pairwise_ne]
  exact List.Pairwise.imp (fun h e => h (by rw [e])) g2
 have h1 := sr_spec (sr_n h4 h8) q rfl hq (by rwa [List.append_nil]) (by rw [List.append_nil]; exact (sim_up.1 hs).2)
 rw [List.append_nil, lfN, Bool.or_eq_true, List.any_eq_true] at h1
 rcases h1 with ⟨y, h1, h2⟩ | h1
 ·have := eqN_spec h2; subst this
  exact .inr (List.mem_map.2 ⟨q, h1, rfl⟩)
 ·obtain ⟨k, h2, h3⟩ := dl_spec h1
  rw [List.nil_append] at h3
  refine .inl ⟨k, h2, ?_⟩
  rw [wo_up, sim_up, pt_len]
  have e : (q.take k ++ q.drop (k + 1)).length = q.length - 1 := by simp; omega
  rw [e]; exact ⟨by omega, h3⟩
theorem low_of {p : List Int} {k : Nat} (hk : k < p.length) : woL p k ∈ lowL p := by
 rw [lowL, putL, put_mem]
 exact .inl (List.mem_map.2 ⟨k, by simpa using hk, rfl⟩)
theorem smp_nil {p : List Int} (hp : permB p = true) (h8 : p.length ≤ 8) (h4 : 4 ≤ p.length) (hs : isSimB p = true) (h : smpL p = []) : p ∈ exL p.length := by
 rcases sim_down hp h8 h4 hs with ⟨k, h1, h2⟩ | h1
 ·have : woL p k ∈ smpL p := by rw [smpL, List.mem_filter]; exact ⟨low_of h1, h2⟩
  rw [h] at this; cases this
 ·exact h1
theorem sim_3 : ∀ p ∈ permL 3, isSimB p = false := by decide +kernel
end Go.Gl
