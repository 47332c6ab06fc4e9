/-
  Codes and permutations: each tells the other, in order. Conditions: none.
-/
import Derived.Test.YtknmheddofilbaaPermAt
import Derived.Test.YtknmheddofilbaaPermF
set_option linter.unusedSimpArgs false
set_option linter.unusedVariables false
set_option maxRecDepth 20000
set_option linter.unusedSectionVars false
namespace Go.Gl
open Go Go.Proofs
variable [Amb]
theorem cntLt_countP {v : Int} : ∀ {l : List Int}, cntLt v l = (l.countP (fun w => decide (w < v)) : Int)
  | [] => rfl
  | w :: l => by
    rw [cntLt, cntLt_countP, List.countP_cons]
    by_cases h : w < v
    · rw [decide_eq_true h, if_pos rfl, bitI, if_pos rfl]; omega
    · rw [decide_eq_false h, if_neg (by decide), bitI, if_neg (by decide)]; omega
theorem cntLt_perm {v : Int} {a b : List Int} (h : a.Perm b) : cntLt v a = cntLt v b := by rw [cntLt_countP, cntLt_countP, h.countP_eq]
/-- In order, each once. -/
def SI (l : List Int) : Prop := l.Pairwise (· < ·)
theorem cut_perm {l : List Int} {i : Nat} (h : i < l.length) : (l.getD i 0 :: (l.take i ++ l.drop (i + 1))).Perm l := by
  refine List.perm_middle.symm.trans ?_
  rw [← dropI_at h, List.take_append_drop]
theorem cnt_lo {v : Int} : ∀ {l : List Int}, (∀ w ∈ l, w < v) → cntLt v l = l.length
  | [], _ => rfl
  | w :: l, h => by
    rw [cntLt, cnt_lo fun x hx => h x (List.mem_cons_of_mem _ hx), bitI, decide_eq_true (h w List.mem_cons_self), if_pos rfl, List.length_cons]; omega
theorem cnt_hi {v : Int} : ∀ {l : List Int}, (∀ w ∈ l, ¬ w < v) → cntLt v l = 0
  | [], _ => rfl
  | w :: l, h => by
    rw [cntLt, cnt_hi fun x hx => h x (List.mem_cons_of_mem _ hx), bitI, decide_eq_false (h w List.mem_cons_self), if_neg (by decide)]; rfl
theorem cnt_app {v : Int} {a b : List Int} : cntLt v (a ++ b) = cntLt v a + cntLt v b := by
  rw [cntLt_countP, cntLt_countP, cntLt_countP, List.countP_append]; omega
theorem cnt_at {l : List Int} {i : Nat} (hs : SI l) (h : i < l.length) : cntLt (l.getD i 0) (l.take i ++ l.drop (i + 1)) = i := by
  have q := hs
  unfold SI at q
  rw [← List.take_append_drop i l, List.pairwise_append, dropI_at h, List.pairwise_cons] at q
  rw [cnt_app, cnt_lo fun w hw => q.2.2 w hw _ List.mem_cons_self, cnt_hi fun w hw => by have := q.2.1.1 w hw; omega, List.length_take]; omega
theorem si_nodup {l : List Int} (h : SI l) : l.Nodup := List.Pairwise.imp (fun h e => by omega) h
theorem idL_si : ∀ {n : Nat}, SI (idL n) := fun {n} => by
  unfold SI idL
  rw [List.pairwise_map]
  exact List.Pairwise.imp (fun h => by omega) List.pairwise_lt_range
theorem idL_mem {n : Nat} {v : Int} : v ∈ idL n ↔ 1 ≤ v ∧ v ≤ n := by
  unfold idL
  simp only [List.mem_map, List.mem_range]
  constructor
  · rintro ⟨i, h, rfl⟩; omega
  · intro h; exact ⟨(v - 1).toNat, by omega, by omega⟩
theorem nd_perm {a b : List Int} (ha : a.Nodup) (hb : b.Nodup) (h : ∀ x, x ∈ a ↔ x ∈ b) : a.Perm b := by
  rw [List.perm_iff_count]
  intro x
  rw [ha.count, hb.count]
  by_cases q : x ∈ a
  · rw [if_pos q, if_pos ((h x).1 q)]
  · rw [if_neg q, if_neg fun e => q ((h x).2 e)]
theorem perm_id {p : List Int} (h : permB p = true) : p.Perm (idL p.length) := by
  obtain ⟨h1, h2⟩ := permB_iff.1 h
  refine nd_perm h2 (si_nodup idL_si) fun x => ⟨fun hx => idL_mem.2 (h1 x hx), fun hx => ?_⟩
  have := idL_mem.1 hx
  obtain ⟨i, hi, e⟩ := perm_spot h (v := x) (by omega) (by omega)
  rw [← e]; exact getD_mem hi
/-! ### ranks -/
/-! ### ranks are in the order of the lists -/
/-! ### pairs out of order -/
end Go.Gl
