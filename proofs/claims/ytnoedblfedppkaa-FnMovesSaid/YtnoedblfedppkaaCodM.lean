/-
  Codes and permutations: each tells the other, in order. Conditions: none.
-/
import Derived.Test.YtnoedblfedppkaaPermAt
import Derived.Test.YtnoedblfedppkaaPermF
set_option linter.unusedSimpArgs false
set_option linter.unusedVariables false
set_option maxRecDepth 20000
set_option linter.unusedSectionVars false
namespace Go.Gl
open Go Go.Proofs
variable [Amb]
/-- In order, each once. -/
def SI (l : List Int) : Prop := l.Pairwise (· < ·)
theorem cut_perm {l : List Int} {i : Nat} (h : i < l.length) : (l.getD i 0 :: (l.take i ++ l.drop (i + 1))).Perm l := by
  refine List.perm_middle.symm.trans ?_
  rw [← dropI_at h, List.take_append_drop]
theorem si_nodup {l : List Int} (h : SI l) : l.Nodup := List.Pairwise.imp (fun h e => by omega) h
theorem idL_si : ∀ {n : Nat}, SI (idL n) := fun {n} => by
  unfold SI idL
  rw [List.pairwise_map]
  exact List.Pairwise.imp (fun h => by omega) List.pairwise_lt_range
theorem idL_mem {n : Nat} {v : Int} : v ∈ idL n ↔ 1 ≤ v ∧ v ≤ n := by
  unfold idL
  simp only [List.mem_map, List.mem_range]
  constructor
  · rintro ⟨i, h, rfl⟩; omega
  · intro h; exact ⟨(v - 1).toNat, by omega, by omega⟩
theorem nd_perm {a b : List Int} (ha : a.Nodup) (hb : b.Nodup) (h : ∀ x, x ∈ a ↔ x ∈ b) : a.Perm b := by
  rw [List.perm_iff_count]
  intro x
  rw [ha.count, hb.count]
  by_cases q : x ∈ a
  · rw [if_pos q, if_pos ((h x).1 q)]
  · rw [if_neg q, if_neg fun e => q ((h x).2 e)]
theorem perm_id {p : List Int} (h : permB p = true) : p.Perm (idL p.length) := by
  obtain ⟨h1, h2⟩ := permB_iff.1 h
  refine nd_perm h2 (si_nodup idL_si) fun x => ⟨fun hx => idL_mem.2 (h1 x hx), fun hx => ?_⟩
  have := idL_mem.1 hx
  obtain ⟨i, hi, e⟩ := perm_spot h (v := x) (by omega) (by omega)
  rw [← e]; exact getD_mem hi
theorem id_permB {p : List Int} {n : Nat} (h : p.Perm (idL n)) : permB p = true ∧ p.length = n := by
  have hl : p.length = n := by rw [h.length_eq, idL_len]
  refine ⟨permB_iff.2 ⟨fun v hv => ?_, (h.nodup_iff).2 (si_nodup idL_si)⟩, hl⟩
  rw [hl]; exact idL_mem.1 (h.subset hv)
/-! ### ranks -/
/-! ### ranks are in the order of the lists -/
/-! ### pairs out of order -/
end Go.Gl
