/-
  A program logic over the walk's rules: regions whose order is open: the text's order serves every order. Conditions: those that each lemma names.
-/
import Derived.Test.YtdiiocckeldkfaaGl16
import Derived.Test.YtdiiocckeldkfaaGl20
namespace Go.Gl
open Go

theorem fillW_congr {places : List Nat} : ∀ {l : List (Nat × Operand)} {cells : List AV} {ρ ρ' : Operand → AV} {K : List AV → Prop}, (∀ x ∈ l.map (·.2), ρ x = ρ' x) → fillW places cells (l.map fun p => (p.1, ρ p.2)) K → fillW places cells (l.map fun p => (p.1, ρ' p.2)) K := by
  intro l cells ρ ρ' K h hK
  have e : (l.map fun p => (p.1, ρ p.2)) = l.map fun p => (p.1, ρ' p.2) := List.map_congr_left fun p hp => by rw [h p.2 (List.mem_map.2 ⟨p, hp, rfl⟩)]
  rw [← e]; exact hK

theorem bnd_congr {ρ ρ' : Operand → AV} {x : Option Operand} {d : Nat} (h : ∀ y, x = some y → ρ y = ρ' y) : bnd ρ x d = bnd ρ' x d := by
  funext K
  cases x with
  | none => rfl
  | some y => simp only [bnd, h y rfl]

theorem map_congr_ops {l : List Operand} {ρ ρ' : Operand → AV} (h : ∀ x ∈ l, ρ x = ρ' x) : l.map ρ = l.map ρ' := List.map_congr_left h

theorem opB_congr {P : Program} {sg : FuncId → List Bool} {ρ ρ' : Operand → AV} {k : Nat} {op : Op} {h : Nat → Blk} {K : R → Prop} (hρ : ∀ x ∈ op.operands, ρ x = ρ' x) (hK : opB P sg ρ h k op K) : opB P sg ρ' h k op K := by
  unfold opB at hK ⊢
  split at hK <;> simp only [Op.operands] at hρ
  case h_8 t n parts =>
    have e : (parts.toList.map fun p => ρ p.2) = parts.toList.map fun p => ρ' p.2 := List.map_congr_left fun p hp => hρ p.2 (by simp; exact ⟨p.1, by simpa using hp⟩)
    unfold buildSliceW at hK ⊢
    rw [← e]; exact hK
  case h_9 t x lo hi mx =>
    have ex : ρ x = ρ' x := hρ x (by simp)
    have elo : ∀ d, bnd ρ lo d = bnd ρ' lo d := fun d => bnd_congr fun y hy => hρ y (by subst hy; simp)
    have ehi : ∀ d, bnd ρ hi d = bnd ρ' hi d := fun d => bnd_congr fun y hy => hρ y (by subst hy; simp)
    have emx : ∀ d, bnd ρ mx d = bnd ρ' mx d := fun d => bnd_congr fun y hy => hρ y (by subst hy; simp)
    rw [← ex]
    unfold sliceW at hK ⊢
    simp only [← elo, ← ehi, ← emx]
    exact hK
  case h_16 t parts =>
    have e : (parts.toList.map fun p => (p.1, ρ p.2)) = parts.toList.map fun p => (p.1, ρ' p.2) := List.map_congr_left fun p hp => by rw [hρ p.2 (by simp; exact ⟨p.1, by simpa using hp⟩)]
    rw [← e]; exact hK
  case h_21 f first caps =>
    have e1 : first.toList.map ρ = first.toList.map ρ' := List.map_congr_left fun x hx => hρ x (by simp at hx ⊢; exact .inl hx)
    have e2 : caps.toList.map ρ = caps.toList.map ρ' := List.map_congr_left fun x hx => hρ x (by simp at hx ⊢; exact .inr hx)
    rw [← e1, ← e2]; exact hK
  case h_26 f args ts =>
    have ef : ρ f = ρ' f := hρ f (by simp [Call.operands])
    have ea : args.map ρ = args.map ρ' := List.map_congr_left fun x hx => hρ x (by simp [Call.operands, hx])
    rw [← ef, ← ea]; exact hK
  all_goals first
    | exact hK
    | exact hK.elim
    | (simp [Call.operands] at hρ; simp only [← hρ]; exact hK)
    | (simp [Call.operands] at hρ; obtain ⟨e1, e2⟩ := hρ; simp only [← e1, ← e2]; exact hK)
    | (simp at hρ; obtain ⟨e1, e2, e3⟩ := hρ; simp only [← e1, ← e2, ← e3]; exact hK)

theorem opW_congr {P : Program} {sg : FuncId → List Bool} {ρ ρ' : Operand → AV} {k : Nat} {op : Op} {h : Nat → Blk} {K : R → Prop} (hρ : ∀ x ∈ op.operands, ρ x = ρ' x) (hK : opW P sg ρ h k op K) : opW P sg ρ' h k op K := by
  unfold opW at hK ⊢
  split at hK
  · rename_i hx
    rw [if_pos hx]
    unfold opE at hK ⊢
    split at hK <;> simp only [Op.operands] at hρ
    · simp at hρ; obtain ⟨e1, e2⟩ := hρ; simp only [← e1, ← e2]; exact hK
    · rename_i t x lo hi mx
      have ex : ρ x = ρ' x := hρ x (by simp)
      have elo : ∀ d, bnd ρ lo d = bnd ρ' lo d := fun d => bnd_congr fun y hy => hρ y (by subst hy; simp)
      have ehi : ∀ d, bnd ρ hi d = bnd ρ' hi d := fun d => bnd_congr fun y hy => hρ y (by subst hy; simp)
      have emx : ∀ d, bnd ρ mx d = bnd ρ' mx d := fun d => bnd_congr fun y hy => hρ y (by subst hy; simp)
      rw [← ex]
      unfold sliceX at hK ⊢
      simp only [← elo, ← ehi, ← emx]
      exact hK
    · simp [Call.operands] at hρ; simp only [← hρ]; exact hK
    · exact hK.elim
  · rename_i hx
    rw [if_neg hx]
    exact opB_congr hρ hK

end Go.Gl
