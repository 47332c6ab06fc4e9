/-
  A program logic over the walk's rules, seventh part: the operations that read memory or take values apart. Conditions: those that each lemma names.
-/
import Derived.Test.YtdiiocckeldkfaaGl6
namespace Go.Gl
open Go

theorem slT_spec {P : Program} {t : TypeId} {b : Nat} {z : PV} (h : slT P t = some (b, z)) : ∃ e i zv, P.underlying t = some (.slice e) ∧ P.info? e = some i ∧ i.zero = some zv ∧ i.size = 1 ∧ zv.cells.size = 1 ∧ zv.oneCell' = true ∧ i.bytes = b ∧ b ≤ 64 ∧ z = (ofConst1 zv).cell := by
  unfold slT at h
  split at h
  · rename_i e hu
    split at h
    · rename_i i hi
      split at h
      · rename_i zv hz
        split at h
        · rename_i hc
          simp only [Option.some.injEq, Prod.mk.injEq] at h
          obtain ⟨rfl, rfl⟩ := h
          exact ⟨e, i, zv, hu, hi, hz, hc.1, hc.2.1, hc.2.2.1, rfl, hc.2.2.2, rfl⟩
        · cases h
      · cases h
    · cases h
  · cases h
theorem slT_some {P : Program} {t : TypeId} (h : (slT P t).isSome = true) : ∃ e i zv, P.underlying t = some (.slice e) ∧ P.info? e = some i ∧ i.zero = some zv ∧ i.size = 1 ∧ zv.cells.size = 1 ∧ zv.oneCell' = true ∧ i.bytes ≤ 64 := by
  cases hs : slT P t with
  | none => rw [hs] at h; cases h
  | some p =>
    obtain ⟨b, z⟩ := p
    obtain ⟨e, i, zv, h1, h2, h3, h4, h5, h6, h7, h8, _⟩ := slT_spec hs
    exact ⟨e, i, zv, h1, h2, h3, h4, h5, h6, by omega⟩
theorem strT_spec {P : Program} {t : TypeId} (h : strT P t = true) : P.underlying t = some .string := by
  unfold strT at h; split at h
  · assumption
  · cases h
theorem intT_spec {P : Program} {t : TypeId} {k : IntKind} (h : intT P t = some k) : P.underlying t = some (.int k) := by
  unfold intT at h; split at h
  · simp only [Option.some.injEq] at h; subst h; assumption
  · cases h
theorem szT_agg {P : Program} {t : TypeId} {n : Nat} (h : szT P t = some (n, true)) : ∃ i, P.info? t = some i ∧ i.size = n ∧ ((∃ fs, P.underlying t = some (.struct fs)) ∨ ∃ m e, P.underlying t = some (.array m e)) := by
  unfold szT at h; split at h <;> simp at h
  · rename_i fs i h1 h2; exact ⟨i, h2, h, .inl ⟨fs, h1⟩⟩
  · rename_i m e i h1 h2; exact ⟨i, h2, h, .inr ⟨m, e, h1⟩⟩
theorem szT_one {P : Program} {t : TypeId} {n : Nat} (h : szT P t = some (n, false)) : ∃ i d, P.info? t = some i ∧ i.size = n ∧ P.underlying t = some d ∧ (∀ fs, d ≠ .struct fs) ∧ (∀ m e, d ≠ .array m e) := by
  unfold szT at h; split at h <;> simp at h
  rename_i d i h1 h2 h3 h4
  exact ⟨i, d, h4, h, h3, fun fs e => h1 fs e, fun m e e' => h2 m e e'⟩

theorem add_at (B o j : Nat) : (⟨B, o, none⟩ : Addr).add j = ⟨B, o + j, none⟩ := by
  unfold Addr.add; split <;> simp_all

section
variable {P : Program} {sg : FuncId → List Bool} {w0 : World} {nA nt : Nat} {M G : Nat → Prop} {ι0 : Nat → Loc} {A : Nat → Prop} {w : World} {S : St} {ι : Nat → Loc} {a : Act}

theorem run_isAgg_one {t : TypeId} {d : TypeDesc} (h : P.underlying t = some d) (h1 : ∀ fs, d ≠ .struct fs) (h2 : ∀ m e, d ≠ .array m e) (w : World) : (isAgg t).run P w = .ok false w := by
  unfold isAgg
  simp only [Sem.run_bind, run_underlying h, Result.andThen_ok]
  cases d <;> first | rfl | (rename_i fs; exact absurd rfl (h1 fs)) | (rename_i m e; exact absurd rfl (h2 m e))
theorem run_isAgg_agg {t : TypeId} (h : (∃ fs, P.underlying t = some (.struct fs)) ∨ ∃ m e, P.underlying t = some (.array m e)) (w : World) : (isAgg t).run P w = .ok true w := by
  unfold isAgg
  rcases h with ⟨fs, h⟩ | ⟨m, e, h⟩ <;> simp [run_underlying h]

/-- A new block without cells: a slice of no length and no room. -/
theorem does_nil {o : Oper} {k : Nat} {K : R → Prop} (h : Rel w0 nA nt M G ι0 A w S ι a) (hd : ∀ d, o.dst = some d → d < nt) (hA : ∀ x, x < 256 → ¬ A (k + x)) {ad : Option Addr} {rd : List Nat}
    (hr : (execOp a.eval o).run P w = .ok (.value (.slice ad 0 0)) w) (hK : K ⟨.ref k 0 0, [(k, .live false [])], rd⟩) : Does P w0 nA nt M G ι0 A k o w S a K := by
  intro Kc Qc next
  have hk : ¬ A k := hA 0 (by omega)
  obtain ⟨ok, hh⟩ := h.heap.nil (h.alloc k hk) false ⟨0, 0, 0⟩ rfl
  have st : Stays w w (Held S.h ι) (Held (updH S.h k (.live false [])) (updL ι k ⟨0, 0, 0⟩)) := fun B o v hF hv => ⟨hv, fun h' => hF (hh B h')⟩
  have h1 := h.step (A' := plus A k) (fun i hi => .inl hi) (Keep.refl w M) ok st (fun i hi => by
    have : i ≠ k := fun e => hk (e ▸ hi)
    simp [updL, this]) (fun i hi => by
    have hne : i ≠ k := fun e => hi (.inr ⟨by omega, by omega⟩)
    simp only [updH, hne, if_false]
    exact h.alloc i fun hA => hi (.inl hA))
  refine wp_value hr (next _ _ _ (updL ι k ⟨0, 0, 0⟩) hK ?_)
  rw [app_eq]
  refine h1.put o.dst hd ?_ ?_
  · simp only [RepA]
    exact ⟨ad, 0, rfl, by simp, by simp [updL], by simp [updL], .inl rfl⟩
  · intro i hi
    simp [AV.has] at hi
    exact .inr ⟨by omega, by omega⟩

theorem bnd_spec (h : Rel w0 nA nt M G ι0 A w S ι a) {x : Option Operand} {d : Nat} {K : Int → Prop} (hb : bnd (Gl.opd S) x d K) : (x = none ∧ K d) ∨ ∃ o k i, x = some o ∧ a.eval o = .int k i ∧ K i := by
  unfold bnd at hb
  split at hb
  · exact .inl ⟨rfl, hb⟩
  · rename_i o
    split at hb
    · rename_i k i e
      have := h.opd o
      rw [e] at this
      exact .inr ⟨o, k, i, rfl, rep_int this, hb⟩
    · exact hb.elim

theorem take_drop_cells {F : Nat → Prop} {B o : Nat} {xs : List PV} (h : RepC w F G B o xs) (l n : Nat) : RepC w F G B (o + l) ((xs.take n).drop l) := RepC_drop (RepC_take h n) l

/-- A slice expression on a slice: both bounds known. -/
theorem run_slice2 {t e : TypeId} {i : TypeInfo} (hu : P.underlying t = some (.slice e)) (hi : P.info? e = some i) (hs : i.size = 1) {ad : Option Addr} {len cap : Nat} {lo hi' : Option Value} {l h : Int}
    (hl : (lo = none ∧ l = 0) ∨ ∃ k, lo = some (.int k l)) (hh : (hi' = none ∧ h = len) ∨ ∃ k, hi' = some (.int k h)) (h0 : 0 ≤ l) (h1 : l ≤ h) (h2 : h ≤ cap) (w : World) :
    (Instr.sliceAt t (.slice ad len cap) lo hi' none).run P w = .ok (.slice (if cap = l.toNat then ad else ad.map (·.add l.toNat)) (h.toNat - l.toNat) (cap - l.toNat)) w := by
  have e1 : (0 ≤ h ∧ h ≤ (cap : Int)) := ⟨by omega, h2⟩
  have e2 : (0 ≤ l ∧ l ≤ (h.toNat : Int)) := ⟨h0, by omega⟩
  rcases hl with ⟨rfl, rfl⟩ | ⟨k, rfl⟩ <;> rcases hh with ⟨rfl, rfl⟩ | ⟨k', rfl⟩ <;>
    simp [Instr.sliceAt, Instr.slice, run_underlying hu, Instr.sliceBounds, Instr.sliceBound, asIntOf, sizeOf, typeInfo, hi, hs, e1, h0] <;> (try simp [e2, h1]) <;> (try (rw [if_pos (by omega)]; simp)) <;> (try (intro hlt; omega))

theorem run_slice2_str {t : TypeId} (hu : P.underlying t = some .string) {s : ByteArray} {lo hi' : Option Value} {l h : Int}
    (hl : (lo = none ∧ l = 0) ∨ ∃ k, lo = some (.int k l)) (hh : (hi' = none ∧ h = s.size) ∨ ∃ k, hi' = some (.int k h)) (h0 : 0 ≤ l) (h1 : l ≤ h) (h2 : h ≤ s.size) (w : World) :
    (Instr.sliceAt t (.string s) lo hi' none).run P w = .ok (.string (s.extract l.toNat h.toNat)) w := by
  have e1 : (0 ≤ h ∧ h ≤ (s.size : Int)) := ⟨by omega, h2⟩
  have e2 : (0 ≤ l ∧ l ≤ (h.toNat : Int)) := ⟨h0, by omega⟩
  rcases hl with ⟨rfl, rfl⟩ | ⟨k, rfl⟩ <;> rcases hh with ⟨rfl, rfl⟩ | ⟨k', rfl⟩ <;>
    simp [Instr.sliceAt, Instr.slice, run_underlying hu, Instr.sliceBounds, Instr.sliceBound, asIntOf, e1, h0] <;> (try simp [e2, h1]) <;> (try (rw [if_pos (by omega)]; simp)) <;> (try (intro hlt; omega))

theorem run_slice000 {t e : TypeId} {i : TypeInfo} (hu : P.underlying t = some (.slice e)) (hi : P.info? e = some i) {ad : Option Addr} {len cap : Nat} {lo : Option Value} {kh km : IntKind}
    (hl : lo = none ∨ ∃ k, lo = some (.int k 0)) (w : World) :
    (Instr.sliceAt t (.slice ad len cap) lo (some (.int kh 0)) (some (.int km 0))).run P w = .ok (.slice ad 0 0) w := by
  rcases hl with rfl | ⟨k, rfl⟩ <;> simp [Instr.sliceAt, Instr.slice, run_underlying hu, Instr.sliceBounds, Instr.sliceBound, asIntOf, sizeOf, typeInfo, hi]

end
end Go.Gl
