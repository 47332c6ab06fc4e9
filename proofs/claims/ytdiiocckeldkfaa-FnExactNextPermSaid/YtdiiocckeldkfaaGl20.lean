/-
  A program logic over the walk's rules: an operation comes to one result, and that result hangs on nothing but its operands and the blocks that it looks at. Conditions: those that each lemma names.
-/
import Derived.Test.YtdiiocckeldkfaaGl2
namespace Go.Gl
open Go

/-- One result; the same wherever the blocks looked at are the same. -/
def Fixes (C : (Nat → Blk) → (R → Prop) → Prop) (h : Nat → Blk) : Prop :=
  ∀ K, C h K → ∃ r, K r ∧ ∀ h', (∀ id ∈ r.rd, h' id = h id) → ∀ K' : R → Prop, K' r → C h' K'

theorem fix_arr {k : Nat} {v : AV} {h : Nat → Blk} : Fixes (fun _ K => arr k v K) h := by
  intro K hK
  unfold arr at hK
  split at hK
  · exact ⟨_, hK, fun h' _ K' hk => hk⟩
  · rename_i hv
    refine ⟨_, hK, fun h' _ K' hk => ?_⟩
    unfold arr
    split
    · exact absurd rfl (hv _)
    · exact hk

theorem fix_pick {k : Nat} {c a b : AV} {h : Nat → Blk} : Fixes (fun _ K => pickW c a b fun v => arr k v K) h := by
  intro K hK
  unfold pickW at hK
  split at hK
  · rename_i t
    split at hK
    · obtain ⟨r, hr, hf⟩ := fix_arr (h := h) K hK
      exact ⟨r, hr, fun h' hh K' hk => by unfold pickW; exact hf h' hh K' hk⟩
    · rename_i hv
      obtain ⟨r, hr, hf⟩ := fix_arr (h := h) K hK
      refine ⟨r, hr, fun h' hh K' hk => ?_⟩
      unfold pickW
      simp only
      first
        | exact hf h' hh K' hk
        | (split
           · exact absurd rfl (hv _ _ rfl)
           · exact hf h' hh K' hk)
  · exact hK.elim

theorem fix_bin {P : Program} {op : BinOp} {t : TypeId} {x y : AV} {h : Nat → Blk} : Fixes (fun _ K => binW P op t x y fun v => K ⟨.p v, [], []⟩) h := by
  intro K hK
  unfold binW at hK
  split at hK
  · split at hK
    all_goals first
      | exact hK.elim
      | exact ⟨_, hK.2.2, fun h' _ K' hk => ⟨hK.1, hK.2.1, hk⟩⟩
      | exact ⟨_, hK.2.2.2, fun h' _ K' hk => ⟨hK.1, hK.2.1, hK.2.2.1, hk⟩⟩
      | exact ⟨_, hK.2, fun h' _ K' hk => ⟨hK.1, hk⟩⟩
      | exact ⟨_, hK.2.2.2.2.2, fun h' _ K' hk => ⟨hK.1, hK.2.1, hK.2.2.1, hK.2.2.2.1, hK.2.2.2.2.1, hk⟩⟩
  · split at hK
    all_goals first
      | exact hK.elim
      | exact ⟨_, hK.2, fun h' _ K' hk => ⟨hK.1, hk⟩⟩
      | exact ⟨_, hK, fun h' _ K' hk => hk⟩
  · split at hK
    all_goals first
      | exact hK.elim
      | exact ⟨_, hK.2, fun h' _ K' hk => ⟨hK.1, hk⟩⟩
  · exact hK.elim

theorem fix_un {op : UnOp} {x : AV} {h : Nat → Blk} : Fixes (fun _ K => unW op x fun v => K ⟨.p v, [], []⟩) h := by
  intro K hK
  unfold unW at hK
  split at hK
  · exact ⟨_, hK, fun h' _ K' hk => hk⟩
  · exact ⟨_, hK.2, fun h' _ K' hk => ⟨hK.1, hk⟩⟩
  · exact hK.elim

/-- The like for a list of plain values. -/
theorem fix_cont {h : Nat → Blk} {v : AV} {K : List PV → List Nat → Prop} (hK : cont h v K) : ∃ xs rd, K xs rd ∧ ∀ h', (∀ id ∈ rd, h' id = h id) → ∀ K' : List PV → List Nat → Prop, K' xs rd → cont h' v K' := by
  unfold cont at hK
  split at hK
  · exact ⟨_, _, hK, fun h' _ K' hk => hk⟩
  · exact ⟨_, _, hK, fun h' _ K' hk => hk⟩
  · split at hK
    · rename_i e; exact ⟨_, _, hK.2, fun h' hh K' hk => by unfold cont; simp only [hh _ (List.mem_singleton.2 rfl), e]; exact ⟨hK.1, hk⟩⟩
    · rename_i e; exact ⟨_, _, hK.2, fun h' hh K' hk => by unfold cont; simp only [hh _ (List.mem_singleton.2 rfl), e]; exact ⟨hK.1, hk⟩⟩
    · exact hK.elim
  · exact hK.elim

theorem fix_pub {h : Nat → Blk} {v : AV} {K : PV → List (Nat × Blk) → List Nat → Prop} (hK : pub h v K) : ∃ x ws rd, K x ws rd ∧ ∀ h', (∀ id ∈ rd, h' id = h id) → ∀ K' : PV → List (Nat × Blk) → List Nat → Prop, K' x ws rd → pub h' v K' := by
  unfold pub at hK
  split at hK
  · exact ⟨_, _, _, hK.2, fun h' _ K' hk => ⟨hK.1, hk⟩⟩
  · split at hK
    · rename_i e; exact ⟨_, _, _, hK.2, fun h' hh K' hk => by unfold pub; simp only [hh _ (List.mem_singleton.2 rfl), e]; exact ⟨hK.1, hk⟩⟩
    · rename_i e; exact ⟨_, _, _, hK.2, fun h' hh K' hk => by unfold pub; simp only [hh _ (List.mem_singleton.2 rfl), e]; exact ⟨hK.1, hk⟩⟩
    · exact hK.elim
  · exact hK.elim

theorem fix_pubs {h : Nat → Blk} : ∀ {vs : List AV} {K : List PV → List (Nat × Blk) → List Nat → Prop}, pubs h vs K → ∃ xs ws rd, K xs ws rd ∧ ∀ h', (∀ id ∈ rd, h' id = h id) → ∀ K' : List PV → List (Nat × Blk) → List Nat → Prop, K' xs ws rd → pubs h' vs K'
  | [], K, hK => ⟨_, _, _, hK, fun h' _ K' hk => hk⟩
  | v :: vs, K, hK => by
    simp only [pubs] at hK
    obtain ⟨x, ws, rd, hK, f1⟩ := fix_pub hK
    obtain ⟨xs, ws', rd', hK, f2⟩ := fix_pubs hK
    refine ⟨_, _, _, hK, fun h' hh K' hk => ?_⟩
    simp only [pubs]
    exact f1 h' (fun id hid => hh id (by simp [hid])) _ (f2 h' (fun id hid => hh id (by simp [hid])) _ hk)

theorem fix_pur1 {h : Nat → Blk} {v : AV} {K : PV → List Nat → Prop} (hK : pur1 h v K) : ∃ x rd, K x rd ∧ ∀ h', (∀ id ∈ rd, h' id = h id) → ∀ K' : PV → List Nat → Prop, K' x rd → pur1 h' v K' := by
  unfold pur1 at hK
  split at hK
  · exact ⟨_, _, hK, fun h' _ K' hk => hk⟩
  · split at hK
    · rename_i e; exact ⟨_, _, hK.2, fun h' hh K' hk => by unfold pur1; simp only [hh _ (List.mem_singleton.2 rfl), e]; exact ⟨hK.1, hk⟩⟩
    · rename_i e; exact ⟨_, _, hK.2, fun h' hh K' hk => by unfold pur1; simp only [hh _ (List.mem_singleton.2 rfl), e]; exact ⟨hK.1, hk⟩⟩
    · exact hK.elim
  · split at hK
    · rename_i e; exact ⟨_, _, hK, fun h' hh K' hk => by unfold pur1; simp only [hh _ (List.mem_singleton.2 rfl), e]; exact hk⟩
    · rename_i e; exact ⟨_, _, hK, fun h' hh K' hk => by unfold pur1; simp only [hh _ (List.mem_singleton.2 rfl), e]; exact hk⟩
    · exact hK.elim
  · exact hK.elim

theorem fix_purs1 {h : Nat → Blk} : ∀ {vs : List AV} {K : List PV → List Nat → Prop}, purs1 h vs K → ∃ xs rd, K xs rd ∧ ∀ h', (∀ id ∈ rd, h' id = h id) → ∀ K' : List PV → List Nat → Prop, K' xs rd → purs1 h' vs K'
  | [], K, hK => ⟨_, _, hK, fun h' _ K' hk => hk⟩
  | v :: vs, K, hK => by
    simp only [purs1] at hK
    obtain ⟨x, rd, hK, f1⟩ := fix_pur1 hK
    obtain ⟨xs, rd', hK, f2⟩ := fix_purs1 hK
    refine ⟨_, _, hK, fun h' hh K' hk => ?_⟩
    simp only [purs1]
    exact f1 h' (fun id hid => hh id (by simp [hid])) _ (f2 h' (fun id hid => hh id (by simp [hid])) _ hk)

theorem fix_pur {h : Nat → Blk} {v : AV} {K : PV → List Nat → Prop} (hK : pur h v K) : ∃ x rd, K x rd ∧ ∀ h', (∀ id ∈ rd, h' id = h id) → ∀ K' : PV → List Nat → Prop, K' x rd → pur h' v K' := by
  unfold pur at hK
  split at hK
  · obtain ⟨xs, rd, hK, f⟩ := fix_purs1 hK
    exact ⟨_, _, hK, fun h' hh K' hk => by unfold pur; exact f h' hh _ hk⟩
  · obtain ⟨xs, rd, hK, f⟩ := fix_purs1 hK
    obtain ⟨ys, rd', hK, f'⟩ := fix_purs1 hK
    exact ⟨_, _, hK, fun h' hh K' hk => by unfold pur; exact f h' (fun id hid => hh id (by simp [hid])) _ (f' h' (fun id hid => hh id (by simp [hid])) _ hk)⟩
  · rename_i h1 h2
    obtain ⟨x, rd, hK, f⟩ := fix_pur1 hK
    refine ⟨_, _, hK, fun h' hh K' hk => ?_⟩
    unfold pur
    split
    · exact absurd rfl (h1 _)
    · exact absurd rfl (h2 _ _ _)
    · exact f h' hh _ hk

theorem fix_pass {h : Nat → Blk} : ∀ {vs : List AV} {sg : List Bool} {K : List Arg → List Nat → List (Option Nat) → Prop}, pass h sg vs K →
    ∃ as rd ms, K as rd ms ∧ ∀ h', (∀ i ∈ ms.filterMap id ++ rd, h' i = h i) → ∀ K' : List Arg → List Nat → List (Option Nat) → Prop, K' as rd ms → pass h' sg vs K' := by
  intro vs
  induction vs with
  | nil =>
    intro sg K hK
    have e : ∀ (h : Nat → Blk) (K : List Arg → List Nat → List (Option Nat) → Prop), pass h sg [] K = K [] [] [] := by
      intro h K; cases sg with
      | nil => rfl
      | cons b sg => cases b <;> rfl
    rw [e] at hK
    exact ⟨_, _, _, hK, fun h' _ K' hk => by rw [e]; exact hk⟩
  | cons v vs ih =>
    intro sg K hK
    have plain : ∀ (sg' : List Bool), (∀ (h : Nat → Blk) (K : List Arg → List Nat → List (Option Nat) → Prop), pass h sg (v :: vs) K = pur h v fun x rd => pass h sg' vs fun as rd' ms => K (.pv x :: as) (rd ++ rd') (none :: ms)) →
        ∃ as rd ms, K as rd ms ∧ ∀ h', (∀ i ∈ ms.filterMap id ++ rd, h' i = h i) → ∀ K' : List Arg → List Nat → List (Option Nat) → Prop, K' as rd ms → pass h' sg (v :: vs) K' := by
      intro sg' e
      rw [e] at hK
      obtain ⟨x, rd, hK, f1⟩ := fix_pur hK
      obtain ⟨as, rd', ms, hK, f2⟩ := ih hK
      refine ⟨_, _, _, hK, fun h' hh K' hk => ?_⟩
      rw [e]
      refine f1 h' (fun id hid => hh id (by simp [hid])) _ (f2 h' (fun id hid => hh id ?_) _ hk)
      rcases List.mem_append.1 hid with hid | hid
      · exact List.mem_append.2 (.inl (by simpa using hid))
      · exact List.mem_append.2 (.inr (List.mem_append.2 (.inr hid)))
    cases sg with
    | nil => exact plain [] fun _ _ => rfl
    | cons b sg =>
      cases b with
      | false => exact plain sg fun _ _ => rfl
      | true =>
        simp only [pass] at hK
        split at hK
        · rename_i id len
          split at hK
          · rename_i e
            obtain ⟨hl, hK⟩ := hK
            obtain ⟨as, rd, ms, hK, f⟩ := ih hK
            refine ⟨_, _, _, hK, fun h' hh K' hk => ?_⟩
            simp only [pass, hh id (by simp), e]
            exact ⟨hl, f h' (fun i hi => hh i (by
              rcases List.mem_append.1 hi with hi | hi
              · exact List.mem_append.2 (.inl (by simp at hi; simp [hi]))
              · exact List.mem_append.2 (.inr hi))) _ hk⟩
          · exact hK.elim
        · rename_i id
          split at hK
          · rename_i e
            obtain ⟨as, rd, ms, hK, f⟩ := ih hK
            refine ⟨_, _, _, hK, fun h' hh K' hk => ?_⟩
            simp only [pass, hh id (by simp), e]
            exact f h' (fun i hi => hh i (by
              rcases List.mem_append.1 hi with hi | hi
              · exact List.mem_append.2 (.inl (by simp at hi; simp [hi]))
              · exact List.mem_append.2 (.inr hi))) _ hk
          · exact hK.elim
        · exact hK.elim

theorem fix_conv {P : Program} {src dst : TypeId} {k : Nat} {x : AV} {h : Nat → Blk} : Fixes (fun h K => convW P src dst k h x K) h := by
  intro K hK
  unfold convW at hK
  split at hK
  · split at hK
    · rename_i e
      exact ⟨_, hK.2.2, fun h' _ K' hk => by unfold convW; simp only [e]; exact ⟨hK.1, hK.2.1, hk⟩⟩
    · exact hK.elim
  · obtain ⟨h1, hK⟩ := hK
    split at hK
    · rename_i e
      exact ⟨_, hK, fun h' _ K' hk => by unfold convW; simp only [e, if_true]; exact ⟨h1, hk⟩⟩
    · rename_i e
      exact ⟨_, hK.2.2.2, fun h' _ K' hk => by unfold convW; simp only [e]; exact ⟨h1, hK.1, hK.2.1, hK.2.2.1, hk⟩⟩
  · rename_i e1 e2
    obtain ⟨h1, h2, h3, hK⟩ := hK
    obtain ⟨xs, rd, ⟨s, hs, hK⟩, f⟩ := fix_cont hK
    refine ⟨_, hK, fun h' hh K' hk => ?_⟩
    unfold convW
    split
    · exact absurd rfl (e1 _ _)
    · exact absurd rfl (e2 _)
    · exact ⟨h1, h2, h3, f h' hh _ ⟨s, hs, hk⟩⟩

theorem fix_make {P : Program} {t : TypeId} {k : Nat} {l c : AV} {h : Nat → Blk} : Fixes (fun _ K => makeW P t k l c K) h := by
  intro K hK
  unfold makeW at hK
  split at hK
  · obtain ⟨h1, h2, h3, hK⟩ := hK
    split at hK
    · rename_i e
      exact ⟨_, hK.2, fun h' _ K' hk => by unfold makeW; simp only [e]; exact ⟨h1, h2, h3, hK.1, hk⟩⟩
    · exact hK.elim
  · exact hK.elim

theorem fix_buildSlice {P : Program} {t : TypeId} {n : Nat} {parts : Array (Nat × Operand)} {k : Nat} {ρ : Operand → AV} {h : Nat → Blk} : Fixes (fun h K => buildSliceW P t n parts k ρ h K) h := by
  rintro K ⟨h1, h2, h3, hK⟩
  obtain ⟨xs, ws, rd, hK, f⟩ := fix_pubs hK
  exact ⟨_, hK, fun h' hh K' hk => ⟨h1, h2, h3, f h' hh _ hk⟩⟩

theorem fix_bnd {ρ : Operand → AV} {x : Option Operand} {d : Nat} {K : Int → Prop} (hK : bnd ρ x d K) : ∃ i, K i ∧ ∀ K' : Int → Prop, K' i → bnd ρ x d K' := by
  unfold bnd at hK
  split at hK
  · exact ⟨_, hK, fun K' hk => hk⟩
  · split at hK
    · rename_i e; exact ⟨_, hK, fun K' hk => by unfold bnd; simp only [e]; exact hk⟩
    · exact hK.elim

theorem fix_slice {P : Program} {t : TypeId} {x : AV} {lo hi mx : Option Operand} {k : Nat} {ρ : Operand → AV} {h : Nat → Blk} : Fixes (fun _ K => sliceW P t x lo hi mx k ρ K) h := by
  intro K hK
  unfold sliceW at hK
  split at hK
  · obtain ⟨h1, h2, hK⟩ := hK
    obtain ⟨i, hK, f1⟩ := fix_bnd hK
    obtain ⟨j, hK, f2⟩ := fix_bnd hK
    exact ⟨_, hK.2.2.2, fun h' _ K' hk => by unfold sliceW; exact ⟨h1, h2, f1 _ (f2 _ ⟨hK.1, hK.2.1, hK.2.2.1, hk⟩)⟩⟩
  · obtain ⟨h1, hK⟩ := hK
    split at hK
    · obtain ⟨i, hK, f1⟩ := fix_bnd hK
      obtain ⟨j, hK, f2⟩ := fix_bnd hK
      exact ⟨_, hK.2.2.2, fun h' _ K' hk => by unfold sliceW; exact ⟨h1, f1 _ (f2 _ ⟨hK.1, hK.2.1, hK.2.2.1, hk⟩)⟩⟩
    · obtain ⟨h2, hK⟩ := hK
      obtain ⟨i, hK, f1⟩ := fix_bnd hK
      obtain ⟨j, hK, f2⟩ := fix_bnd hK
      obtain ⟨l, hK, f3⟩ := fix_bnd hK
      exact ⟨_, hK.2.2.2, fun h' _ K' hk => by unfold sliceW; exact ⟨h1, h2, f1 _ (f2 _ (f3 _ ⟨hK.1, hK.2.1, hK.2.2.1, hk⟩))⟩⟩
  · obtain ⟨h1, hK⟩ := hK
    split at hK
    · obtain ⟨i, hK, f1⟩ := fix_bnd hK
      obtain ⟨j, hK, f2⟩ := fix_bnd hK
      exact ⟨_, hK.2.2.2, fun h' _ K' hk => by unfold sliceW; exact ⟨h1, f1 _ (f2 _ ⟨hK.1, hK.2.1, hK.2.2.1, hk⟩)⟩⟩
    · obtain ⟨h2, hK⟩ := hK
      obtain ⟨i, hK, f1⟩ := fix_bnd hK
      obtain ⟨j, hK, f2⟩ := fix_bnd hK
      obtain ⟨l, hK, f3⟩ := fix_bnd hK
      exact ⟨_, hK.2.2.2, fun h' _ K' hk => by unfold sliceW; exact ⟨h1, h2, f1 _ (f2 _ (f3 _ ⟨hK.1, hK.2.1, hK.2.2.1, hk⟩))⟩⟩
  · exact hK.elim

theorem fix_gt {α : Type} {xs : List α} {i : Int} {K : α → Prop} (hK : gt xs i K) : ∃ x, K x ∧ ∀ K' : α → Prop, K' x → gt xs i K' := by
  obtain ⟨h0, hK⟩ := hK
  split at hK
  · rename_i x e
    exact ⟨x, hK, fun K' hk => ⟨h0, by simp only [e]; exact hk⟩⟩
  · exact hK.elim

theorem fix_indexAddr {P : Program} {t : TypeId} {x i : AV} {h : Nat → Blk} : Fixes (fun _ K => indexAddrW P t x i fun v => K ⟨v, [], []⟩) h := by
  intro K hK
  unfold indexAddrW at hK
  split at hK
  · split at hK
    · obtain ⟨h1, hK⟩ := hK
      obtain ⟨y, hK, f⟩ := fix_gt hK
      exact ⟨_, hK, fun h' _ K' hk => by unfold indexAddrW; exact ⟨h1, f _ hk⟩⟩
    · exact ⟨_, hK.2.2.2, fun h' _ K' hk => by unfold indexAddrW; exact ⟨hK.1, hK.2.1, hK.2.2.1, hk⟩⟩
    · split at hK
      · rename_i e
        exact ⟨_, hK.2.2, fun h' _ K' hk => by unfold indexAddrW; simp only [e]; exact ⟨hK.1, hK.2.1, hk⟩⟩
      · exact hK.elim
    · exact hK.elim
  · exact hK.elim

theorem fix_index {P : Program} {t : TypeId} {x i : AV} {h : Nat → Blk} : Fixes (fun _ K => indexW P t x i fun v => K ⟨v, [], []⟩) h := by
  intro K hK
  unfold indexW at hK
  split at hK
  · split at hK
    · obtain ⟨h1, hK⟩ := hK
      obtain ⟨y, hK, f⟩ := fix_gt hK
      exact ⟨_, hK, fun h' _ K' hk => by unfold indexW; exact ⟨h1, f _ hk⟩⟩
    · exact hK.elim
  · exact hK.elim

theorem fix_load {P : Program} {t : TypeId} {a : AV} {h : Nat → Blk} : Fixes (fun h K => loadW P t h a K) h := by
  intro K hK
  unfold loadW at hK
  split at hK
  · rename_i et
    obtain ⟨h1, hK⟩ := hK
    split at hK
    · exact ⟨_, hK, fun h' _ K' hk => by unfold loadW; simp only [et]; exact ⟨h1, hk⟩⟩
    · split at hK
      · rename_i e
        obtain ⟨y, hK, f⟩ := fix_gt hK
        exact ⟨_, hK, fun h' hh K' hk => by unfold loadW; simp only [et, hh _ (List.mem_singleton.2 rfl), e]; exact ⟨h1, f _ hk⟩⟩
      · rename_i e
        obtain ⟨y, hK, f⟩ := fix_gt hK
        exact ⟨_, hK, fun h' hh K' hk => by unfold loadW; simp only [et, hh _ (List.mem_singleton.2 rfl), e]; exact ⟨h1, f _ hk⟩⟩
      · exact hK.elim
    · exact hK.elim
  · rename_i et
    split at hK
    · exact ⟨_, hK.2, fun h' _ K' hk => by unfold loadW; simp only [et]; exact ⟨hK.1, hk⟩⟩
    · split at hK
      · rename_i e
        exact ⟨_, hK.2, fun h' hh K' hk => by unfold loadW; simp only [et, hh _ (List.mem_singleton.2 rfl), e]; exact ⟨hK.1, hk⟩⟩
      · rename_i e
        exact ⟨_, hK.2, fun h' hh K' hk => by unfold loadW; simp only [et, hh _ (List.mem_singleton.2 rfl), e]; exact ⟨hK.1, hk⟩⟩
      · exact hK.elim
    · exact hK.elim
  · exact hK.elim

theorem fix_cells {h : Nat → Blk} {v : AV} {K : List PV → List (Nat × Blk) → List Nat → Prop} (hK : cellsW h v K) : ∃ xs ws rd, K xs ws rd ∧ ∀ h', (∀ id ∈ rd, h' id = h id) → ∀ K' : List PV → List (Nat × Blk) → List Nat → Prop, K' xs ws rd → cellsW h' v K' := by
  unfold cellsW at hK
  split at hK
  · exact ⟨_, _, _, hK.2, fun h' _ K' hk => ⟨hK.1, hk⟩⟩
  · obtain ⟨xs, ws, rd, hK, f⟩ := fix_pubs hK
    exact ⟨_, _, _, hK, fun h' hh K' hk => by unfold cellsW; exact f h' hh _ hk⟩
  · rename_i e1 e2
    obtain ⟨x, ws, rd, hK, f⟩ := fix_pub hK
    refine ⟨_, _, _, hK, fun h' hh K' hk => ?_⟩
    unfold cellsW
    split
    · exact absurd rfl (e1 _)
    · exact absurd rfl (e2 _)
    · exact f h' hh _ hk

theorem fix_store {P : Program} {t : TypeId} {a v : AV} {h : Nat → Blk} : Fixes (fun h K => storeW P t h a v K) h := by
  intro K hK
  unfold storeW at hK
  split at hK
  · rename_i et
    split at hK
    · split at hK
      · rename_i e
        obtain ⟨xs, ws, rd, ⟨h1, h2, h3, hK⟩, f⟩ := fix_cells hK
        refine ⟨_, hK, fun h' hh K' hk => ?_⟩
        unfold storeW
        simp only [et, hh _ (List.mem_cons_self ..), e]
        exact f h' (fun id hid => hh id (List.mem_cons_of_mem _ hid)) _ ⟨h1, h2, h3, hk⟩
      · exact hK.elim
    · exact hK.elim
  · exact hK.elim

theorem fix_alloc {P : Program} {t : TypeId} {k : Nat} {h : Nat → Blk} : Fixes (fun _ K => allocW P t k K) h := by
  intro K hK
  unfold allocW at hK
  split at hK
  · rename_i e
    exact ⟨_, hK.2.2.2, fun h' _ K' hk => by unfold allocW; simp only [e]; exact ⟨hK.1, hK.2.1, hK.2.2.1, hk⟩⟩
  · exact hK.elim

theorem fix_box {k : Nat} {v : AV} {h : Nat → Blk} : Fixes (fun h K => boxW h k v K) h := by
  intro K hK
  obtain ⟨xs, ws, rd, ⟨h1, h2, hK⟩, f⟩ := fix_cells hK
  exact ⟨_, hK, fun h' hh K' hk => f h' hh _ ⟨h1, h2, hk⟩⟩

theorem fix_nth {xs : List AV} {i : Nat} {K : AV → Prop} (hK : AV.nth xs i K) : ∃ x, K x ∧ ∀ K' : AV → Prop, K' x → AV.nth xs i K' := by
  unfold AV.nth at hK
  split at hK
  · rename_i x e
    exact ⟨x, hK, fun K' hk => by unfold AV.nth; simp only [e]; exact hk⟩
  · exact hK.elim

theorem fix_field {P : Program} {t : TypeId} {f : Nat} {v : AV} {k : Nat} {h : Nat → Blk} : Fixes (fun _ K => fieldW P t f v fun v => arr k v K) h := by
  intro K hK
  unfold fieldW at hK
  split at hK
  · rename_i et
    split at hK
    · obtain ⟨y, hK, g⟩ := fix_gt hK
      obtain ⟨r, hr, f⟩ := fix_arr (h := h) K hK
      exact ⟨r, hr, fun h' hh K' hk => by unfold fieldW; simp only [et]; exact g _ (f h' hh K' hk)⟩
    · obtain ⟨y, hK, g⟩ := fix_nth hK
      obtain ⟨r, hr, f⟩ := fix_arr (h := h) K hK
      exact ⟨r, hr, fun h' hh K' hk => by unfold fieldW; simp only [et]; exact g _ (f h' hh K' hk)⟩
    · exact hK.elim
  · exact hK.elim

theorem fix_fieldAddr {P : Program} {t : TypeId} {f : Nat} {a : AV} {h : Nat → Blk} : Fixes (fun _ K => fieldAddrW P t f a fun v => K ⟨v, [], []⟩) h := by
  intro K hK
  unfold fieldAddrW at hK
  split at hK
  · rename_i et
    obtain ⟨h1, hK⟩ := hK
    split at hK
    · exact ⟨_, hK, fun h' _ K' hk => by unfold fieldAddrW; simp only [et]; exact ⟨h1, hk⟩⟩
    · exact ⟨_, hK, fun h' _ K' hk => by unfold fieldAddrW; simp only [et]; exact ⟨h1, hk⟩⟩
    · exact hK.elim
  · exact hK.elim

theorem fix_fill {places : List Nat} : ∀ {parts : List (Nat × AV)} {cells : List AV} {K : List AV → Prop}, fillW places cells parts K → ∃ cs, K cs ∧ ∀ K' : List AV → Prop, K' cs → fillW places cells parts K'
  | [], cells, K, hK => ⟨cells, hK, fun K' hk => hk⟩
  | (i, v) :: rest, cells, K, hK => by
    simp only [fillW] at hK
    split at hK
    · rename_i o e
      obtain ⟨h1, h2, hK⟩ := hK
      obtain ⟨cs, hK, f⟩ := fix_fill hK
      exact ⟨cs, hK, fun K' hk => by simp only [fillW, e]; exact ⟨h1, h2, f _ hk⟩⟩
    · exact hK.elim

theorem fix_build {P : Program} {t : TypeId} {parts : List (Nat × AV)} {h : Nat → Blk} : Fixes (fun _ K => buildW P t parts fun v => K ⟨v, [], []⟩) h := by
  intro K hK
  unfold buildW at hK
  split at hK
  · rename_i e1 e2
    obtain ⟨cs, hK, f⟩ := fix_fill hK
    exact ⟨_, hK, fun h' _ K' hk => by unfold buildW; simp only [e1, e2]; exact f _ hk⟩
  · exact hK.elim

theorem fix_append {P : Program} {t t' : TypeId} {k : Nat} {s x : AV} {h : Nat → Blk} : Fixes (fun h K => appendW P t t' h k s x K) h := by
  rintro K ⟨h1, h2, hK⟩
  obtain ⟨ys, rd, hK, f⟩ := fix_cont hK
  split at hK
  · rename_i id off len _
    split at hK
    · rename_i m c e
      obtain ⟨h3, h4, hK⟩ := hK
      have done : ∀ r : R, id ∈ r.rd → (∀ i ∈ rd, i ∈ r.rd) → K r → (∀ K' : R → Prop, K' r → (if off + len = c.length then K' ⟨.ref k 0 (len + ys.length), [(id, .dead), (k, .live m (c.drop off ++ ys))], id :: rd⟩
          else if off + len + ys.length ≤ c.length then K' ⟨.ref k off (len + ys.length), [(id, .dead), (k, .live m (c.take (off + len) ++ ys ++ c.drop (off + len + ys.length)))], id :: rd⟩
          else K' ⟨.ref k 0 (len + ys.length), [(id, .dead), (k, .live m ((c.drop off).take len ++ ys))], id :: rd⟩)) →
          ∃ r, K r ∧ ∀ h', (∀ i ∈ r.rd, h' i = h i) → ∀ K' : R → Prop, K' r → appendW P t t' h' k (.ref id off len) x K' := by
        intro r hi hrd hr hk
        refine ⟨r, hr, fun h' hh K' hk' => ⟨h1, h2, f h' (fun i hi => hh i (hrd i hi)) _ ?_⟩⟩
        simp only [hh id hi, e]
        exact ⟨h3, h4, hk K' hk'⟩
      by_cases c1 : off + len = c.length
      · rw [if_pos c1] at hK
        exact done _ (by simp) (fun i hi => by simp [hi]) hK fun K' hk => by rw [if_pos c1]; exact hk
      · rw [if_neg c1] at hK
        by_cases c2 : off + len + ys.length ≤ c.length
        · rw [if_pos c2] at hK
          exact done _ (by simp) (fun i hi => by simp [hi]) hK fun K' hk => by rw [if_neg c1, if_pos c2]; exact hk
        · rw [if_neg c2] at hK
          exact done _ (by simp) (fun i hi => by simp [hi]) hK fun K' hk => by rw [if_neg c1, if_neg c2]; exact hk
    · exact hK.elim
  · exact ⟨_, hK.2, fun h' hh K' hk => ⟨h1, h2, f h' hh _ ⟨hK.1, hk⟩⟩⟩
  · exact hK.elim

theorem fix_mm {b : Bool} {x y : AV} {h : Nat → Blk} : Fixes (fun _ K => mmW b x y fun v => K ⟨v, [], []⟩) h := by
  intro K hK
  unfold mmW at hK
  split at hK
  · exact ⟨_, hK.2, fun h' _ K' hk => ⟨hK.1, hk⟩⟩
  · exact hK.elim

theorem fix_len {P : Program} {t : TypeId} {x : AV} {h : Nat → Blk} : Fixes (fun _ K => lenW P t x fun v => K ⟨v, [], []⟩) h := by
  intro K hK
  unfold lenW at hK
  split at hK
  · exact ⟨_, hK.2, fun h' _ K' hk => ⟨hK.1, hk⟩⟩
  · exact ⟨_, hK.2, fun h' _ K' hk => ⟨hK.1, hk⟩⟩
  · exact ⟨_, hK.2, fun h' _ K' hk => ⟨hK.1, hk⟩⟩
  · exact hK.elim

theorem outWs_congr {h h' : Nat → Blk} {outs : List (Option (List PV))} : ∀ {ms : List (Option Nat)} {j : Nat}, (∀ i ∈ ms.filterMap id, h' i = h i) → outWs h' outs j ms = outWs h outs j ms
  | [], _, _ => rfl
  | none :: ms, j, hh => by simp only [outWs]; exact outWs_congr (by simpa using hh)
  | some i :: ms, j, hh => by
    simp only [outWs]
    rw [hh i (by simp), outWs_congr fun j hid => hh j (by simp at hid ⊢; exact .inr hid)]

theorem fix_call {P : Program} {sg : FuncId → List Bool} {k : Nat} {f : FuncId} {vs : List AV} {h : Nat → Blk} : Fixes (fun h K => callW P sg h k f vs K) h := by
  intro K hK
  obtain ⟨as, rd, ms, ⟨h1, tk, outs, res, h2, hK⟩, g⟩ := fix_pass hK
  refine ⟨_, hK, fun h' hh K' hk => g h' hh _ ⟨h1, tk, outs, res, h2, ?_⟩⟩
  rw [outWs_congr fun i hid => hh i (List.mem_append.2 (.inl hid))]
  exact hk

theorem opB_fix {P : Program} {sg : FuncId → List Bool} {ρ : Operand → AV} {k : Nat} {op : Op} {h : Nat → Blk} : Fixes (fun h K => opB P sg ρ h k op K) h := by
  intro K hK
  unfold opB at hK
  split at hK
  · obtain ⟨r, hr, f⟩ := fix_arr (h := h) K hK; exact ⟨r, hr, f⟩
  · obtain ⟨r, hr, f⟩ := fix_arr (h := h) K hK; exact ⟨r, hr, f⟩
  · obtain ⟨r, hr, f⟩ := fix_pick (h := h) K hK; exact ⟨r, hr, f⟩
  · obtain ⟨r, hr, f⟩ := fix_bin (h := h) K hK; exact ⟨r, hr, f⟩
  · obtain ⟨r, hr, f⟩ := fix_un (h := h) K hK; exact ⟨r, hr, f⟩
  · obtain ⟨r, hr, f⟩ := fix_conv (h := h) K hK; exact ⟨r, hr, f⟩
  · obtain ⟨r, hr, f⟩ := fix_make (h := h) K hK; exact ⟨r, hr, f⟩
  · obtain ⟨r, hr, f⟩ := fix_buildSlice (h := h) K hK; exact ⟨r, hr, f⟩
  · obtain ⟨r, hr, f⟩ := fix_slice (h := h) K hK; exact ⟨r, hr, f⟩
  · obtain ⟨r, hr, f⟩ := fix_indexAddr (h := h) K hK; exact ⟨r, hr, f⟩
  · obtain ⟨r, hr, f⟩ := fix_index (h := h) K hK; exact ⟨r, hr, f⟩
  · obtain ⟨r, hr, f⟩ := fix_load (h := h) K hK; exact ⟨r, hr, f⟩
  · obtain ⟨r, hr, f⟩ := fix_store (h := h) K hK; exact ⟨r, hr, f⟩
  · obtain ⟨r, hr, f⟩ := fix_alloc (h := h) K hK; exact ⟨r, hr, f⟩
  · obtain ⟨r, hr, f⟩ := fix_box (h := h) K hK; exact ⟨r, hr, f⟩
  · obtain ⟨r, hr, f⟩ := fix_build (h := h) K hK; exact ⟨r, hr, f⟩
  · obtain ⟨r, hr, f⟩ := fix_field (h := h) K hK; exact ⟨r, hr, f⟩
  · obtain ⟨r, hr, f⟩ := fix_fieldAddr (h := h) K hK; exact ⟨r, hr, f⟩
  · split at hK
    · rename_i e
      obtain ⟨y, hK, g⟩ := fix_nth hK
      obtain ⟨r, hr, f⟩ := fix_arr (h := h) K hK
      exact ⟨r, hr, fun h' hh K' hk => by simp only [opB, e]; exact g _ (f h' hh K' hk)⟩
    · exact hK.elim
  · split at hK
    · rename_i e; exact ⟨_, hK, fun h' _ K' hk => by simp only [opB, e]; exact hk⟩
    · rename_i e; exact ⟨_, hK, fun h' _ K' hk => by simp only [opB, e]; exact hk⟩
    · rename_i e; exact ⟨_, hK, fun h' _ K' hk => by simp only [opB, e]; exact hk⟩
    · rename_i e; exact ⟨_, hK, fun h' _ K' hk => by simp only [opB, e]; exact hk⟩
    · exact hK.elim
  · exact ⟨_, hK, fun h' _ K' hk => hk⟩
  · obtain ⟨r, hr, f⟩ := fix_len (h := h) K hK; exact ⟨r, hr, f⟩
  · obtain ⟨r, hr, f⟩ := fix_append (h := h) K hK; exact ⟨r, hr, f⟩
  · obtain ⟨r, hr, f⟩ := fix_mm (h := h) K hK; exact ⟨r, hr, f⟩
  · obtain ⟨r, hr, f⟩ := fix_mm (h := h) K hK; exact ⟨r, hr, f⟩
  · split at hK
    · rename_i e
      obtain ⟨r, hr, f⟩ := fix_call (h := h) K hK
      exact ⟨r, hr, fun h' hh K' hk => by simp only [opB, e]; exact f h' hh K' hk⟩
    · rename_i e
      obtain ⟨r, hr, f⟩ := fix_call (h := h) K hK
      exact ⟨r, hr, fun h' hh K' hk => by simp only [opB, e]; exact f h' hh K' hk⟩
    · exact hK.elim
  · exact hK.elim

theorem fix_binX {op : BinOp} {x y : AV} {h : Nat → Blk} : Fixes (fun _ K => binX op x y fun v => K ⟨.p v, [], []⟩) h := by
  intro K hK
  unfold binX at hK
  split at hK
  · split at hK
    · exact ⟨_, hK.2, fun h' _ K' hk => by unfold binX; exact ⟨hK.1, hk⟩⟩
    · exact ⟨_, hK.2, fun h' _ K' hk => by unfold binX; exact ⟨hK.1, hk⟩⟩
    · exact ⟨_, hK.2, fun h' _ K' hk => by unfold binX; exact ⟨hK.1, hk⟩⟩
    · exact hK.elim
  · exact hK.elim
theorem fix_sliceX {P : Program} {t : TypeId} {x : AV} {lo hi mx : Option Operand} {ρ : Operand → AV} {h : Nat → Blk} : Fixes (fun h K => sliceX P t x lo hi mx h ρ K) h := by
  intro K hK
  simp only [sliceX] at hK
  split at hK
  · rename_i id off len
    split at hK
    · rename_i m c e
      obtain ⟨h1, h2, hK⟩ := hK
      split at hK
      · obtain ⟨i, hK, f1⟩ := fix_bnd hK
        obtain ⟨j, hK, f2⟩ := fix_bnd hK
        refine ⟨_, hK.2.2.2, fun h' hh K' hk => ?_⟩
        have e' : h' id = .live m c := by rw [hh id (by simp)]; exact e
        simp only [sliceX, e']
        exact ⟨h1, h2, f1 _ (f2 _ ⟨hK.1, hK.2.1, hK.2.2.1, hk⟩)⟩
      · obtain ⟨h3, hK⟩ := hK
        obtain ⟨i, hK, f1⟩ := fix_bnd hK
        obtain ⟨j, hK, f2⟩ := fix_bnd hK
        obtain ⟨l, hK, f3⟩ := fix_bnd hK
        refine ⟨_, hK.2.2.2.2, fun h' hh K' hk => ?_⟩
        have e' : h' id = .live m c := by rw [hh id (by simp)]; exact e
        simp only [sliceX, e']
        exact ⟨h1, h2, h3, f1 _ (f2 _ (f3 _ ⟨hK.1, hK.2.1, hK.2.2.1, hK.2.2.2.1, hk⟩))⟩
    · exact hK.elim
  · exact hK.elim
theorem fix_clear {P : Program} {t : TypeId} {x : AV} {h : Nat → Blk} : Fixes (fun h K => clearW P t h x K) h := by
  intro K hK
  simp only [clearW] at hK
  split at hK
  · rename_i id off len
    split at hK
    · rename_i n z m c e1 e
      refine ⟨_, hK.2.2, fun h' hh K' hk => ?_⟩
      have e' : h' id = .live m c := by rw [hh id (by simp)]; exact e
      simp only [clearW, e1, e']
      exact ⟨hK.1, hK.2.1, hk⟩
    · exact hK.elim
  · exact hK.elim
theorem opW_fix {P : Program} {sg : FuncId → List Bool} {ρ : Operand → AV} {k : Nat} {op : Op} {h : Nat → Blk} : Fixes (fun h K => opW P sg ρ h k op K) h := by
  intro K hK
  unfold opW at hK
  split at hK
  · rename_i hx
    have back : ∀ h' K', opE P ρ h' op K' → opW P sg ρ h' k op K' := fun h' K' hk => by unfold opW; rw [if_pos hx]; exact hk
    unfold opE at hK
    split at hK
    · obtain ⟨r, hr, f⟩ := fix_binX (h := h) K hK; exact ⟨r, hr, fun h' hh K' hk => back h' K' (f h' hh K' hk)⟩
    · obtain ⟨r, hr, f⟩ := fix_sliceX (h := h) K hK; exact ⟨r, hr, fun h' hh K' hk => back h' K' (f h' hh K' hk)⟩
    · obtain ⟨r, hr, f⟩ := fix_clear (h := h) K hK; exact ⟨r, hr, fun h' hh K' hk => back h' K' (f h' hh K' hk)⟩
    · exact hK.elim
  · rename_i hx
    obtain ⟨r, hr, f⟩ := opB_fix (h := h) K hK
    exact ⟨r, hr, fun h' hh K' hk => by show opW P sg ρ h' k op K'; unfold opW; rw [if_neg hx]; exact f h' hh K' hk⟩

theorem opW_mono {P : Program} {sg : FuncId → List Bool} {ρ : Operand → AV} {k : Nat} {op : Op} {h : Nat → Blk} {K K' : R → Prop} (hK : opW P sg ρ h k op K) (hh : ∀ r, K r → K' r) : opW P sg ρ h k op K' := by
  obtain ⟨r, hr, f⟩ := opW_fix K hK
  exact f h (fun _ _ => rfl) K' (hh r hr)

end Go.Gl
