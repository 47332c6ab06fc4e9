/-
  The law of tables as texts. Conditions: none.
-/
import Derived.Test.YtmgobchehjpmfaaDoorTab
set_option linter.unusedSimpArgs false
set_option linter.unusedVariables false
set_option maxRecDepth 20000
set_option linter.unusedSectionVars false
namespace Go.Gl
open Go Go.Proofs Go.RowKit Go.ChangeShapes
variable [Amb]
variable [TabA]
omit [Amb] [TabA] in
theorem wf_rg {x : Int} (h : (Lit.int .i64 x).wf = true) : -9223372036854775808 ≤ x ∧ x ≤ 9223372036854775807 := by
  simp only [Lit.wf, Bool.and_eq_true, decide_eq_true_eq, IntKind.min, IntKind.max] at h
  simpa [IntKind.signed, IntKind.bits] using h
section
variable {H : Type} {enc : TypeId × Value → H} {P : Program} {w : World} {base : Nat} {held : Bool} {G : Nat → Prop}
omit [Amb] [TabA] in
theorem ints_rowW {t e : TypeId} {fuel : Nat} {v : Value} {x : DataW H × List MemPlace} (ht : P.underlying t = some (.slice e)) (he : P.underlying e = some (.int .i64)) (hc : P.cellsOf e = 1)
    (h : DataW.trod enc P w base (fun _ => true) held fuel t [v] = some x) : ∃ zs : {l : List Int // ∀ x ∈ l, -9223372036854775808 ≤ x ∧ x ≤ 9223372036854775807}, v.oneCell' = true ∧ RepP w (fun _ => False) G (ints .i64 zs.1) v := by
  rcases open_ints ht he hc h with ⟨hcs, _⟩ | ⟨a, l, c, zs, hcs, _, hl, hm, hz, _, hcell, hwz⟩
  · simp only [List.cons.injEq, and_true] at hcs
    subst hcs
    exact ⟨⟨[], by simp⟩, rfl, (IsRow.rep (zs := []) (.inl ⟨rfl, rfl, rfl, rfl⟩) : RepP w _ G (ints .i64 _) _)⟩
  · simp only [List.cons.injEq, and_true] at hcs
    subst hcs
    exact ⟨⟨zs.take l, fun x hx => wf_rg (hwz x (List.mem_of_mem_take hx))⟩, rfl, IsRow.rep (.inr ⟨_, rfl, hl, hm, by simpa using hz, hcell, hwz⟩)⟩
omit [Amb] [TabA] in
theorem open_intssW {t e i : TypeId} {fuel : Nat} {cs : List Value} {x : DataW H × List MemPlace} (ht : P.underlying t = some (.slice e)) (hc : P.cellsOf e = 1)
    (he : P.underlying e = some (.slice i)) (hi : P.underlying i = some (.int .i64)) (hci : P.cellsOf i = 1)
    (h : DataW.trod enc P w base (fun _ => true) held fuel t cs = some x) : ∃ (v : Value) (L : List (List Int)), cs = [v] ∧ RepP w (fun _ => False) G (.sl .ro (L.map (elI true))) v ∧ ∀ l ∈ L, ∀ x ∈ l, -9223372036854775808 ≤ x ∧ x ≤ 9223372036854775807 := by
  obtain ⟨v, L, h1, h2⟩ := open_rows (G := G) (fun a : {l : List Int // ∀ x ∈ l, -9223372036854775808 ≤ x ∧ x ≤ 9223372036854775807} => elI true a.1) ht hc (fun n v y hy => by
    obtain ⟨zs, h1, h2⟩ := ints_rowW (G := G) he hi hci hy
    exact ⟨zs, h1, h2⟩) h
  refine ⟨v, L.map (·.1), h1, ?_, fun l hl => ?_⟩
  · rw [List.map_map]; exact h2
  · obtain ⟨a, _, rfl⟩ := List.mem_map.1 hl
    exact a.2
end
theorem laws_FnExactTableauText_c (m : List (List Int)) (hm : m.length ≤ 9223372036854775807) (hl : ∀ l ∈ m, l.length ≤ 9223372036854775807) (hb : ∀ l ∈ m, ∀ x ∈ l, -9223372036854775808 ≤ x ∧ x ≤ 9223372036854775807) : Fun Tryd.prog 7 [(.sl (.lent true) (List.map (elI true) (m)))] [(.bool (true))] := by
  have hz := laws_szIntSS_c (e0 := true) (m0 := true) m 1048576 hm hl (by decide) (by decide)
  by_cases hs : 0 ≤ szSS m 1048576
  · obtain ⟨h1, h2⟩ := szSS_all hs
    have h3 := szSS_sum hs
    have h4 : ∀ l ∈ m, l.length ≤ 1048576 := fun l h => by have := h2 l h; omega
    have h2 : ∀ l ∈ m, l.length ≤ 1099511627776 := fun l h => by have := h2 l h; omega
    refine Fun.of (sg := sg0) (ts := [2]) mo Tryd.func7 rfl rfl rfl rfl (by kernel_rfl) (by simp only [go_sem]) rfl ?_
    have fc : True := trivial
    repeat' first
      | with_reducible first | refine stp ?_ | refine q_blk_o rfl ?_ | (refine hK _ ?_; clear hK) | (refine hA ?_; clear hA hB) | (refine hB ?_; clear hA hB) | exact v_end0 | exact v_end0' | refine v_gb1 ?_ ?_ | refine v_gb0 ?_ ?_ | refine And.intro ?_ ?_
      | (with_reducible refine p_ok ?_; decide)
      | ((first | with_reducible first | refine v_region rfl rfl (fun K hK => ?_) | refine v_draws rfl rfl (fun K hK => ?_) | refine v_if (fun A B hA hB => ?_) | refine v_end rfl ?_ | refine v_fin1 ?_ | refine v_finC1 ?_ | refine v_finR1 ?_ | refine v_callE (hz) ?_ | refine v_callE (laws_szIntSS_c _ _ ?_ ?_ ?_ ?_) ?_ | refine v_callE (laws_toIntSS_c _ ?_ ?_) ?_ | refine v_callE (spec_TableauText_c _ ?_ ?_ ?_ ?_) ?_ | refine v_callE (impl_TableauText_c _ ?_ ?_ ?_ ?_) ?_ | refine v_callE (laws_eqIntSS_c _ _ ?_ ?_ ?_ ?_) ?_ | refine v_finO1 rfl ?_ | refine v_finN1 rfl ?_ ?_ | refine v_apj ?_ (fun j' => ?_) | refine v_stz ?_ ?_ ?_ ?_ ?_ | refine v_stq ?_ | refine v_cv1 ?_ ?_ ?_ | (intro hc; replace fc := And.intro hc fc; try simp only [hcs] at hc)) <;> (try simp (config := { maxSteps := 1000000 }) only [go_sem, ↓reduceIte, reduceCtorEq, Nat.reduceEqDiff, Nat.reduceAdd, Nat.reduceMul, Nat.reduceSub, Nat.reduceLeDiff, Int.reduceLT, Int.reduceLE, Int.reduceEq, Int.reduceSub, Int.reduceAdd, Int.reduceMul, Int.reduceNeg, Int.reduceToNat, fc]) <;> (try with_reducible rfl))
    all_goals first | omega | exact h2 | exact h4 | exact hb | (simp at hc; done) | skip
    all_goals trace_state
  · refine Fun.of (sg := sg0) (ts := [2]) mo Tryd.func7 rfl rfl rfl rfl (by kernel_rfl) (by simp only [go_sem]) rfl ?_
    have fc : True := trivial
    repeat' first
      | with_reducible first | refine stp ?_ | refine q_blk_o rfl ?_ | (refine hK _ ?_; clear hK) | (refine hA ?_; clear hA hB) | (refine hB ?_; clear hA hB) | exact v_end0 | exact v_end0' | refine v_gb1 ?_ ?_ | refine v_gb0 ?_ ?_ | refine And.intro ?_ ?_
      | (with_reducible refine p_ok ?_; decide)
      | ((first | with_reducible first | refine v_region rfl rfl (fun K hK => ?_) | refine v_draws rfl rfl (fun K hK => ?_) | refine v_if (fun A B hA hB => ?_) | refine v_end rfl ?_ | refine v_fin1 ?_ | refine v_finC1 ?_ | refine v_finR1 ?_ | refine v_callE (hz) ?_ | refine v_callE (laws_szIntSS_c _ _ ?_ ?_ ?_ ?_) ?_ | refine v_callE (laws_toIntSS_c _ ?_ ?_) ?_ | refine v_callE (spec_TableauText_c _ ?_ ?_ ?_ ?_) ?_ | refine v_callE (impl_TableauText_c _ ?_ ?_ ?_ ?_) ?_ | refine v_callE (laws_eqIntSS_c _ _ ?_ ?_ ?_ ?_) ?_ | refine v_finO1 rfl ?_ | refine v_finN1 rfl ?_ ?_ | refine v_apj ?_ (fun j' => ?_) | refine v_stz ?_ ?_ ?_ ?_ ?_ | refine v_stq ?_ | refine v_cv1 ?_ ?_ ?_ | (intro hc; replace fc := And.intro hc fc; try simp only [hcs] at hc)) <;> (try simp (config := { maxSteps := 1000000 }) only [go_sem, ↓reduceIte, reduceCtorEq, Nat.reduceEqDiff, Nat.reduceAdd, Nat.reduceMul, Nat.reduceSub, Nat.reduceLeDiff, Int.reduceLT, Int.reduceLE, Int.reduceEq, Int.reduceSub, Int.reduceAdd, Int.reduceMul, Int.reduceNeg, Int.reduceToNat, fc]) <;> (try with_reducible rfl))
    all_goals omega
end Go.Gl
