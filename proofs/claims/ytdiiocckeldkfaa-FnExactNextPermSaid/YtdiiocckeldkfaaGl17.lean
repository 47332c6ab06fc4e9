/-
  A program logic over the walk's rules, seventeenth part: code, and a function's contract by its body. Conditions: those that each lemma names.
-/
import Derived.Test.YtdiiocckeldkfaaGl22
namespace Go.Gl
open Go

section
variable {P : Program} {sg : FuncId → List Bool} {w0 : World} {nA nt : Nat} {M G : Nat → Prop} {ι0 : Nat → Loc} {w : World} {S : St} {ι : Nat → Loc} {a : Act}

theorem puto_n {S : St} {d : Option Nat} {v : AV} : (S.puto d v).n = S.n := by cases d <;> rfl

theorem opsW_n {ops : Array Oper} {n0 : Nat} {K : St → Prop} : ∀ (os : List Oper) (i : Nat) (S : St), opsW P sg ops n0 os i S K → opsW P sg ops n0 os i S fun S' => K S' ∧ S'.n = S.n := by
  intro os
  induction os with
  | nil => intro i S h; exact ⟨h, rfl⟩
  | cons o os ih =>
    intro i S h
    simp only [opsW] at h ⊢
    have key : ∀ S1 : St, S1.n = S.n → opsW P sg ops n0 os (i + 1) S1 K → opsW P sg ops n0 os (i + 1) S1 fun S' => K S' ∧ S'.n = S.n := fun S1 e h1 => by
      have := ih (i + 1) S1 h1
      rw [e] at this
      exact this
    refine guardW_mono (fun hy => opW_mono hy fun r hr => key _ ?_ hr) (fun hn => key _ ?_ hn) h
    · simp only [St.app, St.hws, puto_n]
    · simp only [puto_n]

def exOf : Ex → Exit
  | .normal => .normal
  | .exit id => .exit id
  | .ret => .ret

theorem wp_sound (hm : P.follows .mixedOrders = true) : ∀ (c : Code) (Q : Ex → St → Prop) (S : St) (a : Act) (w : World) (ι : Nat → Loc), Gl.wp P sg nt c Q S → Rel w0 nA nt M G ι0 (fun id => id < S.n) w S ι a →
    c.wp P (fun e a' w' => ∃ ex S' ι', e = exOf ex ∧ Q ex S' ∧ Rel w0 nA nt M G ι0 (fun id => id < S'.n) w' S' ι' a') a w := by
  intro c
  induction c with
  | skip => intro Q S a w ι hw h; exact wp_skip ⟨.normal, S, ι, rfl, hw, h⟩
  | exit id => intro Q S a w ι hw h; exact wp_exit ⟨.exit id, S, ι, rfl, hw, h⟩
  | ret => intro Q S a w ι hw h; exact wp_ret ⟨.ret, S, ι, rfl, hw, h⟩
  | seq x y ihx ihy =>
    intro Q S a w ι hw h
    simp only [Gl.wp] at hw
    refine wp_seq (wp_mono (ihx _ S a w ι hw h) ?_)
    rintro e a' w' ⟨ex, S', ι', rfl, hq, h'⟩
    cases ex with
    | normal => exact ihy Q S' a' w' ι' hq h'
    | exit id => exact ⟨_, S', ι', rfl, hq, h'⟩
    | ret => exact ⟨_, S', ι', rfl, hq, h'⟩
  | cond c x y ihx ihy =>
    intro Q S a w ι hw h
    simp only [Gl.wp] at hw
    split at hw
    · rename_i t e
      have hc := h.opd c
      rw [e] at hc
      have hc := rep_bool hc
      cases t
      · exact wp_cond_false hc (ihy Q S a w ι (hw.2 rfl) h)
      · exact wp_cond_true hc (ihx Q S a w ι (hw.1 rfl) h)
    · exact hw.elim
  | block id c ih =>
    intro Q S a w ι hw h
    simp only [Gl.wp] at hw
    refine wp_block (wp_mono (ih _ S a w ι hw h) ?_)
    rintro e a' w' ⟨ex, S', ι', rfl, hq, h'⟩
    cases ex with
    | normal => exact ⟨.normal, S', ι', rfl, hq, h'⟩
    | exit j =>
      simp only at hq
      simp only [exOf, Exit.inBlock]
      by_cases hj : j = id
      · simp only [hj, if_true] at hq ⊢
        exact ⟨.normal, S', ι', rfl, hq, h'⟩
      · simp only [hj, if_false] at hq ⊢
        exact ⟨.exit j, S', ι', rfl, hq, h'⟩
    | ret => exact ⟨.ret, S', ι', rfl, hq, h'⟩
  | loop c ih =>
    intro Q S a w ι hw h
    simp only [Gl.wp] at hw
    obtain ⟨I, ⟨n, hn⟩, hstep⟩ := hw
    -- the measure is carried in the invariant
    have key : ∀ n, ∀ S a w ι, I n S → Rel w0 nA nt M G ι0 (fun id => id < S.n) w S ι a → ∀ (b : Frame) (k : List Item) (cs : List Frame),
        ∃ e a' w', (∃ ex S' ι', e = exOf ex ∧ Q ex S' ∧ Rel w0 nA nt M G ι0 (fun id => id < S'.n) w' S' ι' a') ∧ Arrives P (lone (b.at a (.code c :: .inLoop c :: k)) cs w) b k cs e a' w' := by
      intro n
      induction n using Nat.strongRecOn with
      | _ n ihn =>
        intro S a w ι hI h b k cs
        obtain ⟨e, a₁, w₁, ⟨ex, S1, ι1, rfl, hq, h1⟩, harr⟩ := ih _ S a w ι (hstep n S hI) h b (.inLoop c :: k) cs
        cases ex with
        | normal =>
          obtain ⟨m, hmn, hI'⟩ := hq
          obtain ⟨e₂, a₂, w₂, hq₂, harr₂⟩ := ihn m hmn S1 a₁ w₁ ι1 hI' h1 b k cs
          exact ⟨e₂, a₂, w₂, hq₂, .of_steps (Steps.trans harr (.one step_inLoop)) harr₂⟩
        | exit id => exact ⟨_, a₁, w₁, ⟨.exit id, S1, ι1, rfl, hq, h1⟩, .pass (x := .inLoop c) rfl (fun _ _ => .inl (by simp [exOf])) harr⟩
        | ret => exact ⟨_, a₁, w₁, ⟨.ret, S1, ι1, rfl, hq, h1⟩, .pass (x := .inLoop c) rfl (fun _ _ => .inl (by simp [exOf])) harr⟩
    intro b k cs
    obtain ⟨e, a', w', hq, harr⟩ := key n S a w ι hn h b k cs
    exact ⟨e, a', w', hq, .of_steps (.one step_loop) harr⟩
  | region id ops d =>
    intro Q S a w ι hw h
    cases d with
    | false =>
      simp only [Gl.wp] at hw
      obtain ⟨hreg, hw⟩ := hw
      have hw2 := opsW_n ops.toList 0 S hw
      refine wp_region ?_
      have hs := opsW_sound (P := P) (sg := sg) (w0 := w0) (nA := nA) (M := M) (G := G) (ι0 := ι0) hreg S.n ops.toList 0 S a w ι rfl (Nat.zero_le _) (h.mono fun i hi => by simp only [given, num]; omega) hw2
        (Q := fun e a' w' => ∃ ex S' ι', e = exOf ex ∧ Q ex S' ∧ Rel w0 nA nt M G ι0 (fun id => id < S'.n) w' S' ι' a') (fun S' a' w' ι' hk h' => by
          obtain ⟨hk1, hk2⟩ := hk
          refine ⟨.normal, _, ι', rfl, hk1, ?_⟩
          have h2 := h'.nx (256 * ops.size)
          refine h2.mono fun i hi => ?_
          simp only [given, num] at hi
          simp only [St.nx, hk2]; omega)
      rw [List.range_eq_range']
      simpa using hs
    | true =>
      simp only [Gl.wp] at hw
      obtain ⟨hreg, hap, hw⟩ := hw
      refine region_sound hm hreg hap h hw fun S' a' w' ι' hk hn h' => ⟨.normal, _, ι', rfl, hk, ?_⟩
      refine (h'.nx (256 * ops.size)).mono fun i hi => ?_
      simp only [given, num] at hi
      simp only [St.nx, hn]; omega
  | rangeFunc => intro Q S a w ι hw; simp only [Gl.wp] at hw
  | scope => intro Q S a w ι hw; simp only [Gl.wp] at hw
  | label => intro Q S a w ι hw; simp only [Gl.wp] at hw
  | goto => intro Q S a w ι hw; simp only [Gl.wp] at hw
  | refuse => intro Q S a w ι hw; simp only [Gl.wp] at hw

end
end Go.Gl
