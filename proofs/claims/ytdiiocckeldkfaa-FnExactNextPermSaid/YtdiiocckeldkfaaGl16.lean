/-
  A program logic over the walk's rules, sixteenth part: every operation; regions in the text's order; guards. Conditions: those that each lemma names.
-/
import Derived.Test.YtdiiocckeldkfaaGl15
import Derived.Test.YtdiiocckeldkfaaGl33
namespace Go.Gl
open Go

section
variable {P : Program} {sg : FuncId → List Bool} {w0 : World} {nA nt : Nat} {M G : Nat → Prop} {ι0 : Nat → Loc} {A : Nat → Prop} {w : World} {S : St} {ι : Nat → Loc} {a : Act}

theorem exec_call {o : Oper} {f : Operand} {args : List Operand} {ts : Array TypeId} (ho : o.op = .call { callee := .value f, args := ⟨args⟩, argTypes := ts }) {g : FuncId} {first caps : List Value} (hf : a.eval f = .func (.func g) ⟨first⟩ ⟨caps⟩) :
    ∀ fn, P.funcs[g]? = some fn → fn.body.isSome = true → (fn.name == "runtime.NumGoroutine") = false → (execOp a.eval o).run P w = .ok (.enter g ⟨first ++ args.map a.eval ++ caps⟩) w := by
  intro fn h1 h2 h3
  have h3' : ¬ fn.name = "runtime.NumGoroutine" := by simpa using h3
  have h4 : ¬ fn.body = none := by intro e; simp [e] at h2
  simp [execOp, ho, resolve, hf, Deferred.ofValue, invoke, callFunc, h1, h3', h4]

theorem opB_does {o : Oper} {k : Nat} {K : R → Prop} (h : Rel w0 nA nt M G ι0 A w S ι a) (hd : ∀ d, o.dst = some d → d < nt) (hA : ∀ x, x < 256 → ¬ A (k + x))
    (hK : opB P sg (Gl.opd S) S.h k o.op K) : Does P w0 nA nt M G ι0 A k o w S a K := by
  unfold opB at hK
  split at hK
  · rename_i ho; exact does_move h hd hA (.inl ho) hK
  · rename_i ho; exact does_move h hd hA (.inr ho) hK
  · rename_i ho; exact does_pick h hd hA ho hK
  · rename_i ho; exact does_bin h hd ho hK
  · rename_i ho; exact does_un h hd ho hK
  · rename_i ho; exact does_convert h hd hA ho hK
  · rename_i ho; exact does_makeSlice h hd hA ho hK
  · rename_i ho; exact does_buildSlice h hd hA ho hK
  · rename_i ho; exact does_slice h hd hA ho hK
  · rename_i ho; exact does_indexAddr h hd ho hK
  · rename_i ho; exact does_index h hd ho hK
  · rename_i ho; exact does_load h hd ho hK
  · rename_i ho; exact does_store h hd ho hK
  · rename_i ho; exact does_alloc h hd hA ho hK
  · rename_i ho; exact does_box h hd hA ho hK
  · rename_i ho; exact does_build h hd ho hK
  · rename_i ho; exact does_field h hd hA ho hK
  · rename_i ho; exact does_fieldAddr h hd ho hK
  · rename_i ho; exact does_extract h hd hA ho hK
  · rename_i ho; exact does_nilCheck h hd ho hK
  · rename_i ho; exact does_makeFunc h hd ho hK
  · rename_i ho; exact does_len h hd ho hK
  · rename_i ho; exact does_append h hd hA ho hK
  · rename_i ho; exact does_mm (b := true) h hd ho hK
  · rename_i ho; exact does_mm (b := false) h hd ho hK
  · rename_i f args ts ho
    have hf := h.opd f
    have nf := h.opd_named f
    split at hK
    · rename_i g first caps e
      rw [e] at hf
      simp only [RepA, RepP] at hf
      obtain ⟨b, c, hv, h1, h2⟩ := hf
      refine does_callf h hd hA (exec_call ho hv) ?_ ?_ hK
      · exact RepAL_append (RepAL_append (RepAL_p.2 h1) (h.opds args)) (RepAL_p.2 h2)
      · intro i hi
        rw [hasL_append, hasL_append] at hi
        simp only [Bool.or_eq_true] at hi
        rcases hi with (hi | hi) | hi
        · simp [hasL_p] at hi
        · exact h.opds_named args i hi
        · simp [hasL_p] at hi
    · rename_i g first caps e
      rw [e] at hf nf
      simp only [RepA] at hf
      obtain ⟨b, c, hv, h1, h2⟩ := hf
      refine does_callf h hd hA (exec_call ho hv) ?_ ?_ hK
      · exact RepAL_append (RepAL_append h1 (h.opds args)) h2
      · intro i hi
        rw [hasL_append, hasL_append] at hi
        simp only [Bool.or_eq_true] at hi
        rcases hi with (hi | hi) | hi
        · exact nf i (by simp [AV.has, hi])
        · exact h.opds_named args i hi
        · exact nf i (by simp [AV.has, hi])
    · exact hK.elim
  · exact hK.elim
  where
  hasL_append : ∀ {xs ys : List AV} {i : Nat}, AV.hasL (xs ++ ys) i = (AV.hasL xs i || AV.hasL ys i)
    | [], _, _ => by simp [AV.hasL]
    | x :: xs, ys, i => by simp [AV.hasL, hasL_append (xs := xs), Bool.or_assoc]
  hasL_p : ∀ {xs : List PV} {i : Nat}, AV.hasL (xs.map .p) i = false
    | [], _ => by simp [AV.hasL]
    | x :: xs, i => by simp [AV.hasL, AV.has, hasL_p (xs := xs)]

theorem opW_does {o : Oper} {k : Nat} {K : R → Prop} (h : Rel w0 nA nt M G ι0 A w S ι a) (hd : ∀ d, o.dst = some d → d < nt) (hA : ∀ x, x < 256 → ¬ A (k + x))
    (hK : opW P sg (Gl.opd S) S.h k o.op K) : Does P w0 nA nt M G ι0 A k o w S a K := by
  unfold opW at hK
  split at hK
  · unfold opE at hK
    split at hK
    · rename_i ho; exact does_binX h hd ho hK
    · rename_i ho; exact does_sliceX h hd ho hK
    · rename_i ho; exact does_clear h hd ho hK
    · exact hK.elim
  · exact opB_does h hd hA hK

theorem guard_spec {ops : Array Oper} {o : Oper} {yes no : Prop} (h : Rel w0 nA nt M G ι0 A w S ι a) (hg : guardW ops S o yes no) :
    (Region.wanted o (yielded ops a.tmps) = true ∧ yes) ∨ (Region.wanted o (yielded ops a.tmps) = false ∧ no) := by
  unfold guardW at hg
  unfold Region.wanted
  split at hg
  · rename_i e; rw [e]; exact .inl ⟨rfl, hg⟩
  · rename_i j want e
    rw [e]
    split at hg
    · rename_i d hd
      unfold gdW at hg
      split at hg
      · rename_i b hb
        have hs := h.slots d
        rw [hb] at hs
        have hs := rep_bool hs
        have ht : a.tmps[d]? = some (.bool b) := by
          rw [Array.getD_eq_getD_getElem?] at hs
          cases hq : a.tmps[d]? with
          | none => rw [hq] at hs; simp [undef] at hs
          | some v => rw [hq] at hs; simp at hs; rw [hs]
        have hy : yielded ops a.tmps j = some b := by
          unfold yielded
          rw [hd]
          simp [ht]
        by_cases hw : b = want
        · exact .inl ⟨by simp [hy, hw], hg.1 hw⟩
        · exact .inr ⟨by simp [hy, hw], hg.2 hw⟩
      · rename_i hb
        have hs := h.slots d
        rw [hb] at hs
        simp only [RepA, RepAL] at hs
        obtain ⟨cs, hs, rfl⟩ := hs
        have hy : yielded ops a.tmps j = none := by
          unfold yielded
          rw [hd]
          rw [Array.getD_eq_getD_getElem?] at hs
          cases hq : a.tmps[d]? with
          | none => simp [hq]
          | some v => rw [hq] at hs; simp at hs; simp [hq, hs]
        exact .inr ⟨by simp [hy], hg⟩
      · exact hg.elim
    · exact hg.elim

/-- The numbers given when the first i operations of a region are done. -/
def given (n0 i : Nat) : Nat → Prop := fun id => id < num n0 i

theorem regOk_spec {ops : Array Oper} (h : regOk nt ops = true) {i : Nat} {o : Oper} (ho : ops[i]? = some o) : (∀ d, o.dst = some d → d < nt) ∧ ∀ e ∈ o.after, Region.binds .any e = true → e.on < i := by
  unfold regOk at h
  have hm : (o, i) ∈ ops.toList.zipIdx := by
    rw [List.mem_iff_getElem?]
    exact ⟨i, by simp [List.getElem?_zipIdx, ho]⟩
  have := List.all_eq_true.1 h _ hm
  simp only [Bool.and_eq_true] at this
  refine ⟨fun d hd => ?_, fun e he hb => ?_⟩
  · have h1 := this.1; rw [hd] at h1; simpa using h1
  · have h2 := this.2
    rw [Array.all_eq_true'] at h2
    have := h2 e he
    simpa [hb] using this

theorem Rel.nx (h : Rel w0 nA nt M G ι0 A w S ι a) (k : Nat) : Rel w0 nA nt M G ι0 A w (S.nx k) ι a := ⟨h.keep, h.heap, h.slots, h.alloc, h.named, h.loc, h.args, h.new, h.size, h.defers⟩

theorem Rel.skip (h : Rel w0 nA nt M G ι0 A w S ι a) (d : Option Nat) (hd : ∀ x, d = some x → x < nt) : Rel w0 nA nt M G ι0 A w (S.puto d (.tup [])) ι (a.put d undef) :=
  h.put d hd (by simp only [RepA, RepAL]; exact ⟨[], rfl, rfl⟩) (by simp [AV.has, AV.hasL])

theorem opsW_sound {ops : Array Oper} (hreg : regOk nt ops = true) (n0 : Nat) {Q : Exit → Act → World → Prop} {K : St → Prop} : ∀ (os : List Oper) (i : Nat) (S : St) (a : Act) (w : World) (ι : Nat → Loc), ops.toList.drop i = os → i ≤ ops.size →
    Rel w0 nA nt M G ι0 (given n0 i) w S ι a → opsW P sg ops n0 os i S K → (∀ S' a' w' ι', K S' → Rel w0 nA nt M G ι0 (given n0 ops.size) w' S' ι' a' → Q .normal a' w') →
    wpOps P ops Q (List.range' i os.length) a w := by
  intro os
  induction os with
  | nil =>
    intro i S a w ι hd hle h hK hQ
    have hi : ops.size ≤ i := by simpa using hd
    simp only [List.length_nil, List.range'_zero, wpOps]
    obtain rfl : i = ops.size := by omega
    exact hQ S a w ι hK h
  | cons o os ih =>
    intro i S a w ι hd hle h hK hQ
    have ho : ops[i]? = some o := by
      have := congrArg (·[0]?) hd
      simp only [List.getElem?_drop, List.getElem?_cons_zero, Nat.add_zero] at this
      simpa using this
    have hd' : ops.toList.drop (i + 1) = os := by
      have := congrArg (List.drop 1) hd
      simpa [List.drop_drop, Nat.add_comm] using this
    obtain ⟨hdst, _⟩ := regOk_spec hreg ho
    have hle' : i + 1 ≤ ops.size := (Array.getElem?_eq_some_iff.1 ho).1
    have hgi : ∀ id, given n0 i id → given n0 (i + 1) id := fun id hid => by simp only [given, num] at hid ⊢; omega
    have hA : ∀ x, x < 256 → ¬ given n0 i (num n0 i + x) := fun x _ => by simp only [given, num]; omega
    have hpl : ∀ id, plus (given n0 i) (num n0 i) id → given n0 (i + 1) id := fun id hid => by
      simp only [plus, given, num] at hid ⊢; omega
    simp only [List.length_cons, List.range'_succ, wpOps, ho]
    rcases guard_spec h hK with ⟨hw, hK⟩ | ⟨hw, hK⟩
    · rw [hw]
      simp only [if_true]
      refine .inl (opW_does h hdst hA hK _ _ fun r val w' ι' hk hrel => ?_)
      exact ih (i + 1) _ _ _ ι' hd' hle' (hrel.mono hpl) hk hQ
    · rw [hw]
      simp only [Bool.false_eq_true, if_false]
      exact ih (i + 1) _ _ _ ι hd' hle' ((h.skip o.dst hdst).mono hgi) hK hQ

end
end Go.Gl
