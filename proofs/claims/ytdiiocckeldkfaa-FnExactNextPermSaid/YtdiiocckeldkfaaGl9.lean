/-
  A program logic over the walk's rules, ninth part: loads, parts of structs, tuples, lengths, conversions of numbers: each operation does what the logic says. Conditions: those that each lemma names.
-/
import Derived.Test.YtdiiocckeldkfaaGl8
namespace Go.Gl
open Go

section
variable {P : Program} {sg : FuncId → List Bool} {w0 : World} {nA nt : Nat} {M G : Nat → Prop} {ι0 : Nat → Loc} {A : Nat → Prop} {w : World} {S : St} {ι : Nat → Loc} {a : Act}

/-- The cells of a row, as a list of values. -/
theorem RepC_list {F : Nat → Prop} {B : Nat} : ∀ {xs : List PV} {o : Nat}, RepC w F G B o xs → ∃ cs : List Value, RepL w F G xs cs ∧ cs.length = xs.length ∧ (∀ (j : Nat) (v : Value), cs[j]? = some v → w.cell? ⟨B, o + j, none⟩ = some v) ∧ ∀ v ∈ cs, v.oneCell' = true
  | [], o, _ => ⟨[], by simp [RepL], rfl, fun j v h => by simp at h, fun v h => by simp at h⟩
  | x :: xs, o, h => by
    simp only [RepC] at h
    obtain ⟨⟨v, hv, h1, hx⟩, hr⟩ := h
    obtain ⟨cs, hl, hlen, hc, ho⟩ := RepC_list hr
    refine ⟨v :: cs, by simp only [RepL]; exact ⟨v, cs, rfl, hx, hl⟩, by simp [hlen], fun j u hj => ?_, fun u hu => ?_⟩
    · cases j with
      | zero => simp only [List.getElem?_cons_zero, Option.some.injEq] at hj; subst hj; simpa using hv
      | succ j => simp only [List.getElem?_cons_succ] at hj; have := hc j u hj; rwa [show o + 1 + j = o + (j + 1) from by omega] at this
    · rcases List.mem_cons.1 hu with rfl | hu
      · exact h1
      · exact ho u hu

/-- What a block of the call's own holds: its cells. -/
theorem HeapOk.cells {z : Nat} {h : Nat → Blk} (ok : HeapOk w z M G h ι) {id : Nat} {c : List PV} (hb : (∃ m, h id = .live m c) ∨ ∃ m, h id = .froz m c) (hc : c ≠ []) :
    RepC w (Held h ι) G (ι id).B (ι id).off c := by
  rcases hb with ⟨m, hb⟩ | ⟨m, hb⟩
  · obtain ⟨h1, _, h3⟩ := ok.live id m c hb
    rcases h3 with h3 | ⟨_, h3, _⟩
    · exact absurd (List.eq_nil_of_length_eq_zero (by omega)) hc
    · exact h3
  · obtain ⟨h1, _, h3⟩ := ok.froz id m c hb
    rcases h3 with h3 | ⟨_, _, h3⟩
    · exact absurd h3 hc
    · exact h3

theorem run_loadAt_one {t : TypeId} {n : Nat} (ht : szT P t = some (n, false)) {B o : Nat} {v : Value} (hv : w.cell? ⟨B, o, none⟩ = some v) : (Instr.loadAt t (.pointer (some ⟨B, o, none⟩))).run P w = .ok v w := by
  obtain ⟨i, d, _, _, hu, h1, h2⟩ := szT_one ht
  simp [Instr.loadAt, Instr.sureAddr, loadVar, run_isAgg_one hu h1 h2, hv]
theorem run_loadAt_agg {t : TypeId} {n : Nat} (ht : szT P t = some (n, true)) {B o : Nat} {cs : List Value} (hl : cs.length = n) (hv : ∀ (j : Nat) (v : Value), cs[j]? = some v → w.cell? ⟨B, o + j, none⟩ = some v) :
    (Instr.loadAt t (.pointer (some ⟨B, o, none⟩))).run P w = .ok (.agg ⟨cs⟩) w := by
  obtain ⟨i, hi, hs, hu⟩ := szT_agg ht
  have := run_loadCells_list (P := P) (w := w) ⟨B, o, none⟩ cs (fun j v hj => by rw [add_at]; exact hv j v hj)
  rw [hl] at this
  simp [Instr.loadAt, Instr.sureAddr, loadVar, run_isAgg_agg hu, sizeOf, typeInfo, hi, hs, this]

theorem does_load {o : Oper} {k : Nat} {K : R → Prop} (h : Rel w0 nA nt M G ι0 A w S ι a) (hd : ∀ d, o.dst = some d → d < nt) {t : TypeId} {x : Operand}
    (ho : o.op = .load t x) (hK : loadW P t S.h (Gl.opd S x) K) : Does P w0 nA nt M G ι0 A k o w S a K := by
  have hx := h.opd x
  unfold loadW at hK
  split at hK
  · rename_i n ht
    obtain ⟨_, hK⟩ := hK
    split at hK
    · rename_i y ys e
      rw [e] at hx
      simp only [RepA, RepP] at hx
      obtain ⟨B, off, hv, hF, hc⟩ := hx
      simp only [RepC] at hc
      obtain ⟨⟨v, hcell, _, hy⟩, _⟩ := hc
      refine does_value h hd (v := .p y) (val := v) ?_ (by simp only [RepA]; exact hy) (by simp [AV.has]) hK
      simp [execOp, ho, hv, run_loadAt_one ht hcell]
    · rename_i id off e
      rw [e] at hx
      simp only [RepA] at hx
      have key : ∀ c, ((∃ m, S.h id = .live m c) ∨ ∃ m, S.h id = .froz m c) → gt c off (fun x => K ⟨.p x, [], [id]⟩) → Does P w0 nA nt M G ι0 A k o w S a K := by
        intro c hb hg
        obtain ⟨_, y, hy, hlt, hk⟩ := gt_spec hg
        simp only [Int.toNat_natCast] at hy hlt
        have hc := h.heap.cells hb (by intro e; subst e; simp at hlt)
        rw [RepC_iff] at hc
        obtain ⟨v, hcell, _, hy'⟩ := hc off y hy
        refine does_value h hd (v := .p y) (val := v) ?_ (by simp only [RepA]; exact hy') (by simp [AV.has]) hk
        simp [execOp, ho, hx, run_loadAt_one ht hcell]
      split at hK
      · rename_i m c hb; exact key c (.inl ⟨m, hb⟩) hK
      · rename_i m c hb; exact key c (.inr ⟨m, hb⟩) hK
      · exact hK.elim
    · exact hK.elim
  · rename_i n ht
    split at hK
    · rename_i xs e
      rw [e] at hx
      simp only [RepA, RepP] at hx
      obtain ⟨B, off, hv, hF, hc⟩ := hx
      obtain ⟨hle, hk⟩ := hK
      obtain ⟨cs, hl, hlen, hcells, _⟩ := RepC_list (RepC_take hc n)
      refine does_value h hd (v := .p (.agg (xs.take n))) (val := .agg ⟨cs⟩) ?_ (by simp only [RepA, RepP]; exact ⟨cs, rfl, hl⟩) (by simp [AV.has]) hk
      simp [execOp, ho, hv, run_loadAt_agg ht (cs := cs) (by rw [hlen]; simp; omega) hcells]
    · rename_i id off e
      rw [e] at hx
      simp only [RepA] at hx
      have key : ∀ c, ((∃ m, S.h id = .live m c) ∨ ∃ m, S.h id = .froz m c) → off + n ≤ c.length → K ⟨.p (.agg ((c.drop off).take n)), [], [id]⟩ → Does P w0 nA nt M G ι0 A k o w S a K := by
        intro c hb hle hk
        have hcs : ∃ cs : List Value, RepL w (Held S.h ι) G ((c.drop off).take n) cs ∧ cs.length = ((c.drop off).take n).length ∧ (∀ (j : Nat) (v : Value), cs[j]? = some v → w.cell? ⟨(ι id).B, (ι id).off + off + j, none⟩ = some v) := by
          by_cases hn : c = []
          · subst hn
            refine ⟨[], by simp [RepL], by simp, fun j v hj => by simp at hj⟩
          · have hc := h.heap.cells hb hn
            obtain ⟨cs, h1, h2, h3, _⟩ := RepC_list (RepC_take (RepC_drop hc off) n)
            exact ⟨cs, h1, h2, h3⟩
        obtain ⟨cs, hl, hlen, hcells⟩ := hcs
        refine does_value h hd (v := .p (.agg ((c.drop off).take n))) (val := .agg ⟨cs⟩) ?_ (by simp only [RepA, RepP]; exact ⟨cs, rfl, hl⟩) (by simp [AV.has]) hk
        simp [execOp, ho, hx, run_loadAt_agg ht (cs := cs) (by rw [hlen]; simp; omega) hcells]
      split at hK
      · rename_i m c hb; exact key c (.inl ⟨m, hb⟩) hK.1 hK.2
      · rename_i m c hb; exact key c (.inr ⟨m, hb⟩) hK.1 hK.2
      · exact hK.elim
    · exact hK.elim
  · exact hK.elim

theorem fldT_spec {t : TypeId} {f off n : Nat} {b : Bool} (h : fldT P t f = some (off, n, b)) : ∃ fs x, P.underlying t = some (.struct fs) ∧ fs[f]? = some x ∧ x.offset = off ∧ szT P x.type = some (n, b) := by
  unfold fldT at h
  split at h
  · rename_i fs hu
    split at h
    · rename_i x hx
      split at h
      · rename_i n' b' hs
        simp only [Option.some.injEq, Prod.mk.injEq] at h
        obtain ⟨rfl, rfl, rfl⟩ := h
        exact ⟨fs, x, hu, hx, rfl, hs⟩
      · cases h
    · cases h
  · cases h

theorem does_field {o : Oper} {k : Nat} {K : R → Prop} (h : Rel w0 nA nt M G ι0 A w S ι a) (hd : ∀ d, o.dst = some d → d < nt) (hA : ∀ x, x < 256 → ¬ A (k + x)) {t : TypeId} {x : Operand} {f : Nat}
    (ho : o.op = .field t x f) (hK : fieldW P t f (Gl.opd S x) fun v => arr k v K) : Does P w0 nA nt M G ι0 A k o w S a K := by
  have hx := h.opd x
  have nx := h.opd_named x
  unfold fieldW at hK
  split at hK
  · rename_i off ht
    obtain ⟨fs, fld, hu, hf, rfl, hsz⟩ := fldT_spec ht
    obtain ⟨i, d, hi, _, hud, h1, h2⟩ := szT_one hsz
    have run : ∀ (cs : List Value) (v : Value), a.eval x = .agg ⟨cs⟩ → cs[fld.offset]? = some v → (execOp a.eval o).run P w = .ok (.value v) w := by
      intro cs v e hv
      simp [execOp, ho, e, Instr.field, run_underlying hu, hf, asAgg, part, run_isAgg_one hud h1 h2, hv]
    split at hK
    · rename_i xs e
      rw [e] at hx
      simp only [RepA, RepP] at hx
      obtain ⟨cs, hv, hl⟩ := hx
      obtain ⟨_, y, hy, hlt, hk⟩ := gt_spec hK
      simp only [Int.toNat_natCast] at hy
      obtain ⟨v, hcv, hr⟩ := RepL_get hl _ _ hy
      exact does_arr h hd hA (run cs v hv hcv) (by simp only [RepA]; exact hr) (by simp [AV.has]) hk
    · rename_i xs e
      rw [e] at hx nx
      simp only [RepA] at hx
      obtain ⟨cs, hv, hl⟩ := hx
      unfold AV.nth at hK
      split at hK
      · rename_i y hy
        obtain ⟨v, hcv, hr⟩ := RepAL_get hl _ _ hy
        refine does_arr h hd hA (run cs v hv hcv) hr (fun j hj => nx j ?_) hK
        simp only [AV.has]
        exact hasL_mem hy hj
      · exact hK.elim
    · exact hK.elim
  · exact hK.elim
  where
  hasL_mem {xs : List AV} {i : Nat} {y : AV} {j : Nat} (hy : xs[i]? = some y) (hj : y.has j = true) : AV.hasL xs j = true := by
    induction xs generalizing i with
    | nil => simp at hy
    | cons x xs ih =>
      simp only [AV.hasL, Bool.or_eq_true]
      cases i with
      | zero => simp only [List.getElem?_cons_zero, Option.some.injEq] at hy; subst hy; exact .inl hj
      | succ i => simp only [List.getElem?_cons_succ] at hy; exact .inr (ih hy)

theorem hasL_mem {xs : List AV} {i : Nat} {y : AV} {j : Nat} (hy : xs[i]? = some y) (hj : y.has j = true) : AV.hasL xs j = true := does_field.hasL_mem hy hj

theorem does_fieldAddr {o : Oper} {k : Nat} {K : R → Prop} (h : Rel w0 nA nt M G ι0 A w S ι a) (hd : ∀ d, o.dst = some d → d < nt) {t : TypeId} {x : Operand} {f : Nat}
    (ho : o.op = .fieldAddr t x f) (hK : fieldAddrW P t f (Gl.opd S x) fun v => K ⟨v, [], []⟩) : Does P w0 nA nt M G ι0 A k o w S a K := by
  have hx := h.opd x
  have nx := h.opd_named x
  unfold fieldAddrW at hK
  split at hK
  · rename_i off n b ht
    obtain ⟨hn, hK⟩ := hK
    obtain ⟨fs, fld, hu, hf, rfl, hsz⟩ := fldT_spec ht
    have hsize : ∃ i, P.info? fld.type = some i ∧ i.size = n := by
      cases b
      · obtain ⟨i, d, hi, hs, _⟩ := szT_one hsz; exact ⟨i, hi, hs⟩
      · obtain ⟨i, hi, hs, _⟩ := szT_agg hsz; exact ⟨i, hi, hs⟩
    obtain ⟨i, hi, hs⟩ := hsize
    have run : ∀ B off, a.eval x = .pointer (some ⟨B, off, none⟩) → (execOp a.eval o).run P w = .ok (.value (.pointer (some ⟨B, off + fld.offset, none⟩))) w := by
      intro B off e
      have hn' : ¬ i.size = 0 := by omega
      simp [execOp, ho, e, Instr.fieldAt, Instr.sureAddr, run_underlying hu, hf, fieldPlace, sizeOf, typeInfo, hi, hn', add_at]
    split at hK
    · rename_i xs e
      rw [e] at hx
      simp only [RepA, RepP] at hx
      obtain ⟨B, off, hv, hF, hc⟩ := hx
      refine does_value h hd (run B off hv) ?_ (by simp [AV.has]) hK
      simp only [RepA, RepP]
      refine ⟨B, off + fld.offset, rfl, ?_, RepC_drop hc _⟩
      rcases hF with rfl | hF
      · left; simp
      · exact .inr hF
    · rename_i id off e
      rw [e] at hx nx
      simp only [RepA] at hx
      refine does_value h hd (run _ _ hx) ?_ (fun j hj => nx j (by simpa [AV.has] using hj)) hK
      simp only [RepA]
      rw [Nat.add_assoc]
    · exact hK.elim
  · exact hK.elim

theorem does_extract {o : Oper} {k : Nat} {K : R → Prop} (h : Rel w0 nA nt M G ι0 A w S ι a) (hd : ∀ d, o.dst = some d → d < nt) (hA : ∀ x, x < 256 → ¬ A (k + x)) {x : Operand} {i : Nat}
    (ho : o.op = .extract x i) (hK : match Gl.opd S x with | .tup xs => AV.nth xs i fun v => arr k v K | _ => False) : Does P w0 nA nt M G ι0 A k o w S a K := by
  have hx := h.opd x
  have nx := h.opd_named x
  split at hK
  · rename_i xs e
    rw [e] at hx nx
    simp only [RepA] at hx
    obtain ⟨cs, hv, hl⟩ := hx
    unfold AV.nth at hK
    split at hK
    · rename_i y hy
      obtain ⟨v, hcv, hr⟩ := RepAL_get hl _ _ hy
      refine does_arr h hd hA (val := v) ?_ hr (fun j hj => nx j (by simp only [AV.has]; exact hasL_mem hy hj)) hK
      simp [execOp, ho, hv, Instr.extract, hcv]
    · exact hK.elim
  · exact hK.elim

theorem does_nilCheck {o : Oper} {k : Nat} {K : R → Prop} (h : Rel w0 nA nt M G ι0 A w S ι a) (hd : ∀ d, o.dst = some d → d < nt) {x : Operand}
    (ho : o.op = .nilCheck x) (hK : match Gl.opd S x with | .ptr id off => K ⟨.ptr id off, [], []⟩ | .p (.pc xs) => K ⟨.p (.pc xs), [], []⟩ | .p (.fn f a b) => K ⟨.p (.fn f a b), [], []⟩ | .fn f a b => K ⟨.fn f a b, [], []⟩ | _ => False) :
    Does P w0 nA nt M G ι0 A k o w S a K := by
  have hx := h.opd x
  have nx := h.opd_named x
  split at hK
  · rename_i id off e
    rw [e] at hx nx
    refine does_value h hd (val := a.eval x) ?_ hx nx hK
    simp only [RepA] at hx
    simp [execOp, ho, hx]
  · rename_i xs e
    rw [e] at hx nx
    refine does_value h hd (val := a.eval x) ?_ hx nx hK
    simp only [RepA, RepP] at hx
    obtain ⟨B, off, hv, _⟩ := hx
    simp [execOp, ho, hv]
  · rename_i f fa fb e
    rw [e] at hx nx
    refine does_value h hd (val := a.eval x) ?_ hx nx hK
    simp only [RepA, RepP] at hx
    obtain ⟨b, c, hv, _⟩ := hx
    simp [execOp, ho, hv]
  · rename_i f fa fb e
    rw [e] at hx nx
    refine does_value h hd (val := a.eval x) ?_ hx nx hK
    simp only [RepA] at hx
    obtain ⟨b, c, hv, _⟩ := hx
    simp [execOp, ho, hv]
  · exact hK.elim

theorem Rel.opds (h : Rel w0 nA nt M G ι0 A w S ι a) (xs : List Operand) : RepAL w (Held S.h ι) G ι (xs.map (Gl.opd S)) (xs.map a.eval) := RepAL_map h.opd xs
theorem Rel.opds_named (h : Rel w0 nA nt M G ι0 A w S ι a) (xs : List Operand) : ∀ i, AV.hasL (xs.map (Gl.opd S)) i = true → A i := by
  intro i hi
  induction xs with
  | nil => simp [AV.hasL] at hi
  | cons x xs ih =>
    simp only [List.map_cons, AV.hasL, Bool.or_eq_true] at hi
    rcases hi with hi | hi
    · exact h.opd_named x i hi
    · exact ih hi

theorem does_makeFunc {o : Oper} {k : Nat} {K : R → Prop} (h : Rel w0 nA nt M G ι0 A w S ι a) (hd : ∀ d, o.dst = some d → d < nt) {f : FuncId} {first caps : Array Operand}
    (ho : o.op = .makeFunc (.func f) first caps) (hK : K ⟨.fn f (first.toList.map (Gl.opd S)) (caps.toList.map (Gl.opd S)), [], []⟩) : Does P w0 nA nt M G ι0 A k o w S a K := by
  refine does_value h hd (val := .func (.func f) (first.map a.eval) (caps.map a.eval)) ?_ ?_ ?_ hK
  · simp [execOp, ho, Instr.makeFunc]
  · simp only [RepA]
    refine ⟨first.toList.map a.eval, caps.toList.map a.eval, ?_, h.opds _, h.opds _⟩
    congr 1 <;> (apply Array.ext'; simp)
  · intro i hi
    simp only [AV.has, Bool.or_eq_true] at hi
    rcases hi with hi | hi
    · exact h.opds_named _ i hi
    · exact h.opds_named _ i hi

theorem does_len {o : Oper} {k : Nat} {K : R → Prop} (h : Rel w0 nA nt M G ι0 A w S ι a) (hd : ∀ d, o.dst = some d → d < nt) {t : TypeId} {x : Operand}
    (ho : o.op = .call { callee := .builtin .len, args := ⟨[x]⟩, argTypes := ⟨[t]⟩ }) (hK : lenW P t (Gl.opd S x) fun v => K ⟨v, [], []⟩) : Does P w0 nA nt M G ι0 A k o w S a K := by
  have hx := h.opd x
  unfold lenW at hK
  split at hK
  · rename_i s e
    rw [e] at hx
    have hx := rep_str hx
    refine does_value h hd (val := .int .i64 s.length) ?_ (by simp only [RepA, RepP]) (by simp [AV.has]) hK.2
    have hsz : (⟨s.toArray⟩ : ByteArray).size = s.length := by simp [ByteArray.size]
    simp [execOp, ho, resolve, invoke, builtin, hx, Builtin.len_, run_underlying (strT_spec hK.1), goInt, hsz]
  · rename_i fl xs e
    rw [e] at hx
    obtain ⟨ad, cap, hv, _⟩ := rep_sl hx
    obtain ⟨el, inf, zv, hu, _⟩ := slT_some hK.1
    refine does_value h hd (val := .int .i64 xs.length) ?_ (by simp only [RepA, RepP]) (by simp [AV.has]) hK.2
    simp [execOp, ho, resolve, invoke, builtin, hv, Builtin.len_, run_underlying hu, goInt]
  · rename_i id off len e
    rw [e] at hx
    obtain ⟨ad, cap, hv, _⟩ := rep_ref hx
    obtain ⟨el, inf, zv, hu, _⟩ := slT_some hK.1
    refine does_value h hd (val := .int .i64 len) ?_ (by simp only [RepA, RepP]) (by simp [AV.has]) hK.2
    simp [execOp, ho, resolve, invoke, builtin, hv, Builtin.len_, run_underlying hu, goInt]
  · exact hK.elim

theorem does_mm {o : Oper} {k : Nat} {K : R → Prop} (h : Rel w0 nA nt M G ι0 A w S ι a) (hd : ∀ d, o.dst = some d → d < nt) {b : Bool} {x y : Operand} {ts : Array TypeId}
    (ho : o.op = .call { callee := .builtin (if b then .max else .min), args := ⟨[x, y]⟩, argTypes := ts }) (hK : mmW b (Gl.opd S x) (Gl.opd S y) fun v => K ⟨v, [], []⟩) : Does P w0 nA nt M G ι0 A k o w S a K := by
  have hx := h.opd x
  have hy := h.opd y
  unfold mmW at hK
  split at hK
  · rename_i k1 i k2 j e1 e2
    rw [e1] at hx; rw [e2] at hy
    have hx := rep_int hx
    have hy := rep_int hy
    obtain ⟨rfl, hk⟩ := hK
    refine does_value h hd (val := .int k1 (if b then (if i < j then j else i) else (if j < i then j else i))) ?_ (by simp only [RepA, RepP]) (by simp [AV.has]) hk
    cases b
    · simp only [Bool.false_eq_true, if_false] at ho ⊢
      simp only [execOp, ho, resolve, invoke, builtin, Sem.run_bind, Sem.run_pure, Result.andThen_ok, List.map_toArray, List.map_cons, List.map_nil, hx, hy]
      rw [run_min_int2]; rfl
    · simp only [if_true] at ho ⊢
      simp only [execOp, ho, resolve, invoke, builtin, Sem.run_bind, Sem.run_pure, Result.andThen_ok, List.map_toArray, List.map_cons, List.map_nil, hx, hy]
      rw [run_max_int2]; rfl
  · exact hK.elim

end
end Go.Gl
