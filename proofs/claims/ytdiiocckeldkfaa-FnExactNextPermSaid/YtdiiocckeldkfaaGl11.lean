/-
  A program logic over the walk's rules, eleventh part: slice literals and appends: each operation does what the logic says. Conditions: those that each lemma names.
-/
import Derived.Test.YtdiiocckeldkfaaGl10
namespace Go.Gl
open Go

section
variable {P : Program} {sg : FuncId → List Bool} {w0 : World} {nA nt : Nat} {M G : Nat → Prop} {ι0 : Nat → Loc} {A : Nat → Prop} {w w' : World} {S : St} {ι : Nat → Loc} {a : Act}

theorem pairs_range {α : Type} (l : List (Nat × α)) (n : Nat) (h : l.map (·.1) = List.range n) : l = ((l.map (·.2)).zipIdx).map (fun p => (p.2, p.1)) := by
  have hn : l.length = n := by have := congrArg List.length h; simpa using this
  apply List.ext_getElem?
  intro j
  simp only [List.getElem?_map, List.getElem?_zipIdx]
  cases hj : l[j]? with
  | none => simp
  | some p =>
    have hlt := (List.getElem?_eq_some_iff.1 hj).1
    have h1 : (l.map (·.1))[j]? = some p.1 := by simp [hj]
    rw [h, List.getElem?_range (by omega)] at h1
    have h2 : p.1 = j := (Option.some.inj h1).symm
    obtain ⟨p1, p2⟩ := p
    simp at h2
    simp [h2]

theorem run_buildSlice {t e : TypeId} {i : TypeInfo} {z : Value} (hu : P.underlying t = some (.slice e)) (hi : P.info? e = some i) (hz : i.zero = some z) (hs : i.size = 1) (hz1 : z.cells = #[z]) {n : Nat} {vals : List Value} (hn : vals.length = n) (hb : n ≤ 1000000) (h1 : ∀ v ∈ vals, v.oneCell' = true)
    {parts : Array (Nat × Value)} (hp : parts.toList = vals.zipIdx.map fun p => (p.2, p.1)) : (Instr.buildSlice t n parts).run P w = .ok (.slice (some ⟨w.heap.size, 0, none⟩) n n) (w.alloc (.cells vals.toArray e)) := by
  have hbig : ¬ (16777216 < n) := by omega
  have hf : ∀ cells : Array Value, cells.size = n → Instr.fill (fun i => some (i * 1, 1)) cells parts.toList = some vals.toArray := by
    intro cells hc
    rw [hp, fill_range vals 0 cells h1 (by omega)]
    congr 2
    have : cells.toList.drop (0 + vals.length) = [] := List.drop_eq_nil_of_le (by simp; omega)
    rw [this]; simp
  unfold Instr.buildSlice
  by_cases h0 : n = 0
  · subst h0
    have hf0 := hf #[] rfl
    simp only [Nat.mul_one] at hf0
    simp [run_underlying hu, sizeOf, typeInfo, hi, hs, Array.range_zero', hf0, newRow]
  · have hf1 := hf ((Array.range n).map (#[z][· % (#[z] : Array Value).size]!)) (by simp)
    simp only [Nat.mul_one] at hf1
    simp only [Sem.run_bind, run_underlying hu, Result.andThen_ok, sizeOf, typeInfo, run_program, hi, Sem.run_pure, hs, Nat.mul_one, zeroValue]
    rw [if_neg (by simpa using hbig)]
    simp only [h0, if_false, Sem.run_bind, Sem.run_pure, Result.andThen_ok, run_program, hi, hz, hz1, hf1]
    simp [newRow]

theorem does_buildSlice {o : Oper} {k : Nat} {K : R → Prop} (h : Rel w0 nA nt M G ι0 A w S ι a) (hd : ∀ d, o.dst = some d → d < nt) (hA : ∀ x, x < 256 → ¬ A (k + x)) {t : TypeId} {n : Nat} {parts : Array (Nat × Operand)}
    (ho : o.op = .buildSlice t n parts) (hK : buildSliceW P t n parts k (Gl.opd S) S.h K) : Does P w0 nA nt M G ι0 A k o w S a K := by
  obtain ⟨ht, hp, hn, hK⟩ := hK
  obtain ⟨e, inf, zv, hu, hi, hz, hsz, hzs, hz1, hb⟩ := slT_some ht
  obtain ⟨xs, ws, rd, hk, hf, hlen, hok, _, hrep⟩ := pubs_sound hK
  have hpl : parts.toList.map (·.1) = List.range n := by simpa [partsOk] using hp
  have hpn : parts.toList.length = n := by have := congrArg List.length hpl; simpa using this
  have rep := fun (j : Nat) (p : Nat × Operand) (x : PV) (hj : parts.toList[j]? = some p) (hx : xs[j]? = some x) =>
    hrep h.heap hf.frz (hwsH_frz hf) j (opd S p.2) (a.eval p.2) x (by simp [hj]) hx (h.opd p.2)
  have hxn : xs.length = n := by rw [hlen]; simp; simpa using hpn
  let vals : List Value := parts.toList.map fun p => a.eval p.2
  have hvn : vals.length = n := by simp [vals]; simpa using hpn
  have h1 : ∀ v ∈ vals, v.oneCell' = true := by
    intro v hv
    obtain ⟨j, hj⟩ := List.mem_iff_getElem?.1 hv
    simp only [vals, List.getElem?_map, Option.map_eq_some_iff] at hj
    obtain ⟨p, hp1, hp2⟩ := hj
    have hjlt : j < xs.length := by have := (List.getElem?_eq_some_iff.1 hp1).1; omega
    have hx := List.getElem?_eq_getElem hjlt
    have := rep j p _ hp1 hx
    subst hp2
    exact oneCell_of_cellOk (hok _ (List.getElem_mem hjlt)) this
  have hr := run_buildSlice (P := P) (w := w) hu hi hz hsz (cells_one hzs hz1) hvn hn h1 (parts := parts.map fun p => (p.1, a.eval p.2)) (by
    simp only [Array.toList_map]
    rw [pairs_range (parts.toList.map fun p => (p.1, a.eval p.2)) n (by simpa [Function.comp_def] using hpl)]
    simp [vals, Function.comp_def])
  refine does_new h hd hA hf (Pushed.alloc w (.cells vals.toArray e)) (lo := 0) (hi := 0) (.inl (Nat.le_refl _)) false xs n (by simp only [maxLen]; omega) (by simp; omega) (by omega) ?_ (v := .ref k 0 n) ?_ (.inl ⟨n, rfl, Nat.le_refl _, rfl⟩) hk
  · intro j x hx
    have hjlt := (List.getElem?_eq_some_iff.1 hx).1
    have hjp : j < parts.toList.length := by omega
    have hp1 := List.getElem?_eq_getElem hjp
    refine ⟨a.eval (parts.toList[j]'hjp).2, ?_, ?_, rep j _ x hp1 hx⟩
    · simp only [vals, List.getElem?_toArray, List.getElem?_map, hp1, Option.map_some]
    · exact oneCell_of_cellOk (hok x (List.mem_of_getElem? hx)) (rep j _ x hp1 hx)
  · simp only [execOp, ho, Sem.run_bind, hr]; rfl

/-! ### append -/

/-- What is appended: as many cells, these. -/
structure Src (P : Program) (w : World) (x : Value) (news : List Value) : Prop where
  len : ∀ w1, (Builtin.lenOf x).run P w1 = .ok news.length w1
  cells : ∀ w1 : World, w1.heap = w.heap → (Builtin.firstCells 1 news.length x).run P w1 = .ok ⟨news⟩ w1
  one : ∀ v ∈ news, v.oneCell' = true

theorem cell?_heap {w w1 : World} (h : w1.heap = w.heap) (a : Addr) : w1.cell? a = w.cell? a := by simp only [World.cell?, h]

theorem src_of_cells {ad : Option Addr} {xs : List PV} {F : Nat → Prop} {n cap : Nat} (hn : xs.length = n) (h : xs = [] ∨ ∃ B off, ad = some ⟨B, off, none⟩ ∧ RepC w F G B off xs) :
    ∃ news, news.length = xs.length ∧ Src P w (.slice ad n cap) news ∧ ∀ (j : Nat) (y : PV), xs[j]? = some y → ∃ v, news[j]? = some v ∧ RepP w F G y v := by
  rcases h with rfl | ⟨B, off, rfl, hc⟩
  · refine ⟨[], rfl, ⟨fun w1 => by simp at hn; subst hn; simp [Builtin.lenOf], fun w1 _ => ?_, fun v hv => by simp at hv⟩, fun j y hj => by simp at hj⟩
    cases ad <;> simp [Builtin.firstCells, loadCells, loadCellsFrom]
  · obtain ⟨cs, hl, hlen, hcells, hone⟩ := RepC_list hc
    refine ⟨cs, hlen, ⟨fun w1 => by simp [Builtin.lenOf, hlen, hn], fun w1 hw => ?_, hone⟩, fun j y hj => RepL_get hl j y hj⟩
    have := run_firstCells_some (P := P) w1 1 cs.length ⟨B, off, none⟩ n cap cs (by omega) (fun j v hj => by rw [add_at, cell?_heap hw]; exact hcells j v hj)
    exact this

theorem cont_sound (h : Rel w0 nA nt M G ι0 A w S ι a) {v : AV} {x : Value} {K : List PV → List Nat → Prop} (hx : RepA w (Held S.h ι) G ι v x) (hK : cont S.h v K) :
    ∃ ys rd, K ys rd ∧ ∃ news, news.length = ys.length ∧ Src P w x news ∧ ∀ (j : Nat) (y : PV), ys[j]? = some y → ∃ u, news[j]? = some u ∧ RepP w (Held S.h ι) G y u := by
  unfold cont at hK
  split at hK
  · rename_i fl xs
    obtain ⟨ad, cap, rfl, hl, hm, _, hc⟩ := rep_sl hx
    refine ⟨_, _, hK, src_of_cells rfl ?_⟩
    rcases hc with hc | ⟨B, off, ha, _, _, hc⟩
    · exact .inl hc
    · exact .inr ⟨B, off, ha, hc⟩
  · rename_i s
    have hx := rep_str hx
    subst hx
    refine ⟨_, _, hK, s.map (fun b => Value.int .u8 b.toNat), by simp, ⟨fun w1 => by simp [Builtin.lenOf, ByteArray.size], fun w1 _ => ?_, fun v hv => ?_⟩, fun j y hj => ?_⟩
    · have hsz : (⟨s.toArray⟩ : ByteArray).size = s.length := by simp [ByteArray.size]
      have he : (⟨s.toArray⟩ : ByteArray).extract 0 s.length = ⟨s.toArray⟩ := by rw [← hsz]; exact ByteArray.extract_zero_size
      simp only [Builtin.firstCells, List.length_map, Sem.run_pure, he]
      simp
    · simp only [List.mem_map] at hv
      obtain ⟨b, _, rfl⟩ := hv
      rfl
    · simp only [List.getElem?_map, Option.map_eq_some_iff] at hj ⊢
      obtain ⟨b, hb, rfl⟩ := hj
      exact ⟨_, ⟨b, hb, rfl⟩, RepP_int⟩
  · rename_i id off len
    obtain ⟨ad, cap, rfl, hl, hcap, hm, hc⟩ := rep_ref hx
    have key : ∀ c, ((∃ m, S.h id = .live m c) ∨ ∃ m, S.h id = .froz m c) → off + len ≤ c.length → K ((c.drop off).take len) [id] →
        ∃ ys rd, K ys rd ∧ ∃ news, news.length = ys.length ∧ Src P w (.slice ad len cap) news ∧ ∀ (j : Nat) (y : PV), ys[j]? = some y → ∃ u, news[j]? = some u ∧ RepP w (Held S.h ι) G y u := by
      intro c hb hle hk
      refine ⟨_, _, hk, src_of_cells (by simp; omega) ?_⟩
      by_cases h0 : len = 0
      · left; subst h0; simp
      · right
        rcases hc with hc | rfl
        · omega
        · exact ⟨_, _, rfl, RepC_take (RepC_drop (h.heap.cells hb (by intro e; subst e; simp at hle; omega)) off) len⟩
    split at hK
    · rename_i m c hb; exact key c (.inl ⟨m, hb⟩) hK.1 hK.2
    · rename_i m c hb; exact key c (.inr ⟨m, hb⟩) hK.1 hK.2
    · exact hK.elim
  · exact hK.elim

theorem zeros_no {t' : TypeId} (h : (slT P t').isSome = true ∨ strT P t' = true) : (∃ e, P.underlying t' = some (.slice e)) ∨ P.underlying t' = some .string := by
  rcases h with h | h
  · obtain ⟨e, i, z, hu, _⟩ := slT_some h
    exact .inl ⟨e, hu⟩
  · exact .inr (strT_spec h)

theorem run_append_fit {t t' ty e : TypeId} {i : TypeInfo} (hu : P.underlying t = some (.slice e)) (hi : P.info? e = some i) (hs : i.size = 1) (ht' : (slT P t').isSome = true ∨ strT P t' = true) {base : Option Addr} {sLen sCap : Nat} {x : Value} {news : List Value} (src : Src P w x news) (hfit : sLen + news.length ≤ sCap)
    (hst : ∀ b, base = some b → (storeCells (b.add sLen) news).run P w = .ok () w') (hno : base = none → w' = w) :
    (Builtin.append_ #[t, t'] ty #[.slice base sLen sCap, x]).run P w = .ok (.slice base (sLen + news.length) sCap) w' := by
  have hc := src.cells w rfl
  have hl := src.len w
  cases base with
  | none =>
    obtain rfl := hno rfl
    rcases zeros_no ht' with ⟨e', hz⟩ | hz <;> simp [Builtin.append_, run_underlying hu, run_underlying hz, sizeOf, typeInfo, hi, hs, hl, hfit, hc]
  | some b =>
    have hst := hst b rfl
    rcases zeros_no ht' with ⟨e', hz⟩ | hz <;> simp [Builtin.append_, run_underlying hu, run_underlying hz, sizeOf, typeInfo, hi, hs, hl, hfit, hc, hst]

theorem run_append_more {t t' ty e : TypeId} {i : TypeInfo} {z : Value} (hu : P.underlying t = some (.slice e)) (hi : P.info? e = some i) (hz : i.zero = some z) (hs : i.size = 1) (hb : i.bytes ≤ 64) (ht' : (slT P t').isSome = true ∨ strT P t' = true) {base : Option Addr} {sLen sCap : Nat} {x : Value} {olds news : List Value} (src : Src P w x news) (hfit : sCap < sLen + news.length)
    (hold : ∀ w1 : World, w1.heap = w.heap → (Builtin.firstCells 1 sLen (.slice base sLen sCap)).run P w1 = .ok ⟨olds⟩ w1) (hbig : sLen + news.length ≤ 1099511627776) :
    (Builtin.append_ #[t, t'] ty #[.slice base sLen sCap, x]).run P w =
      .ok (.slice (some ⟨w.heap.size, 0, none⟩) (sLen + news.length) (grownCap w (sLen + news.length) sCap e))
        (w.drew.alloc (.cells (olds ++ news ++ (Builtin.zeroCells z.cells (grownCap w (sLen + news.length) sCap e - (sLen + news.length))).toList).toArray e)) := by
  have hl := src.len w
  have hn : ¬ (sLen + news.length ≤ sCap) := by omega
  have h63' : ¬ (9223372036854775807 < ((sLen : Int) + (news.length : Int))) := by omega
  have h48 := growslice_fits (bytes := i.bytes) hfit (by
    have h3 : (sLen + news.length) * i.bytes ≤ 1099511627776 * 64 := Nat.mul_le_mul hbig hb
    omega)
  have h48' : ¬ (281474976710656 < Builtin.nextslicecap (sLen + news.length) sCap * i.bytes) := by omega
  have hf := src.cells w.drew rfl
  have hfo := hold w.drew rfl
  rcases zeros_no ht' with ⟨e', hz'⟩ | hz'
  all_goals
    simp [Builtin.append_, run_underlying hu, run_underlying hz', sizeOf, typeInfo, zeroValue, hi, hs, hz, hl, hn, h63', h48', Question.forced, hf, hfo, newRow, grownCap]
    congr 2
    apply Array.ext'
    simp

end
end Go.Gl
