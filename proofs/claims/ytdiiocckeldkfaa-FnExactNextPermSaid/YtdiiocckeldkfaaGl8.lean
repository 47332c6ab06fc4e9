/-
  A program logic over the walk's rules, eighth part: slices, indexes, loads, fields: each operation does what the logic says. Conditions: those that each lemma names.
-/
import Derived.Test.YtdiiocckeldkfaaGl7
namespace Go.Gl
open Go

section
variable {P : Program} {sg : FuncId → List Bool} {w0 : World} {nA nt : Nat} {M G : Nat → Prop} {ι0 : Nat → Loc} {A : Nat → Prop} {w : World} {S : St} {ι : Nat → Loc} {a : Act}

theorem rep_sl {F : Nat → Prop} {o : Fl} {xs : List PV} {v : Value} (h : RepA w F G ι (.p (.sl o xs)) v) : ∃ ad cap, v = .slice ad xs.length cap ∧ xs.length ≤ cap ∧ cap ≤ maxLen ∧ (o = .own → xs = [] ∧ ad = none ∧ cap = 0) ∧
      (xs = [] ∨ ∃ B off, ad = some ⟨B, off, none⟩ ∧ ¬ F B ∧ (o = .fr → G B) ∧ RepC w F G B off xs) := by simpa only [RepA, RepP] using h
theorem rep_ref {F : Nat → Prop} {id off len : Nat} {v : Value} (h : RepA w F G ι (.ref id off len) v) : ∃ ad cap, v = .slice ad len cap ∧ len ≤ cap ∧ off + cap = (ι id).cap ∧ (ι id).cap ≤ maxLen ∧ (cap = 0 ∨ ad = some ⟨(ι id).B, (ι id).off + off, none⟩) := by
  simpa only [RepA] using h

/-- The two bounds of a slice expression, as the machine has them. -/
theorem bnds (h : Rel w0 nA nt M G ι0 A w S ι a) {lo hi : Option Operand} {d : Nat} {K : Int → Int → Prop} (hb : bnd (Gl.opd S) hi d fun x => bnd (Gl.opd S) lo 0 fun l => K x l) :
    ∃ x l, K x l ∧ ((lo.map a.eval = none ∧ l = 0) ∨ ∃ k, lo.map a.eval = some (.int k l)) ∧ ((hi.map a.eval = none ∧ x = d) ∨ ∃ k, hi.map a.eval = some (.int k x)) := by
  rcases bnd_spec h hb with ⟨rfl, hb1⟩ | ⟨o, k, i, rfl, e, hb1⟩
  · rcases bnd_spec h hb1 with ⟨rfl, hb2⟩ | ⟨o', k', i', rfl, e', hb2⟩
    · exact ⟨_, _, hb2, .inl ⟨rfl, rfl⟩, .inl ⟨rfl, rfl⟩⟩
    · exact ⟨_, _, hb2, .inr ⟨k', by simp [e']⟩, .inl ⟨rfl, rfl⟩⟩
  · rcases bnd_spec h hb1 with ⟨rfl, hb2⟩ | ⟨o', k', i', rfl, e', hb2⟩
    · exact ⟨_, _, hb2, .inl ⟨rfl, rfl⟩, .inr ⟨k, by simp [e]⟩⟩
    · exact ⟨_, _, hb2, .inr ⟨k', by simp [e']⟩, .inr ⟨k, by simp [e]⟩⟩

theorem does_slice {o : Oper} {k : Nat} {K : R → Prop} (h : Rel w0 nA nt M G ι0 A w S ι a) (hd : ∀ d, o.dst = some d → d < nt) (hA : ∀ x, x < 256 → ¬ A (k + x)) {t : TypeId} {x : Operand} {lo hi mx : Option Operand}
    (ho : o.op = .slice t x lo hi mx) (hK : sliceW P t (Gl.opd S x) lo hi mx k (Gl.opd S) K) : Does P w0 nA nt M G ι0 A k o w S a K := by
  have hx := h.opd x
  have nx := h.opd_named x
  unfold sliceW at hK
  split at hK
  · rename_i s e
    rw [e] at hx
    have hx := rep_str hx
    obtain ⟨rfl, ht, hb⟩ := hK
    obtain ⟨hh, l, ⟨h0, h1, h2, hk⟩, hl, hhi⟩ := bnds h hb
    have hsz : (⟨s.toArray⟩ : ByteArray).size = s.length := by simp [ByteArray.size]
    refine does_value h hd (val := .string ((⟨s.toArray⟩ : ByteArray).extract l.toNat hh.toNat)) ?_ ?_ (by simp [AV.has]) hk
    · simp only [execOp, ho, hx, Sem.run_bind, Option.map_none]
      rw [run_slice2_str (strT_spec ht) hl (by rw [hsz]; exact hhi) h0 h1 (by rw [hsz]; exact h2)]
      rfl
    · simp only [RepA, RepP]
      refine congrArg Value.string (ByteArray.ext ?_)
      apply Array.ext'
      simp only [ByteArray.data_extract, List.extract_toArray, List.extract_eq_take_drop]
      rw [List.drop_take]
  · rename_i fl xs e
    rw [e] at hx
    obtain ⟨ad, cap, hv, hl, hm, hown, hc⟩ := rep_sl hx
    obtain ⟨ht, hb⟩ := hK
    obtain ⟨el, i, zv, hu, hi', _, hsz, _⟩ := slT_some ht
    split at hb
    · obtain ⟨hh, l, ⟨h0, h1, h2, hk⟩, hlo, hhi⟩ := bnds h hb
      refine does_value h hd (val := .slice (if cap = l.toNat then ad else ad.map (·.add l.toNat)) (hh.toNat - l.toNat) (cap - l.toNat)) ?_ ?_ (by simp [AV.has]) hk
      · simp only [execOp, ho, hv, Sem.run_bind, Option.map_none]
        rw [run_slice2 hu hi' hsz hlo hhi h0 h1 (by omega)]
        rfl
      · have hlen : ((xs.take hh.toNat).drop l.toNat).length = hh.toNat - l.toNat := by simp; omega
        simp only [RepA, RepP]
        refine ⟨_, _, by rw [hlen], by rw [hlen]; omega, by omega, ?_, ?_⟩
        · intro e'
          obtain ⟨rfl, rfl, rfl⟩ := hown e'
          simp at h2
          have : hh.toNat = 0 := by omega
          simp
        · by_cases hz : hh.toNat - l.toNat = 0
          · left; exact List.eq_nil_of_length_eq_zero (by omega)
          · right
            rcases hc with rfl | ⟨B, off, rfl, hF, hG, hc⟩
            · simp at h2; omega
            · refine ⟨B, off + l.toNat, ?_, hF, hG, take_drop_cells hc _ _⟩
              rw [if_neg (by omega)]
              simp [add_at]
    · rename_i ox
      obtain ⟨hn, hb⟩ := hb
      rcases bnd_spec h hb with ⟨e1, _⟩ | ⟨_, km, im, e1, em, hb⟩
      · cases e1
      · cases e1
        rcases bnd_spec h hb with ⟨rfl, _⟩ | ⟨oh, kh, ih, rfl, eh, hb⟩
        · exact absurd rfl hn
        · rcases bnd_spec h hb with ⟨rfl, hb⟩ | ⟨ol, kl, il, rfl, el', hb⟩
          · obtain ⟨_, rfl, rfl, hk⟩ := hb
            refine does_nil h hd hA (ad := ad) ?_ hk
            simp only [execOp, ho, hv, Sem.run_bind, Option.map_some, Option.map_none, eh, em]
            rw [run_slice000 hu hi' (.inl rfl)]; rfl
          · obtain ⟨rfl, rfl, rfl, hk⟩ := hb
            refine does_nil h hd hA (ad := ad) ?_ hk
            simp only [execOp, ho, hv, Sem.run_bind, Option.map_some, eh, em, el']
            rw [run_slice000 hu hi' (.inr ⟨kl, rfl⟩)]; rfl
  · rename_i id off len e
    rw [e] at hx nx
    obtain ⟨ad, cap, hv, hl, hcap, hm, hc⟩ := rep_ref hx
    obtain ⟨ht, hb⟩ := hK
    obtain ⟨el, i, zv, hu, hi', _, hsz, _⟩ := slT_some ht
    split at hb
    · obtain ⟨hh, l, ⟨h0, h1, h2, hk⟩, hlo, hhi⟩ := bnds h hb
      refine does_value h hd (val := .slice (if cap = l.toNat then ad else ad.map (·.add l.toNat)) (hh.toNat - l.toNat) (cap - l.toNat)) ?_ ?_ ?_ hk
      · simp only [execOp, ho, hv, Sem.run_bind, Option.map_none]
        rw [run_slice2 hu hi' hsz hlo hhi h0 h1 (by omega)]
        rfl
      · simp only [RepA]
        refine ⟨_, _, rfl, by omega, by omega, hm, ?_⟩
        by_cases hz : cap = l.toNat
        · left; omega
        · right
          rcases hc with hc | rfl
          · omega
          · rw [if_neg hz]; simp [add_at, Nat.add_assoc]
      · intro j hj; exact nx j (by simpa [AV.has] using hj)
    · rename_i ox
      obtain ⟨hn, hb⟩ := hb
      rcases bnd_spec h hb with ⟨e1, _⟩ | ⟨_, km, im, e1, em, hb⟩
      · cases e1
      · cases e1
        rcases bnd_spec h hb with ⟨rfl, _⟩ | ⟨oh, kh, ih, rfl, eh, hb⟩
        · exact absurd rfl hn
        · rcases bnd_spec h hb with ⟨rfl, hb⟩ | ⟨ol, kl, il, rfl, el', hb⟩
          · obtain ⟨_, rfl, rfl, hk⟩ := hb
            refine does_nil h hd hA (ad := ad) ?_ hk
            simp only [execOp, ho, hv, Sem.run_bind, Option.map_some, Option.map_none, eh, em]
            rw [run_slice000 hu hi' (.inl rfl)]; rfl
          · obtain ⟨rfl, rfl, rfl, hk⟩ := hb
            refine does_nil h hd hA (ad := ad) ?_ hk
            simp only [execOp, ho, hv, Sem.run_bind, Option.map_some, eh, em, el']
            rw [run_slice000 hu hi' (.inr ⟨kl, rfl⟩)]; rfl
  · exact hK.elim

theorem gt_spec {α : Type} {xs : List α} {i : Int} {K : α → Prop} (h : gt xs i K) : 0 ≤ i ∧ ∃ x, xs[i.toNat]? = some x ∧ i.toNat < xs.length ∧ K x := by
  obtain ⟨h0, h⟩ := h
  split at h
  · rename_i x hx
    exact ⟨h0, x, hx, (List.getElem?_eq_some_iff.1 hx).1, h⟩
  · exact h.elim

theorem arrT_spec {t : TypeId} {n : Nat} (h : arrT P t = some n) : ∃ e i, P.underlying t = some (.array n e) ∧ P.info? e = some i ∧ i.size = 1 ∧ 2 ≤ n := by
  unfold arrT at h
  split at h
  · rename_i m e hu
    split at h
    · rename_i i hi
      split at h
      · rename_i hc
        simp only [Option.some.injEq] at h
        subst h
        exact ⟨e, i, hu, hi, hc.1, hc.2⟩
      · cases h
    · cases h
  · cases h

theorem does_indexAddr {o : Oper} {k : Nat} {K : R → Prop} (h : Rel w0 nA nt M G ι0 A w S ι a) (hd : ∀ d, o.dst = some d → d < nt) {t : TypeId} {x ix : Operand}
    (ho : o.op = .indexAddr t x ix) (hK : indexAddrW P t (Gl.opd S x) (Gl.opd S ix) fun v => K ⟨v, [], []⟩) : Does P w0 nA nt M G ι0 A k o w S a K := by
  have hx := h.opd x
  have hi := h.opd ix
  have nx := h.opd_named x
  unfold indexAddrW at hK
  split at hK
  · rename_i ki i ei
    rw [ei] at hi
    have hi := rep_int hi
    split at hK
    · rename_i fl xs e
      rw [e] at hx
      obtain ⟨ad, cap, hv, hl, hm, _, hc⟩ := rep_sl hx
      obtain ⟨ht, hg⟩ := hK
      obtain ⟨el, inf, zv, hu, hi', _, hsz, _⟩ := slT_some ht
      obtain ⟨h0, y, hy, hlt, hk⟩ := gt_spec hg
      rcases hc with rfl | ⟨B, off, rfl, hF, hG, hc⟩
      · simp at hlt
      · refine does_value h hd (val := .pointer (some ⟨B, off + i.toNat, none⟩)) ?_ ?_ (by simp [AV.has]) hk
        · have hb : 0 ≤ i ∧ i < (xs.length : Int) := ⟨h0, by omega⟩
          simp [execOp, ho, hv, hi, Instr.indexAt, asIntOf, run_underlying hu, sizeOf, typeInfo, hi', hsz, hb, add_at]
        · simp only [RepA, RepP]
          refine ⟨B, off + i.toNat, rfl, .inr hF, ?_⟩
          rw [RepC_iff] at hc
          simp only [RepC, and_true]
          exact hc _ _ hy
    · rename_i id off len e
      rw [e] at hx nx
      obtain ⟨ad, cap, hv, hl, hcap, hm, hc⟩ := rep_ref hx
      obtain ⟨ht, h0, h1, hk⟩ := hK
      obtain ⟨el, inf, zv, hu, hi', _, hsz, _⟩ := slT_some ht
      rcases hc with hc | rfl
      · omega
      · refine does_value h hd (val := .pointer (some ⟨(ι id).B, (ι id).off + (off + i.toNat), none⟩)) ?_ ?_ ?_ hk
        · have hb : 0 ≤ i ∧ i < (len : Int) := ⟨h0, h1⟩
          simp [execOp, ho, hv, hi, Instr.indexAt, asIntOf, run_underlying hu, sizeOf, typeInfo, hi', hsz, hb, add_at, Nat.add_assoc]
        · simp only [RepA]
        · intro j hj; exact nx j (by simpa [AV.has] using hj)
    · rename_i id off e
      rw [e] at hx nx
      simp only [RepA] at hx
      split at hK
      · rename_i n hn
        obtain ⟨h0, h1, hk⟩ := hK
        obtain ⟨el, inf, hu, hi', hsz, h2⟩ := arrT_spec hn
        refine does_value h hd (val := .pointer (some ⟨(ι id).B, (ι id).off + (off + i.toNat), none⟩)) ?_ ?_ ?_ hk
        · have hb : 0 ≤ i ∧ i < (n : Int) := ⟨h0, h1⟩
          simp [execOp, ho, hx, hi, Instr.indexAt, Instr.sureAddr, asIntOf, run_underlying hu, sizeOf, typeInfo, hi', hsz, hb, add_at, Nat.add_assoc]
        · simp only [RepA]
        · intro j hj; exact nx j (by simpa [AV.has] using hj)
      · exact hK.elim
    · exact hK.elim
  · exact hK.elim

theorem does_index {o : Oper} {k : Nat} {K : R → Prop} (h : Rel w0 nA nt M G ι0 A w S ι a) (hd : ∀ d, o.dst = some d → d < nt) {t : TypeId} {x ix : Operand}
    (ho : o.op = .index t x ix) (hK : indexW P t (Gl.opd S x) (Gl.opd S ix) fun v => K ⟨v, [], []⟩) : Does P w0 nA nt M G ι0 A k o w S a K := by
  have hx := h.opd x
  have hi := h.opd ix
  unfold indexW at hK
  split at hK
  · rename_i ki i ei
    rw [ei] at hi
    have hi := rep_int hi
    split at hK
    · rename_i s e
      rw [e] at hx
      have hx := rep_str hx
      obtain ⟨ht, hg⟩ := hK
      obtain ⟨h0, b, hb, hlt, hk⟩ := gt_spec hg
      refine does_value h hd (val := .int .u8 b.toNat) ?_ (by simp only [RepA, RepP]) (by simp [AV.has]) hk
      have e2 : (⟨s.toArray⟩ : ByteArray)[i.toNat]? = some b := by
        have hl2 : i.toNat < (⟨s.toArray⟩ : ByteArray).size := by simpa [ByteArray.size] using hlt
        have e3 : (⟨s.toArray⟩ : ByteArray)[i.toNat]? = some ((⟨s.toArray⟩ : ByteArray)[i.toNat]'hl2) := getElem?_pos (⟨s.toArray⟩ : ByteArray) i.toNat hl2
        rw [e3]
        have e4 : s[i.toNat]'hlt = b := by rw [List.getElem?_eq_getElem hlt] at hb; exact Option.some.inj hb
        exact congrArg some e4
      simp [execOp, ho, hx, hi, Instr.index, asIntOf, run_underlying (strT_spec ht), h0, e2]
    · exact hK.elim
  · exact hK.elim

end
end Go.Gl
