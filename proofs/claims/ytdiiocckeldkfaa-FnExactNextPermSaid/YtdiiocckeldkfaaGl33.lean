/-
  A program logic over the walk's rules: the wider ways (sums that go round, slices beyond their length, a slice set to zero): each operation does what the logic says. Conditions: those that each lemma names.
-/
import Derived.Test.YtdiiocckeldkfaaGl13
set_option linter.unusedSimpArgs false
set_option linter.unusedVariables false
namespace Go.Gl
open Go

section
variable {P : Program} {sg : FuncId → List Bool} {w0 : World} {nA nt : Nat} {M G : Nat → Prop} {ι0 : Nat → Loc} {A : Nat → Prop} {w w' : World} {S : St} {ι : Nat → Loc} {a : Act}

theorem does_binX {o : Oper} {k : Nat} {K : R → Prop} (h : Rel w0 nA nt M G ι0 A w S ι a) (hd : ∀ d, o.dst = some d → d < nt) {op : BinOp} {t t' : TypeId} {x y : Operand} (ho : o.op = .binOp op t x y t')
    (hK : binX op (Gl.opd S x) (Gl.opd S y) fun v => K ⟨.p v, [], []⟩) : Does P w0 nA nt M G ι0 A k o w S a K := by
  have hx := h.opd x
  have hy := h.opd y
  unfold binX at hK
  split at hK
  · rename_i kx i ky j ex ey
    rw [ex] at hx
    rw [ey] at hy
    have hx := rep_int hx
    have hy := rep_int hy
    split at hK
    · obtain ⟨rfl, hk⟩ := hK
      exact does_value h hd (v := .p (.int kx (kx.wrap (i + j)))) (val := .int kx (kx.wrap (i + j))) (by simp [execOp, ho, hx, hy, eqGuard_int, binOp, Op.intArith]) (by simp only [RepA, RepP]) (by simp [AV.has]) hk
    · obtain ⟨rfl, hk⟩ := hK
      exact does_value h hd (v := .p (.int kx (kx.wrap (i - j)))) (val := .int kx (kx.wrap (i - j))) (by simp [execOp, ho, hx, hy, eqGuard_int, binOp, Op.intArith]) (by simp only [RepA, RepP]) (by simp [AV.has]) hk
    · obtain ⟨rfl, hk⟩ := hK
      exact does_value h hd (v := .p (.int kx (kx.wrap (i * j)))) (val := .int kx (kx.wrap (i * j))) (by simp [execOp, ho, hx, hy, eqGuard_int, binOp, Op.intArith]) (by simp only [RepA, RepP]) (by simp [AV.has]) hk
    · exact hK.elim
  · exact hK.elim

/-- A slice expression with all three bounds. -/
theorem run_slice3 {t e : TypeId} {i : TypeInfo} (hu : P.underlying t = some (.slice e)) (hi : P.info? e = some i) (hs : i.size = 1) {ad : Option Addr} {len cap : Nat} {lo : Option Value} {kh km : IntKind} {l h m : Int}
    (hl : (lo = none ∧ l = 0) ∨ ∃ k, lo = some (.int k l)) (h0 : 0 ≤ l) (h1 : l ≤ h) (h2 : h ≤ m) (h3 : m ≤ cap) (w : World) :
    ∃ v, (Instr.sliceAt t (.slice ad len cap) lo (some (.int kh h)) (some (.int km m))).run P w = .ok v w := by
  have e1 : (0 ≤ m ∧ m ≤ (cap : Int)) := ⟨by omega, h3⟩
  have e2 : (0 ≤ h ∧ h ≤ (m.toNat : Int)) := ⟨by omega, by omega⟩
  have e3 : (0 ≤ l ∧ l ≤ (h.toNat : Int)) := ⟨h0, by omega⟩
  rcases hl with ⟨rfl, rfl⟩ | ⟨k, rfl⟩ <;>
    simp [Instr.sliceAt, Instr.slice, run_underlying hu, Instr.sliceBounds, Instr.sliceBound, asIntOf, sizeOf, typeInfo, hi, hs, e1, e2, e3] <;> rw [if_pos (by omega)] <;> (try simp) <;> (try (rw [if_pos (by omega)])) <;> (try simp)

theorem does_sliceX {o : Oper} {k : Nat} {K : R → Prop} (h : Rel w0 nA nt M G ι0 A w S ι a) (hd : ∀ d, o.dst = some d → d < nt) {t : TypeId} {x : Operand} {lo hi mx : Option Operand}
    (ho : o.op = .slice t x lo hi mx) (hK : sliceX P t (Gl.opd S x) lo hi mx S.h (Gl.opd S) K) : Does P w0 nA nt M G ι0 A k o w S a K := by
  have hx := h.opd x
  have nx := h.opd_named x
  unfold sliceX at hK
  split at hK
  · rename_i id off len e
    rw [e] at hx nx
    obtain ⟨ad, cap, hv, hl, hcap, hm, hc⟩ := rep_ref hx
    split at hK
    · rename_i m c hblk
      obtain ⟨ht, hlc, hb⟩ := hK
      obtain ⟨g1, g2, _⟩ := h.heap.live id m c hblk
      obtain ⟨el, i, zv, hu, hi', _, hsz, _⟩ := slT_some ht
      split at hb
      · obtain ⟨hh, l, ⟨h0, h1, h2, hk⟩, hlo, hhi⟩ := bnds h hb
        refine does_value h hd (val := .slice (if cap = l.toNat then ad else ad.map (·.add l.toNat)) (hh.toNat - l.toNat) (cap - l.toNat)) ?_ ?_ ?_ hk
        · simp only [execOp, ho, hv, Sem.run_bind, Option.map_none]
          rw [run_slice2 hu hi' hsz hlo hhi h0 h1 (by omega)]
          rfl
        · simp only [RepA]
          refine ⟨_, _, rfl, by omega, by omega, hm, ?_⟩
          by_cases hz : cap = l.toNat
          · left; omega
          · right
            rcases hc with hc | rfl
            · omega
            · rw [if_neg hz]; simp [add_at, Nat.add_assoc]
        · intro j hj; exact nx j (by simpa [AV.has] using hj)
      · rename_i ox
        obtain ⟨hn, hb⟩ := hb
        rcases bnd_spec h hb with ⟨e1, _⟩ | ⟨_, km, im, e1, em, hb⟩
        · cases e1
        · cases e1
          rcases bnd_spec h hb with ⟨rfl, _⟩ | ⟨oh, kh, ih, rfl, eh, hb⟩
          · exact absurd rfl hn
          · rcases bnd_spec h hb with ⟨rfl, hb⟩ | ⟨ol, kl, il, rfl, el', hb⟩
            · obtain ⟨h0, h1, h2, h3, hk⟩ := hb
              obtain ⟨v, hr⟩ := run_slice3 hu hi' hsz (ad := ad) (len := len) (cap := cap) (lo := none) (kh := kh) (km := km) (.inl ⟨rfl, rfl⟩) h0 h1 h2 (by omega) w
              refine does_value h hd (v := .p .any) (val := v) ?_ (by simp only [RepA, RepP]) (by simp [AV.has]) hk
              simp only [execOp, ho, hv, Sem.run_bind, Option.map_some, Option.map_none, eh, em]
              rw [hr]; rfl
            · obtain ⟨h0, h1, h2, h3, hk⟩ := hb
              obtain ⟨v, hr⟩ := run_slice3 hu hi' hsz (ad := ad) (len := len) (cap := cap) (lo := some (.int kl il)) (kh := kh) (km := km) (.inr ⟨kl, rfl⟩) h0 h1 h2 (by omega) w
              refine does_value h hd (v := .p .any) (val := v) ?_ (by simp only [RepA, RepP]) (by simp [AV.has]) hk
              simp only [execOp, ho, hv, Sem.run_bind, Option.map_some, eh, em, el']
              rw [hr]; rfl
    · exact hK.elim
  · exact hK.elim

theorem zeros_list {z : Value} (hz : z.cells = #[z]) (n : Nat) : (Builtin.zeroCells z.cells n).toList = List.replicate n z := by
  apply List.ext_getElem?
  intro i
  simp only [Builtin.zeroCells, hz, List.getElem?_replicate, List.size_toArray, List.length_cons, List.length_nil, Nat.zero_add, Nat.mul_one, Nat.mod_one, Array.toList_map, Array.toList_range, List.getElem?_map]
  by_cases hi : i < n
  · rw [List.getElem?_range hi, if_pos hi]; rfl
  · rw [List.getElem?_eq_none (by simpa using hi), if_neg hi]; rfl

theorem does_clear {o : Oper} {k : Nat} {K : R → Prop} (h : Rel w0 nA nt M G ι0 A w S ι a) (hd : ∀ d, o.dst = some d → d < nt) {t : TypeId} {x : Operand}
    (ho : o.op = .call { callee := .builtin .clear, args := ⟨[x]⟩, argTypes := ⟨[t]⟩ }) (hK : clearW P t S.h (Gl.opd S x) K) : Does P w0 nA nt M G ι0 A k o w S a K := by
  have hx := h.opd x
  have nx := h.opd_named x
  unfold clearW at hK
  split at hK
  · rename_i id off n e
    rw [e] at hx nx
    obtain ⟨ad, cap, hv, hl, hcap, hm, hc⟩ := rep_ref hx
    have hid : A id := nx id (by simp [AV.has])
    split at hK
    · rename_i b z m c hsl hblk
      obtain ⟨hle, hzok, hk⟩ := hK
      obtain ⟨e, inf, zv, hu, hi, hz, hsz, hzs, hz1, _, _, rfl⟩ := slT_spec hsl
      obtain ⟨g1, g2, g3⟩ := h.heap.live id m c hblk
      have hzc := cells_one hzs hz1
      by_cases hn0 : n = 0
      · subst hn0
        have hr : (execOp a.eval o).run P w = .ok (.value (.tuple #[])) w := by
          simp only [execOp, ho, resolve, invoke, builtin, Sem.run_bind, Sem.run_pure, Result.andThen_ok, List.map_toArray, List.map_cons, List.map_nil, hv]
          cases ad <;> simp [Builtin.clear_, run_underlying hu]
        intro Kc Qc next
        refine wp_value hr (next _ _ _ ι hk ?_)
        rw [app_eq]
        have e1 : hwsH S.h [(id, .live m (c.take off ++ List.replicate 0 (ofConst1 zv).cell ++ c.drop (off + 0)))] = S.h := by
          rw [hwsH_one]
          simp only [List.replicate_zero, List.append_nil, Nat.add_zero, List.take_append_drop]
          funext j
          simp only [updH]
          split
          · rename_i ej; rw [ej, hblk]
          · rfl
        rw [e1]
        exact (h.put o.dst hd (v := .p .any) (by simp only [RepA, RepP]) (by simp [AV.has])).mono fun i hi => .inl hi
      · have hc1 : c ≠ [] := by intro e; subst e; simp at hle; omega
        have hcap1 : (ι id).cap ≠ 0 := by have := List.length_pos_iff.2 hc1; omega
        rcases hc with hc | rfl
        · omega
        rcases g3 with g3 | ⟨⟨cs, E, lo, hi', hcell, hroom, hfr⟩, hrepc, gx⟩
        · exact absurd g3 hcap1
        · have hvl : (List.replicate n zv).length = n := by simp
          have hst := run_storeCells_gen P (ι id).B ((ι id).off + off) E lo hi' (List.replicate n zv) 0 cs w hcell hfr (by rw [hvl]; omega) (fun v hv => by rw [List.eq_of_mem_replicate hv]; exact hz1)
          simp only [Nat.add_zero, hvl] at hst
          have hr : (execOp a.eval o).run P w = .ok (.value (.tuple #[])) (w.setRow (ι id).B (cs.toList.take ((ι id).off + off) ++ List.replicate n zv ++ cs.toList.drop ((ι id).off + off + n)).toArray) := by
            obtain ⟨n', rfl⟩ : ∃ n', n = n' + 1 := ⟨n - 1, by omega⟩
            simp only [execOp, ho, resolve, invoke, builtin, Sem.run_bind, Sem.run_pure, Result.andThen_ok, List.map_toArray, List.map_cons, List.map_nil, hv]
            simp only [Builtin.clear_, List.getElem?_toArray, List.getElem?_cons_zero, Sem.run_bind, run_underlying hu, Result.andThen_ok, zeroValue, typeInfo, run_program, hi, hz, Sem.run_pure, zeros_list hzc, hst]
          have hwr : Wrote w (w.setRow (ι id).B (cs.toList.take ((ι id).off + off) ++ List.replicate n zv ++ cs.toList.drop ((ι id).off + off + n)).toArray) (ι id).B _ := Wrote.setRow hcell (by simp; omega)
          have hBk : w0.heap.size ≤ (ι id).B ∨ M (ι id).B := by
            rcases gx with ⟨g, _⟩ | ⟨_, g⟩
            · exact .inl g
            · exact .inr g
          rw [RepC_iff] at hrepc
          have W := h.heap.write (k := id) (c' := c.take off ++ List.replicate n (ofConst1 zv).cell ++ c.drop (off + n)) hblk (.inl rfl) hcap1 hwr (ι id).off (ι id).cap (Nat.le_refl _) rfl (by simp; omega) (by
            intro j y' hj
            have htk : (cs.toList.take ((ι id).off + off)).length = (ι id).off + off := by simp; omega
            have htc : (c.take off).length = off := by simp; omega
            rw [List.getElem?_toArray]
            rw [List.append_assoc, List.getElem?_append] at hj
            rw [List.append_assoc, List.getElem?_append]
            split at hj
            · rename_i hlt
              rw [if_pos (by omega)]
              rw [List.getElem?_take] at hj ⊢
              split at hj
              · rw [if_pos (by omega)]
                obtain ⟨v, hv1, hv2, hv3⟩ := hrepc j y' hj
                rw [cell?_eq, hcell] at hv1
                exact ⟨v, by simpa using hv1, hv2, hv3⟩
              · cases hj
            · rename_i hge
              rw [htc] at hj hge
              rw [if_neg (by omega), htk, show (ι id).off + j - ((ι id).off + off) = j - off from by omega]
              rw [List.getElem?_append] at hj ⊢
              split at hj
              · rename_i hlt
                simp only [List.length_replicate] at hlt
                rw [List.getElem?_replicate, if_pos hlt] at hj
                cases hj
                rw [if_pos (by rw [hvl]; exact hlt), List.getElem?_replicate, if_pos hlt]
                exact ⟨zv, rfl, hz1, RepP_cell (ofConst1_rep zv)⟩
              · rename_i hge2
                simp only [List.length_replicate] at hge2 hj
                rw [if_neg (by rw [hvl]; exact hge2), hvl, List.getElem?_drop]
                rw [List.getElem?_drop] at hj
                obtain ⟨v, hv1, hv2, hv3⟩ := hrepc _ y' hj
                rw [cell?_eq, hcell] at hv1
                refine ⟨v, ?_, hv2, hv3⟩
                rw [show (ι id).off + off + n + (j - off - n) = (ι id).off + (off + n + (j - off - n)) from by omega]
                simpa using hv1)
          obtain ⟨ok, hh, st⟩ := W
          have eι : updL ι id ⟨(ι id).B, (ι id).off, (ι id).cap⟩ = ι := by
            funext j
            simp only [updL]
            split
            · rename_i ej; rw [ej]
            · rfl
          have eh : updH (updH S.h id .dead) id (.live m (c.take off ++ List.replicate n (ofConst1 zv).cell ++ c.drop (off + n))) = hwsH S.h [(id, .live m (c.take off ++ List.replicate n (ofConst1 zv).cell ++ c.drop (off + n)))] := by
            rw [hwsH_one]
            funext j
            simp only [updH]
            split <;> rfl
          rw [eι, eh] at ok st
          have h2 := h.stepK (A' := plus A k) (fun i hi => .inl hi) (hwr.keep hBk h.keep) ok st (fun i hi => rfl) (fun i hi => by
            have hne2 : i ≠ id := fun e => hi (.inl (e ▸ hid))
            rw [hwsH_one]
            simp only [updH, hne2, if_false]
            exact h.alloc i fun hA => hi (.inl hA))
          intro Kc Qc next
          refine wp_value hr (next _ _ _ ι hk ?_)
          rw [app_eq]
          exact h2.put o.dst hd (v := .p .any) (by simp only [RepA, RepP]) (by simp [AV.has])
    · exact hK.elim
  · exact hK.elim

end
end Go.Gl
