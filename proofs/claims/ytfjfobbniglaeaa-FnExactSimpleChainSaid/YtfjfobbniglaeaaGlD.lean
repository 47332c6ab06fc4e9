/-
 A program logic over the walk's rules, joined: what each operation does, second part. Conditions: those that each lemma names.
-/
import Derived.Test.YtfjfobbniglaeaaGlA
import Derived.Laws.IdiomStrings
import Derived.Laws.Tables
set_option linter.unusedSimpArgs false
set_option linter.unusedVariables false
set_option linter.unusedSectionVars false
namespace Go.Gl
open Go
variable [Amb]
section
variable {P : Program} {sg : FuncId → List Bool} {w0 : World} {nA nt : Nat} {M G : Nat → Prop} {ι0 : Nat → Loc} {A : Nat → Prop} {w w' : World} {S : St} {ι : Nat → Loc} {a : Act}
/-- Two blocks' rows, one behind the other. -/
def Loc.merge (B off cap : Nat) (l l' : Loc) : Loc := ⟨B, off, cap, l.n + l'.n, fun r => if r < l.n then l.inn r else l'.inn (r - l.n)⟩
theorem merge_left {B off cap : Nat} {l l' : Loc} {r : Nat} (hr : r < l.n) : (Loc.merge B off cap l l').sub r = l.sub r := by simp [Loc.sub, Loc.merge, hr]
theorem merge_right {B off cap : Nat} {l l' : Loc} {r : Nat} : (Loc.merge B off cap l l').sub (l.n + r) = l'.sub r := by
 have : ¬ l.n + r < l.n := by omega
 simp [Loc.sub, Loc.merge, this]
theorem merge_right' {B off cap : Nat} {l l' : Loc} {r : Nat} (hr : ¬ r < l.n) : (Loc.merge B off cap l l').sub r = l'.sub (r - l.n) := by simp [Loc.sub, Loc.merge, hr]
theorem dcRep.left {F : Nat → Prop} {l l' : Loc} {rs rs' : List (Option (List PV))} {x : DC} {v : Value} (h : dcRep w F G l rs x v) (hs : x.noSelf = true) (hl : ∀ r, r < rs.length → l'.sub r = l.sub r) : dcRep w F G l' (rs ++ rs') x v := by
 cases x with
 | v x => exact h
 | row r =>
  obtain ⟨h1, h2⟩ := h
  refine ⟨by simp; omega, fun c hc => ?_⟩
  rw [List.getElem?_append_left h1] at hc
  rw [hl r h1]; exact h2 c hc
 | self o => simp [DC.noSelf] at hs
theorem dcRep.right {F : Nat → Prop} {l l' : Loc} {rs rs' : List (Option (List PV))} {x : DC} {v : Value} (h : dcRep w F G l rs' x v) (hs : x.noSelf = true) {n : Nat} (hn : rs.length = n) (hl : ∀ r, r < rs'.length → l'.sub (n + r) = l.sub r) : dcRep w F G l' (rs ++ rs') (x.up n) v := by
 cases x with
 | v x => exact h
 | row r =>
  obtain ⟨h1, h2⟩ := h
  refine ⟨by simp; omega, fun c hc => ?_⟩
  rw [List.getElem?_append_right (by omega), show n + r - rs.length = r by omega] at hc
  rw [hl r h1]; exact h2 c hc
 | self o => simp [DC.noSelf] at hs
theorem merge_owns {m m' : Bool} {cs cs' xs : List DC} {rs rs' : List (Option (List PV))} {l l' : Loc} {B0 off cap B : Nat} (hl : rs.length = l.n)
  (ho : owns (.deep m xs (rs ++ rs')) (Loc.merge B0 off cap l l') B) : (cap ≠ 0 ∧ B0 = B) ∨ (∃ r c, rs[r]? = some (some c) ∧ (l.sub r).cap ≠ 0 ∧ (l.sub r).B = B) ∨ (∃ r c, rs'[r]? = some (some c) ∧ (l'.sub r).cap ≠ 0 ∧ (l'.sub r).B = B) := by
 rcases ho with ho | ⟨r, c, hr, h0, hB⟩
 ·exact .inl ho
 ·right
  by_cases hlt : r < rs.length
  ·rw [List.getElem?_append_left hlt] at hr
   rw [merge_left (by omega)] at h0 hB
   exact .inl ⟨r, c, hr, h0, hB⟩
  ·rw [List.getElem?_append_right (by omega)] at hr
   rw [merge_right' (by omega)] at h0 hB
   rw [hl] at hr
   exact .inr ⟨_, c, hr, h0, hB⟩
/-- The rows of two blocks that lie apart. -/
theorem merge_ok {F : Nat → Prop} {O : Bool → Nat → Prop} {m m' : Bool} {cs cs' : List DC} {rs rs' : List (Option (List PV))} {l l' : Loc} {B0 off cap : Nat} {xs : List DC}
  (h1 : okB w F G O (.deep m cs rs) l) (h2 : okB w F G O (.deep m' cs' rs') l') (hO : ∀ B, O m' B → O m B) (hap : ∀ B, owns (.deep m cs rs) l B → owns (.deep m' cs' rs') l' B → False)
  (hout : xs.length ≤ cap ∧ cap ≤ maxLen ∧ (cap = 0 ∨ (RowAt w (Loc.merge B0 off cap l l') ∧ O m B0 ∧
   ∀ (j : Nat) (x : DC), xs[j]? = some x → ∃ v, w.cell? ⟨B0, off + j, none⟩ = some v ∧ v.oneCell' = true ∧ dcRep w F G (Loc.merge B0 off cap l l') (rs ++ rs') x v)))
  (hB : cap ≠ 0 → (∀ r c, rs[r]? = some (some c) → (l.sub r).cap ≠ 0 → (l.sub r).B ≠ B0) ∧ ∀ r c, rs'[r]? = some (some c) → (l'.sub r).cap ≠ 0 → (l'.sub r).B ≠ B0) :
  okB w F G O (.deep m xs (rs ++ rs')) (Loc.merge B0 off cap l l') := by
 obtain ⟨n1, _, r1, d1, _⟩ := h1
 obtain ⟨n2, _, r2, d2, _⟩ := h2
 have split : ∀ {r c}, (rs ++ rs')[r]? = some (some c) → (r < l.n ∧ rs[r]? = some (some c)) ∨ (¬ r < l.n ∧ rs'[r - l.n]? = some (some c)) := by
  intro r c hr
  by_cases hlt : r < rs.length
  ·rw [List.getElem?_append_left hlt] at hr; exact .inl ⟨by omega, hr⟩
  ·rw [List.getElem?_append_right (by omega), n1] at hr; exact .inr ⟨by omega, hr⟩
 refine ⟨by simp [Loc.merge, n1, n2], hout, fun r c hr => ?_, fun r c r' c' hr hr' hne z z' => ?_, fun r c hr hc z => ?_⟩
 ·rcases split hr with ⟨hlt, hr⟩ | ⟨hlt, hr⟩
  ·rw [merge_left hlt]; exact r1 r c hr
  ·rw [merge_right' hlt]
   obtain ⟨g1, g2, g3⟩ := r2 _ c hr
   exact ⟨g1, g2, g3.imp _root_.id fun ⟨q1, q2, q3⟩ => ⟨q1, q2, hO _ q3⟩⟩
 ·rcases split hr with ⟨hlt, hr⟩ | ⟨hlt, hr⟩ <;> rcases split hr' with ⟨hlt', hr'⟩ | ⟨hlt', hr'⟩
  ·rw [merge_left hlt] at z ⊢; rw [merge_left hlt'] at z' ⊢; exact d1 r c r' c' hr hr' hne z z'
  ·rw [merge_left hlt] at z ⊢; rw [merge_right' hlt'] at z' ⊢
   exact fun e => hap _ (.inr ⟨r, c, hr, z, rfl⟩) (.inr ⟨_, c', hr', z', e.symm⟩)
  ·rw [merge_right' hlt] at z ⊢; rw [merge_left hlt'] at z' ⊢
   exact fun e => hap _ (.inr ⟨r', c', hr', z', rfl⟩) (.inr ⟨_, c, hr, z, e⟩)
  ·rw [merge_right' hlt] at z ⊢; rw [merge_right' hlt'] at z' ⊢; exact d2 _ c _ c' hr hr' (by omega) z z'
 ·obtain ⟨b1, b2⟩ := hB hc
  rcases split hr with ⟨hlt, hr⟩ | ⟨hlt, hr⟩
  ·rw [merge_left hlt] at z ⊢; exact b1 r c hr z
  ·rw [merge_right' hlt] at z ⊢; exact b2 _ c hr z
/-- The cells of a block whose rows are the call's own, as they lie in memory. -/
theorem deep_vals {F : Nat → Prop} {O : Bool → Nat → Prop} {m : Bool} {cs : List DC} {rs : List (Option (List PV))} {l : Loc} (h : okB w F G O (.deep m cs rs) l) :
  ∃ vs : List Value, vs.length = cs.length ∧ ∀ (i : Nat) (x : DC), cs[i]? = some x → ∃ v, vs[i]? = some v ∧ v.oneCell' = true ∧ dcRep w F G l rs x v ∧ w.cell? ⟨l.B, l.off + i, none⟩ = some v := by
 obtain ⟨_, ⟨h1, _, h3⟩, _⟩ := h
 by_cases h0 : l.cap = 0
 ·have : cs = [] := List.eq_nil_of_length_eq_zero (by omega)
  subst this
  exact ⟨[], rfl, fun i x hi => by simp at hi⟩
 ·rcases h3 with h3 | ⟨_, _, h3⟩
  ·exact absurd h3 h0
  ·have key : ∀ n, n ≤ cs.length → ∃ vs : List Value, vs.length = n ∧ ∀ (i : Nat) (x : DC), i < n → cs[i]? = some x → ∃ v, vs[i]? = some v ∧ v.oneCell' = true ∧ dcRep w F G l rs x v ∧ w.cell? ⟨l.B, l.off + i, none⟩ = some v := by
    intro n
    induction n with
    | zero => exact fun _ => ⟨[], rfl, fun i x hi => by omega⟩
    | succ n ih =>
     intro hn
     obtain ⟨vs, e, hv⟩ := ih (by omega)
     obtain ⟨v, q1, q2, q3⟩ := h3 n _ (List.getElem?_eq_getElem (show n < cs.length by omega))
     refine ⟨vs ++ [v], by simp [e], fun i x hi hx => ?_⟩
     by_cases hin : i < n
     ·obtain ⟨u, u1, u2⟩ := hv i x hin hx
      exact ⟨u, by rw [List.getElem?_append_left (by omega)]; exact u1, u2⟩
     ·obtain rfl : i = n := by omega
      rw [List.getElem?_eq_getElem (show i < cs.length by omega)] at hx
      cases hx
      exact ⟨v, by rw [List.getElem?_append_right (by omega)]; simp [e], q2, q3, q1⟩
   obtain ⟨vs, e, hv⟩ := key cs.length (Nat.le_refl _)
   exact ⟨vs, e, fun i x hx => hv i x (List.getElem?_eq_some_iff.1 hx).1 hx⟩
theorem vals_first {B o len cap : Nat} {ad : Option Addr} {vs : List Value} (hlen : vs.length = len) (ha : len = 0 ∨ ad = some ⟨B, o, none⟩) (hc : ∀ (i : Nat) (v : Value), vs[i]? = some v → w.cell? ⟨B, o + i, none⟩ = some v) :
  ∀ w1 : World, w1.heap = w.heap → (Builtin.firstCells 1 len (.slice ad len cap)).run P w1 = .ok ⟨vs⟩ w1 := by
 intro w1 hw
 by_cases h0 : len = 0
 ·subst h0
  have : vs = [] := List.eq_nil_of_length_eq_zero hlen
  subst this
  cases ad <;> simp [Builtin.firstCells, loadCells, loadCellsFrom]
 ·rcases ha with ha | rfl
  ·exact absurd ha h0
  ·exact run_firstCells_some (P := P) w1 1 len _ len cap vs (by omega) (fun j v hj => by rw [add_at, cell?_heap hw]; exact hc j v hj)
theorem org_mono {m : Bool} {z B : Nat} (h : Org z M G false B) : Org z M G m B := by
 rcases h with h | ⟨h, _⟩
 ·exact .inl h
 ·cases h
theorem append_deep {o : Oper} {k : Nat} {K : R → Prop} (h : Rel w0 nA nt M G ι0 A w S ι a) (hd : ∀ d, o.dst = some d → d < nt) (hk0 : ¬ A k) {t t' e : TypeId} {inf : TypeInfo} {zv : Value} {s x : Operand}
  (hu : P.underlying t = some (.slice e)) (hi : P.info? e = some inf) (hz : inf.zero = some zv) (hsz : inf.size = 1) (hzs : zv.cells.size = 1) (hz1 : zv.oneCell' = true) (hb : inf.bytes ≤ 64)
  (ht' : (slT P t').isSome = true ∨ strT P t' = true)
  (exec : ∀ {r : Result Value} {sv : Value}, a.eval s = sv → (Builtin.append_ #[t, t'] o.type #[sv, a.eval x]).run P w = r → (execOp a.eval o).run P w = r.andThen fun v w' => .ok (.value v) w')
  {j n : Nat} {cs' : List DC} {rs' : List (Option (List PV))} (hx : RepA w (Held S.h ι) G ι (.ref j 0 n) (a.eval x)) (hjA : A j) (hbj : S.h j = .deep false cs' rs') (hn : n = cs'.length) (hns' : cs'.all DC.noSelf = true)
  {id len : Nat} {m : Bool} {cs : List DC} {rs : List (Option (List PV))} (hs : RepA w (Held S.h ι) G ι (.ref id 0 len) (a.eval s)) (hid : A id) (hbi : S.h id = .deep m cs rs) (hl : len = cs.length) (hns : cs.all DC.noSelf = true)
  (hne : id ≠ j) (hbig : len + n ≤ 1099511627776) (hK : K ⟨.ref k 0 (len + n), [(j, .dead), (id, .dead), (k, .deep m (cs ++ cs'.map (DC.up rs.length)) (rs ++ rs'))], [id, j]⟩) : Does P w0 nA nt M G ι0 A k o w S a K := by
 have hki : id ≠ k := fun e => hk0 (e ▸ hid)
 have hkj : j ≠ k := fun e => hk0 (e ▸ hjA)
 have oki := h.heap.deep hbi
 have okj := h.heap.deep hbj
 obtain ⟨olds, ol1, ol2⟩ := deep_vals oki
 obtain ⟨news, nl1, nl2⟩ := deep_vals okj
 obtain ⟨ad, cap, hv, hlc, hcap, hcm, hc⟩ := rep_ref hs
 obtain ⟨ad', cap', hv', hlc', hcap', hcm', hc'⟩ := rep_ref hx
 have one : ∀ v ∈ news, v.oneCell' = true := by
  intro v hm
  obtain ⟨i, hi'⟩ := List.getElem?_of_mem hm
  have hlt := (List.getElem?_eq_some_iff.1 hi').1
  obtain ⟨u, u1, u2, _⟩ := nl2 i _ (List.getElem?_eq_getElem (show i < cs'.length by omega))
  rw [hi'] at u1; cases u1; exact u2
 have hfirst' : ∀ w1 : World, w1.heap = w.heap → (Builtin.firstCells 1 n (.slice ad' n cap')).run P w1 = .ok ⟨news⟩ w1 := by
  refine vals_first (B := (ι j).B) (o := (ι j).off) (by omega) ?_ fun i v hi' => ?_
  ·rcases hc' with hc' | rfl
   ·left; omega
   ·right; simp
  ·have hlt := (List.getElem?_eq_some_iff.1 hi').1
   obtain ⟨u, u1, _, _, u4⟩ := nl2 i _ (List.getElem?_eq_getElem (show i < cs'.length by omega))
   rw [hi'] at u1; cases u1; exact u4
 have hfirst : ∀ w1 : World, w1.heap = w.heap → (Builtin.firstCells 1 len (.slice ad len cap)).run P w1 = .ok ⟨olds⟩ w1 := by
  refine vals_first (B := (ι id).B) (o := (ι id).off) (by omega) ?_ fun i v hi' => ?_
  ·rcases hc with hc | rfl
   ·left; omega
   ·right; simp
  ·have hlt := (List.getElem?_eq_some_iff.1 hi').1
   obtain ⟨u, u1, _, _, u4⟩ := ol2 i _ (List.getElem?_eq_getElem (show i < cs.length by omega))
   rw [hi'] at u1; cases u1; exact u4
 have src : Src P w (a.eval x) news := ⟨fun w1 => by rw [hv']; simp [Builtin.lenOf]; omega, fun w1 hw => by rw [hv', nl1, ← hn]; exact hfirst' w1 hw, one⟩
 -- the cells of the new block
 have mk : ∀ {w' : World} {F' : Nat → Prop} {B0 off0 cap0 : Nat}, Stays w w' (Held S.h ι) F' → (∀ (i : Nat) (v : Value), (olds ++ news)[i]? = some v → w'.cell? ⟨B0, off0 + i, none⟩ = some v) →
   ∀ (i : Nat) (y : DC), (cs ++ cs'.map (DC.up rs.length))[i]? = some y → ∃ v, w'.cell? ⟨B0, off0 + i, none⟩ = some v ∧ v.oneCell' = true ∧ dcRep w' F' G (Loc.merge B0 off0 cap0 (ι id) (ι j)) (rs ++ rs') y v := by
  intro w' F' B0 off0 cap0 st hcell i y hy
  rw [List.getElem?_append] at hy
  split at hy
  ·rename_i hlt
   obtain ⟨v, v1, v2, v3, _⟩ := ol2 i y hy
   refine ⟨v, hcell i v (by rw [List.getElem?_append_left (by omega)]; exact v1), v2, ?_⟩
   exact (dcRep.left v3 (List.all_eq_true.1 hns _ (List.mem_of_getElem? hy)) fun r hr => merge_left (by rw [← oki.1]; exact hr)).tr st fun _ _ _ h => h
  ·rename_i hge
   rw [List.getElem?_map, Option.map_eq_some_iff] at hy
   obtain ⟨y', hy', rfl⟩ := hy
   obtain ⟨v, v1, v2, v3, _⟩ := nl2 _ y' hy'
   refine ⟨v, hcell i v (by rw [List.getElem?_append_right (by omega), ol1]; exact v1), v2, ?_⟩
   exact (dcRep.right v3 (List.all_eq_true.1 hns' _ (List.mem_of_getElem? hy')) rfl fun r _ => by rw [oki.1]; exact merge_right).tr st fun _ _ _ h => h
 have apij : ∀ B, owns (.deep m cs rs) (ι id) B → owns (.deep false cs' rs') (ι j) B → False := fun B h1 h2 =>
  hne (h.heap.apart id j B (by rw [hbi]; exact h1) (by rw [hbj]; exact h2))
 -- the heap behind it
 have fin : ∀ {w' : World} {B0 off0 cap0 : Nat}, cs.length + cs'.length ≤ cap0 → cap0 ≤ maxLen → (∀ B, B < w.heap.size → B ≠ B0 → w'.heap[B]? = w.heap[B]?) →
   (cap0 ≠ 0 → B0 = w.heap.size ∨ (B0 = (ι id).B ∧ (ι id).cap ≠ 0)) → (B0 < w.heap.size → cap0 = 0 → w'.heap[B0]? = w.heap[B0]?) →
   (cap0 = 0 ∨ (RowAt w' (Loc.merge B0 off0 cap0 (ι id) (ι j)) ∧ Org w0.heap.size M G m B0 ∧ ∀ (i : Nat) (v : Value), (olds ++ news)[i]? = some v → w'.cell? ⟨B0, off0 + i, none⟩ = some v)) →
   HeapOk w' w0.heap.size M G (hwsH S.h [(j, .dead), (id, .dead), (k, .deep m (cs ++ cs'.map (DC.up rs.length)) (rs ++ rs'))]) (updL ι k (Loc.merge B0 off0 cap0 (ι id) (ι j))) ∧
   Stays w w' (Held S.h ι) (Held (hwsH S.h [(j, .dead), (id, .dead), (k, .deep m (cs ++ cs'.map (DC.up rs.length)) (rs ++ rs'))]) (updL ι k (Loc.merge B0 off0 cap0 (ι id) (ι j)))) := by
  intro w' B0 off0 cap0 hle hmx hkeep hB0 hB00 hout
  have ek : hwsH S.h [(j, .dead), (id, .dead), (k, .deep m (cs ++ cs'.map (DC.up rs.length)) (rs ++ rs'))] k = .deep m (cs ++ cs'.map (DC.up rs.length)) (rs ++ rs') := by simp [hwsH]
  have eι : updL ι k (Loc.merge B0 off0 cap0 (ι id) (ι j)) k = Loc.merge B0 off0 cap0 (ι id) (ι j) := by simp [updL]
  have ei : hwsH S.h [(j, .dead), (id, .dead), (k, .deep m (cs ++ cs'.map (DC.up rs.length)) (rs ++ rs'))] id = .dead := by simp [hwsH, hki]
  have ej : hwsH S.h [(j, .dead), (id, .dead), (k, .deep m (cs ++ cs'.map (DC.up rs.length)) (rs ++ rs'))] j = .dead := by simp [hwsH, hkj]
  have cases : ∀ B, owns (.deep m (cs ++ cs'.map (DC.up rs.length)) (rs ++ rs')) (Loc.merge B0 off0 cap0 (ι id) (ι j)) B → (cap0 ≠ 0 ∧ B0 = B) ∨ (owns (S.h id) (ι id) B) ∨ owns (S.h j) (ι j) B := by
   intro B ho
   rcases merge_owns (m' := m) (cs := cs) (cs' := cs') oki.1 ho with h1 | h1 | h1
   ·exact .inl h1
   ·rw [hbi]; exact .inr (.inl (.inr h1))
   ·rw [hbj]; exact .inr (.inr (.inr h1))
  have key := h.heap.writeS (w' := w') (h' := hwsH S.h [(j, .dead), (id, .dead), (k, .deep m (cs ++ cs'.map (DC.up rs.length)) (rs ++ rs'))]) (ι' := updL ι k (Loc.merge B0 off0 cap0 (ι id) (ι j))) (k := k) (fun i => i = id ∨ i = j)
   (fun i hX hik => by
    have q1 : i ≠ id := fun e => hX (.inl e)
    have q2 : i ≠ j := fun e => hX (.inr e)
    exact ⟨by simp [hwsH, hik, q1, q2], by simp [updL, hik]⟩)
   (fun i hX hik B ho => by
    rcases hX with rfl | rfl
    ·rw [ei] at ho; exact ho.elim
    ·rw [ej] at ho; exact ho.elim)
   (fun B hB hX => by
    by_cases e : B = B0
    ·subst e
     by_cases hc0 : cap0 = 0
     ·exact hB00 hB hc0
     ·rcases hB0 hc0 with q | ⟨q, q'⟩
      ·omega
      ·exact absurd (by rw [hbi]; exact .inl ⟨q', q.symm⟩) (hX id (.inl rfl))
    ·exact hkeep B hB e)
   (fun B ho => by
    rw [ek, eι] at ho
    rcases cases B ho with ⟨hc0, rfl⟩ | q | q
    ·rcases hB0 hc0 with q | ⟨q, q'⟩
     ·left; omega
     ·right; exact ⟨id, .inl rfl, by rw [hbi]; exact .inl ⟨q', q.symm⟩, fun _ => by rw [ei]; exact fun q => q⟩
    ·exact .inr ⟨id, .inl rfl, q, fun _ => by rw [ei]; exact fun q => q⟩
    ·exact .inr ⟨j, .inr rfl, q, fun _ => by rw [ej]; exact fun q => q⟩)
   (fun st i hi' => by
    rcases hi' with (rfl | rfl) | rfl
    ·rw [ei]; trivial
    ·rw [ej]; trivial
    ·rw [ek, eι]
     have keepHeap : ∀ B, cap0 ≠ 0 → B ≠ B0 → B < w.heap.size → w'.heap[B]? = w.heap[B]? := fun B _ hne hlt => hkeep B hlt hne
     -- rows stay
     have tri : okB w' (Held (hwsH S.h [(j, .dead), (id, .dead), (i, .deep m (cs ++ cs'.map (DC.up rs.length)) (rs ++ rs'))]) (updL ι i (Loc.merge B0 off0 cap0 (ι id) (ι j)))) G (Org w0.heap.size M G) (.deep m [] rs) { (ι id) with cap := 0 } := by
      refine okB.tr (O := Org w0.heap.size M G) st (fun _ _ _ h => h) (fun B ho => ?_) (fun _ _ _ h => h) ⟨oki.1, ⟨Nat.le_refl _, Nat.zero_le _, .inl rfl⟩, oki.2.2.1, oki.2.2.2.1, fun _ _ _ hc => absurd rfl hc⟩
      rcases ho with ⟨ho, _⟩ | ⟨r, c, hr, z, hB⟩
      ·exact absurd rfl ho
      ·have hlt : B < w.heap.size := oki.lt (B := B) (.inr ⟨r, c, hr, z, hB⟩)
       by_cases e : B = B0
       ·subst e
        by_cases hc0 : cap0 = 0
        ·exact hB00 hlt hc0
        ·rcases hB0 hc0 with q | ⟨q, q'⟩
         ·omega
         ·exact absurd (hB.trans q) (oki.2.2.2.2 r c hr q' z)
       ·exact hkeep B hlt e
     have trj : okB w' (Held (hwsH S.h [(j, .dead), (id, .dead), (i, .deep m (cs ++ cs'.map (DC.up rs.length)) (rs ++ rs'))]) (updL ι i (Loc.merge B0 off0 cap0 (ι id) (ι j)))) G (Org w0.heap.size M G) (.deep false [] rs') { (ι j) with cap := 0 } := by
      refine okB.tr (O := Org w0.heap.size M G) st (fun _ _ _ h => h) (fun B ho => ?_) (fun _ _ _ h => h) ⟨okj.1, ⟨Nat.le_refl _, Nat.zero_le _, .inl rfl⟩, okj.2.2.1, okj.2.2.2.1, fun _ _ _ hc => absurd rfl hc⟩
      rcases ho with ⟨ho, _⟩ | ⟨r, c, hr, z, hB⟩
      ·exact absurd rfl ho
      ·have hlt : B < w.heap.size := okj.lt (B := B) (.inr ⟨r, c, hr, z, hB⟩)
       by_cases e : B = B0
       ·subst e
        by_cases hc0 : cap0 = 0
        ·exact hB00 hlt hc0
        ·rcases hB0 hc0 with q | ⟨q, q'⟩
         ·omega
         ·exact (apij _ (.inl ⟨q', q.symm⟩) (.inr ⟨r, c, hr, z, hB⟩)).elim
       ·exact hkeep B hlt e
     refine merge_ok (l := { (ι id) with cap := 0 }) (l' := { (ι j) with cap := 0 }) tri trj (fun B => org_mono) (fun B o1 o2 => ?_) ⟨by simp; omega, hmx, hout.imp _root_.id fun ⟨q1, q2, q3⟩ => ⟨q1, q2, mk st q3⟩⟩ fun hc0 => ⟨fun r c hr z e => ?_, fun r c hr z e => ?_⟩
     ·rcases o1 with ⟨q, _⟩ | o1
      ·exact absurd rfl q
      ·rcases o2 with ⟨q, _⟩ | o2
       ·exact absurd rfl q
       ·exact apij B (.inr o1) (.inr o2)
     ·rcases hB0 hc0 with q | ⟨q, q'⟩
      ·have := oki.lt (B := B0) (.inr ⟨r, c, hr, z, e⟩); omega
      ·exact oki.2.2.2.2 r c hr q' z (e.trans q)
     ·rcases hB0 hc0 with q | ⟨q, q'⟩
      ·have := okj.lt (B := B0) (.inr ⟨r, c, hr, z, e⟩); omega
      ·exact apij B0 (.inl ⟨q', q.symm⟩) (.inr ⟨r, c, hr, z, e⟩))
  exact ⟨key.1, key.2.2⟩
 have dead : ∀ {i}, ¬ plus A k i → hwsH S.h [(j, .dead), (id, .dead), (k, .deep m (cs ++ cs'.map (DC.up rs.length)) (rs ++ rs'))] i = .dead := fun {i} hi' => by
  have q1 : i ≠ k := fun e => hi' (.inr ⟨by omega, by omega⟩)
  have q2 : i ≠ id := fun e => hi' (.inl (e ▸ hid))
  have q3 : i ≠ j := fun e => hi' (.inl (e ▸ hjA))
  simp only [hwsH, q1, q2, q3, if_false]
  exact h.alloc i fun hA => hi' (.inl hA)
 have loc : ∀ {l : Loc} {i}, A i → LocEq (ι i) (updL ι k l i) := fun {l i} hi' => by
  have : i ≠ k := fun e => hk0 (e ▸ hi')
  simp [updL, this, LocEq.refl]
 have named : ∀ i, (AV.ref k 0 (len + n)).has i = true → plus A k i := fun i hi' => by
  simp [AV.has] at hi'
  exact .inr ⟨by omega, by omega⟩
 by_cases hfit : len + n ≤ cap
 ·by_cases hcap0 : cap = 0
  ·subst hcap0
   have hr := run_append_fit (P := P) (w := w) (w' := w) (ty := o.type) hu hi hsz ht' (base := ad) (sLen := len) (sCap := 0) src (by omega) (fun b _ => by
    have : news = [] := List.eq_nil_of_length_eq_zero (by omega)
    subst this; rfl) (fun _ => rfl)
   have hr2 := exec hv hr
   intro Kc Qc next
   obtain ⟨ok, st⟩ := fin (w' := w) (B0 := 0) (off0 := 0) (cap0 := 0) (by omega) (Nat.zero_le _) (fun _ _ _ => rfl) (fun q => absurd rfl q) (fun _ _ => rfl) (.inl rfl)
   have h2 := h.step (A' := plus A k) (fun i hi => .inl hi) (Keep.refl w M) ok st (fun i hi => loc hi) (fun i hi => dead hi)
   refine wp_value hr2 (next _ _ _ (updL ι k (Loc.merge 0 0 0 (ι id) (ι j))) hK ?_)
   rw [app_eq]
   refine h2.put o.dst hd ?_ named
   simp only [RepA, updL, if_true, Loc.merge]
   exact ⟨ad, 0, by rw [nl1, ← hn], by omega, by omega, Nat.zero_le _, .inl rfl⟩
  ·rcases hc with hc | rfl
   ·exact absurd hc hcap0
   ·have hcap1 : (ι id).cap ≠ 0 := by omega
    obtain ⟨_, ⟨g1, g2, g3⟩, _⟩ := oki
    rcases g3 with g3 | ⟨⟨cells, E, lo, hi', hcell, hroom, hfr⟩, gx, _⟩
    ·exact absurd g3 hcap1
    ·have hst := run_storeCells_gen P (ι id).B ((ι id).off + len) E lo hi' news 0 cells w hcell (hfr.imp_right And.right) (by omega) one
     simp only [Nat.add_zero] at hst
     have hr := run_append_fit (P := P) (w := w) (ty := o.type) hu hi hsz ht' (base := some ⟨(ι id).B, (ι id).off + 0, none⟩) (sLen := len) (sCap := cap) src (by omega) (fun b hb => by cases hb; rw [add_at]; exact hst) (fun hb => by cases hb)
     have hr2 := exec hv hr
     simp only [Result.andThen_ok] at hr2
     have hwr : Wrote w (w.setRow (ι id).B (cells.toList.take ((ι id).off + len) ++ news ++ cells.toList.drop ((ι id).off + len + news.length)).toArray) (ι id).B _ := Wrote.setRow hcell (by simp; omega)
     have hBk : w0.heap.size ≤ (ι id).B ∨ M (ι id).B := by
      rcases gx with ⟨g, _⟩ | ⟨_, g⟩
      ·exact .inl g
      ·exact .inr g
     have cellAt : ∀ (i : Nat) (v : Value), (olds ++ news)[i]? = some v → (w.setRow (ι id).B (cells.toList.take ((ι id).off + len) ++ news ++ cells.toList.drop ((ι id).off + len + news.length)).toArray).cell? ⟨(ι id).B, (ι id).off + i, none⟩ = some v := by
      intro i v hi2
      obtain ⟨_, _, _, _, hb2, _⟩ := hwr.at_
      have hb2' := setRow_heap w (ι id).B cells (cells.toList.take ((ι id).off + len) ++ news ++ cells.toList.drop ((ι id).off + len + news.length)).toArray E (lo, hi') hcell
      rw [cell?_eq, hb2']
      simp only
      have htk : (cells.toList.take ((ι id).off + len)).length = (ι id).off + len := by simp; omega
      rw [List.getElem?_toArray, List.append_assoc]
      rw [List.getElem?_append] at hi2
      split at hi2
      ·rename_i hlt
       rw [List.getElem?_append_left (by omega), List.getElem?_take, if_pos (by omega)]
       obtain ⟨u, u1, _, _, u4⟩ := ol2 i _ (List.getElem?_eq_getElem (show i < cs.length by omega))
       rw [hi2] at u1; cases u1
       rw [cell?_eq, hcell] at u4
       simpa using u4
      ·rename_i hge
       have hlt := (List.getElem?_eq_some_iff.1 hi2).1
       rw [List.getElem?_append_right (by omega), htk, List.getElem?_append_left (by omega), show (ι id).off + i - ((ι id).off + len) = i - olds.length by omega]
       exact hi2
     intro Kc Qc next
     have hb2' := setRow_heap w (ι id).B cells (cells.toList.take ((ι id).off + len) ++ news ++ cells.toList.drop ((ι id).off + len + news.length)).toArray E (lo, hi') hcell
     obtain ⟨ok, st⟩ := fin (B0 := (ι id).B) (off0 := (ι id).off) (cap0 := (ι id).cap) (by omega) hcm (fun B _ hB => hwr.other B hB) (fun _ => .inr ⟨rfl, hcap1⟩) (fun _ q => absurd q hcap1)
      (.inr ⟨⟨_, E, lo, hi', hb2', by simp [Loc.merge]; omega, by simpa using hfr.imp _root_.id fun q => ⟨q.1, by have := q.2; omega⟩⟩, gx, cellAt⟩)
     have h2 := h.stepK (A' := plus A k) (fun i hi => .inl hi) (hwr.keep hBk h.keep) ok st (fun i hi => loc hi) (fun i hi => dead hi)
     refine wp_value hr2 (next _ _ _ (updL ι k (Loc.merge (ι id).B (ι id).off (ι id).cap (ι id) (ι j))) hK ?_)
     rw [app_eq]
     refine h2.put o.dst hd ?_ named
     simp only [RepA, updL, if_true, Loc.merge]
     exact ⟨_, cap, by rw [nl1, ← hn], by omega, by omega, hcm, .inr rfl⟩
 ·have hr := run_append_more (P := P) (w := w) (ty := o.type) hu hi hz hsz hb ht' (base := ad) (sLen := len) (sCap := cap) (olds := olds) src (by omega) hfirst (by omega)
  have hr2 := exec hv hr
  simp only [Result.andThen_ok] at hr2
  have hgc := grownCap_ge w (len + news.length) cap e
  have hgm := grownCap_le_maxLen w (len + news.length) cap e (by simp only [maxLen]; omega)
  have hzc := cells_one hzs hz1
  have hp := Pushed.drew w (.cells (olds ++ news ++ (Builtin.zeroCells zv.cells (grownCap w (len + news.length) cap e - (len + news.length))).toList).toArray e)
  intro Kc Qc next
  obtain ⟨ok, st⟩ := fin (B0 := w.heap.size) (off0 := 0) (cap0 := grownCap w (len + news.length) cap e) (by omega) hgm (fun B hB _ => hp.old hB) (fun _ => .inl rfl) (fun q => absurd q (Nat.lt_irrefl _))
   (.inr ⟨⟨_, e, 0, 0, hp.at, by simp [Loc.merge, Builtin.zeroCells, hzc]; omega, .inl (Nat.le_refl _)⟩, .inl ⟨h.keep.size, h.new _ h.keep.size⟩, fun i v hi' => by
    rw [cell?_eq, hp.at]
    have hlt := (List.getElem?_eq_some_iff.1 hi').1
    simp only [Nat.zero_add, List.getElem?_toArray]
    rw [List.getElem?_append_left hlt]; exact hi'⟩)
  have h2 := h.stepK (A' := plus A k) (fun i hi => .inl hi) (h.keep.trans (hp.keep M)) ok st (fun i hi => loc hi) (fun i hi => dead hi)
  refine wp_value hr2 (next _ _ _ (updL ι k (Loc.merge w.heap.size 0 (grownCap w (len + news.length) cap e) (ι id) (ι j))) hK ?_)
  rw [app_eq]
  refine h2.put o.dst hd ?_ named
  simp only [RepA, updL, if_true, Loc.merge]
  exact ⟨some ⟨w.heap.size, 0, none⟩, grownCap w (len + news.length) cap e, by rw [nl1, ← hn], by omega, by omega, hgm, .inr rfl⟩
/-- What is known by other numbers, or of other blocks, does as much. -/
theorem Does.ghost {o : Oper} {k : Nat} {K K' : R → Prop} {S' : St} {A' : Nat → Prop} (h : Does P w0 nA nt M G ι0 A' k o w S' a K') (hA : ∀ i, plus A' k i → plus A k i)
  (hK : ∀ r', K' r' → ∃ r, K r ∧ S.app o.dst r = S'.app o.dst r') : Does P w0 nA nt M G ι0 A k o w S a K := by
 intro Kc Qc next
 refine h Kc Qc fun r' val w' ι' hk' hrel => ?_
 obtain ⟨r, hk, e⟩ := hK r' hk'
 refine next r val w' ι' hk ?_
 rw [e]
 exact hrel.mono hA
/-- An empty block of no memory. -/
theorem Rel.empty (h : Rel w0 nA nt M G ι0 A w S ι a) {g : Nat} (hg : ¬ A g) : ∃ ι', Rel w0 nA nt M G ι0 (fun i => A i ∨ i = g) w { S with h := updH S.h g (.deep false [] []) } ι' a ∧ (∀ i, A i → ι' i = ι i) ∧ (ι' g).cap = 0 := by
 obtain ⟨ok, hh⟩ := h.heap.nilB (k := g) (.deep false [] []) ⟨0, 0, 0, 0, noInn⟩ (fun B ho => by rcases ho with ⟨ho, _⟩ | ⟨r, c, hr, _⟩ <;> simp at *) fun F =>
  ⟨rfl, ⟨Nat.le_refl _, Nat.zero_le _, .inl rfl⟩, fun r c hr => by simp at hr, fun r c r' c' hr => by simp at hr, fun r c hr => by simp at hr⟩
 refine ⟨_, h.step (A' := fun i => A i ∨ i = g) (fun i hi => .inl hi) (Keep.refl w M) ok (fun B o v hF hv => ⟨hv, fun h' => hF (hh B h')⟩) (fun i hi => ?_) (fun i hi => ?_), fun i hi => ?_, by simp [updL]⟩
 ·have : i ≠ g := fun e => hg (e ▸ hi)
  simp [updL, this, LocEq.refl]
 ·have h1 : i ≠ g := fun e => hi (.inr e)
  simp only [updH, h1, if_false]
  exact h.alloc i fun hA => hi (.inl hA)
 ·have : i ≠ g := fun e => hg (e ▸ hi)
  simp [updL, this]
/-- A row taken out of its block. -/
theorem Rel.take (h : Rel w0 nA nt M G ι0 A w S ι a) {g id : Nat} (hg : ¬ A g) (hid : A id) {m : Bool} {cs : List DC} {rs : List (Option (List PV))} (hb : S.h id = .deep m cs rs) {r : Nat} {c : List PV} (hr : rs[r]? = some (some c)) :
  Rel w0 nA nt M G ι0 (fun i => A i ∨ i = g) w { S with h := updH (updH S.h id (.deep m cs (rs.set r none))) g (.live m c) } (updL ι g ((ι id).sub r)) a := by
 have hgi : id ≠ g := fun e => hg (e ▸ hid)
 have ok := h.heap.deep hb
 have hlt := (List.getElem?_eq_some_iff.1 hr).1
 have hset : ∀ {q c'}, (rs.set r none)[q]? = some (some c') → q ≠ r ∧ rs[q]? = some (some c') := by
  intro q c' hq
  rw [List.getElem?_set] at hq
  by_cases e : r = q
  ·rw [if_pos e, if_pos hlt] at hq; simp at hq
  ·rw [if_neg e] at hq; exact ⟨Ne.symm e, hq⟩
 have e1 : updH (updH S.h id (.deep m cs (rs.set r none))) g (.live m c) id = .deep m cs (rs.set r none) := by simp [updH, hgi]
 have e2 : updL ι g ((ι id).sub r) id = ι id := by simp [updL, hgi]
 have e3 : updH (updH S.h id (.deep m cs (rs.set r none))) g (.live m c) g = .live m c := by simp [updH]
 have e4 : updL ι g ((ι id).sub r) g = (ι id).sub r := by simp [updL]
 have key := h.heap.writeS (w' := w) (h' := updH (updH S.h id (.deep m cs (rs.set r none))) g (.live m c)) (ι' := updL ι g ((ι id).sub r)) (k := g) (fun i => i = id)
  (fun i hX hik => ⟨by simp [updH, hik, show i ≠ id from hX], by simp [updL, hik]⟩)
  (fun i hX hik B ho => by
   subst hX
   rw [e1, e2] at ho
   rw [hb]
   rcases ho with ho | ⟨q, c', hq, z, hB⟩
   ·exact .inl ho
   ·exact .inr ⟨q, c', (hset hq).2, z, hB⟩)
  (fun _ _ _ => rfl)
  (fun B ho => by
   rw [e3, e4] at ho
   refine .inr ⟨id, rfl, by rw [hb]; exact .inr ⟨r, c, hr, ho⟩, fun _ ho' => ?_⟩
   rw [e1, e2] at ho'
   rcases ho' with ⟨q1, q2⟩ | ⟨q, c', hq, z, hB⟩
   ·exact ok.2.2.2.2 r c hr q1 ho.1 (ho.2.trans q2.symm)
   ·obtain ⟨hne, hq⟩ := hset hq
    exact ok.2.2.2.1 q c' r c hq hr hne z ho.1 (hB.trans ho.2.symm))
  (fun st i hi => by
   rcases hi with rfl | rfl
   ·rw [e1, e2]
    obtain ⟨n1, ⟨l1, l2, l3⟩, r1, d1, b1⟩ := okB.tr (O' := Org w0.heap.size M G) st (fun _ _ _ h => h) (fun _ _ => rfl) (fun _ _ _ h => h) ok
    refine ⟨by simpa using n1, ⟨l1, l2, l3.imp _root_.id fun ⟨q1, q2, q3⟩ => ⟨q1, q2, fun j x hj => ?_⟩⟩, fun q c' hq => r1 q c' (hset hq).2, fun q c' q' c'' hq hq' => d1 q c' q' c'' (hset hq).2 (hset hq').2, fun q c' hq => b1 q c' (hset hq).2⟩
    obtain ⟨v, v1, v2, v3⟩ := q3 j x hj
    refine ⟨v, v1, v2, ?_⟩
    cases x with
    | v x => exact v3
    | row q => exact ⟨by simpa using v3.1, fun c' hc' => v3.2 c' (hset hc').2⟩
    | self o => exact v3
   ·rw [e3, e4]
    exact (okB.tr (O' := Org w0.heap.size M G) st (fun _ _ _ h => h) (fun _ _ => rfl) (fun _ _ _ h => h) ok).2.2.1 r c hr)
 refine h.step (A' := fun i => A i ∨ i = g) (fun i hi => .inl hi) (Keep.refl w M) key.1 key.2.2 (fun i hi => ?_) (fun i hi => ?_)
 ·have : i ≠ g := fun e => hg (e ▸ hi)
  simp [updL, this, LocEq.refl]
 ·have h1 : i ≠ g := fun e => hi (.inr e)
  have h2 : i ≠ id := fun e => hi (.inl (e ▸ hid))
  simp only [updH, h1, h2, if_false]
  exact h.alloc i fun hA => hi (.inl hA)
theorem does_append {o : Oper} {k : Nat} {K : R → Prop} (h : Rel w0 nA nt M G ι0 A w S ι a) (hd : ∀ d, o.dst = some d → d < nt) (hA : ∀ x, x < 256 → ¬ A (k + x)) {t t' : TypeId} {s x : Operand}
  (ho : o.op = .call { callee := .builtin .append, args := ⟨[s, x]⟩, argTypes := ⟨[t, t']⟩ }) (hK : appendW P t t' S.h k (Gl.opd S s) (Gl.opd S x) K) : Does P w0 nA nt M G ι0 A k o w S a K := by
 obtain ⟨ht, ht', hK⟩ := hK
 obtain ⟨e, inf, zv, hu, hi, hz, hsz, hzs, hz1, hb⟩ := slT_some ht
 have hs := h.opd s
 have ns := h.opd_named s
 have exec : ∀ {r : Result Value} {sv : Value}, a.eval s = sv → (Builtin.append_ #[t, t'] o.type #[sv, a.eval x]).run P w = r → (execOp a.eval o).run P w = r.andThen fun v w' => .ok (.value v) w' := fun h1 h2 => exec_append ho h1 h2
 have hk0 : ¬ A k := by simpa using hA 0 (by omega)
 have hk1 : ¬ A (k + 1) := hA 1 (by omega)
 have hkA : ¬ (A k ∨ k = k + 1) := fun q => q.elim hk0 (fun q => by omega)
 split at hK
 ·-- rows of their own
  have hx := h.opd x
  have nx := h.opd_named x
  unfold appendD at hK
  split at hK
  ·rename_i j n ex
   rw [ex] at hx nx
   have hjA : A j := nx j (by simp [AV.has])
   split at hK
   ·rename_i cs' rs' hbj
    obtain ⟨hn, hns', hK⟩ := hK
    split at hK
    ·rename_i id len es
     rw [es] at hs ns
     have hid : A id := ns id (by simp [AV.has])
     obtain ⟨hne, hK⟩ := hK
     split at hK
     ·rename_i m cs rs hbi
      obtain ⟨hl, hns, hbig, hK⟩ := hK
      exact append_deep h hd hk0 hu hi hz hsz hzs hz1 hb ht' exec hx hjA hbj hn hns' hs hid hbi hl hns hne hbig hK
     ·exact hK.elim
    ·rename_i es
     rw [es] at hs
     obtain ⟨ad, cap, hv, _, _, hown, _⟩ := rep_sl hs
     obtain ⟨_, rfl, rfl⟩ := hown rfl
     obtain ⟨hbig, hK⟩ := hK
     obtain ⟨ι1, h1, hι1, hc1⟩ := h.empty hk1
     have hj1 : j ≠ k + 1 := fun e => hk1 (e ▸ hjA)
     have hD := append_deep (K := fun r => r = ⟨.ref k 0 (0 + n), [(j, .dead), (k + 1, .dead), (k, .deep false ([] ++ cs'.map (DC.up 0)) ([] ++ rs'))], [k + 1, j]⟩) h1 hd hkA hu hi hz hsz hzs hz1 hb ht' exec
      (j := j) (n := n) (cs' := cs') (rs' := rs') (by simp only [RepA] at hx ⊢; rw [hι1 j hjA]; exact hx) (.inl hjA) (by simp [updH, hj1, hbj]) hn hns' (id := k + 1) (len := 0) (m := false) (cs := []) (rs := [])
      (by rw [hv]; simp only [RepA]; exact ⟨none, 0, rfl, Nat.le_refl _, by omega, by omega, .inl rfl⟩) (.inr rfl) (by simp [updH]) rfl rfl (Ne.symm hj1) (by omega) (by simp)
     refine hD.ghost (fun i hi => ?_) fun r' hr' => ⟨_, hK, ?_⟩
     ·rcases hi with (q | q) | q
      ·exact .inl q
      ·exact .inr ⟨by omega, by omega⟩
      ·exact .inr q
     ·subst hr'
      have eu : cs'.map (DC.up 0) = cs' := by
       rw [List.map_congr_left (g := _root_.id) (fun x _ => by cases x <;> simp [DC.up]), List.map_id]
      rw [app_eq, app_eq, eu]
      simp only [Nat.zero_add, List.nil_append, hwsH]
      congr 2
      funext i
      by_cases q1 : i = k
      ·simp [q1]
      ·by_cases q2 : i = k + 1
       ·simp [q2, h.alloc _ hk1, Ne.symm hj1]
       ·simp [q1, q2, updH]
    ·exact hK.elim
   ·exact hK.elim
  ·exact hK.elim
 ·obtain ⟨ys, rd, hK, news, hnl, src, hnews⟩ := cont_sound h (h.opd x) hK
  split at hK
  ·rename_i id off len es
   rw [es] at hs ns
   have hid : A id := ns id (by simp [AV.has])
   split at hK
   ·rename_i m c hblk
    exact append_ref h hd hk0 hu hi hz hsz hzs hz1 hb ht' hnl src hnews exec hs hid hblk hK
   ·exact hK.elim
  ·rename_i es
   rw [es] at hs
   obtain ⟨ad, cap, hv, _, _, hown, _⟩ := rep_sl hs
   obtain ⟨_, rfl, rfl⟩ := hown rfl
   obtain ⟨hbig, hk⟩ := hK
   by_cases hy : ys = []
   ·subst hy
    have hn0 : news = [] := List.eq_nil_of_length_eq_zero (by rw [hnl]; rfl)
    subst hn0
    have hr := run_append_fit (P := P) (w := w) (w' := w) (ty := o.type) hu hi hsz ht' (base := none) (sLen := 0) (sCap := 0) src (by simp) (fun b hb => by cases hb) (fun _ => rfl)
    have hr2 := exec hv hr
    exact does_nil h hd hA (ad := none) hr2 hk
   ·have hpos : 0 < ys.length := List.length_pos_iff.2 hy
    have hr := run_append_more (P := P) (w := w) (ty := o.type) hu hi hz hsz hb ht' (base := none) (sLen := 0) (sCap := 0) (olds := []) src (by omega) (fun w1 _ => by simp [Builtin.firstCells]) (by omega)
    have hr2 := exec hv hr
    simp only [Result.andThen_ok, Nat.zero_add] at hr2
    have hgc := grownCap_ge w news.length 0 e
    have hgm := grownCap_le_maxLen w news.length 0 e (by simp only [maxLen]; omega)
    have hzc := cells_one hzs hz1
    refine does_new h hd hA (ws := []) (fun p hp => by simp at hp) (Pushed.drew w (.cells ([] ++ news ++ (Builtin.zeroCells zv.cells (grownCap w news.length 0 e - news.length)).toList).toArray e)) (lo := 0) (hi := 0) (.inl (Nat.le_refl _)) false ys (grownCap w news.length 0 e) hgm
     (by simp [Builtin.zeroCells, hzc]; omega) (by omega) ?_ (v := .ref k 0 ys.length) hr2 (.inl ⟨ys.length, rfl, by omega, by rw [hnl]⟩) hk
    intro j y hj
    have := append_get (w := w) (G := G) (olds := []) (cs := []) (F := Held S.h ι) (rest := (Builtin.zeroCells zv.cells (grownCap w news.length 0 e - news.length)).toList) rfl (fun j x hj => by simp at hj) hnews src.one j y (by simpa using hj)
    simpa [hwsH] using this
  ·rename_i id r len es
   rw [es] at hs ns
   have hid : A id := ns id (by simp [AV.has])
   have hi1 : id ≠ k + 1 := fun e => hk1 (e ▸ hid)
   have hi0 : id ≠ k := fun e => hk0 (e ▸ hid)
   split at hK
   ·rename_i m cs rs hblk
    split at hK
    ·rename_i c hr
     obtain ⟨hlen, hnin, hbig, hK⟩ := hK
     have h1 := h.take hk1 hid hblk hr
     obtain ⟨hrn, ad, cap, hv, hlc, hcap, hcm, hc⟩ := rep_inn hs
     have st : ∀ B, Held (updH (updH S.h id (.deep m cs (rs.set r none))) (k + 1) (.live m c)) (updL ι (k + 1) ((ι id).sub r)) B → Held S.h ι B := by
      rintro B ⟨i, hB⟩
      by_cases q1 : i = k + 1
      ·subst q1
       simp only [updH, updL, if_true] at hB
       exact ⟨id, by rw [hblk]; exact .inr ⟨r, c, hr, hB⟩⟩
      ·simp only [updH, updL, q1, if_false] at hB
       by_cases q2 : i = id
       ·subst q2
        simp only [if_true] at hB
        refine ⟨i, ?_⟩
        rw [hblk]
        rcases hB with hB | ⟨q, c', hq, z⟩
        ·exact .inl hB
        ·rw [List.getElem?_set] at hq
         split at hq
         ·split at hq <;> simp at hq
         ·exact .inr ⟨q, c', hq, z⟩
       ·simp only [q2, if_false] at hB
        exact ⟨i, hB⟩
     have hD := append_ref (K := fun r' => r' = ⟨.ref k 0 (len + ys.length), [(k + 1, .dead), (k, .live m (c ++ ys))], (k + 1) :: rd⟩) h1 hd hkA hu hi hz hsz hzs hz1 hb ht' hnl src
      (fun j y hj => by
       obtain ⟨u, u1, u2⟩ := hnews j y hj
       exact ⟨u, u1, RepP.tr (fun B o v hF hv => ⟨hv, fun q => hF (st B q)⟩) (fun _ _ _ h => h) _ _ u2⟩) exec (id := k + 1) (off := 0) (len := len) (m := m) (c := c)
      (by rw [hv]; simp only [RepA, updL, if_true]; exact ⟨ad, cap, rfl, hlc, hcap, hcm, hc⟩) (.inr rfl) (by simp [updH]) ⟨hbig, by omega, by
       simp only [Nat.zero_add]
       rw [if_pos hlen, List.drop_zero]⟩
     refine hD.ghost (fun i hi => ?_) fun r' hr' => ⟨_, hK, ?_⟩
     ·rcases hi with (q | q) | q
      ·exact .inl q
      ·exact .inr ⟨by omega, by omega⟩
      ·exact .inr q
     ·subst hr'
      rw [app_eq, app_eq]
      simp only [hwsH]
      congr 2
      funext i
      by_cases q1 : i = k
      ·simp [q1]
      ·by_cases q2 : i = k + 1
       ·simp [q2, h.alloc _ hk1, Ne.symm hi1]
       ·simp [q1, q2, updH]
    ·exact hK.elim
   ·exact hK.elim
  ·exact hK.elim
end
end Go.Gl
namespace Go.Gl
open Go
variable [Amb]
section
variable {P : Program} {sg : FuncId → List Bool} {w0 : World} {nA nt : Nat} {M G : Nat → Prop} {ι0 : Nat → Loc} {A : Nat → Prop} {w w' : World} {S : St} {ι : Nat → Loc} {a : Act}
/-- A place for one row more. -/
def Loc.push (l l' : Loc) : Loc := ⟨l.B, l.off, l.cap, l.n + 1, fun r => if r < l.n then l.inn r else (l'.B, l'.off, l'.cap)⟩
theorem push_old {l l' : Loc} {r : Nat} (hr : r < l.n) : (l.push l').sub r = l.sub r := by simp [Loc.sub, Loc.push, hr]
theorem push_new {l l' : Loc} : ((l.push l').sub l.n).B = l'.B ∧ ((l.push l').sub l.n).off = l'.off ∧ ((l.push l').sub l.n).cap = l'.cap := by simp [Loc.sub, Loc.push]
theorem push_eq (l l' : Loc) : LocEq l (l.push l') := ⟨rfl, rfl, rfl, by simp [Loc.push], fun r hr => by simp [Loc.push, hr]⟩
theorem rowOk.loc {F O : Nat → Prop} {l l' : Loc} {c : List PV} (h : rowOk w F G O l c) (e1 : l'.B = l.B) (e2 : l'.off = l.off) (e3 : l'.cap = l.cap) : rowOk w F G O l' c := by
 obtain ⟨B, off, cap, n, inn⟩ := l
 obtain ⟨B', off', cap', n', inn'⟩ := l'
 simp only at e1 e2 e3
 subst e1 e2 e3
 exact h
theorem Org.any {z : Nat} {M G : Nat → Prop} {m : Bool} {B : Nat} (h : Org z M G false B) : Org z M G m B := h.elim .inl fun h => by cases h.1
theorem rowOk.any {z : Nat} {F : Nat → Prop} {m : Bool} {l : Loc} {c : List PV} (h : rowOk w F G (Org z M G false) l c) : rowOk w F G (Org z M G m) l c := ⟨h.1, h.2.1, h.2.2.imp _root_.id fun ⟨a, b, c⟩ => ⟨a, b, c.any⟩⟩
theorem rowOk.org {z : Nat} {F : Nat → Prop} {m m' : Bool} {l : Loc} {c : List PV} (hm : m' = true → m = true) (h : rowOk w F G (Org z M G m') l c) : rowOk w F G (Org z M G m) l c := ⟨h.1, h.2.1, h.2.2.imp _root_.id fun ⟨a, b, c⟩ => ⟨a, b, c.imp _root_.id fun q => ⟨hm q.1, q.2⟩⟩⟩
variable {mT : Bool}
/-- A row comes into block T, out of block j, of which b is left. -/
theorem Rel.absorb (h : Rel w0 nA nt M G ι0 A w S ι a) {T j : Nat} (hT : A T) (hj : A j) (hjT : j ≠ T) {cs : List DC} {rs : List (Option (List PV))} (hb : S.h T = .deep mT cs rs) {c : List PV} {l : Loc} {b : Blk}
  (hrow : ∀ {w' : World} {F' : Nat → Prop}, Stays w w' (Held S.h ι) F' → w'.heap = w.heap → rowOk w' F' G (Org w0.heap.size M G mT) l c) (hown : l.cap ≠ 0 → owns (S.h j) (ι j) l.B) (hleft : ∀ B, owns b (ι j) B → owns (S.h j) (ι j) B ∧ (l.cap ≠ 0 → l.B ≠ B))
  (hok : ∀ {w' : World} {F' : Nat → Prop}, Stays w w' (Held S.h ι) F' → w'.heap = w.heap → okB w' F' G (Org w0.heap.size M G) b (ι j)) :
  Rel w0 nA nt M G ι0 A w { S with h := updH (updH S.h j b) T (.deep mT cs (rs ++ [some c])) } (updL ι T ((ι T).push l)) a ∧
  (∀ (x : DC) (v : Value), dcRep w (Held S.h ι) G (ι T) rs x v → dcRep w (Held (updH (updH S.h j b) T (.deep mT cs (rs ++ [some c]))) (updL ι T ((ι T).push l))) G ((ι T).push l) (rs ++ [some c]) x v) ∧
  (∀ B, Held (updH (updH S.h j b) T (.deep mT cs (rs ++ [some c]))) (updL ι T ((ι T).push l)) B → Held S.h ι B) := by
 have okT := h.heap.deep hb
 have n1 := okT.1
 have e1 : updH (updH S.h j b) T (.deep mT cs (rs ++ [some c])) T = .deep mT cs (rs ++ [some c]) := by simp [updH]
 have e2 : updH (updH S.h j b) T (.deep mT cs (rs ++ [some c])) j = b := by simp [updH, hjT]
 have e3 : updL ι T ((ι T).push l) T = (ι T).push l := by simp [updL]
 have e4 : updL ι T ((ι T).push l) j = ι j := by simp [updL, hjT]
 have split : ∀ {r c'}, (rs ++ [some c])[r]? = some (some c') → (r < (ι T).n ∧ rs[r]? = some (some c')) ∨ (r = (ι T).n ∧ c' = c) := by
  intro r c' hr
  by_cases hlt : r < rs.length
  ·rw [List.getElem?_append_left hlt] at hr; exact .inl ⟨by omega, hr⟩
  ·rw [List.getElem?_append_right (by omega)] at hr
   have hlt2 := (List.getElem?_eq_some_iff.1 hr).1
   simp at hlt2
   obtain rfl : r = rs.length := by omega
   simp at hr
   exact .inr ⟨n1, hr.symm⟩
 obtain ⟨p1, p2, p3⟩ := push_new (l := ι T) (l' := l)
 have jT : ∀ {B}, owns (S.h j) (ι j) B → owns (S.h T) (ι T) B → False := fun h1 h2 => hjT (h.heap.apart j T _ h1 h2)
 have ownT : ∀ B, owns (.deep mT cs (rs ++ [some c])) ((ι T).push l) B → owns (S.h T) (ι T) B ∨ (l.cap ≠ 0 ∧ l.B = B) := by
  intro B ho
  rw [hb]
  rcases ho with ho | ⟨r, c', hr, z, hB⟩
  ·exact .inl (.inl ho)
  ·rcases split hr with ⟨hlt, hr⟩ | ⟨rfl, rfl⟩
   ·rw [push_old hlt] at z hB; exact .inl (.inr ⟨r, c', hr, z, hB⟩)
   ·rw [p3] at z; rw [p1] at hB; exact .inr ⟨z, hB⟩
 have dc : ∀ {w' : World} {F' : Nat → Prop}, Stays w w' (Held S.h ι) F' → ∀ (x : DC) (v : Value), dcRep w (Held S.h ι) G (ι T) rs x v → dcRep w' F' G ((ι T).push l) (rs ++ [some c]) x v := by
  intro w' F' st x v hx
  cases x with
  | v x => exact RepP.tr st (fun _ _ _ h => h) _ _ hx
  | row r =>
   obtain ⟨q1, q2⟩ := hx
   refine ⟨by simp; omega, fun c' hc' => ?_⟩
   rw [List.getElem?_append_left q1] at hc'
   rw [push_old (by omega)]; exact q2 c' hc'
  | self o => exact hx
 have key := h.heap.writeS (w' := w) (h' := updH (updH S.h j b) T (.deep mT cs (rs ++ [some c]))) (ι' := updL ι T ((ι T).push l)) (k := T) (fun i => i = T ∨ i = j)
  (fun i hX hik => by
   have q : i ≠ j := fun e => hX (.inr e)
   exact ⟨by simp [updH, hik, q], by simp [updL, hik]⟩)
  (fun i hX hik B ho => by
   rcases hX with rfl | rfl
   ·exact absurd rfl hik
   ·rw [e2, e4] at ho; exact (hleft B ho).1)
  (fun _ _ _ => rfl)
  (fun B ho => by
   rw [e1, e3] at ho
   right
   rcases ownT B ho with h1 | ⟨h1, h2⟩
   ·exact ⟨T, .inl rfl, h1, fun q => absurd rfl q⟩
   ·refine ⟨j, .inr rfl, h2 ▸ hown h1, fun _ q => ?_⟩
    rw [e2, e4] at q
    exact (hleft B q).2 h1 h2)
  (fun st i hi => by
   have hi : i = T ∨ i = j := by rcases hi with h1 | h1; exact h1; exact .inl h1
   rcases hi with rfl | rfl
   ·rw [e1, e3]
    obtain ⟨_, ⟨l1, l2, l3⟩, r1, d1, b1⟩ := okT
    obtain ⟨_, ⟨_, _, l3'⟩, r1', _⟩ := okB.tr (O' := Org w0.heap.size M G) st (fun _ _ _ h => h) (fun _ _ => rfl) (fun _ _ _ h => h) (h.heap.deep hb)
    refine ⟨by simp [Loc.push, n1], ⟨l1, l2, ?_⟩, fun r c' hr => ?_, fun r c' r' c'' hr hr' hne z z' => ?_, fun r c' hr hc z => ?_⟩
    ·by_cases h0 : (ι i).cap = 0
     ·exact .inl h0
     ·right
      rcases l3 with l3 | ⟨q1, q2, q3⟩
      ·exact absurd l3 h0
      ·refine ⟨q1, q2, fun jj x hjj => ?_⟩
       obtain ⟨v, v1, v2, v3⟩ := q3 jj x hjj
       exact ⟨v, v1, v2, dc st x v v3⟩
    ·rcases split hr with ⟨hlt, hr⟩ | ⟨rfl, rfl⟩
     ·rw [push_old hlt]; exact r1' r c' hr
     ·exact (hrow st rfl).loc p1 p2 p3
    ·rcases split hr with ⟨hlt, hr1⟩ | ⟨e1, e2⟩ <;> rcases split hr' with ⟨hlt', hr2⟩ | ⟨e1', e2'⟩
     ·rw [push_old hlt] at z ⊢; rw [push_old hlt'] at z' ⊢; exact d1 r c' r' c'' hr1 hr2 hne z z'
     ·rw [push_old hlt] at z ⊢; rw [e1', p3] at z'; rw [e1', p1]
      exact fun e => jT (hown z') (by rw [hb]; exact .inr ⟨r, c', hr1, z, e⟩)
     ·rw [push_old hlt'] at z' ⊢; rw [e1, p3] at z; rw [e1, p1]
      exact fun e => jT (hown z) (by rw [hb]; exact .inr ⟨r', c'', hr2, z', e.symm⟩)
     ·exact absurd (e1.trans e1'.symm) hne
    ·rcases split hr with ⟨hlt, hr⟩ | ⟨rfl, rfl⟩
     ·rw [push_old hlt] at z ⊢; exact b1 r c' hr hc z
     ·rw [p3] at z; rw [p1]
      exact fun e => jT (hown z) (by rw [hb]; exact .inl ⟨hc, e.symm⟩)
   ·rw [e2, e4]; exact hok st rfl)
 refine ⟨h.step (fun _ h => h) (Keep.refl w M) key.1 key.2.2 (fun i hi => ?_) (fun i hi => ?_), fun x v hx => dc key.2.2 x v hx, fun B hB => ?_⟩
 ·by_cases e : i = T
  ·subst e; rw [e3]; exact push_eq _ _
  ·simp [updL, e, LocEq.refl]
 ·have q1 : i ≠ T := fun e => hi (e ▸ hT)
  have q2 : i ≠ j := fun e => hi (e ▸ hj)
  simp only [updH, q1, q2, if_false]
  exact h.alloc i hi
 ·rcases key.2.1 B hB with h1 | h1
  ·exact h1
  ·obtain ⟨i, ho⟩ := hB
   exfalso
   have := (key.1.ok i).lt ho
   omega
/-- What a value moved in does. -/
structure Moved (mT : Bool) (w0 : World) (nA nt : Nat) (M G : Nat → Prop) (ι0 : Nat → Loc) (A : Nat → Prop) (w : World) (S : St) (ι : Nat → Loc) (a : Act) (T : Nat) (cs : List DC) (rs rs' : List (Option (List PV))) (ws : List (Nat × Blk)) (ι' : Nat → Loc) : Prop where
 rel : Rel w0 nA nt M G ι0 A w { S with h := updH (hwsH S.h ws) T (.deep mT cs rs') } ι' a
 old : ∀ (x : DC) (v : Value), dcRep w (Held S.h ι) G (ι T) rs x v → dcRep w (Held (updH (hwsH S.h ws) T (.deep mT cs rs')) ι') G (ι' T) rs' x v
 held : ∀ B, Held (updH (hwsH S.h ws) T (.deep mT cs rs')) ι' B → Held S.h ι B
 loc : ∀ i, LocEq (ι i) (ι' i)
theorem updL_eq {l : Loc} {T : Nat} (e : LocEq (ι T) l) (i : Nat) : LocEq (ι i) (updL ι T l i) := by
 by_cases h : i = T
 ·subst h; simpa [updL] using e
 ·simp [updL, h, LocEq.refl]
theorem RepA.noHeap {F F' G' : Nat → Prop} {ι ι' : Nat → Loc} {v : AV} {val : Value} (hv : ∀ x, v ≠ .p x) (hag : ∀ xs, v ≠ .agg xs ∧ v ≠ .tup xs) (hf : ∀ f x y, v ≠ .fn f x y) (h : RepA w F G ι v val) (hl : ∀ i, v.has i = true → LocEq (ι i) (ι' i)) : RepA w F' G' ι' v val := by
 cases v with
 | p x => exact absurd rfl (hv x)
 | agg xs => exact absurd rfl (hag xs).1
 | tup xs => exact absurd rfl (hag xs).2
 | fn f x y => exact absurd rfl (hf f x y)
 | ref id off len =>
  obtain ⟨e1, e2, e3, _⟩ := hl id (by simp [AV.has])
  simp only [RepA] at h ⊢; rw [e1, e2, e3]; exact h
 | ptr id off =>
  obtain ⟨e1, e2, _⟩ := hl id (by simp [AV.has])
  simp only [RepA] at h ⊢; rw [e1, e2]; exact h
 | inn id r off len =>
  have e := hl id (by simp [AV.has])
  simp only [RepA] at h ⊢; rw [e.sub h.1]; exact ⟨Nat.lt_of_lt_of_le h.1 e.2.2.2.1, h.2⟩
 | iptr id r off =>
  have e := hl id (by simp [AV.has])
  simp only [RepA] at h ⊢; rw [e.sub h.1]; exact ⟨Nat.lt_of_lt_of_le h.1 e.2.2.2.1, h.2⟩
 | mp id =>
  obtain ⟨e1, _⟩ := hl id (by simp [AV.has])
  simp only [RepA] at h ⊢; rw [e1]; exact h
 | prs id len =>
  obtain ⟨e1, e2, _⟩ := hl id (by simp [AV.has])
  simp only [RepA] at h ⊢; rw [e1, e2]; exact h
theorem updL_at {T : Nat} {l : Loc} : updL ι T l T = l := by simp [updL]
theorem upd_self {h : Nat → Blk} {T : Nat} {b : Blk} (e : h T = b) : updH h T b = h := by
 funext i; simp only [updH]; split
 ·rename_i q; rw [q, e]
 ·rfl
theorem updL_self {T : Nat} : updL ι T (ι T) = ι := by
 funext i; simp only [updL]; split
 ·rename_i q; rw [q]
 ·rfl
theorem mvW_sound (h : Rel w0 nA nt M G ι0 A w S ι a) {T : Nat} (hT : A T) {cs : List DC} {rs : List (Option (List PV))} (hb : S.h T = .deep mT cs rs) {v : AV} {val : Value} (hv : RepA w (Held S.h ι) G ι v val) (hn : ∀ i, v.has i = true → A i)
  {K : DC → List (Option (List PV)) → List (Nat × Blk) → List Nat → Prop} (hK : mvW S.h mT T v rs K) :
  ∃ x rs' ws rd ι', K x rs' ws rd ∧ Moved mT w0 nA nt M G ι0 A w S ι a T cs rs rs' ws ι' ∧ val.oneCell' = true ∧ val.cells = #[val] ∧ dcRep w (Held (updH (hwsH S.h ws) T (.deep mT cs rs')) ι') G (ι' T) rs' x val := by
 have none_ : Moved mT w0 nA nt M G ι0 A w S ι a T cs rs rs [] ι := by
  have e : updH (hwsH S.h []) T (.deep mT cs rs) = S.h := upd_self hb
  refine ⟨by rw [e]; exact h, by rw [e]; exact fun _ _ h => h, by rw [e]; exact fun _ h => h, fun _ => LocEq.refl _⟩
 have e0 : updH (hwsH S.h []) T (.deep mT cs rs) = S.h := upd_self hb
 have one_cells : ∀ {u : Value}, u.oneCell' = true → u.cells = #[u] := fun {u} hu => by cases u <;> first | rfl | simp [Value.oneCell'] at hu
 unfold mvW at hK
 split at hK
 ·rename_i x
  simp only [RepA] at hv
  rcases hK with ⟨hx, hk⟩ | ⟨rfl, hk⟩
  ·have h1 := oneCell_of_cellOk hx hv
   exact ⟨_, _, _, _, ι, hk, none_, h1, one_cells h1, by rw [e0]; exact hv⟩
  ·obtain ⟨ad, cap, rfl, _⟩ := rep_sl (F := Held S.h ι) (ι := ι) (v := val) (by simpa only [RepA] using hv)
   exact ⟨_, _, _, _, ι, hk, none_, rfl, rfl, by rw [e0]; exact hv⟩
 ·rename_i j off len
  obtain ⟨hjT, hK⟩ := hK
  have hj : A j := hn j (by simp [AV.has])
  obtain ⟨ad, cap, rfl, hl, hcap, hcm, hc⟩ := rep_ref hv
  split at hK
  ·rename_i mj c hbj
   obtain ⟨hmm, rfl, hlen, hk⟩ := hK
   obtain ⟨m1, m2, m3⟩ := h.absorb (T := T) (j := j) hT hj hjT hb (c := c) (l := ι j) (b := .dead) (fun st hw => by
    have := okB.tr (O' := Org w0.heap.size M G) st (fun _ _ _ h => h) (fun _ _ => by rw [hw]) (fun _ _ _ h => h) (by have := h.heap.ok j; rwa [hbj] at this)
    exact rowOk.org hmm this) (fun h0 => owns_live hbj h0) (fun B ho => ho.elim) (fun _ _ => trivial)
   refine ⟨_, _, _, _, updL ι T ((ι T).push (ι j)), hk, ⟨m1, by rw [updL_at]; exact m2, m3, updL_eq (push_eq _ _)⟩, rfl, rfl, ?_⟩
   have n1 := (h.heap.deep hb).1
   refine ⟨by simp, fun c' hc' => ?_⟩
   obtain ⟨p1, p2, p3⟩ := push_new (l := ι T) (l' := ι j)
   have hc2 : c' = c := by simpa using hc'.symm
   subst hc2
   have e : updL ι T ((ι T).push (ι j)) T = (ι T).push (ι j) := by simp [updL]
   rw [e, n1]
   refine ⟨ad, by rw [p3, hlen]; congr 1; omega, ?_⟩
   rw [p1, p2, p3]
   rcases hc with hc | hc
   ·left; omega
   ·right; simpa using hc
  ·rename_i m c hbj
   obtain ⟨hle, hk⟩ := hK
   refine ⟨_, _, _, _, ι, hk, none_, rfl, rfl, ?_⟩
   rw [e0]
   exact ref_told h.heap (Frz.refl _) hbj hle hv
  ·exact hK.elim
 ·rename_i j r off len
  obtain ⟨rfl, hK⟩ := hK
  have hj : A j := hn j (by simp [AV.has])
  obtain ⟨hrn, ad, cap, rfl, hl, hcap, hcm, hc⟩ := rep_inn hv
  split at hK
  ·rename_i ejT
   subst ejT
   split at hK
   ·rename_i c hr
    obtain ⟨hlen, hk⟩ := hK
    refine ⟨_, _, _, _, ι, hk, none_, rfl, rfl, ?_⟩
    refine ⟨(List.getElem?_eq_some_iff.1 hr).1, fun c' hc' => ?_⟩
    rw [hr] at hc'; cases hc'
    exact ⟨ad, by rw [hlen]; congr 1; omega, hc.imp (fun q => by omega) fun q => by simpa using q⟩
   ·exact hK.elim
  ·rename_i hjT
   split at hK
   ·rename_i cs' rs' hbj
    split at hK
    ·rename_i c hr
     obtain ⟨hlen, hk⟩ := hK
     have okj := h.heap.deep hbj
     have hset : ∀ {q c'}, (rs'.set r none)[q]? = some (some c') → q ≠ r ∧ rs'[q]? = some (some c') := by
      intro q c' hq
      have hlt := (List.getElem?_eq_some_iff.1 hr).1
      rw [List.getElem?_set] at hq
      by_cases e : r = q
      ·rw [if_pos e, if_pos hlt] at hq; simp at hq
      ·rw [if_neg e] at hq; exact ⟨Ne.symm e, hq⟩
     obtain ⟨m1, m2, m3⟩ := h.absorb (T := T) (j := j) hT hj hjT hb (c := c) (l := (ι j).sub r) (b := .deep false cs' (rs'.set r none)) (fun st hw => by
       have := okB.tr (O' := Org w0.heap.size M G) st (fun _ _ _ h => h) (fun _ _ => by rw [hw]) (fun _ _ _ h => h) okj
       exact rowOk.any (this.2.2.1 r c hr)) (fun h0 => by rw [hbj]; exact .inr ⟨r, c, hr, h0, rfl⟩)
      (fun B ho => by
       rw [hbj]
       rcases ho with ho | ⟨q, c', hq, z, hB⟩
       ·exact ⟨.inl ho, fun z e => okj.2.2.2.2 r c hr ho.1 z (e.trans ho.2.symm)⟩
       ·obtain ⟨hne, hq⟩ := hset hq
        exact ⟨.inr ⟨q, c', hq, z, hB⟩, fun z' e => okj.2.2.2.1 q c' r c hq hr hne z z' (hB.trans e.symm)⟩)
      (fun st hw => by
       obtain ⟨n1, ⟨l1, l2, l3⟩, r1, d1, b1⟩ := okB.tr (O' := Org w0.heap.size M G) st (fun _ _ _ h => h) (fun _ _ => by rw [hw]) (fun _ _ _ h => h) okj
       refine ⟨by simpa using n1, ⟨l1, l2, l3.imp _root_.id fun ⟨q1, q2, q3⟩ => ⟨q1, q2, fun jj x hjj => ?_⟩⟩, fun q c' hq => r1 q c' (hset hq).2, fun q c' q' c'' hq hq' => d1 q c' q' c'' (hset hq).2 (hset hq').2, fun q c' hq => b1 q c' (hset hq).2⟩
       obtain ⟨u, v1, v2, v3⟩ := q3 jj x hjj
       refine ⟨u, v1, v2, ?_⟩
       cases x with
       | v x => exact v3
       | row q => exact ⟨by simpa using v3.1, fun c' hc' => v3.2 c' (hset hc').2⟩
       | self o => exact v3)
     refine ⟨_, _, _, _, updL ι T ((ι T).push ((ι j).sub r)), hk, ⟨m1, by rw [updL_at]; exact m2, m3, updL_eq (push_eq _ _)⟩, rfl, rfl, ?_⟩
     have n1 := (h.heap.deep hb).1
     refine ⟨by simp, fun c' hc' => ?_⟩
     obtain ⟨p1, p2, p3⟩ := push_new (l := ι T) (l' := (ι j).sub r)
     have hc2 : c' = c := by simpa using hc'.symm
     subst hc2
     have e : updL ι T ((ι T).push ((ι j).sub r)) T = (ι T).push ((ι j).sub r) := by simp [updL]
     rw [e, n1]
     refine ⟨ad, by rw [p3, hlen]; congr 1; omega, ?_⟩
     rw [p1, p2, p3]
     rcases hc with hc | hc
     ·left; omega
     ·right; simpa using hc
    ·exact hK.elim
   ·exact hK.elim
 ·rename_i j o
  obtain ⟨rfl, hk⟩ := hK
  simp only [RepA] at hv
  subst hv
  exact ⟨_, _, _, _, ι, hk, none_, rfl, rfl, rfl⟩
 ·exact hK.elim
theorem fix_mv {mt : Bool} {h : Nat → Blk} {T : Nat} {v : AV} {rs : List (Option (List PV))} {K : DC → List (Option (List PV)) → List (Nat × Blk) → List Nat → Prop} (hK : mvW h mt T v rs K) :
  ∃ x rs' ws rd, K x rs' ws rd ∧ (∀ p ∈ ws, p.1 ∈ rd) ∧ T ∉ rd ∧ ∀ h', (∀ i ∈ rd, h' i = h i) → ∀ K' : DC → List (Option (List PV)) → List (Nat × Blk) → List Nat → Prop, K' x rs' ws rd → mvW h' mt T v rs K' := by
 unfold mvW at hK
 split at hK
 ·rename_i x
  rcases hK with ⟨hx, hk⟩ | ⟨hx, hk⟩
  ·exact ⟨_, _, _, _, hk, by simp, by simp, fun h' _ K' hk' => .inl ⟨hx, hk'⟩⟩
  ·exact ⟨_, _, _, _, hk, by simp, by simp, fun h' _ K' hk' => .inr ⟨hx, hk'⟩⟩
 ·rename_i j off len
  obtain ⟨hjT, hK⟩ := hK
  split at hK
  ·rename_i c hb
   exact ⟨_, _, _, _, hK.2.2.2, by simp, by simpa using Ne.symm hjT, fun h' hh K' hk' => by
    unfold mvW; simp only [hh j (by simp), hb]; exact ⟨hjT, hK.1, hK.2.1, hK.2.2.1, hk'⟩⟩
  ·rename_i m c hb
   exact ⟨_, _, _, _, hK.2, by simp, by simpa using Ne.symm hjT, fun h' hh K' hk' => by
    unfold mvW; simp only [hh j (by simp), hb]; exact ⟨hjT, hK.1, hk'⟩⟩
  ·exact hK.elim
 ·rename_i j r off len
  obtain ⟨h0, hK⟩ := hK
  split at hK
  ·rename_i e
   split at hK
   ·rename_i c hr
    exact ⟨_, _, _, _, hK.2, by simp, by simp, fun h' hh K' hk' => by
     unfold mvW; simp only [e, if_true, hr]; exact ⟨h0, hK.1, hk'⟩⟩
   ·exact hK.elim
  ·rename_i hjT
   split at hK
   ·rename_i cs' rs' hb
    split at hK
    ·rename_i c hr
     exact ⟨_, _, _, _, hK.2, by simp, by simpa using Ne.symm hjT, fun h' hh K' hk' => by
      unfold mvW; simp only [hjT, if_false, hh j (by simp), hb, hr]; exact ⟨h0, hK.1, hk'⟩⟩
    ·exact hK.elim
   ·exact hK.elim
 ·exact ⟨_, _, _, _, hK.2, by simp, by simp, fun h' _ K' hk' => ⟨hK.1, hk'⟩⟩
 ·exact hK.elim
theorem hwsH_cg {h h' : Nat → Blk} {i : Nat} (e : h' i = h i) : ∀ {ws : List (Nat × Blk)}, hwsH h' ws i = hwsH h ws i := by
 intro ws
 induction ws generalizing h h' with
 | nil => exact e
 | cons p ws ih =>
  obtain ⟨j, b⟩ := p
  simp only [hwsH]
  refine ih ?_
  by_cases q : i = j
  ·simp [q]
  ·simp [q, e]
/-- Values moved in, told step by step. -/
def MvsR (mt : Bool) (h : Nat → Blk) (T : Nat) : List AV → List (Option (List PV)) → List DC → List (Option (List PV)) → List (Nat × Blk) → List Nat → Prop
 | [], rs, xs, rs', ws, rd => xs = [] ∧ rs' = rs ∧ ws = [] ∧ rd = []
 | v :: vs, rs, xs, rs', ws, rd => ∃ x rs1 ws1 rd1 xs2 ws2 rd2, mvW h mt T v rs (fun a b c d => a = x ∧ b = rs1 ∧ c = ws1 ∧ d = rd1) ∧ MvsR mt (hwsH h ws1) T vs rs1 xs2 rs' ws2 rd2 ∧
   (∀ p ∈ ws1, p.1 ∈ rd1) ∧ T ∉ rd1 ∧ xs = x :: xs2 ∧ ws = ws1 ++ ws2 ∧ rd = rd1 ++ rd2
theorem fix_mvs {mt : Bool} {T : Nat} : ∀ {vs : List AV} {h : Nat → Blk} {rs : List (Option (List PV))} {K : List DC → List (Option (List PV)) → List (Nat × Blk) → List Nat → Prop}, mvsW h mt T vs rs K →
  ∃ xs rs' ws rd, K xs rs' ws rd ∧ MvsR mt h T vs rs xs rs' ws rd ∧ (∀ p ∈ ws, p.1 ∈ rd) ∧ T ∉ rd ∧ ∀ h', (∀ i ∈ rd, h' i = h i) → ∀ K' : List DC → List (Option (List PV)) → List (Nat × Blk) → List Nat → Prop, K' xs rs' ws rd → mvsW h' mt T vs rs K'
 | [], h, rs, K, hK => ⟨[], rs, [], [], hK, ⟨rfl, rfl, rfl, rfl⟩, by simp, by simp, fun _ _ _ hk => hk⟩
 | v :: vs, h, rs, K, hK => by
  simp only [mvsW] at hK
  obtain ⟨x, rs1, ws1, rd1, hK, q1, q2, q3⟩ := fix_mv hK
  obtain ⟨xs2, rs2, ws2, rd2, hK, r1, r2, r3, r4⟩ := fix_mvs hK
  refine ⟨x :: xs2, rs2, ws1 ++ ws2, rd1 ++ rd2, hK, ⟨x, rs1, ws1, rd1, xs2, ws2, rd2, q3 h (fun _ _ => rfl) _ ⟨rfl, rfl, rfl, rfl⟩, r1, q1, q2, rfl, rfl, rfl⟩, ?_, ?_, ?_⟩
  ·intro p hp
   rcases List.mem_append.1 hp with hp | hp
   ·exact List.mem_append.2 (.inl (q1 p hp))
   ·exact List.mem_append.2 (.inr (r2 p hp))
  ·simp [q2, r3]
  ·intro h' hh K' hk'
   simp only [mvsW]
   exact q3 h' (fun i hi => hh i (by simp [hi])) _ (r4 _ (fun i hi => hwsH_cg (hh i (by simp [hi]))) _ hk')
theorem hwsH_other0 {h : Nat → Blk} : ∀ {ws : List (Nat × Blk)} {i : Nat}, (∀ p ∈ ws, p.1 ≠ i) → hwsH h ws i = h i := by
 intro ws
 induction ws generalizing h with
 | nil => intro i _; rfl
 | cons p ws ih =>
  intro i hi
  obtain ⟨j, b⟩ := p
  simp only [hwsH]
  rw [ih fun q hq => hi q (by simp [hq])]
  have := hi (j, b) (by simp)
  simp [Ne.symm this]
theorem hwsH_updT {h : Nat → Blk} {T : Nat} {b b' : Blk} : ∀ {ws : List (Nat × Blk)}, (∀ p ∈ ws, p.1 ≠ T) → updH (hwsH (updH h T b) ws) T b' = updH (hwsH h ws) T b' := by
 intro ws
 induction ws generalizing h with
 | nil =>
  intro _; funext i; simp only [hwsH, updH]; split <;> rfl
 | cons p ws ih =>
  intro hi
  obtain ⟨j, c⟩ := p
  have hj : j ≠ T := hi (j, c) (by simp)
  simp only [hwsH]
  have e : (fun i => if i = j then c else updH h T b i) = updH (fun i => if i = j then c else h i) T b := by
   funext i; simp only [updH]
   by_cases q : i = j
   ·subst q; simp [hj]
   ·simp [q]
  rw [e]
  exact ih fun q hq => hi q (by simp [hq])
theorem mvsW_sound {T : Nat} (hT : A T) {cs : List DC} : ∀ {vs : List AV} {h0 : Nat → Blk} {S : St} {ι : Nat → Loc} {rs : List (Option (List PV))} {xs : List DC} {rs' : List (Option (List PV))} {ws : List (Nat × Blk)} {rd : List Nat} {vals : List Value},
  Rel w0 nA nt M G ι0 A w S ι a → S.h T = .deep mT cs rs → RepAL w (Held S.h ι) G ι vs vals → (∀ i, AV.hasL vs i = true → A i) → (∀ i ∈ rd, S.h i = h0 i) → MvsR mT h0 T vs rs xs rs' ws rd →
  ∃ ι', Moved mT w0 nA nt M G ι0 A w S ι a T cs rs rs' ws ι' ∧ xs.length = vs.length ∧ (∀ p ∈ ws, p.1 ≠ T) ∧
   ∀ (i : Nat) (x : DC) (u : Value), xs[i]? = some x → vals[i]? = some u → u.oneCell' = true ∧ u.cells = #[u] ∧ dcRep w (Held (updH (hwsH S.h ws) T (.deep mT cs rs')) ι') G (ι' T) rs' x u
 | [], h0, S, ι, rs, xs, rs', ws, rd, vals, h, hb, _, _, _, hm => by
  obtain ⟨rfl, rfl, rfl, rfl⟩ := hm
  have e : updH (hwsH S.h []) T (.deep mT cs rs') = S.h := upd_self hb
  exact ⟨ι, ⟨by rw [e]; exact h, by rw [e]; exact fun _ _ h => h, by rw [e]; exact fun _ h => h, fun _ => LocEq.refl _⟩, rfl, by simp, fun i x u hx => by simp at hx⟩
 | v :: vs, h0, S, ι, rs, xs, rs', ws, rd, vals, h, hb, hv, hn, hag, hm => by
  obtain ⟨x, rs1, ws1, rd1, xs2, ws2, rd2, m1, m2, q1, q2, rfl, rfl, rfl⟩ := hm
  simp only [RepAL] at hv
  obtain ⟨u, us, rfl, hu, hus⟩ := hv
  have mS : mvW S.h mT T v rs (fun a b c d => a = x ∧ b = rs1 ∧ c = ws1 ∧ d = rd1) := by
   obtain ⟨x', r', w', d', ⟨rfl, rfl, rfl, rfl⟩, _, _, q3⟩ := fix_mv m1
   exact q3 S.h (fun i hi => hag i (by simp [hi])) _ ⟨rfl, rfl, rfl, rfl⟩
  obtain ⟨x', r', w', d', ι1, ⟨rfl, rfl, rfl, rfl⟩, mv, o1, o2, o3⟩ := mvW_sound h hT hb hu (fun i hi => hn i (by simp [AV.hasL, hi])) mS
  have wT : ∀ p ∈ w', p.1 ≠ T := fun p hp e => q2 (e ▸ q1 p hp)
  have hb1 : (updH (hwsH S.h w') T (.deep mT cs r')) T = .deep mT cs r' := by simp [updH]
  have hus1 : RepAL w (Held (updH (hwsH S.h w') T (.deep mT cs r')) ι1) G ι1 vs us := RepAL.tr (fun B o v hF hv => ⟨hv, fun q => hF (mv.held B q)⟩) (fun _ _ _ h => h) _ _ (fun i _ => mv.loc i) hus
  have hag1 : ∀ i ∈ rd2, updH (hwsH S.h w') T (.deep mT cs r') i = hwsH h0 w' i := fun i hi => by
   have hiT : i ≠ T := by
    rintro rfl
    obtain ⟨_, _, _, _, _, r1, _, r3, _⟩ := fix_of m2
    exact r3 hi
   simp only [updH, hiT, if_false]
   exact hwsH_cg (hag i (by simp [hi]))
  obtain ⟨ι2, mv2, l2, wT2, v2⟩ := mvsW_sound hT (S := { S with h := updH (hwsH S.h w') T (.deep mT cs r') }) mv.rel hb1 hus1 (fun i hi => hn i (by simp [AV.hasL, hi])) hag1 m2
  have eh : updH (hwsH (updH (hwsH S.h w') T (.deep mT cs r')) ws2) T (.deep mT cs rs') = updH (hwsH S.h (w' ++ ws2)) T (.deep mT cs rs') := by
   rw [hwsH_updT wT2, ← hwsH_append]
  refine ⟨ι2, ⟨?_, fun y z hy => ?_, fun B hB => ?_, fun i => (mv.loc i).trans (mv2.loc i)⟩, by simp [l2], fun p hp => ?_, fun i y z hy hz => ?_⟩
  ·have := mv2.rel; simp only [eh] at this; exact this
  ·have := mv2.old y z (mv.old y z hy); rw [eh] at this; exact this
  ·rw [← eh] at hB; exact mv.held B (mv2.held B hB)
  ·rcases List.mem_append.1 hp with hp | hp
   ·exact wT p hp
   ·exact wT2 p hp
  ·cases i with
   | zero =>
    simp only [List.getElem?_cons_zero, Option.some.injEq] at hy hz
    subst hy hz
    refine ⟨o1, o2, ?_⟩
    have := mv2.old _ _ o3; rw [eh] at this; exact this
   | succ i =>
    simp only [List.getElem?_cons_succ] at hy hz
    have := v2 i y z hy hz; rw [eh] at this; exact this
 where
 fix_of {mt : Bool} {h : Nat → Blk} {T : Nat} : ∀ {vs : List AV} {rs : List (Option (List PV))} {xs : List DC} {rs' : List (Option (List PV))} {ws : List (Nat × Blk)} {rd : List Nat}, MvsR mt h T vs rs xs rs' ws rd → ∃ (_ _ _ _ _ : Nat), True ∧ (∀ p ∈ ws, p.1 ∈ rd) ∧ T ∉ rd ∧ True
  | [], _, _, _, _, _, hm => by obtain ⟨rfl, rfl, rfl, rfl⟩ := hm; exact ⟨0, 0, 0, 0, 0, trivial, by simp, by simp, trivial⟩
  | v :: vs, _, _, _, _, _, hm => by
   obtain ⟨x, rs1, ws1, rd1, xs2, ws2, rd2, m1, m2, q1, q2, rfl, rfl, rfl⟩ := hm
   obtain ⟨_, _, _, _, _, _, r1, r2, _⟩ := fix_of m2
   refine ⟨0, 0, 0, 0, 0, trivial, fun p hp => ?_, by simp [q2, r2], trivial⟩
   rcases List.mem_append.1 hp with hp | hp
   ·exact List.mem_append.2 (.inl (q1 p hp))
   ·exact List.mem_append.2 (.inr (r1 p hp))
/-- The outer row laid anew; the rows stay. -/
theorem okB.outer {F F' : Nat → Prop} {O : Bool → Nat → Prop} {m : Bool} {cs xs : List DC} {rs : List (Option (List PV))} {l l' : Loc} (ok1 : okB w F G O (.deep m cs rs) l) (st : Stays w w' F F') (e1 : l'.n = l.n) (e2 : l'.inn = l.inn)
  (keep : ∀ B, B < w.heap.size → B ≠ l'.B → w'.heap[B]? = w.heap[B]?) (hB : ∀ r c, rs[r]? = some (some c) → (l.sub r).cap ≠ 0 → (l.sub r).B ≠ l'.B)
  (hout : xs.length ≤ l'.cap ∧ l'.cap ≤ maxLen ∧ (l'.cap = 0 ∨ (RowAt w' l' ∧ O m l'.B ∧ ∀ (j : Nat) (x : DC), xs[j]? = some x → ∃ v, w'.cell? ⟨l'.B, l'.off + j, none⟩ = some v ∧ v.oneCell' = true ∧ dcRep w' F' G l' rs x v))) :
  okB w' F' G O (.deep m xs rs) l' := by
 have es : ∀ r, l'.sub r = l.sub r := fun r => by simp only [Loc.sub, e2]
 obtain ⟨n1, _, r1, d1, _⟩ := ok1
 refine ⟨by rw [e1]; exact n1, hout, fun r c hr => ?_, fun r c r' c' hr hr' hne z z' => ?_, fun r c hr _ z => ?_⟩
 ·rw [es]
  have hlt : (l.sub r).cap ≠ 0 → (l.sub r).B < w.heap.size := fun z => by
   rcases (r1 r c hr).2.2 with q | ⟨q, _⟩
   ·exact absurd q z
   ·exact q.lt
  exact rowOk.tr st (fun _ _ _ h => h) (fun z => keep _ (hlt z) (hB r c hr z)) (fun _ h => h) (r1 r c hr)
 ·rw [es] at z ⊢; rw [es] at z' ⊢; exact d1 r c r' c' hr hr' hne z z'
 ·rw [es] at z ⊢; exact hB r c hr z
theorem dcRep.loc {F : Nat → Prop} {l l' : Loc} {rs : List (Option (List PV))} {x : DC} {v : Value} (e1 : l'.B = l.B) (e2 : l'.off = l.off) (e3 : l'.inn = l.inn) (h : dcRep w F G l rs x v) : dcRep w F G l' rs x v := by
 cases x with
 | v x => exact h
 | row r => refine ⟨h.1, fun c hc => ?_⟩; have := h.2 c hc; simp only [Loc.sub, e3] at this ⊢; exact this
 | self o => show v = _; rw [e1, e2]; exact h
theorem dcRep.loc' {F : Nat → Prop} {l l' : Loc} {rs : List (Option (List PV))} {x : DC} {v : Value} (hs : x.noSelf = true) (e3 : l'.inn = l.inn) (h : dcRep w F G l rs x v) : dcRep w F G l' rs x v := by
 cases x with
 | v x => exact h
 | row r => refine ⟨h.1, fun c hc => ?_⟩; have := h.2 c hc; simp only [Loc.sub, e3] at this ⊢; exact this
 | self o => simp [DC.noSelf] at hs
theorem ag_vals {F : Nat → Prop} {v : AV} {val : Value} (hv : RepA w F G ι v val) : ∃ vals : List Value, RepAL w F G ι (agAVs v) vals ∧ ((∀ u ∈ vals, u.cells = #[u]) → val.cells = ⟨vals⟩) := by
 have single : agAVs v = [v] → ∃ vals : List Value, RepAL w F G ι (agAVs v) vals ∧ ((∀ u ∈ vals, u.cells = #[u]) → val.cells = ⟨vals⟩) := fun e => by
  rw [e]
  exact ⟨[val], by simp only [RepAL]; exact ⟨val, [], rfl, hv, rfl⟩, fun h => h val (by simp)⟩
 cases v with
 | p x =>
  cases x with
  | agg xs =>
   simp only [RepA, RepP] at hv
   obtain ⟨cs, rfl, hl⟩ := hv
   exact ⟨cs, by simp only [agAVs]; exact RepAL_p.2 hl, fun _ => rfl⟩
  | _ => exact single rfl
 | agg vs =>
  simp only [RepA] at hv
  obtain ⟨cs, rfl, hl⟩ := hv
  exact ⟨cs, hl, fun _ => rfl⟩
 | _ => exact single rfl
theorem ag_named {v : AV} (hn : ∀ i, v.has i = true → A i) : ∀ i, AV.hasL (agAVs v) i = true → A i := by
 have single : agAVs v = [v] → ∀ i, AV.hasL (agAVs v) i = true → A i := fun e i hi => by
  rw [e] at hi; simp only [AV.hasL, Bool.or_false] at hi; exact hn i hi
 cases v with
 | p x =>
  cases x with
  | agg xs =>
   intro i hi
   simp only [agAVs] at hi
   have : ∀ xs : List PV, AV.hasL (xs.map .p) i = false := fun xs => by
    induction xs with
    | nil => rfl
    | cons x xs ih => simp only [List.map_cons, AV.hasL, AV.has, ih, Bool.or_self]
   rw [this] at hi; cases hi
  | _ => exact single rfl
 | agg vs => intro i hi; exact hn i (by simpa only [AV.has, agAVs] using hi)
 | _ => exact single rfl
/-- A store into a block whose rows are the call's own: the world and the state behind it. -/
theorem store_deep {k : Nat} {K : R → Prop} (h : Rel w0 nA nt M G ι0 A w S ι a) {id off n : Nat} (hid : A id) {cs : List DC} {rs : List (Option (List PV))} (hb : S.h id = .deep mT cs rs) {v : AV} {val : Value}
  (hv : RepA w (Held S.h ι) G ι v val) (hn : ∀ i, v.has i = true → A i)
  (hK : mvsW S.h mT id (agAVs v) rs fun xs rs ws rd => xs.length = n ∧ off + n ≤ cs.length ∧ K ⟨.p .any, ws ++ [(id, .deep mT (cs.take off ++ xs ++ cs.drop (off + n)) rs)], id :: rd⟩) :
  val.cells.size = n ∧ ∃ w' h' ι' rd ws, K ⟨.p .any, ws, rd⟩ ∧ h' = hwsH S.h ws ∧ (storeCells ⟨(ι id).B, (ι id).off + off, none⟩ val.cells.toList).run P w = .ok () w' ∧ Rel w0 nA nt M G ι0 (plus A k) w' { S with h := h' } ι' a := by
 obtain ⟨vals, hvals, hcells⟩ := ag_vals hv
 obtain ⟨xs, rs', ws, rd, ⟨hlen, hle, hk⟩, mr, _, _, _⟩ := fix_mvs hK
 obtain ⟨ι1, mv, hxl, hwT, hx⟩ := mvsW_sound hid h hb hvals (ag_named hn) (fun _ _ => rfl) mr
 have hvl : vals.length = n := by rw [RepAL_length hvals, ← hxl, hlen]
 have e1 : val.cells = ⟨vals⟩ := hcells fun u hu => by
  obtain ⟨i, hi⟩ := List.getElem?_of_mem hu
  have hlt := (List.getElem?_eq_some_iff.1 hi).1
  exact (hx i _ u (List.getElem?_eq_getElem (show i < xs.length by omega)) hi).2.1
 have one : ∀ u ∈ vals, u.oneCell' = true := fun u hu => by
  obtain ⟨i, hi⟩ := List.getElem?_of_mem hu
  have hlt := (List.getElem?_eq_some_iff.1 hi).1
  exact (hx i _ u (List.getElem?_eq_getElem (show i < xs.length by omega)) hi).1
 refine ⟨by rw [e1]; simpa using hvl, ?_⟩
 rw [e1]
 simp only
 have h1 := mv.rel
 have hb1 : (updH (hwsH S.h ws) id (.deep mT cs rs')) id = .deep mT cs rs' := by simp [updH]
 have ok1 := h1.heap.deep hb1
 obtain ⟨lB, lo, lc, _⟩ := mv.loc id
 have efin : hwsH S.h (ws ++ [(id, .deep mT (cs.take off ++ xs ++ cs.drop (off + n)) rs')]) = updH (hwsH S.h ws) id (.deep mT (cs.take off ++ xs ++ cs.drop (off + n)) rs') := by
  rw [hwsH_append]; rfl
 have eupd : updH (updH (updH (hwsH S.h ws) id (.deep mT cs rs')) id .dead) id (.deep mT (cs.take off ++ xs ++ cs.drop (off + n)) rs') = updH (hwsH S.h ws) id (.deep mT (cs.take off ++ xs ++ cs.drop (off + n)) rs') := by
  funext i; simp only [updH]; split <;> rfl
 have eι : updL ι1 id (ι1 id) = ι1 := updL_self
 by_cases hn0 : n = 0
 ·subst hn0
  have hv0 : vals = [] := List.eq_nil_of_length_eq_zero hvl
  have hx0 : xs = [] := List.eq_nil_of_length_eq_zero hlen
  subst hv0 hx0
  refine ⟨w, _, ι1, _, _, hk, rfl, rfl, ?_⟩
  rw [efin]
  simp only [List.append_nil, Nat.add_zero, List.take_append_drop]
  exact h1.mono fun i hi => .inl hi
 ·obtain ⟨_, ⟨g1, g2, g3⟩, _⟩ := ok1
  have hcap1 : (ι1 id).cap ≠ 0 := by omega
  rcases g3 with g3 | ⟨⟨cells, E, lo', hi', hcell, hroom, hfr⟩, gx, gcells⟩
  ·exact absurd g3 hcap1
  ·rw [← lB, ← lo]
   have hst := run_storeCells_gen P (ι1 id).B ((ι1 id).off + off) E lo' hi' vals 0 cells w hcell (hfr.imp_right And.right) (by omega) one
   simp only [Nat.add_zero, hvl] at hst
   have hwr : Wrote w (w.setRow (ι1 id).B (cells.toList.take ((ι1 id).off + off) ++ vals ++ cells.toList.drop ((ι1 id).off + off + n)).toArray) (ι1 id).B _ := Wrote.setRow hcell (by simp; omega)
   have hb2' := setRow_heap w (ι1 id).B cells (cells.toList.take ((ι1 id).off + off) ++ vals ++ cells.toList.drop ((ι1 id).off + off + n)).toArray E (lo', hi') hcell
   have hBk : w0.heap.size ≤ (ι1 id).B ∨ M (ι1 id).B := by
    rcases gx with ⟨g, _⟩ | ⟨_, g⟩
    ·exact .inl g
    ·exact .inr g
   have W := h1.heap.writeB (w' := w.setRow (ι1 id).B (cells.toList.take ((ι1 id).off + off) ++ vals ++ cells.toList.drop ((ι1 id).off + off + n)).toArray) (id := id) (k := id) (.inl rfl) (b := .deep mT (cs.take off ++ xs ++ cs.drop (off + n)) rs') (l := ι1 id)
    (fun B hB => hwr.other B fun e => hB (by simp only [hb1]; exact .inl ⟨hcap1, e.symm⟩)) (fun B ho => by simp only [hb1]; exact ho)
    (fun st => (h1.heap.deep hb1).outer st rfl rfl (fun B _ hB => hwr.other B hB) (fun r c hr z => (h1.heap.deep hb1).2.2.2.2 r c hr hcap1 z) ⟨by simp; omega, g2, .inr ⟨⟨_, E, lo', hi', hb2', by simp; omega, by simpa using hfr.imp _root_.id fun q => ⟨q.1, by have := q.2; omega⟩⟩, gx, fun i x hi => by
     have htk : (cells.toList.take ((ι1 id).off + off)).length = (ι1 id).off + off := by simp; omega
     have htc : (cs.take off).length = off := by simp; omega
     have cellAt : ∀ j, (w.setRow (ι1 id).B (cells.toList.take ((ι1 id).off + off) ++ vals ++ cells.toList.drop ((ι1 id).off + off + n)).toArray).cell? ⟨(ι1 id).B, j, none⟩ = if j < (ι1 id).off + off then cells[j]? else if j < (ι1 id).off + off + n then vals[j - ((ι1 id).off + off)]? else cells[j]? := by
      intro j
      rw [cell?_eq, hb2']
      simp only
      rw [List.getElem?_toArray, List.append_assoc]
      by_cases q1 : j < (ι1 id).off + off
      ·rw [if_pos q1, List.getElem?_append_left (by omega), List.getElem?_take, if_pos q1]; simp
      ·rw [if_neg q1, List.getElem?_append_right (by omega), htk]
       by_cases q2 : j < (ι1 id).off + off + n
       ·rw [if_pos q2, List.getElem?_append_left (by omega)]
       ·rw [if_neg q2, List.getElem?_append_right (by omega), List.getElem?_drop]
        rw [show (ι1 id).off + off + n + (j - ((ι1 id).off + off) - vals.length) = j from by omega]; simp
     have oldC : ∀ (j : Nat) (y : DC), cs[j]? = some y → ∃ u, cells[(ι1 id).off + j]? = some u ∧ u.oneCell' = true ∧ dcRep w (Held (updH (hwsH S.h ws) id (.deep mT cs rs')) ι1) G (ι1 id) rs' y u := by
      intro j y hj
      obtain ⟨u, u1, u2, u3⟩ := gcells j y hj
      rw [cell?_eq, hcell] at u1
      exact ⟨u, u1, u2, u3⟩
     rw [cellAt]
     rw [List.append_assoc, List.getElem?_append] at hi
     split at hi
     ·rename_i hlt
      rw [List.getElem?_take] at hi
      split at hi
      ·obtain ⟨u, u1, u2, u3⟩ := oldC i x hi
       exact ⟨u, by rw [if_pos (by omega)]; exact u1, u2, u3.tr st fun _ _ _ h => h⟩
      ·cases hi
     ·rename_i hge
      rw [htc] at hi hge
      rw [List.getElem?_append] at hi
      split at hi
      ·rename_i hlt
       have hlt2 : i - off < vals.length := by omega
       obtain ⟨u1, _, u3⟩ := hx _ x _ hi (List.getElem?_eq_getElem hlt2)
       refine ⟨vals[i - off], ?_, u1, u3.tr st fun _ _ _ h => h⟩
       rw [if_neg (by omega), if_pos (by omega), show (ι1 id).off + i - ((ι1 id).off + off) = i - off by omega, List.getElem?_eq_getElem hlt2]
      ·rename_i hge2
       rw [List.getElem?_drop] at hi
       obtain ⟨u, u1, u2, u3⟩ := oldC _ x hi
       refine ⟨u, ?_, u2, u3.tr st fun _ _ _ h => h⟩
       rw [if_neg (by omega), if_neg (by omega)]
       rw [show (ι1 id).off + i = (ι1 id).off + (off + n + (i - off - xs.length)) by omega]; exact u1⟩⟩)
   obtain ⟨ok, hh, st⟩ := W
   simp only [eupd, eι] at ok hh st
   refine ⟨_, _, ι1, _, _, hk, rfl, hst, ?_⟩
   rw [efin]
   exact h1.stepK (A' := plus A k) (fun i hi => .inl hi) (hwr.keep hBk h1.keep) ok st (fun i hi => LocEq.refl _) (fun i hi => by
    have hne2 : i ≠ id := fun e => hi (.inl (e ▸ hid))
    simp only [updH, hne2, if_false]
    have := h1.alloc i fun hA => hi (.inl hA)
    simpa [updH, hne2] using this)
theorem mvs_nils {mt : Bool} {h : Nat → Blk} {id : Nat} {rs : List (Option (List PV))} : ∀ {n : Nat} {F : List DC → List (Option (List PV)) → List (Nat × Blk) → List Nat → Prop}, F (List.replicate n (.v (.sl .own []))) rs [] [] → mvsW h mt id (List.replicate n (.p (.sl .own []))) rs F
 | 0, F, hf => hf
 | n + 1, F, hf => by
  rw [List.replicate_succ, mvsW]
  refine .inr ⟨rfl, mvs_nils ?_⟩
  rw [List.replicate_succ] at hf
  exact hf
theorem RepAL_nils {F : Nat → Prop} : ∀ {n : Nat}, RepAL w F G ι (List.replicate n (.p (.sl .own []))) (List.replicate n (.slice none 0 0))
 | 0 => by simp [RepAL]
 | n + 1 => by
  rw [List.replicate_succ, List.replicate_succ, RepAL]
  refine ⟨_, _, rfl, ?_, RepAL_nils⟩
  simp only [RepA, RepP]
  exact ⟨none, 0, rfl, Nat.le_refl _, Nat.zero_le _, fun _ => ⟨trivial, rfl, rfl⟩, .inl trivial⟩
theorem hasL_nils {i : Nat} : ∀ {n : Nat}, AV.hasL (List.replicate n (.p (.sl .own []))) i = false
 | 0 => rfl
 | n + 1 => by rw [List.replicate_succ, AV.hasL, hasL_nils]; rfl
end
end Go.Gl
namespace Go.Gl
open Go
variable [Amb]
section
variable {P : Program} {sg : FuncId → List Bool} {w0 : World} {nA nt : Nat} {M G : Nat → Prop} {ι0 : Nat → Loc} {A : Nat → Prop} {w w' : World} {S : St} {ι : Nat → Loc} {a : Act}
/-- The cells of a value, made fit for memory: values and what they tell. -/
theorem cellsW_sound {v : AV} {K : List PV → List (Nat × Blk) → List Nat → Prop} (hK : cellsW S.h v K) (h : Rel w0 nA nt M G ι0 A w S ι a) {val : Value} (hv : RepA w (Held S.h ι) G ι v val) :
  ∃ xs ws rd, K xs ws rd ∧ FrzL S.h ws ∧ (∀ p ∈ ws, p.1 ∈ rd) ∧ val.cells.size = xs.length ∧ (∀ u ∈ val.cells.toList, u.oneCell' = true) ∧
   ∀ (j : Nat) (x : PV), xs[j]? = some x → ∃ u, val.cells[j]? = some u ∧ u.oneCell' = true ∧ RepP w (Held (hwsH S.h ws) ι) G x u := by
 have single : ∀ v : AV, pub S.h v (fun x ws rd => K [x] ws rd) → RepA w (Held S.h ι) G ι v val → ∃ xs ws rd, K xs ws rd ∧ FrzL S.h ws ∧ (∀ p ∈ ws, p.1 ∈ rd) ∧ val.cells.size = xs.length ∧ (∀ u ∈ val.cells.toList, u.oneCell' = true) ∧
   ∀ (j : Nat) (x : PV), xs[j]? = some x → ∃ u, val.cells[j]? = some u ∧ u.oneCell' = true ∧ RepP w (Held (hwsH S.h ws) ι) G x u := by
  intro v hp hv
  obtain ⟨x, ws, rd, hk, hf, hx, hw, hr⟩ := pub_sound hp
  have hrep := hr h.heap hf.frz (hwsH_frz hf) hv
  have h1 := oneCell_of_cellOk hx hrep
  have hc : val.cells = #[val] := by cases val <;> first | rfl | simp [Value.oneCell'] at h1
  refine ⟨[x], ws, rd, hk, hf, hw, by rw [hc]; rfl, fun u hu => by rw [hc] at hu; simp at hu; rw [hu]; exact h1, fun j y hj => ?_⟩
  cases j with
  | zero => simp at hj; subst hj; exact ⟨val, by rw [hc]; rfl, h1, hrep⟩
  | succ j => simp at hj
 unfold cellsW at hK
 split at hK
 ·rename_i xs
  simp only [RepA, RepP] at hv
  obtain ⟨cs, rfl, hl⟩ := hv
  obtain ⟨hall, hk⟩ := hK
  have hall' : ∀ x ∈ xs, x.cell.cellOk = true := by simpa using hall
  have e1 : (Value.agg ⟨cs⟩).cells = ⟨cs⟩ := rfl
  have get : ∀ (j : Nat) (u : Value), cs[j]? = some u → u.oneCell' = true := by
   intro j u hu
   have hj : j < xs.length := by have := (List.getElem?_eq_some_iff.1 hu).1; rw [RepL_length hl] at this; exact this
   obtain ⟨u', hu', hr⟩ := RepL_get hl j _ (List.getElem?_eq_getElem hj)
   rw [hu] at hu'
   cases hu'
   exact oneCell_of_cellOk (hall' _ (List.getElem_mem hj)) (RepP_cell hr)
  refine ⟨_, [], [], hk, fun p hp => by simp at hp, fun p hp => by simp at hp, by rw [e1]; simp [RepL_length hl], fun u hu => ?_, fun j x hj => ?_⟩
  ·rw [e1] at hu
   obtain ⟨j, hj⟩ := List.mem_iff_getElem?.1 hu
   exact get j u hj
  ·simp only [List.getElem?_map, Option.map_eq_some_iff] at hj
   obtain ⟨y, hy, rfl⟩ := hj
   obtain ⟨u, hu, hr⟩ := RepL_get hl j y hy
   exact ⟨u, by rw [e1]; simpa using hu, get j u hu, RepP_cell hr⟩
 ·rename_i vs
  simp only [RepA] at hv
  obtain ⟨cs, rfl, hl⟩ := hv
  obtain ⟨xs, ws, rd, hk, hf, hlen, hok, hw, hr⟩ := pubs_sound hK
  have e1 : (Value.agg ⟨cs⟩).cells = ⟨cs⟩ := rfl
  have hcl := RepAL_length hl
  have get : ∀ (j : Nat) (x : PV), xs[j]? = some x → ∃ u, cs[j]? = some u ∧ u.oneCell' = true ∧ RepP w (Held (hwsH S.h ws) ι) G x u := by
   intro j x hj
   have hj' : j < vs.length := by have := (List.getElem?_eq_some_iff.1 hj).1; omega
   obtain ⟨u, hu, hru⟩ := RepAL_get hl j _ (List.getElem?_eq_getElem hj')
   have := hr h.heap hf.frz (hwsH_frz hf) j _ u x (List.getElem?_eq_getElem hj') hj hru
   exact ⟨u, hu, oneCell_of_cellOk (hok x (List.mem_of_getElem? hj)) this, this⟩
  refine ⟨xs, ws, rd, hk, hf, hw, by rw [e1]; simp [hcl, hlen], fun u hu => ?_, fun j x hj => ?_⟩
  ·rw [e1] at hu
   obtain ⟨j, hj⟩ := List.mem_iff_getElem?.1 hu
   have hj' : j < xs.length := by have := (List.getElem?_eq_some_iff.1 hj).1; simp at this; omega
   obtain ⟨u', hu', h1, _⟩ := get j _ (List.getElem?_eq_getElem hj')
   rw [show cs[j]? = some u from hj] at hu'
   cases hu'
   exact h1
  ·obtain ⟨u, hu, h1, hru⟩ := get j x hj
   exact ⟨u, by rw [e1]; simpa using hu, h1, hru⟩
 ·exact single _ hK hv
theorem szT_size {t : TypeId} {n : Nat} {b : Bool} (h : szT P t = some (n, b)) : ∃ i, P.info? t = some i ∧ i.size = n := by
 cases b
 ·obtain ⟨i, d, hi, hs, _⟩ := szT_one h; exact ⟨i, hi, hs⟩
 ·obtain ⟨i, hi, hs, _⟩ := szT_agg h; exact ⟨i, hi, hs⟩
theorem hwsH_other {h : Nat → Blk} : ∀ {ws : List (Nat × Blk)} {i : Nat}, (∀ p ∈ ws, p.1 ≠ i) → hwsH h ws i = h i := by
 intro ws
 induction ws generalizing h with
 | nil => intro i _; rfl
 | cons p ws ih =>
  intro i hi
  obtain ⟨j, b⟩ := p
  simp only [hwsH]
  rw [ih fun q hq => hi q (by simp [hq])]
  have := hi (j, b) (by simp)
  simp [Ne.symm this]
/-- A store into a row of the call's own. -/
theorem store_row (h : Rel w0 nA nt M G ι0 A w S ι a) {id r off k : Nat} {m : Bool} {cs : List DC} {rs : List (Option (List PV))} {c : List PV} (hid : A id) (hb : S.h id = .deep m cs rs) (hr : rs[r]? = some (some c)) (ho : off < c.length)
  {x : PV} {val : Value} (h1 : val.oneCell' = true) (hx : RepP w (Held S.h ι) G x val) :
  ∃ w1, (storeCells ⟨((ι id).sub r).B, ((ι id).sub r).off + off, none⟩ [val]).run P w = .ok () w1 ∧
   Rel w0 nA nt M G ι0 (plus A k) w1 { S with h := updH S.h id (.deep m cs (rs.set r (some (c.set off x)))) } ι a := by
 have okd := h.heap.deep hb
 obtain ⟨hn, ⟨q1, q2, q3⟩, q4, q5, q6⟩ := okd
 obtain ⟨r1, r2, r3⟩ := q4 r c hr
 have hcap : ((ι id).sub r).cap ≠ 0 := by omega
 rcases r3 with r3 | ⟨⟨cells, E, lo, hi', hcell, hroom, hfr⟩, hrepc, gx⟩
 ·exact absurd r3 hcap
 have hrl : r < rs.length := (List.getElem?_eq_some_iff.1 hr).1
 have hst := run_storeCells_gen P ((ι id).sub r).B (((ι id).sub r).off + off) E lo hi' [val] 0 cells w hcell (hfr.imp_right And.right) (by simp; omega) (by simpa using h1)
 simp only [Nat.add_zero, List.length_singleton] at hst
 have hwr : Wrote w (w.setRow ((ι id).sub r).B (cells.toList.take (((ι id).sub r).off + off) ++ [val] ++ cells.toList.drop (((ι id).sub r).off + off + 1)).toArray) ((ι id).sub r).B _ := Wrote.setRow hcell (by simp; omega)
 refine ⟨_, hst, ?_⟩
 have hBk : w0.heap.size ≤ ((ι id).sub r).B ∨ M ((ι id).sub r).B := by
  rcases gx with ⟨g, _⟩ | ⟨_, g⟩
  ·exact .inl g
  ·exact .inr g
 have hown : owns (S.h id) (ι id) ((ι id).sub r).B := by rw [hb]; exact .inr ⟨r, c, hr, hcap, rfl⟩
 rw [RepC_iff] at hrepc
 have rows : ∀ {q : Nat} {c' : List PV}, (rs.set r (some (c.set off x)))[q]? = some (some c') → (q = r ∧ c' = c.set off x) ∨ (q ≠ r ∧ rs[q]? = some (some c')) := by
  intro q c' hq
  rw [List.getElem?_set] at hq
  by_cases e : r = q
  ·subst e
   rw [if_pos rfl, if_pos hrl] at hq
   simp at hq
   exact .inl ⟨rfl, hq.symm⟩
  ·rw [if_neg e] at hq
   exact .inr ⟨fun e' => e e'.symm, hq⟩
 have old : ∀ {q : Nat} {c' : List PV}, (rs.set r (some (c.set off x)))[q]? = some (some c') → ∃ c0, rs[q]? = some (some c0) ∧ c'.length = c0.length := by
  intro q c' hq
  rcases rows hq with ⟨e1, e2⟩ | ⟨_, e2⟩
  ·subst e1; subst e2; exact ⟨c, hr, by simp⟩
  ·exact ⟨c', e2, rfl⟩
 obtain ⟨cs1, E1, fr1, hb1, hb2, hsz⟩ := hwr.at_
 rw [hcell] at hb1
 cases hb1
 have W := h.heap.writeB (w' := w.setRow ((ι id).sub r).B (cells.toList.take (((ι id).sub r).off + off) ++ [val] ++ cells.toList.drop (((ι id).sub r).off + off + 1)).toArray) (id := id) (k := id) (.inl rfl) (b := .deep m cs (rs.set r (some (c.set off x)))) (l := ι id)
  (fun B hB => hwr.other B fun e => hB (e ▸ hown))
  (fun B hB => by
   rw [hb]
   rcases hB with hB | ⟨q, c', hq, z, e⟩
   ·exact .inl hB
   ·obtain ⟨c0, h0, _⟩ := old hq
    exact .inr ⟨q, c0, h0, z, e⟩)
  (fun st => by
   refine ⟨by rw [List.length_set]; exact hn, ⟨q1, q2, ?_⟩, fun q c' hq => ?_, fun q c' q' c'' hq hq' hne z z' => ?_, fun q c' hq z z' => ?_⟩
   ·by_cases h0 : (ι id).cap = 0
    ·exact .inl h0
    ·right
     rcases q3 with q3 | ⟨p1, p2, p3⟩
     ·exact absurd q3 h0
     ·have hne : (ι id).B ≠ ((ι id).sub r).B := fun e => q6 r c hr h0 hcap e.symm
      refine ⟨p1.same (hwr.other _ hne), p2, fun j y hj => ?_⟩
      obtain ⟨v, v1, v2, v3⟩ := p3 j y hj
      refine ⟨v, by rw [cell?_same (hwr.other _ hne)]; exact v1, v2, ?_⟩
      cases y with
      | v y => exact RepP.tr st (fun _ _ _ h => h) _ _ v3
      | row q =>
       obtain ⟨t1, t2⟩ := v3
       refine ⟨by rw [List.length_set]; exact t1, fun c' hc' => ?_⟩
       obtain ⟨c0, h0, e⟩ := old hc'
       rw [e]; exact t2 c0 h0
      | self o => exact v3
   ·rcases rows hq with ⟨rfl, rfl⟩ | ⟨hne, hq⟩
    ·refine ⟨by rw [List.length_set]; exact r1, r2, .inr ⟨⟨_, E, lo, hi', hb2, by rw [hsz]; exact hroom, by rw [hsz]; exact hfr⟩, ?_, gx⟩⟩
     rw [RepC_iff]
     intro j y hj
     rw [List.getElem?_set] at hj
     by_cases e : off = j
     ·subst e
      rw [if_pos rfl, if_pos ho] at hj
      cases hj
      refine ⟨val, ?_, h1, RepP.tr st (fun _ _ _ h => h) _ _ hx⟩
      rw [cell?_eq, hb2]
      simp only [List.getElem?_toArray]
      have hlen : (cells.toList.take (((ι id).sub q).off + off)).length = ((ι id).sub q).off + off := by rw [List.length_take, Array.length_toList]; omega
      rw [List.append_assoc, List.getElem?_append_right (by rw [hlen]; exact Nat.le_refl _), hlen, Nat.sub_self]; rfl
     ·rw [if_neg e] at hj
      obtain ⟨v, hv1, hv2, hv3⟩ := hrepc j y hj
      refine ⟨v, ?_, hv2, RepP.tr st (fun _ _ _ h => h) _ _ hv3⟩
      rw [cell?_eq, hcell] at hv1
      rw [cell?_eq, hb2]
      have hv1 : cells[((ι id).sub q).off + j]? = some v := hv1
      show (cells.toList.take (((ι id).sub q).off + off) ++ [val] ++ cells.toList.drop (((ι id).sub q).off + off + 1)).toArray[((ι id).sub q).off + j]? = some v
      rw [List.getElem?_toArray]
      have hlt : ((ι id).sub q).off + j < cells.size := (Array.getElem?_eq_some_iff.1 hv1).1
      have hv1' : cells.toList[((ι id).sub q).off + j]? = some v := by simpa using hv1
      by_cases e2 : j < off
      ·rw [List.append_assoc, List.getElem?_append_left (by simp; omega), List.getElem?_take_of_lt (by omega)]; exact hv1'
      ·rw [List.getElem?_append_right (by simp; omega)]
       rw [List.getElem?_drop]
       rw [← hv1']; congr 1
       simp; omega
    ·by_cases h0 : ((ι id).sub q).cap = 0
     ·obtain ⟨g1, g2, _⟩ := q4 q c' hq
      exact ⟨g1, g2, .inl h0⟩
     ·have hne2 : ((ι id).sub q).B ≠ ((ι id).sub r).B := q5 q c' r c hq hr hne h0 hcap
      exact rowOk.tr st (fun _ _ _ h => h) (fun _ => hwr.other _ hne2) (fun _ h => h) (q4 q c' hq)
   ·obtain ⟨c0, e0, _⟩ := old hq
    obtain ⟨c1, e1, _⟩ := old hq'
    exact q5 q c0 q' c1 e0 e1 hne z z'
   ·obtain ⟨c0, e0, _⟩ := old hq
    exact q6 q c0 e0 z z')
 obtain ⟨ok, _, st⟩ := W
 have eι : updL ι id (ι id) = ι := updL_self
 have eh : updH (updH S.h id .dead) id (.deep m cs (rs.set r (some (c.set off x)))) = updH S.h id (.deep m cs (rs.set r (some (c.set off x)))) := by
  funext j
  simp only [updH]
  split <;> rfl
 rw [eι, eh] at ok st
 exact h.stepK (A' := plus A k) (fun i hi => .inl hi) (hwr.keep hBk h.keep) ok st (fun i _ => LocEq.refl _) (fun i hi => by
  have hne2 : i ≠ id := fun e => hi (.inl (e ▸ hid))
  simp only [updH, hne2, if_false]
  exact h.alloc i fun hA => hi (.inl hA))
theorem does_store {o : Oper} {k : Nat} {K : R → Prop} (h : Rel w0 nA nt M G ι0 A w S ι a) (hd : ∀ d, o.dst = some d → d < nt) {t : TypeId} {x y : Operand}
  (ho : o.op = .store t x y) (hK : storeW P t S.h (Gl.opd S x) (Gl.opd S y) K) : Does P w0 nA nt M G ι0 A k o w S a K := by
 have hx := h.opd x
 have nx := h.opd_named x
 unfold storeW at hK
 split at hK
 ·rename_i n b ht
  obtain ⟨inf, hinf, hsz⟩ := szT_size ht
  split at hK
  ·rename_i id off e
   rw [e] at hx nx
   simp only [RepA] at hx
   have hid : A id := nx id (by simp [AV.has])
   split at hK
   ·rename_i m c hblk
    obtain ⟨xs, ws, rd, ⟨hlen, hle, hnin, hk⟩, hf, hwrd, hcells, hone, hrep⟩ := cellsW_sound hK h (h.opd y)
    have h1 := h.frz hf.frz
    have hblk1 : hwsH S.h ws id = .live m c := by rw [hwsH_other fun p hp (e : p.1 = id) => hnin (by rw [← e]; exact hwrd p hp)]; exact hblk
    have hvl : (a.eval y).cells.toList.length = n := by simp [hcells, hlen]
    have run : ∀ {w1}, (storeCells ⟨(ι id).B, (ι id).off + off, none⟩ (a.eval y).cells.toList).run P w = .ok () w1 → (execOp a.eval o).run P w = .ok .skip w1 := by
     intro w1 hst
     have hne : ¬ ((a.eval y).cells.size ≠ inf.size) := by rw [hsz, hcells, hlen]; simp
     simp [execOp, ho, hx, Instr.storeAt, Instr.sureAddr, storeVar, sizeOf, typeInfo, hinf, hne, hst]
    by_cases hn0 : n = 0
    ·-- nothing to lay
     subst hn0
     have hnil : (a.eval y).cells.toList = [] := List.eq_nil_of_length_eq_zero hvl
     have hxs : xs = [] := List.eq_nil_of_length_eq_zero hlen
     intro Kc Qc next
     refine wp_skip' (run (w1 := w) (by rw [hnil]; rfl)) (next _ _ _ ι hk ?_)
     rw [app_eq]
     have e1 : hwsH S.h (ws ++ [(id, .live m (c.take off ++ xs ++ c.drop (off + 0)))]) = hwsH S.h ws := by
      rw [hwsH_append, hwsH_one, hxs]
      simp only [List.append_nil, Nat.add_zero, List.take_append_drop]
      funext j
      simp only [updH]
      split
      ·rename_i ej; rw [ej, hblk1]
      ·rfl
     rw [e1]
     exact (h1.put o.dst hd (v := .p .any) (by simp only [RepA, RepP]) (by simp [AV.has])).mono fun i hi => .inl hi
    ·have hc1 : c ≠ [] := by intro e; subst e; simp at hle; omega
     obtain ⟨g1, g2, g3⟩ := h1.heap.live id m c hblk1
     have hcap1 : (ι id).cap ≠ 0 := by have := List.length_pos_iff.2 hc1; omega
     rcases g3 with g3 | ⟨⟨cs, E, lo, hi', hcell, hroom, hfr⟩, hrepc, gx⟩
     ·exact absurd g3 hcap1
     ·have hst := run_storeCells_gen P (ι id).B ((ι id).off + off) E lo hi' (a.eval y).cells.toList 0 cs w hcell (hfr.imp_right And.right) (by rw [hvl]; omega) hone
      simp only [Nat.add_zero, hvl] at hst
      have hwr : Wrote w (w.setRow (ι id).B (cs.toList.take ((ι id).off + off) ++ (a.eval y).cells.toList ++ cs.toList.drop ((ι id).off + off + n)).toArray) (ι id).B _ := Wrote.setRow hcell (by simp [hcells, hlen]; omega)
      have hBk : w0.heap.size ≤ (ι id).B ∨ M (ι id).B := by
       rcases gx with ⟨g, _⟩ | ⟨_, g⟩
       ·exact .inl g
       ·exact .inr g
      rw [RepC_iff] at hrepc
      have W := h1.heap.write (k := id) (c' := c.take off ++ xs ++ c.drop (off + n)) hblk1 (.inl rfl) hcap1 hwr (ι id).off (ι id).cap (ι id).n (ι id).inn (Nat.le_refl _) rfl (by simp; omega) (by
       intro j y' hj
       have htk : (cs.toList.take ((ι id).off + off)).length = (ι id).off + off := by simp; omega
       have htc : (c.take off).length = off := by simp; omega
       rw [List.getElem?_toArray]
       rw [List.append_assoc, List.getElem?_append] at hj
       rw [List.append_assoc, List.getElem?_append]
       split at hj
       ·rename_i hlt
        rw [if_pos (by omega)]
        rw [List.getElem?_take] at hj ⊢
        split at hj
        ·rw [if_pos (by omega)]
         obtain ⟨v, hv1, hv2, hv3⟩ := hrepc j y' hj
         rw [cell?_eq, hcell] at hv1
         exact ⟨v, by simpa using hv1, hv2, hv3⟩
        ·cases hj
       ·rename_i hge
        rw [htc] at hj hge
        rw [if_neg (by omega), htk, show (ι id).off + j - ((ι id).off + off) = j - off from by omega]
        rw [List.getElem?_append] at hj ⊢
        split at hj
        ·rename_i hlt
         obtain ⟨v, hv1, hv2, hv3⟩ := hrep _ y' hj
         rw [if_pos (by rw [hvl]; omega)]
         exact ⟨v, by simpa using hv1, hv2, hv3⟩
        ·rename_i hge2
         rw [if_neg (by rw [hvl]; omega), hvl, List.getElem?_drop]
         rw [List.getElem?_drop, hlen] at hj
         obtain ⟨v, hv1, hv2, hv3⟩ := hrepc _ y' hj
         rw [cell?_eq, hcell] at hv1
         refine ⟨v, ?_, hv2, hv3⟩
         rw [show (ι id).off + off + n + (j - off - n) = (ι id).off + (off + n + (j - off - n)) from by omega]
         simpa using hv1)
      obtain ⟨ok, hh, st⟩ := W
      have eι : updL ι id ⟨(ι id).B, (ι id).off, (ι id).cap, (ι id).n, (ι id).inn⟩ = ι := updL_self
      have eh : updH (updH (hwsH S.h ws) id .dead) id (.live m (c.take off ++ xs ++ c.drop (off + n))) = hwsH S.h (ws ++ [(id, .live m (c.take off ++ xs ++ c.drop (off + n)))]) := by
       rw [hwsH_append, hwsH_one]
       funext j
       simp only [updH]
       split <;> rfl
      rw [eι, eh] at ok st
      have h2 := h1.stepK (A' := plus A k) (fun i hi => .inl hi) (hwr.keep hBk h1.keep) ok st (fun i hi => LocEq.refl _) (fun i hi => by
       have hne2 : i ≠ id := fun e => hi (.inl (e ▸ hid))
       rw [hwsH_append, hwsH_one]
       simp only [updH, hne2, if_false]
       exact h1.alloc i fun hA => hi (.inl hA))
      intro Kc Qc next
      refine wp_skip' (run hst) (next _ _ _ ι hk ?_)
      rw [app_eq]
      exact h2.put o.dst hd (v := .p .any) (by simp only [RepA, RepP]) (by simp [AV.has])
   ·rename_i cs rs hblk
    obtain ⟨hvl, w1, h1, ι1, rd, ws, hk, rfl, hst, hrel⟩ := store_deep (P := P) (k := k) (K := K) h hid hblk (h.opd y) (h.opd_named y) hK
    have run : (execOp a.eval o).run P w = .ok .skip w1 := by
     have hne : ¬ ((a.eval y).cells.size ≠ inf.size) := by rw [hsz, hvl]; simp
     simp [execOp, ho, hx, Instr.storeAt, Instr.sureAddr, storeVar, sizeOf, typeInfo, hinf, hne, hst]
    intro Kc Qc next
    refine wp_skip' run (next _ _ _ ι1 hk ?_)
    rw [app_eq]
    exact hrel.put o.dst hd (v := .p .any) (by simp only [RepA, RepP]) (by simp [AV.has])
   ·exact hK.elim
  ·rename_i id r off e
   rw [e] at hx nx
   simp only [RepA] at hx
   have hid : A id := nx id (by simp [AV.has])
   obtain ⟨hn1, hK⟩ := hK
   unfold rowW at hK
   split at hK
   ·rename_i x ex
    obtain ⟨hxo, hK⟩ := hK
    split at hK
    ·rename_i m cs rs hblk
     split at hK
     ·rename_i c hrow
      obtain ⟨hoff, hk⟩ := hK
      have hv := h.opd y
      rw [ex] at hv
      have hrep := RepP_cell (show RepP w (Held S.h ι) G x (a.eval y) from hv)
      have h1 := oneCell_of_cellOk hxo hrep
      obtain ⟨w1, hst, hrel⟩ := store_row (P := P) (k := k) h hid hblk hrow hoff h1 hrep
      have hc : ∀ val : Value, val.oneCell' = true → val.cells = #[val] := fun val h1 => by cases val <;> first | rfl | simp [Value.oneCell'] at h1
      have hc1 := hc _ h1
      have run : (execOp a.eval o).run P w = .ok .skip w1 := by
       have hne : ¬ ((a.eval y).cells.size ≠ inf.size) := by rw [hsz, hc1]; simp [hn1]
       have hl : (a.eval y).cells.toList = [a.eval y] := by rw [hc1]
       simp [execOp, ho, hx.2, Instr.storeAt, Instr.sureAddr, storeVar, sizeOf, typeInfo, hinf, hne, hl, hst]
      intro Kc Qc next
      refine wp_skip' run (next _ _ _ ι hk ?_)
      rw [app_eq]
      exact hrel.put o.dst hd (v := .p .any) (by simp only [RepA, RepP]) (by simp [AV.has])
     ·exact hK.elim
    ·exact hK.elim
   ·exact hK.elim
  ·exact hK.elim
 ·exact hK.elim
theorem ofConst1_cell_rep {F : Nat → Prop} (v : Value) : RepP w F G (ofConst1 v).cell v := RepP_cell (ofConst1_rep v)
theorem does_alloc {o : Oper} {k : Nat} {K : R → Prop} (h : Rel w0 nA nt M G ι0 A w S ι a) (hd : ∀ d, o.dst = some d → d < nt) (hA : ∀ x, x < 256 → ¬ A (k + x)) {t : TypeId}
  (ho : o.op = .alloc t) (hK : allocW P t k K) : Does P w0 nA nt M G ι0 A k o w S a K := by
 unfold allocW at hK
 split at hK
 ·rename_i xs hz
  obtain ⟨hne, hbig, hok, hk⟩ := hK
  unfold zeroT at hz
  split at hz
  ·rename_i inf hinf
   split at hz
   ·rename_i z hzz
    simp only [Option.some.injEq] at hz
    subst hz
    have hok' : ∀ x ∈ z.cells.toList, (ofConst1 x).cell.cellOk = true := by
     intro x hx; have := List.all_eq_true.1 hok _ (List.mem_map.2 ⟨x, hx, rfl⟩); exact this
    have hbig' : z.cells.size ≤ maxLen := by simp at hbig; simp only [maxLen]; omega
    refine does_new h hd hA (ws := []) (fun p hp => by simp at hp) (Pushed.alloc w (.cells z.cells t)) (lo := 0) (hi := 0) (.inl (Nat.le_refl _)) false _ z.cells.size hbig' (Nat.le_refl _) (by simp) ?_ (v := .ptr k 0) ?_ (.inr ⟨rfl, rfl⟩) hk
    ·intro j x hx
     simp only [List.getElem?_map, Option.map_eq_some_iff] at hx
     obtain ⟨u, hu, rfl⟩ := hx
     exact ⟨u, by simpa using hu, oneCell_of_cellOk (hok' u (List.mem_of_getElem? hu)) (ofConst1_cell_rep (w := w) (G := G) (F := Held (hwsH S.h []) ι) u), ofConst1_cell_rep u⟩
    ·simp [execOp, ho, Instr.alloc, zeroValue, typeInfo, hinf, hzz, newVar, newRow]
   ·cases hz
  ·cases hz
 ·exact hK.elim
theorem does_box {o : Oper} {k : Nat} {K : R → Prop} (h : Rel w0 nA nt M G ι0 A w S ι a) (hd : ∀ d, o.dst = some d → d < nt) (hA : ∀ x, x < 256 → ¬ A (k + x)) {t : TypeId} {x : Operand}
  (ho : o.op = .box t x) (hK : boxW S.h k (Gl.opd S x) K) : Does P w0 nA nt M G ι0 A k o w S a K := by
 obtain ⟨xs, ws, rd, ⟨hne, hbig, hk⟩, hf, hwrd, hcells, hone, hrep⟩ := cellsW_sound hK h (h.opd x)
 refine does_new h hd hA hf (Pushed.alloc w (.cells (a.eval x).cells t)) (lo := 0) (hi := 0) (.inl (Nat.le_refl _)) false xs xs.length (by simp only [maxLen]; omega) (by omega) (Nat.le_refl _) hrep (v := .ptr k 0) ?_ (.inr ⟨rfl, rfl⟩) hk
 simp [execOp, ho, Instr.box, newVar, newRow]
theorem u8T_spec {t : TypeId} (h : u8T P t = true) : ∃ e, P.underlying t = some (.slice e) ∧ P.underlying e = some (.int .u8) := by
 unfold u8T at h
 split at h
 ·rename_i e hu
  split at h
  ·rename_i hi; exact ⟨e, hu, intT_spec hi⟩
  ·cases h
 ·cases h
theorem bytes_back {src dst e : TypeId} (hs : P.underlying src = some (.slice e)) (he : P.underlying e = some (.int .u8)) (hd : P.underlying dst = some .string) {F : Nat → Prop} {ad : Option Addr} {n cap : Nat} {s : List UInt8} (hn : s.length = n)
  (h : s = [] ∨ ∃ B off, ad = some ⟨B, off, none⟩ ∧ RepC w F G B off (s.map fun b => .int .u8 b.toNat)) : (convert src dst (.slice ad n cap)).run P w = .ok (.string ⟨s.toArray⟩) w := by
 subst hn
 have none_case : s = [] → ad = none → (convert src dst (.slice ad s.length cap)).run P w = .ok (.string ⟨s.toArray⟩) w := by
  rintro rfl rfl
  show (convert src dst (.slice none 0 cap)).run P w = _
  rw [run_convert_bytes_string w src dst e none 0 cap hs he hd]
  rfl
 rcases h with h0 | ⟨B, off, rfl, hc⟩
 ·cases ad with
  | none => exact none_case h0 rfl
  | some x =>
   subst h0
   exact run_convert_bytes_back w src dst e x cap [] hs he hd (fun j hj => by simp at hj)
 ·obtain ⟨cs, hl, hlen, hcells, hone⟩ := RepC_list hc
  refine run_convert_bytes_back w src dst e ⟨B, off, none⟩ cap s hs he hd fun j hj => ?_
  have hj' : (s.map fun b => PV.int .u8 b.toNat)[j]? = some (.int .u8 s[j].toNat) := by simp [hj]
  obtain ⟨v, hv, hr⟩ := RepL_get hl j _ hj'
  have hr : v = .int .u8 s[j].toNat := by simpa [RepP] using hr
  subst hr
  rw [add_at]
  exact hcells j _ hv
theorem does_convert {o : Oper} {k : Nat} {K : R → Prop} (h : Rel w0 nA nt M G ι0 A w S ι a) (hd : ∀ d, o.dst = some d → d < nt) (hA : ∀ x, x < 256 → ¬ A (k + x)) {src dst : TypeId} {x : Operand}
  (ho : o.op = .convert src dst x) (hK : convW P src dst k S.h (Gl.opd S x) K) : Does P w0 nA nt M G ι0 A k o w S a K := by
 have hx := h.opd x
 unfold convW at hK
 split at hK
 ·rename_i k' n e
  rw [e] at hx
  have hx := rep_int hx
  split at hK
  ·rename_i kd hkd
   obtain ⟨hs, hr, hk⟩ := hK
   obtain ⟨d, hsrc⟩ := Option.isSome_iff_exists.1 hs
   refine does_value h hd (v := .p (.int kd n)) (val := .int kd n) ?_ (by simp only [RepA, RepP]) (by simp [AV.has]) hk
   simp [execOp, ho, hx, convert, run_underlying hsrc, run_underlying (intT_spec hkd), Conv.intToInt, wrap_in hr]
  ·exact hK.elim
 ·rename_i s e
  rw [e] at hx
  have hx := rep_str hx
  obtain ⟨hsrc, hK⟩ := hK
  have hsrc := strT_spec hsrc
  split at hK
  ·rename_i hst
   refine does_value h hd (v := .p (.str s)) (val := .string ⟨s.toArray⟩) ?_ (by simp only [RepA, RepP]) (by simp [AV.has]) (by rw [e] at hK; exact hK)
   simp [execOp, ho, hx, convert, run_underlying hsrc, run_underlying (strT_spec hst), Sem.run_pure]
  ·obtain ⟨_, hu8, hlen, hSB, hk⟩ := hK
   obtain ⟨el, hu, hel⟩ := u8T_spec hu8
   have hgc := grownCap_ge w s.length 0 el
   have hgm := grownCap_le_maxLen w s.length 0 el (by simp only [maxLen, big] at hlen ⊢; omega)
   have hsz : (⟨s.toArray⟩ : ByteArray).size = s.length := by simp [ByteArray.size]
   have hrow : (bytesRow ⟨s.toArray⟩ (grownCap w s.length 0 el)).size = grownCap w s.length 0 el := by
    simp only [bytesRow, Array.size_append, Array.size_map, Array.size_replicate, hsz, List.size_toArray]; omega
   have hrun : (convert src dst (.string ⟨s.toArray⟩)).run P w = .ok (.slice (some ⟨w.heap.size, 0, none⟩) s.length (grownCap w s.length 0 el))
     (w.drew.alloc (.cells (bytesRow ⟨s.toArray⟩ (grownCap w s.length 0 el)) el (grownCap w s.length 0 el, grownCap w s.length 0 el + 1))) := by
    have := run_bytes_of_string (P := P) w src dst el ⟨s.toArray⟩ hsrc hu hel
    rw [hsz, hrow] at this
    exact this
   refine does_new h hd hA (ws := []) (fun p hp => by simp at hp) (Pushed.drew w (.cells (bytesRow ⟨s.toArray⟩ (grownCap w s.length 0 el)) el (grownCap w s.length 0 el, grownCap w s.length 0 el + 1))) (.inr ⟨hSB, by rw [hrow]; exact Nat.le_refl _⟩) false
    (s.map fun b : UInt8 => PV.int .u8 (b.toNat : Int)) (grownCap w s.length 0 el) hgm (by rw [hrow]; exact Nat.le_refl _) (by simpa using hgc) (fun j x hj => ?_) (v := .ref k 0 s.length) ?_ (.inl ⟨s.length, rfl, by omega, rfl⟩) hk
   ·simp only [List.getElem?_map, Option.map_eq_some_iff] at hj
    obtain ⟨b, hb, rfl⟩ := hj
    have hjl := (List.getElem?_eq_some_iff.1 hb).1
    refine ⟨.int .u8 b.toNat, ?_, rfl, RepP_int⟩
    simp only [bytesRow]
    rw [Array.getElem?_append_left (by simpa using hjl)]
    simp [hb]
   ·simp only [execOp, ho, hx]
    simp [hrun]
 ·rename_i hni hns
  obtain ⟨hst, hsl, hu8, hK⟩ := hK
  obtain ⟨el, hu, hel⟩ := u8T_spec hu8
  have key : ∀ (s : List UInt8) (ad : Option Addr) (n cap : Nat) (rd : List Nat), a.eval x = .slice ad n cap → s.length = n → (s = [] ∨ ∃ B off, ad = some ⟨B, off, none⟩ ∧ RepC w (Held S.h ι) G B off (s.map fun b => .int .u8 b.toNat)) →
    K ⟨.p (.str s), [], rd⟩ → Does P w0 nA nt M G ι0 A k o w S a K := fun s ad n cap rd hv hn hc hk => by
   refine does_value h hd (v := .p (.str s)) (val := .string ⟨s.toArray⟩) ?_ (by simp only [RepA, RepP]) (by simp [AV.has]) hk
   have hb := bytes_back (P := P) hu hel (strT_spec hst) hn (cap := cap) hc
   simp only [execOp, ho, hv]
   simp [hb]
  unfold cont at hK
  split at hK
  ·rename_i fl xs e
   rw [e] at hx
   obtain ⟨ad, cap, hv, hl, hm, _, hc⟩ := rep_sl hx
   obtain ⟨s, rfl, hk⟩ := hK
   refine key s ad _ cap _ hv (by simp) ?_ hk
   rcases hc with hc | ⟨B, off, ha, _, _, hc⟩
   ·exact .inl (by simpa using hc)
   ·exact .inr ⟨B, off, ha, hc⟩
  ·rename_i s e
   exact (hns s e).elim
  ·rename_i id off len e
   rw [e] at hx
   obtain ⟨ad, cap, hv, hl, hcap, hm, hc⟩ := rep_ref hx
   have fin : ∀ c, ((∃ m, S.h id = .live m c) ∨ ∃ m, S.h id = .froz m c) → off + len ≤ c.length → (∃ s : List UInt8, (c.drop off).take len = s.map (fun b => PV.int .u8 b.toNat) ∧ K ⟨.p (.str s), [], [id]⟩) → Does P w0 nA nt M G ι0 A k o w S a K := by
    rintro c hb hle ⟨s, hs, hk⟩
    have hsl : s.length = len := by
     have := congrArg List.length hs
     simp at this; omega
    refine key s ad _ cap _ hv hsl ?_ hk
    by_cases h0 : len = 0
    ·left; exact List.eq_nil_of_length_eq_zero (by omega)
    ·right
     rcases hc with hc | rfl
     ·omega
     ·refine ⟨_, _, rfl, ?_⟩
      rw [← hs]
      exact RepC_take (RepC_drop (h.heap.cells hb (by intro e; subst e; simp at hle; omega)) off) len
   split at hK
   ·rename_i m c hb; exact fin c (.inl ⟨m, hb⟩) hK.1 hK.2
   ·rename_i m c hb; exact fin c (.inr ⟨m, hb⟩) hK.1 hK.2
   ·exact hK.elim
  ·rename_i id r off len e
   rw [e] at hx
   obtain ⟨_, ad, cap, hv, hl, hcap, hm, hc⟩ := rep_inn hx
   split at hK
   ·rename_i m cs rs hb
    split at hK
    ·rename_i c hr
     obtain ⟨hle, s, hs, hk⟩ := hK
     have hsl : s.length = len := by
      have := congrArg List.length hs
      simp at this; omega
     refine key s ad _ cap _ hv hsl ?_ hk
     by_cases h0 : len = 0
     ·left; exact List.eq_nil_of_length_eq_zero (by omega)
     ·right
      rcases hc with hc | rfl
      ·omega
      ·refine ⟨_, _, rfl, ?_⟩
       rw [← hs]
       exact RepC_take (RepC_drop ((h.heap.deepRow hb hr).2.cells (by intro e; subst e; simp at hle; omega)).1 off) len
    ·exact hK.elim
   ·exact hK.elim
  ·exact hK.elim
theorem RepAL_set {F : Nat → Prop} : ∀ {xs : List AV} {vs : List Value} {x : AV} {v : Value} (o : Nat), RepAL w F G ι xs vs → RepA w F G ι x v → RepAL w F G ι (xs.set o x) (vs.set o v)
 | [], vs, x, v, o, h, _ => by
  simp only [RepAL] at h; subst h; cases o <;> simp [RepAL]
 | y :: xs, vs, x, v, o, h, hx => by
  simp only [RepAL] at h
  obtain ⟨u, us, rfl, h1, h2⟩ := h
  cases o with
  | zero => simp only [List.set_cons_zero, RepAL]; exact ⟨v, us, rfl, hx, h2⟩
  | succ o => simp only [List.set_cons_succ, RepAL]; exact ⟨u, _, rfl, h1, RepAL_set o h2 hx⟩
theorem hasL_set {i : Nat} : ∀ {xs : List AV} {x : AV} (o : Nat), AV.hasL (xs.set o x) i = true → AV.hasL xs i = true ∨ x.has i = true
 | [], x, o, h => by cases o <;> simp [AV.hasL] at h
 | y :: xs, x, o, h => by
  cases o with
  | zero =>
   simp only [List.set_cons_zero, AV.hasL, Bool.or_eq_true] at h ⊢
   rcases h with h | h
   ·exact .inr h
   ·exact .inl (.inr h)
  | succ o =>
   simp only [List.set_cons_succ, AV.hasL, Bool.or_eq_true] at h ⊢
   rcases h with h | h
   ·exact .inl (.inl h)
   ·rcases hasL_set o h with h | h
    ·exact .inl (.inr h)
    ·exact .inr h
theorem szT_info {t : TypeId} {n : Nat} {b : Bool} (h : szT P t = some (n, b)) : ∃ i, P.info? t = some i ∧ i.size = n := by
 unfold szT at h
 cases hi : P.info? t with
 | none => cases hu : P.underlying t with
  | none => simp [hi, hu] at h
  | some d => cases d <;> simp [hi, hu] at h
 | some i => cases hu : P.underlying t with
  | none => simp [hi, hu] at h
  | some d => cases d <;> simp [hi, hu] at h <;> exact ⟨i, rfl, h.1⟩
theorem places_info : ∀ (fs : List Field) (places : List Nat), (fs.mapM fun f => match szT P f.type with | some (1, _) => some f.offset | _ => none) = some places →
  fs.mapM (fun f => (P.info? f.type).map fun i => (f.offset, i.size)) = some (places.map fun o => (o, 1))
 | [], places, h => by simp at h; subst h; simp
 | f :: fs, places, h => by
  simp only [List.mapM_cons, Option.bind_eq_bind, Option.pure_def, Option.bind_eq_some_iff] at h ⊢
  obtain ⟨o, ho, ps, hps, e⟩ := h
  cases e
  split at ho
  ·rename_i b hs
   cases ho
   obtain ⟨i, hi, hsz⟩ := szT_info hs
   exact ⟨_, by rw [hi]; simp [hsz]; rfl, _, places_info fs ps hps, by simp⟩
  ·cases ho
theorem one_cells {F : Nat → Prop} {x : AV} {v : Value} (h : RepA w F G ι x v) (hx : x.one1) : v.cells = #[v] := by
 cases x with
 | p y =>
  cases y with
  | int k n =>
   have h : v = .int k n := by simpa [RepA, RepP] using h
   subst h; rfl
  | bool b =>
   have h : v = .bool b := by simpa [RepA, RepP] using h
   subst h; rfl
  | str s =>
   have h := rep_str h
   subst h; rfl
  | sl o xs => obtain ⟨ad, cap, rfl, _⟩ := rep_sl h; rfl
  | agg xs => exact hx.elim
  | fn f a b => simp only [RepA, RepP] at h; obtain ⟨_, _, rfl, _⟩ := h; rfl
  | nilf =>
   have h : v = .nilFunc := by simpa [RepA, RepP] using h
   subst h; rfl
  | pc xs => simp only [RepA, RepP] at h; obtain ⟨_, _, rfl, _⟩ := h; rfl
  | any => exact hx.elim
  | dl xs => simp only [RepA, RepP] at h
  | bx xs => simp only [RepA, RepP] at h
  | nl =>
   have h : v = .slice none 0 0 := by simpa [RepA, RepP] using h
   subst h; rfl
 | inn a b c d => obtain ⟨_, ad, cap, rfl, _⟩ := rep_inn h; rfl
 | iptr a b c => simp only [RepA] at h; obtain ⟨_, rfl⟩ := h; rfl
 | mp a => simp only [RepA] at h; subst h; rfl
 | ref a b c => obtain ⟨ad, cap, rfl, _⟩ := rep_ref h; rfl
 | ptr a b => simp only [RepA] at h; subst h; rfl
 | prs a b => simp only [RepA] at h; subst h; rfl
 | agg xs => exact hx.elim
 | tup xs => exact hx.elim
 | fn f a b => simp only [RepA] at h; obtain ⟨_, _, rfl, _⟩ := h; rfl
theorem fill_run {F : Nat → Prop} {places : List Nat} {g : Nat → Option (Nat × Nat)} (hg : ∀ i o, places[i]? = some o → g i = some (o, 1)) {ρ : Operand → AV} {ε : Operand → Value} (hρ : ∀ x, RepA w F G ι (ρ x) (ε x)) (hn : ∀ x i, (ρ x).has i = true → A i) : ∀ (l : List (Nat × Operand)) (acc : List AV) (cells : Array Value) (K : List AV → Prop),
  RepAL w F G ι acc cells.toList → (∀ i, AV.hasL acc i = true → A i) → fillW places acc (l.map fun p => (p.1, ρ p.2)) K →
  ∃ cs cells', Instr.fill g cells (l.map fun p => (p.1, ε p.2)) = some cells' ∧ RepAL w F G ι cs cells'.toList ∧ (∀ i, AV.hasL cs i = true → A i) ∧ K cs
 | [], acc, cells, K, hr, ha, hK => ⟨acc, cells, rfl, hr, ha, hK⟩
 | (i, x) :: l, acc, cells, K, hr, ha, hK => by
  simp only [List.map_cons, fillW] at hK
  split at hK
  ·rename_i o e
   obtain ⟨hlt, hx, hK⟩ := hK
   have hc := one_cells (hρ x) hx
   have hlen := RepAL_length hr
   have hsz : o < cells.size := by simp at hlen; omega
   obtain ⟨cs, cells', h1, h2, h3, h4⟩ := fill_run hg hρ hn l (acc.set o (ρ x)) (cells.setIfInBounds o (ε x)) K (by simpa using RepAL_set o hr (hρ x)) (fun j hj => by
    rcases hasL_set o hj with h | h
    ·exact ha j h
    ·exact hn x j h) hK
   refine ⟨cs, cells', ?_, h2, h3, h4⟩
   simp only [List.map_cons, Instr.fill, hg i o e, hc]
   simp only [show ¬ ((#[ε x] : Array Value).size ≠ 1) by simp, show ¬ (o + (#[ε x] : Array Value).size > cells.size) by simp; omega]
   simpa using h1
  ·exact hK.elim
theorem built_places {t : TypeId} {places : List Nat} (hp : placesT P t = some places) {inf : TypeInfo} (hinf : P.info? t = some inf) {z : Value} (hz : inf.zero = some z) :
  ∃ g : Nat → Option (Nat × Nat), (∀ i o, places[i]? = some o → g i = some (o, 1)) ∧ ∀ parts, P.built t parts = Instr.fill g z.cells parts := by
 unfold placesT at hp
 split at hp
 ·rename_i fs hu
  refine ⟨fun i => (places.map fun o => (o, 1)).toArray[i]?, fun i o e => by simp [e], fun parts => ?_⟩
  simp only [Program.built, hinf, hu, hz, places_info _ _ hp]
 ·rename_i n e hu
  split at hp
  ·rename_i ie hie
   split at hp
   ·rename_i h1
    simp only [Option.some.injEq] at hp
    subst hp
    refine ⟨fun i => some (i * ie.size, ie.size), fun i o q => ?_, fun parts => ?_⟩
    ·obtain ⟨_, q2⟩ := List.getElem?_eq_some_iff.1 q
     simp only [List.getElem_range] at q2
     subst q2; rw [h1]; simp
    ·simp only [Program.built, hinf, hu, hz, hie]
   ·cases hp
  ·cases hp
 ·cases hp
theorem does_build {o : Oper} {k : Nat} {K : R → Prop} (h : Rel w0 nA nt M G ι0 A w S ι a) (hd : ∀ d, o.dst = some d → d < nt) {t : TypeId} {parts : Array (Nat × Operand)}
  (ho : o.op = .build t parts) (hK : buildW P t (parts.toList.map fun p => (p.1, Gl.opd S p.2)) fun v => K ⟨v, [], []⟩) : Does P w0 nA nt M G ι0 A k o w S a K := by
 unfold buildW at hK
 split at hK
 ·rename_i places zs hp hz
  unfold zeroT at hz
  split at hz
  ·rename_i inf hinf
   split at hz
   ·rename_i z hzz
    simp only [Option.some.injEq] at hz
    subst hz
    obtain ⟨g, hg, hb0⟩ := built_places hp hinf hzz
    obtain ⟨cs, cells, hf, hr, hn, hk⟩ := fill_run (F := Held S.h ι) (ε := a.eval) (A := A) hg h.opd h.opd_named parts.toList _ z.cells _
     (RepAL_p.2 (by
      have : ∀ l : List Value, RepL w (Held S.h ι) G (l.map fun v => (ofConst1 v).cell) l := fun l => by
       induction l with
       | nil => simp [RepL]
       | cons v l ih => simp only [List.map_cons, RepL]; exact ⟨v, l, rfl, ofConst1_cell_rep v, ih⟩
      exact this z.cells.toList)) (fun i hi => by
       have : ∀ l : List PV, AV.hasL (l.map .p) i = false := fun l => by
        induction l with
        | nil => rfl
        | cons v l ih => simp [AV.hasL, AV.has, ih]
       rw [this] at hi; cases hi) hK
    have hb : P.built t (parts.toList.map fun p => (p.1, a.eval p.2)) = some cells := (hb0 _).trans hf
    refine does_value h hd (v := .agg cs) (val := .agg cells) ?_ (by simp only [RepA]; exact ⟨cells.toList, rfl, hr⟩) (by simpa [AV.has] using hn) hk
    have e : (parts.map fun p => (p.1, a.eval p.2)).toList = parts.toList.map fun p => (p.1, a.eval p.2) := by simp
    have := run_build (P := P) w t (parts.map fun p => (p.1, a.eval p.2)) cells (by rw [e]; exact hb)
    simp [execOp, ho, this]
   ·cases hz
  ·cases hz
 ·exact hK.elim
end
end Go.Gl
set_option linter.unusedSimpArgs false
set_option linter.unusedVariables false
namespace Go.Gl
open Go
variable [Amb]
section
variable {P : Program} {sg : FuncId → List Bool} {w0 : World} {nA nt : Nat} {M G : Nat → Prop} {ι0 : Nat → Loc} {A : Nat → Prop} {w w' : World} {S : St} {ι : Nat → Loc} {a : Act}
theorem does_binX {o : Oper} {k : Nat} {K : R → Prop} (h : Rel w0 nA nt M G ι0 A w S ι a) (hd : ∀ d, o.dst = some d → d < nt) {op : BinOp} {t t' : TypeId} {x y : Operand} (ho : o.op = .binOp op t x y t')
  (hK : binX op (Gl.opd S x) (Gl.opd S y) fun v => K ⟨.p v, [], []⟩) : Does P w0 nA nt M G ι0 A k o w S a K := by
 have hx := h.opd x
 have hy := h.opd y
 unfold binX at hK
 split at hK
 ·rename_i kx i ky j ex ey
  rw [ex] at hx
  rw [ey] at hy
  have hx := rep_int hx
  have hy := rep_int hy
  split at hK
  ·obtain ⟨rfl, hk⟩ := hK
   exact does_value h hd (v := .p (.int kx (kx.wrap (i + j)))) (val := .int kx (kx.wrap (i + j))) (by simp [execOp, ho, hx, hy, eqGuard_int, binOp, Op.intArith]) (by simp only [RepA, RepP]) (by simp [AV.has]) hk
  ·obtain ⟨rfl, hk⟩ := hK
   exact does_value h hd (v := .p (.int kx (kx.wrap (i - j)))) (val := .int kx (kx.wrap (i - j))) (by simp [execOp, ho, hx, hy, eqGuard_int, binOp, Op.intArith]) (by simp only [RepA, RepP]) (by simp [AV.has]) hk
  ·obtain ⟨rfl, hk⟩ := hK
   exact does_value h hd (v := .p (.int kx (kx.wrap (i * j)))) (val := .int kx (kx.wrap (i * j))) (by simp [execOp, ho, hx, hy, eqGuard_int, binOp, Op.intArith]) (by simp only [RepA, RepP]) (by simp [AV.has]) hk
  ·obtain ⟨rfl, hk⟩ := hK
   exact does_value h hd (v := .p (.int kx (andI kx i j))) (val := .int kx (andI kx i j)) (by simp [execOp, ho, hx, hy, eqGuard_int, binOp, Op.intBits, andI]) (by simp only [RepA, RepP]) (by simp [AV.has]) hk
  ·obtain ⟨rfl, hk⟩ := hK
   exact does_value h hd (v := .p (.int kx (xorI kx i j))) (val := .int kx (xorI kx i j)) (by simp [execOp, ho, hx, hy, eqGuard_int, binOp, Op.intBits, xorI]) (by simp only [RepA, RepP]) (by simp [AV.has]) hk
  ·exact hK.elim
 ·exact hK.elim
/-- A slice expression with all three bounds. -/
theorem run_slice3 {t e : TypeId} {i : TypeInfo} (hu : P.underlying t = some (.slice e)) (hi : P.info? e = some i) (hs : i.size = 1) {ad : Option Addr} {len cap : Nat} {lo : Option Value} {kh km : IntKind} {l h m : Int}
  (hl : (lo = none ∧ l = 0) ∨ ∃ k, lo = some (.int k l)) (h0 : 0 ≤ l) (h1 : l ≤ h) (h2 : h ≤ m) (h3 : m ≤ cap) (w : World) :
  ∃ v, (Instr.sliceAt t (.slice ad len cap) lo (some (.int kh h)) (some (.int km m))).run P w = .ok v w := by
 have e1 : (0 ≤ m ∧ m ≤ (cap : Int)) := ⟨by omega, h3⟩
 have e2 : (0 ≤ h ∧ h ≤ (m.toNat : Int)) := ⟨by omega, by omega⟩
 have e3 : (0 ≤ l ∧ l ≤ (h.toNat : Int)) := ⟨h0, by omega⟩
 rcases hl with ⟨rfl, rfl⟩ | ⟨k, rfl⟩ <;>
  simp [Instr.sliceAt, Instr.slice, run_underlying hu, Instr.sliceBounds, Instr.sliceBound, asIntOf, sizeOf, typeInfo, hi, hs, e1, e2, e3] <;> rw [if_pos (by omega)] <;> (try simp) <;> (try (rw [if_pos (by omega)])) <;> (try simp)
theorem does_sliceX {o : Oper} {k : Nat} {K : R → Prop} (h : Rel w0 nA nt M G ι0 A w S ι a) (hd : ∀ d, o.dst = some d → d < nt) {t : TypeId} {x : Operand} {lo hi mx : Option Operand}
  (ho : o.op = .slice t x lo hi mx) (hK : sliceX P t (Gl.opd S x) lo hi mx S.h (Gl.opd S) K) : Does P w0 nA nt M G ι0 A k o w S a K := by
 have hx := h.opd x
 have nx := h.opd_named x
 unfold sliceX at hK
 split at hK
 ·rename_i id off len e
  rw [e] at hx nx
  obtain ⟨ad, cap, hv, hl, hcap, hm, hc⟩ := rep_ref hx
  split at hK
  ·rename_i m c hblk
   obtain ⟨ht, hlc, hb⟩ := hK
   obtain ⟨g1, g2, _⟩ := h.heap.live id m c hblk
   obtain ⟨el, i, zv, hu, hi', _, hsz, _⟩ := slT_some ht
   split at hb
   ·obtain ⟨hh, l, ⟨h0, h1, h2, hk⟩, hlo, hhi⟩ := bnds h hb
    refine does_value h hd (val := .slice (if cap = l.toNat then ad else ad.map (·.add l.toNat)) (hh.toNat - l.toNat) (cap - l.toNat)) ?_ ?_ ?_ hk
    ·simp only [execOp, ho, hv, Sem.run_bind, Option.map_none]
     rw [run_slice2 hu hi' hsz hlo hhi h0 h1 (by omega)]
     rfl
    ·simp only [RepA]
     refine ⟨_, _, rfl, by omega, by omega, hm, ?_⟩
     by_cases hz : cap = l.toNat
     ·left; omega
     ·right
      rcases hc with hc | rfl
      ·omega
      ·rw [if_neg hz]; simp [add_at, Nat.add_assoc]
    ·intro j hj; exact nx j (by simpa [AV.has] using hj)
   ·rename_i ox
    obtain ⟨hn, hb⟩ := hb
    rcases bnd_spec h hb with ⟨e1, _⟩ | ⟨_, km, im, e1, em, hb⟩
    ·cases e1
    ·cases e1
     rcases bnd_spec h hb with ⟨rfl, _⟩ | ⟨oh, kh, ih, rfl, eh, hb⟩
     ·exact absurd rfl hn
     ·rcases bnd_spec h hb with ⟨rfl, hb⟩ | ⟨ol, kl, il, rfl, el', hb⟩
      ·obtain ⟨h0, h1, h2, h3, hk⟩ := hb
       obtain ⟨v, hr⟩ := run_slice3 hu hi' hsz (ad := ad) (len := len) (cap := cap) (lo := none) (kh := kh) (km := km) (.inl ⟨rfl, rfl⟩) h0 h1 h2 (by omega) w
       refine does_value h hd (v := .p .any) (val := v) ?_ (by simp only [RepA, RepP]) (by simp [AV.has]) hk
       simp only [execOp, ho, hv, Sem.run_bind, Option.map_some, Option.map_none, eh, em]
       rw [hr]; rfl
      ·obtain ⟨h0, h1, h2, h3, hk⟩ := hb
       obtain ⟨v, hr⟩ := run_slice3 hu hi' hsz (ad := ad) (len := len) (cap := cap) (lo := some (.int kl il)) (kh := kh) (km := km) (.inr ⟨kl, rfl⟩) h0 h1 h2 (by omega) w
       refine does_value h hd (v := .p .any) (val := v) ?_ (by simp only [RepA, RepP]) (by simp [AV.has]) hk
       simp only [execOp, ho, hv, Sem.run_bind, Option.map_some, eh, em, el']
       rw [hr]; rfl
  ·exact hK.elim
 ·exact hK.elim
theorem zeros_list {z : Value} (hz : z.cells = #[z]) (n : Nat) : (Builtin.zeroCells z.cells n).toList = List.replicate n z := by
 apply List.ext_getElem?
 intro i
 simp only [Builtin.zeroCells, hz, List.getElem?_replicate, List.size_toArray, List.length_cons, List.length_nil, Nat.zero_add, Nat.mul_one, Nat.mod_one, Array.toList_map, Array.toList_range, List.getElem?_map]
 by_cases hi : i < n
 ·rw [List.getElem?_range hi, if_pos hi]; rfl
 ·rw [List.getElem?_eq_none (by simpa using hi), if_neg hi]; rfl
theorem does_clear {o : Oper} {k : Nat} {K : R → Prop} (h : Rel w0 nA nt M G ι0 A w S ι a) (hd : ∀ d, o.dst = some d → d < nt) {t : TypeId} {x : Operand}
  (ho : o.op = .call { callee := .builtin .clear, args := ⟨[x]⟩, argTypes := ⟨[t]⟩ }) (hK : clearW P t S.h (Gl.opd S x) K) : Does P w0 nA nt M G ι0 A k o w S a K := by
 have hx := h.opd x
 have nx := h.opd_named x
 unfold clearW at hK
 split at hK
 ·rename_i id off n e
  rw [e] at hx nx
  obtain ⟨ad, cap, hv, hl, hcap, hm, hc⟩ := rep_ref hx
  have hid : A id := nx id (by simp [AV.has])
  split at hK
  ·rename_i b z m c hsl hblk
   obtain ⟨hle, hzok, hk⟩ := hK
   obtain ⟨e, inf, zv, hu, hi, hz, hsz, hzs, hz1, _, _, rfl⟩ := slT_spec hsl
   obtain ⟨g1, g2, g3⟩ := h.heap.live id m c hblk
   have hzc := cells_one hzs hz1
   by_cases hn0 : n = 0
   ·subst hn0
    have hr : (execOp a.eval o).run P w = .ok (.value (.tuple #[])) w := by
     simp only [execOp, ho, resolve, invoke, builtin, Sem.run_bind, Sem.run_pure, Result.andThen_ok, List.map_toArray, List.map_cons, List.map_nil, hv]
     cases ad <;> simp [Builtin.clear_, run_underlying hu]
    intro Kc Qc next
    refine wp_value hr (next _ _ _ ι hk ?_)
    rw [app_eq]
    have e1 : hwsH S.h [(id, .live m (c.take off ++ List.replicate 0 (ofConst1 zv).cell ++ c.drop (off + 0)))] = S.h := by
     rw [hwsH_one]
     simp only [List.replicate_zero, List.append_nil, Nat.add_zero, List.take_append_drop]
     funext j
     simp only [updH]
     split
     ·rename_i ej; rw [ej, hblk]
     ·rfl
    rw [e1]
    exact (h.put o.dst hd (v := .p .any) (by simp only [RepA, RepP]) (by simp [AV.has])).mono fun i hi => .inl hi
   ·have hc1 : c ≠ [] := by intro e; subst e; simp at hle; omega
    have hcap1 : (ι id).cap ≠ 0 := by have := List.length_pos_iff.2 hc1; omega
    rcases hc with hc | rfl
    ·omega
    rcases g3 with g3 | ⟨⟨cs, E, lo, hi', hcell, hroom, hfr⟩, hrepc, gx⟩
    ·exact absurd g3 hcap1
    ·have hvl : (List.replicate n zv).length = n := by simp
     have hst := run_storeCells_gen P (ι id).B ((ι id).off + off) E lo hi' (List.replicate n zv) 0 cs w hcell (hfr.imp_right And.right) (by rw [hvl]; omega) (fun v hv => by rw [List.eq_of_mem_replicate hv]; exact hz1)
     simp only [Nat.add_zero, hvl] at hst
     have hr : (execOp a.eval o).run P w = .ok (.value (.tuple #[])) (w.setRow (ι id).B (cs.toList.take ((ι id).off + off) ++ List.replicate n zv ++ cs.toList.drop ((ι id).off + off + n)).toArray) := by
      obtain ⟨n', rfl⟩ : ∃ n', n = n' + 1 := ⟨n - 1, by omega⟩
      simp only [execOp, ho, resolve, invoke, builtin, Sem.run_bind, Sem.run_pure, Result.andThen_ok, List.map_toArray, List.map_cons, List.map_nil, hv]
      simp only [Builtin.clear_, List.getElem?_toArray, List.getElem?_cons_zero, Sem.run_bind, run_underlying hu, Result.andThen_ok, zeroValue, typeInfo, run_program, hi, hz, Sem.run_pure, zeros_list hzc, hst]
     have hwr : Wrote w (w.setRow (ι id).B (cs.toList.take ((ι id).off + off) ++ List.replicate n zv ++ cs.toList.drop ((ι id).off + off + n)).toArray) (ι id).B _ := Wrote.setRow hcell (by simp; omega)
     have hBk : w0.heap.size ≤ (ι id).B ∨ M (ι id).B := by
      rcases gx with ⟨g, _⟩ | ⟨_, g⟩
      ·exact .inl g
      ·exact .inr g
     rw [RepC_iff] at hrepc
     have W := h.heap.write (k := id) (c' := c.take off ++ List.replicate n (ofConst1 zv).cell ++ c.drop (off + n)) hblk (.inl rfl) hcap1 hwr (ι id).off (ι id).cap (ι id).n (ι id).inn (Nat.le_refl _) rfl (by simp; omega) (by
      intro j y' hj
      have htk : (cs.toList.take ((ι id).off + off)).length = (ι id).off + off := by simp; omega
      have htc : (c.take off).length = off := by simp; omega
      rw [List.getElem?_toArray]
      rw [List.append_assoc, List.getElem?_append] at hj
      rw [List.append_assoc, List.getElem?_append]
      split at hj
      ·rename_i hlt
       rw [if_pos (by omega)]
       rw [List.getElem?_take] at hj ⊢
       split at hj
       ·rw [if_pos (by omega)]
        obtain ⟨v, hv1, hv2, hv3⟩ := hrepc j y' hj
        rw [cell?_eq, hcell] at hv1
        exact ⟨v, by simpa using hv1, hv2, hv3⟩
       ·cases hj
      ·rename_i hge
       rw [htc] at hj hge
       rw [if_neg (by omega), htk, show (ι id).off + j - ((ι id).off + off) = j - off from by omega]
       rw [List.getElem?_append] at hj ⊢
       split at hj
       ·rename_i hlt
        simp only [List.length_replicate] at hlt
        rw [List.getElem?_replicate, if_pos hlt] at hj
        cases hj
        rw [if_pos (by rw [hvl]; exact hlt), List.getElem?_replicate, if_pos hlt]
        exact ⟨zv, rfl, hz1, RepP_cell (ofConst1_rep zv)⟩
       ·rename_i hge2
        simp only [List.length_replicate] at hge2 hj
        rw [if_neg (by rw [hvl]; exact hge2), hvl, List.getElem?_drop]
        rw [List.getElem?_drop] at hj
        obtain ⟨v, hv1, hv2, hv3⟩ := hrepc _ y' hj
        rw [cell?_eq, hcell] at hv1
        refine ⟨v, ?_, hv2, hv3⟩
        rw [show (ι id).off + off + n + (j - off - n) = (ι id).off + (off + n + (j - off - n)) from by omega]
        simpa using hv1)
     obtain ⟨ok, hh, st⟩ := W
     have eι : updL ι id ⟨(ι id).B, (ι id).off, (ι id).cap, (ι id).n, (ι id).inn⟩ = ι := updL_self
     have eh : updH (updH S.h id .dead) id (.live m (c.take off ++ List.replicate n (ofConst1 zv).cell ++ c.drop (off + n))) = hwsH S.h [(id, .live m (c.take off ++ List.replicate n (ofConst1 zv).cell ++ c.drop (off + n)))] := by
      rw [hwsH_one]
      funext j
      simp only [updH]
      split <;> rfl
     rw [eι, eh] at ok st
     have h2 := h.stepK (A' := plus A k) (fun i hi => .inl hi) (hwr.keep hBk h.keep) ok st (fun i hi => LocEq.refl _) (fun i hi => by
      have hne2 : i ≠ id := fun e => hi (.inl (e ▸ hid))
      rw [hwsH_one]
      simp only [updH, hne2, if_false]
      exact h.alloc i fun hA => hi (.inl hA))
     intro Kc Qc next
     refine wp_value hr (next _ _ _ ι hk ?_)
     rw [app_eq]
     exact h2.put o.dst hd (v := .p .any) (by simp only [RepA, RepP]) (by simp [AV.has])
  ·rename_i b z m cs rs hsl hblk
   obtain ⟨hz0, hle, hk⟩ := hK
   obtain ⟨e, inf, zv, hu, hi, hz, hsz, hzs, hz1, _, _, hzc⟩ := slT_spec hsl
   have hzn : zv = .slice none 0 0 := by
    rw [hz0] at hzc
    have hzc := hzc.symm
    unfold ofConst1 at hzc
    split at hzc <;> simp [PV.cell] at hzc
    rfl
   subst hzn
   have hcc := cells_one hzs hz1
   obtain ⟨hvs, w', h', ι', rd, ws, hk', rfl, hst, hrel⟩ := store_deep (k := k) (K := K) (v := .agg (List.replicate n (.p (.sl .own [])))) (val := .agg ⟨List.replicate n (.slice none 0 0)⟩) (off := off) (n := n) h hid hblk
    (by simp only [RepA]; exact ⟨_, rfl, RepAL_nils⟩) (by intro i hi; simp [AV.has, hasL_nils] at hi) (mvs_nils ⟨by simp, hle, hk⟩)
   have hr : (execOp a.eval o).run P w = .ok (.value (.tuple #[])) w' := by
    by_cases hn0 : n = 0
    ·subst hn0
     have hw : w' = w := by
      have : (storeCells ⟨(ι id).B, (ι id).off + off, none⟩ ([] : List Value)).run P w = .ok () w := rfl
      have hst' : (storeCells ⟨(ι id).B, (ι id).off + off, none⟩ ([] : List Value)).run P w = .ok () w' := hst
      rw [this] at hst'
      simpa using hst'.symm
     subst hw
     simp only [execOp, ho, resolve, invoke, builtin, Sem.run_bind, Sem.run_pure, Result.andThen_ok, List.map_toArray, List.map_cons, List.map_nil, hv]
     cases ad <;> simp [Builtin.clear_, run_underlying hu]
    ·obtain ⟨n', rfl⟩ : ∃ n', n = n' + 1 := ⟨n - 1, by omega⟩
     rcases hc with hc | rfl
     ·have := (h.heap.deep hblk).2.1.1; omega
     have hst' : (storeCells ⟨(ι id).B, (ι id).off + off, none⟩ (List.replicate (n' + 1) (Value.slice none 0 0))).run P w = .ok () w' := hst
     simp only [execOp, ho, resolve, invoke, builtin, Sem.run_bind, Sem.run_pure, Result.andThen_ok, List.map_toArray, List.map_cons, List.map_nil, hv]
     simp only [Builtin.clear_, List.getElem?_toArray, List.getElem?_cons_zero, Sem.run_bind, run_underlying hu, Result.andThen_ok, zeroValue, typeInfo, run_program, hi, hz, Sem.run_pure, zeros_list hcc, hst']
   intro Kc Qc next
   refine wp_value hr (next _ _ _ ι' hk' ?_)
   rw [app_eq]
   exact hrel.put o.dst hd (v := .p .any) (by simp only [RepA, RepP]) (by simp [AV.has])
  ·exact hK.elim
 ·exact hK.elim
end
end Go.Gl
namespace Go.Gl
open Go
variable [Amb]
section
variable {P : Program} {sg : FuncId → List Bool} {w0 : World} {nA nt : Nat} {M G : Nat → Prop} {ι0 : Nat → Loc} {A : Nat → Prop} {w w' : World} {S : St} {ι : Nat → Loc} {a : Act}
theorem does_outer {o : Oper} {k : Nat} {K : R → Prop} (h : Rel w0 nA nt M G ι0 A w S ι a) (hd : ∀ d, o.dst = some d → d < nt) (hk : ¬ A k) {ws : List (Nat × Blk)} {rs : List (Option (List PV))} {ι2 : Nat → Loc}
  (h2 : Rel w0 nA nt M G ι0 (fun i => A i ∨ i = k) w { S with h := updH (hwsH S.h ws) k (.deep false [] rs) } ι2 a)
  {cells : Array Value} {E : TypeId} {lo hi : Nat} (hp : Pushed w w' (.cells cells E (lo, hi))) (hfr : hi ≤ lo ∨ SB = true ∧ cells.size ≤ lo) (xs : List DC) (cap : Nat) (hcap : cap ≤ maxLen) (hc : cap ≤ cells.size) (hx : xs.length ≤ cap) (hns : xs.all DC.noSelf = true)
  (hxs : ∀ (j : Nat) (x : DC), xs[j]? = some x → ∃ v, cells[j]? = some v ∧ v.oneCell' = true ∧ dcRep w (Held (updH (hwsH S.h ws) k (.deep false [] rs)) ι2) G (ι2 k) rs x v) {v : AV} {val : Value} {rd : List Nat}
  (hr : (execOp a.eval o).run P w = .ok (.value val) w')
  (hv : (∃ len, v = .ref k 0 len ∧ len ≤ cap ∧ val = .slice (some ⟨w.heap.size, 0, none⟩) len cap) ∨ (v = .ptr k 0 ∧ val = .pointer (some ⟨w.heap.size, 0, none⟩)))
  (hK : K ⟨v, ws ++ [(k, .deep false xs rs)], rd⟩) : Does P w0 nA nt M G ι0 A k o w S a K := by
 have hb : (updH (hwsH S.h ws) k (.deep false [] rs)) k = .deep false [] rs := by simp [updH]
 have okk := h2.heap.deep hb
 have hsz := h.keep.size
 have hG := h.new _ h.keep.size
 have e1 : updH (updH (hwsH S.h ws) k (.deep false [] rs)) k (.deep false xs rs) = hwsH S.h (ws ++ [(k, .deep false xs rs)]) := by
  rw [hwsH_append, hwsH_one]; funext i; simp only [updH]; split <;> rfl
 have ek : hwsH S.h (ws ++ [(k, .deep false xs rs)]) k = .deep false xs rs := by rw [← e1]; simp [updH]
 have key := h2.heap.writeS (w' := w') (h' := hwsH S.h (ws ++ [(k, .deep false xs rs)])) (ι' := updL ι2 k ⟨w.heap.size, 0, cap, (ι2 k).n, (ι2 k).inn⟩) (k := k) (fun i => i = k)
  (fun i hX _ => ⟨by rw [← e1]; simp [updH, show i ≠ k from hX], by simp [updL, show i ≠ k from hX]⟩)
  (fun i hX hik => absurd hX hik)
  (fun B hB _ => hp.old hB)
  (fun B ho => by
   rw [ek] at ho
   simp only [updL, if_true] at ho
   rcases ho with ⟨_, rfl⟩ | ho
   ·exact .inl (Nat.le_refl _)
   ·exact .inr ⟨k, rfl, by simp only [hb]; exact .inr ho, fun q => absurd rfl q⟩)
  (fun st i hik => by
   have hik : i = k := hik.elim _root_.id _root_.id
   subst hik
   rw [ek]
   simp only [updL, if_true]
   refine okk.outer st rfl rfl (fun B hB _ => hp.old hB) (fun r c hr z e => ?_) ⟨hx, hcap, .inr ⟨⟨cells, E, lo, hi, hp.at, by simpa using hc, hfr⟩, .inl ⟨hsz, hG⟩, fun j x hj => ?_⟩⟩
   ·have := okk.lt (B := w.heap.size) (.inr ⟨r, c, hr, z, e⟩); omega
   ·obtain ⟨u, u1, u2, u3⟩ := hxs j x hj
    refine ⟨u, by rw [cell?_eq, hp.at]; simpa using u1, u2, ?_⟩
    exact dcRep.loc' (l := ι2 i) (List.all_eq_true.1 hns _ (List.mem_of_getElem? hj)) rfl (u3.tr st fun _ _ _ h => h))
 obtain ⟨ok, _, st⟩ := key
 have hne : ∀ {i}, A i → i ≠ k := fun {i} hi e => hk (e ▸ hi)
 have fin : Rel w0 nA nt M G ι0 (plus A k) w' { S with h := hwsH S.h (ws ++ [(k, .deep false xs rs)]) } (updL ι2 k ⟨w.heap.size, 0, cap, (ι2 k).n, (ι2 k).inn⟩) a :=
  ⟨h.keep.trans (hp.keep M), ok, fun t => RepA.tr st (fun _ _ _ h => h) _ _ (fun i hi => by
    have : i ≠ k := hne (h.named t i hi)
    simp [updL, this, LocEq.refl]) (h2.slots t), fun i hi => by
    have q : i ≠ k := fun e => hi (.inr ⟨by omega, by omega⟩)
    have := h2.alloc i fun hA => hi (hA.elim .inl fun e => absurd e q)
    rw [← e1]
    simp only [updH, q, if_false] at this ⊢
    exact this, fun t i hi => .inl (h.named t i hi), fun j hj => by
    have : j ≠ k := hne (h.args j hj)
    simp only [updL, this, if_false]; exact h2.loc j hj, fun j hj => .inl (h.args j hj), h.new, h.size, h.defers⟩
 intro Kc Qc next
 refine wp_value hr (next _ _ _ (updL ι2 k ⟨w.heap.size, 0, cap, (ι2 k).n, (ι2 k).inn⟩) hK ?_)
 rw [app_eq]
 refine fin.put o.dst hd ?_ ?_
 ·rcases hv with ⟨len, rfl, hl, rfl⟩ | ⟨rfl, rfl⟩
  ·simp only [RepA]
   exact ⟨_, cap, rfl, hl, by simp [updL], by simpa [updL] using hcap, .inr (by simp [updL])⟩
  ·simp only [RepA]; simp [updL]
 ·rcases hv with ⟨len, rfl, _, _⟩ | ⟨rfl, _⟩ <;>
  ·intro i hi
   simp [AV.has] at hi
   exact .inr ⟨by omega, by omega⟩
/-- Values moved into a block that is to be. -/
theorem mvs_new (h : Rel w0 nA nt M G ι0 A w S ι a) {k : Nat} (hk : ¬ A k) {vs : List AV} {vals : List Value} (hv : RepAL w (Held S.h ι) G ι vs vals) (hn : ∀ i, AV.hasL vs i = true → A i) {xs : List DC} {rs : List (Option (List PV))} {ws : List (Nat × Blk)} {rd : List Nat}
  (hT : k ∉ rd) (hm : MvsR false S.h k vs [] xs rs ws rd) :
  ∃ ι2, Rel w0 nA nt M G ι0 (fun i => A i ∨ i = k) w { S with h := updH (hwsH S.h ws) k (.deep false [] rs) } ι2 a ∧ xs.length = vs.length ∧
   ∀ (i : Nat) (x : DC) (u : Value), xs[i]? = some x → vals[i]? = some u → u.oneCell' = true ∧ u.cells = #[u] ∧ dcRep w (Held (updH (hwsH S.h ws) k (.deep false [] rs)) ι2) G (ι2 k) rs x u := by
 obtain ⟨ι1, h1, hι1, _⟩ := h.empty hk
 have hb1 : (updH S.h k (.deep false [] [])) k = .deep false [] [] := by simp [updH]
 have hne : ∀ {i}, A i → i ≠ k := fun {i} hi e => hk (e ▸ hi)
 have held : ∀ B, Held (updH S.h k (.deep false [] [])) ι1 B → Held S.h ι B := by
  rintro B ⟨i, ho⟩
  by_cases e : i = k
  ·subst e
   have ho' := ho
   simp only [updH, if_true] at ho'
   rcases ho' with ⟨q, _⟩ | ⟨r, c, hr, _⟩
   ·exfalso; exact q (by assumption)
   ·simp at hr
  ·simp only [updH, e, if_false] at ho
   by_cases hA : A i
   ·rw [hι1 i hA] at ho; exact ⟨i, ho⟩
   ·rw [h.alloc i hA] at ho; exact ho.elim
 have hv1 : RepAL w (Held (updH S.h k (.deep false [] [])) ι1) G ι1 vs vals := RepAL.tr (fun B o v hF hv => ⟨hv, fun q => hF (held B q)⟩) (fun _ _ _ h => h) _ _ (fun i hi => LocEq.of_eq (hι1 i (hn i hi))) hv
 obtain ⟨ι2, mv, hl, hwT, hx⟩ := mvsW_sound (A := fun i => A i ∨ i = k) (T := k) (.inr rfl) h1 hb1 hv1 (fun i hi => .inl (hn i hi)) (h0 := S.h) (fun i hi => by
  have : i ≠ k := fun e => hT (e ▸ hi)
  simp [updH, this]) hm
 have eh : updH (hwsH (updH S.h k (.deep false [] [])) ws) k (.deep false [] rs) = updH (hwsH S.h ws) k (.deep false [] rs) := hwsH_updT hwT
 refine ⟨ι2, ?_, hl, fun i x u h1 h2 => ?_⟩
 ·have := mv.rel; simp only [eh] at this; exact this
 ·have := hx i x u h1 h2; simp only [eh] at this; exact this
theorem does_buildD {o : Oper} {k : Nat} {K : R → Prop} (h : Rel w0 nA nt M G ι0 A w S ι a) (hd : ∀ d, o.dst = some d → d < nt) (hk : ¬ A k) {t : TypeId} {n : Nat} {parts : Array (Nat × Operand)}
  (ho : o.op = .buildSlice t n parts) (hK : buildSliceD P t n parts k (Gl.opd S) S.h K) : Does P w0 nA nt M G ι0 A k o w S a K := by
 obtain ⟨ht, hp, hn, hK⟩ := hK
 obtain ⟨e, inf, zv, hu, hi, hz, hsz, hzs, hz1, hb⟩ := slT_some ht
 obtain ⟨xs, rs, ws, rd, ⟨hns, hk'⟩, mr, _, hT, _⟩ := fix_mvs hK
 have hpl : parts.toList.map (·.1) = List.range n := by simpa [partsOk] using hp
 have hpn : parts.toList.length = n := by have := congrArg List.length hpl; simpa using this
 let vals : List Value := parts.toList.map fun p => a.eval p.2
 have hvals : RepAL w (Held S.h ι) G ι (parts.toList.map fun p => Gl.opd S p.2) vals := RepAL_map (fun p : Nat × Operand => h.opd p.2) parts.toList
 have hnamed : ∀ i, AV.hasL (parts.toList.map fun p => Gl.opd S p.2) i = true → A i := by
  have := h.opds_named (parts.toList.map (·.2)); simpa [Function.comp_def] using this
 obtain ⟨ι2, h2, hxl, hx⟩ := mvs_new h hk hvals hnamed hT mr
 have hvn : vals.length = n := by simp only [vals, List.length_map]; exact hpn
 have hxn : xs.length = n := by rw [hxl]; simp only [List.length_map]; exact hpn
 have h1 : ∀ v ∈ vals, v.oneCell' = true := by
  intro v hv
  obtain ⟨j, hj⟩ := List.getElem?_of_mem hv
  have hlt := (List.getElem?_eq_some_iff.1 hj).1
  exact (hx j _ v (List.getElem?_eq_getElem (show j < xs.length by omega)) hj).1
 have hr := run_buildSlice (P := P) (w := w) hu hi hz hsz (cells_one hzs hz1) hvn hn h1 (parts := parts.map fun p => (p.1, a.eval p.2)) (by
  simp only [Array.toList_map]
  rw [pairs_range (parts.toList.map fun p => (p.1, a.eval p.2)) n (by simpa [Function.comp_def] using hpl)]
  simp [vals, Function.comp_def])
 refine does_outer h hd hk h2 (Pushed.alloc w (.cells vals.toArray e)) (lo := 0) (hi := 0) (.inl (Nat.le_refl _)) xs n (by simp only [maxLen]; omega) (by simp; omega) (by omega) hns (fun j x hj => ?_) (v := .ref k 0 n) ?_ (.inl ⟨n, rfl, Nat.le_refl _, rfl⟩) hk'
 ·have hlt := (List.getElem?_eq_some_iff.1 hj).1
  have hjv := List.getElem?_eq_getElem (l := vals) (i := j) (by omega)
  obtain ⟨q1, _, q3⟩ := hx j x _ hj hjv
  exact ⟨_, by rw [List.getElem?_toArray]; exact hjv, q1, q3⟩
 ·simp only [execOp, ho, Sem.run_bind, hr]; rfl
theorem ofConst1_nil {z : Value} (h : (ofConst1 z).cell = .sl .fr []) : z = .slice none 0 0 := by
 unfold ofConst1 at h
 split at h <;> simp [PV.cell] at h
 rfl
theorem does_makeD {o : Oper} {k : Nat} {K : R → Prop} (h : Rel w0 nA nt M G ι0 A w S ι a) (hd : ∀ d, o.dst = some d → d < nt) (hk : ¬ A k) {t : TypeId} {l c : Operand}
  (ho : o.op = .makeSlice t l c) (hK : makeD P t k (Gl.opd S l) (Gl.opd S c) K) : Does P w0 nA nt M G ι0 A k o w S a K := by
 have hl := h.opd l
 have hc := h.opd c
 unfold makeD at hK
 split at hK
 ·rename_i k1 i k2 j e1 e2
  rw [e1] at hl; rw [e2] at hc
  have hl := rep_int hl
  have hc := rep_int hc
  obtain ⟨h0, h1, h2, hs, hK⟩ := hK
  unfold nestT at hs
  split at hs
  ·rename_i b hs'
   obtain ⟨e, inf, zv, hu, hi, hz, hsz, hzs, hz1, hb, hb64, hzc⟩ := slT_spec hs'
   have hzn := ofConst1_nil hzc.symm
   subst hzn
   have hm : j.toNat ≤ maxLen := by simp only [maxLen]; omega
   have hbytes : (inf.bytes : Int) * j ≤ 281474976710656 := by
    have h64 : (inf.bytes : Int) ≤ 64 := by omega
    have h3 : (inf.bytes : Int) * j ≤ 64 * 1099511627776 := Int.mul_le_mul h64 h2 (by omega) (by omega)
    omega
   have hr := run_make (P := P) w t e inf _ hu hi hz k1 k2 i j h0 h1 hbytes (by omega)
   obtain ⟨ι1, hE, _, _⟩ := h.empty hk
   refine does_outer (ws := []) (rs := []) h hd hk hE (Pushed.alloc w (.cells (madeCells (Value.slice none 0 0).cells (j.toNat * inf.size)) e)) (lo := 0) (hi := 0) (.inl (Nat.le_refl _)) (List.replicate i.toNat (.v (.sl .own []))) j.toNat hm ?_ ?_ ?_ ?_ (v := .ref k 0 i.toNat) ?_ (.inl ⟨i.toNat, rfl, by omega, rfl⟩) hK
   ·rw [size_madeCells, hsz]; omega
   ·simp; omega
   ·rw [List.all_eq_true]; intro x hx; rw [List.mem_replicate] at hx; rw [hx.2]; rfl
   ·intro n x hx
    rw [List.getElem?_replicate] at hx
    split at hx
    ·rename_i hn
     simp only [Option.some.injEq] at hx
     subst hx
     refine ⟨.slice none 0 0, ?_, rfl, ?_⟩
     ·have hn' : n < j.toNat := by omega
      simp [madeCells, hsz, hn', Nat.mod_one, Value.cells]
     ·show RepP _ _ _ (.sl .own []) _
      simp only [RepP]
      exact ⟨none, 0, rfl, Nat.le_refl _, Nat.zero_le _, fun _ => ⟨trivial, rfl, rfl⟩, .inl trivial⟩
    ·cases hx
   ·simp only [execOp, ho, hl, hc, Sem.run_bind, hr]; rfl
  ·cases hs
 ·exact hK.elim
theorem isNilP_eq {v : Value} (h : isNilP (ofConst1 v).cell = true) : v = .slice none 0 0 := by
 refine ofConst1_nil ?_
 unfold isNilP at h
 split at h
 ·assumption
 ·cases h
theorem does_allocD {o : Oper} {k : Nat} {K : R → Prop} (h : Rel w0 nA nt M G ι0 A w S ι a) (hd : ∀ d, o.dst = some d → d < nt) (hk : ¬ A k) {t : TypeId}
  (ho : o.op = .alloc t) (hK : allocD P t k K) : Does P w0 nA nt M G ι0 A k o w S a K := by
 unfold allocD zeroT at hK
 split at hK
 ·rename_i xs hz
  split at hz
  ·rename_i inf hinf
   split at hz
   ·rename_i z hzz
    simp only [Option.some.injEq] at hz
    subst hz
    obtain ⟨hne, hbig, hall, hK⟩ := hK
    have hnil : ∀ (j : Nat) (v : Value), z.cells.toList[j]? = some v → v = .slice none 0 0 := fun j v hv => isNilP_eq (List.all_eq_true.1 hall (ofConst1 v).cell (List.mem_map.2 ⟨v, List.mem_of_getElem? hv, rfl⟩))
    have hbig' : z.cells.size ≤ maxLen := by simp at hbig; simp only [maxLen]; omega
    obtain ⟨ι1, hE, _, _⟩ := h.empty hk
    refine does_outer (ws := []) (rs := []) h hd hk hE (Pushed.alloc w (.cells z.cells t)) (lo := 0) (hi := 0) (.inl (Nat.le_refl _)) _ z.cells.size hbig' (Nat.le_refl _) (by simp) ?_ ?_ (v := .ptr k 0) ?_ (.inr ⟨rfl, rfl⟩) hK
    ·rw [List.all_eq_true]; intro x hx; simp only [List.mem_map] at hx; obtain ⟨_, _, rfl⟩ := hx; rfl
    ·intro j x hx
     simp only [List.getElem?_map, Option.map_eq_some_iff] at hx
     obtain ⟨_, ⟨u, hu, rfl⟩, rfl⟩ := hx
     have e := hnil j u hu
     subst e
     exact ⟨_, by simpa using hu, rfl, ofConst1_rep (.slice none 0 0)⟩
    ·simp [execOp, ho, Instr.alloc, zeroValue, typeInfo, hinf, hzz, newVar, newRow]
   ·cases hz
  ·cases hz
 ·exact hK.elim
theorem does_boxD {o : Oper} {k : Nat} {K : R → Prop} (h : Rel w0 nA nt M G ι0 A w S ι a) (hd : ∀ d, o.dst = some d → d < nt) (hk : ¬ A k) {t : TypeId} {x : Operand}
  (ho : o.op = .box t x) (hK : boxD S.h k (Gl.opd S x) K) : Does P w0 nA nt M G ι0 A k o w S a K := by
 obtain ⟨xs, rs, ws, rd, ⟨hne, hns, hbig, hk'⟩, mr, _, hT, _⟩ := fix_mvs hK
 obtain ⟨vals, hvals, hcells⟩ := ag_vals (h.opd x)
 obtain ⟨ι2, h2, hxl, hx⟩ := mvs_new h hk hvals (ag_named (h.opd_named x)) hT mr
 have hvl : vals.length = xs.length := by rw [RepAL_length hvals, hxl]
 have e1 : (a.eval x).cells = ⟨vals⟩ := hcells fun u hu => by
  obtain ⟨i, hi⟩ := List.getElem?_of_mem hu
  have hlt := (List.getElem?_eq_some_iff.1 hi).1
  exact (hx i _ u (List.getElem?_eq_getElem (show i < xs.length by omega)) hi).2.1
 refine does_outer h hd hk h2 (Pushed.alloc w (.cells (a.eval x).cells t)) (lo := 0) (hi := 0) (.inl (Nat.le_refl _)) xs xs.length (by simp only [maxLen]; omega) (by rw [e1]; simp; omega) (Nat.le_refl _) hns (fun j y hj => ?_) (v := .ptr k 0) ?_ (.inr ⟨rfl, rfl⟩) hk'
 ·have hlt := (List.getElem?_eq_some_iff.1 hj).1
  have hjv := List.getElem?_eq_getElem (l := vals) (i := j) (by omega)
  obtain ⟨q1, _, q3⟩ := hx j y _ hj hjv
  exact ⟨_, by rw [e1, List.getElem?_toArray]; exact hjv, q1, q3⟩
 ·simp [execOp, ho, Instr.box, newVar, newRow]
theorem does_arrD {o : Oper} {k : Nat} {K : R → Prop} (h : Rel w0 nA nt M G ι0 A w S ι a) (hd : ∀ d, o.dst = some d → d < nt) (hk : ¬ A k) {x : Operand}
  (hr : (execOp a.eval o).run P w = .ok (.value (a.eval x)) w) (hK : arrD k (Gl.opd S x) K) : Does P w0 nA nt M G ι0 A k o w S a K := by
 have hx := h.opd x
 unfold arrD at hK
 split at hK
 ·rename_i xs e
  rw [e] at hx
  simp only [RepA, RepP] at hx
  obtain ⟨a', cap, ev, _, _, ho, _⟩ := hx
  obtain ⟨hxs, rfl, rfl⟩ := ho trivial
  subst hxs
  obtain ⟨_, hK⟩ := hK
  intro Kc Qc next
  obtain ⟨ok, hh⟩ := h.heap.nilB (k := k) (.deep false [] []) ⟨0, 0, 0, 0, noInn⟩ (fun B ho => by rcases ho with ⟨ho, _⟩ | ⟨r, c, hr, _⟩ <;> simp at *) fun F =>
   ⟨rfl, ⟨Nat.le_refl _, Nat.zero_le _, .inl rfl⟩, fun r c hr => by simp at hr, fun r c r' c' hr => by simp at hr, fun r c hr => by simp at hr⟩
  have st : Stays w w (Held S.h ι) (Held (updH S.h k (.deep false [] [])) (updL ι k ⟨0, 0, 0, 0, noInn⟩)) := fun B o v hF hv => ⟨hv, fun h' => hF (hh B h')⟩
  have h1 := h.step (A' := plus A k) (fun i hi => .inl hi) (Keep.refl w M) ok st (fun i hi => by
   have : i ≠ k := fun e => hk (e ▸ hi)
   simp [updL, this, LocEq.refl]) (fun i hi => by
   have hne : i ≠ k := fun e => hi (.inr ⟨by omega, by omega⟩)
   simp only [updH, hne, if_false]
   exact h.alloc i fun hA => hi (.inl hA))
  refine wp_value hr (next _ _ _ (updL ι k ⟨0, 0, 0, 0, noInn⟩) hK ?_)
  rw [app_eq]
  refine h1.put o.dst hd ?_ ?_
  ·simp only [RepA]
   exact ⟨none, 0, by rw [ev]; rfl, by simp, by simp [updL], by simp [updL], .inl rfl⟩
  ·intro i hi
   simp [AV.has] at hi
   exact .inr ⟨by omega, by omega⟩
 ·exact hK.elim
/-- Some nil slices, each a block of the call's own. -/
theorem Rel.nils (h : Rel w0 nA nt M G ι0 A w S ι a) {k : Nat} (hA : ∀ x, x < 256 → ¬ A (k + x)) : ∀ n, n ≤ 256 →
  ∃ ι', Rel w0 nA nt M G ι0 (fun i => A i ∨ (k ≤ i ∧ i < k + n)) w { S with h := hwsH S.h (nilWs k n) } ι' a ∧ (∀ i, i < n → (ι' (k + i)).cap = 0)
 | 0, _ => ⟨ι, h.mono fun i hi => .inl hi, fun i hi => absurd hi (Nat.not_lt_zero i)⟩
 | n + 1, hn => by
  obtain ⟨ι1, h1, hc⟩ := Rel.nils h hA n (by omega)
  have hk : ¬ (A (k + n) ∨ (k ≤ k + n ∧ k + n < k + n)) := fun q => q.elim (hA n (by omega)) (by omega)
  obtain ⟨ok, hh⟩ := h1.heap.nil (h1.alloc _ hk) false ⟨0, 0, 0, 0, noInn⟩ rfl
  have st : Stays w w (Held (hwsH S.h (nilWs k n)) ι1) (Held (updH (hwsH S.h (nilWs k n)) (k + n) (.live false [])) (updL ι1 (k + n) ⟨0, 0, 0, 0, noInn⟩)) := fun B o v hF hv => ⟨hv, fun h' => hF (hh B h')⟩
  have e : updH (hwsH S.h (nilWs k n)) (k + n) (.live false []) = hwsH S.h (nilWs k (n + 1)) := by
   simp only [nilWs, List.range_succ, List.map_append, List.map_cons, List.map_nil, hwsH_append]; rfl
  have h2 := h1.step (A' := fun i => A i ∨ (k ≤ i ∧ i < k + (n + 1))) (fun i hi => hi.elim .inl fun q => .inr ⟨q.1, by omega⟩) (Keep.refl w M) ok st (fun i hi => by
   have : i ≠ k + n := fun e => hk (e ▸ hi)
   simp [updL, this, LocEq.refl]) (fun i hi => by
   have hne : i ≠ k + n := fun e => hi (.inr ⟨by omega, by omega⟩)
   simp only [updH, hne, if_false]
   exact h1.alloc i fun hA => hi (hA.elim .inl fun q => .inr ⟨q.1, by omega⟩))
  rw [e] at h2
  refine ⟨_, h2, fun i hi => ?_⟩
  by_cases q : i = n
  ·subst q; simp [updL]
  ·simp [updL, q]; exact hc i (by omega)
theorem does_buildN {o : Oper} {k : Nat} {K : R → Prop} (h : Rel w0 nA nt M G ι0 A w S ι a) (hd : ∀ d, o.dst = some d → d < nt) (hA : ∀ x, x < 256 → ¬ A (k + x)) {t : TypeId} {parts : Array (Nat × Operand)}
  (ho : o.op = .build t parts) (hK : buildN P t (parts.toList.map fun p => (p.1, Gl.opd S p.2)) k K) : Does P w0 nA nt M G ι0 A k o w S a K := by
 unfold buildN at hK
 split at hK
 ·rename_i places n hnt
  obtain ⟨hn, hK⟩ := hK
  unfold nilsT at hnt
  split at hnt
  ·rename_i places' zs hp hz
   split at hnt
   ·rename_i hall
    simp only [Option.some.injEq, Prod.mk.injEq] at hnt
    obtain ⟨rfl, rfl⟩ := hnt
    unfold zeroT at hz
    split at hz
    ·rename_i inf hinf
     split at hz
     ·rename_i z hzz
      simp only [Option.some.injEq] at hz
      subst hz
      obtain ⟨g, hg, hb0⟩ := built_places hp hinf hzz
      rw [List.length_map] at hn hK
      obtain ⟨ι1, h1, hc⟩ := h.nils hA z.cells.toList.length (by omega)
      have hnil : ∀ i (v : Value), z.cells.toList[i]? = some v → v = .slice none 0 0 := fun i v hv => isNilP_eq (List.all_eq_true.1 hall (ofConst1 v).cell (List.mem_map.2 ⟨v, List.mem_of_getElem? hv, rfl⟩))
      have hrep : RepAL w (Held (hwsH S.h (nilWs k z.cells.toList.length)) ι1) G ι1 ((List.range z.cells.toList.length).map fun i => AV.ref (k + i) 0 0) z.cells.toList := by
       refine RepAL_of (by simp) fun j x v hx hv => ?_
       simp only [List.getElem?_map, Option.map_eq_some_iff] at hx
       obtain ⟨i, hi, rfl⟩ := hx
       obtain ⟨hi1, hi2⟩ := List.getElem?_eq_some_iff.1 hi
       simp only [List.getElem_range] at hi2
       subst hi2
       rw [hnil _ _ hv]
       have := hc j (by simpa using hi1)
       simp only [RepA]
       exact ⟨none, 0, rfl, Nat.le_refl _, by omega, by simp [this], .inl rfl⟩
      have hacc : ∀ i, AV.hasL ((List.range z.cells.toList.length).map fun i => AV.ref (k + i) 0 0) i = true → plus A k i := fun i hi => by
       have : ∀ l : List Nat, AV.hasL (l.map fun i => AV.ref (k + i) 0 0) i = true → ∃ j ∈ l, i = k + j := fun l => by
        induction l with
        | nil => intro q; cases q
        | cons x l ih =>
         intro q
         simp only [List.map_cons, AV.hasL, AV.has, Bool.or_eq_true, beq_iff_eq] at q
         rcases q with q | q
         ·exact ⟨x, by simp, q.symm⟩
         ·obtain ⟨j, hj, e⟩ := ih q; exact ⟨j, by simp [hj], e⟩
       obtain ⟨j, hj, e⟩ := this _ hi
       have := List.mem_range.1 hj
       exact .inr ⟨by omega, by omega⟩
      have h2 : Rel w0 nA nt M G ι0 (plus A k) w { S with h := hwsH S.h (nilWs k z.cells.toList.length) } ι1 a := h1.mono fun i hi => hi.elim .inl fun q => .inr ⟨q.1, by omega⟩
      obtain ⟨cs, cells, hf, hr, hn', hk⟩ := fill_run (F := Held (hwsH S.h (nilWs k z.cells.toList.length)) ι1) (ε := a.eval) (A := plus A k) hg h2.opd h2.opd_named parts.toList _ z.cells _ hrep hacc hK
      have hb : P.built t (parts.toList.map fun p => (p.1, a.eval p.2)) = some cells := (hb0 _).trans hf
      intro Kc Qc next
      have e : (parts.map fun p => (p.1, a.eval p.2)).toList = parts.toList.map fun p => (p.1, a.eval p.2) := by simp
      have hrun := run_build (P := P) w t (parts.map fun p => (p.1, a.eval p.2)) cells (by rw [e]; exact hb)
      refine wp_value (v := .agg cells) (w' := w) (by simp [execOp, ho, hrun]) (next _ _ _ ι1 hk ?_)
      rw [app_eq]
      exact h2.put o.dst hd (by simp only [RepA]; exact ⟨cells.toList, rfl, hr⟩) (by simpa [AV.has] using hn')
     ·cases hz
    ·cases hz
   ·cases hnt
  ·cases hnt
 ·exact hK.elim
theorem opN_does {o : Oper} {k : Nat} {K : R → Prop} (h : Rel w0 nA nt M G ι0 A w S ι a) (hd : ∀ d, o.dst = some d → d < nt) (hA : ∀ x, x < 256 → ¬ A (k + x)) (hK : opN P (Gl.opd S) S.h k o.op K) : Does P w0 nA nt M G ι0 A k o w S a K := by
 have hk : ¬ A k := by simpa using hA 0 (by omega)
 unfold opN at hK
 split at hK
 ·rename_i ho; exact does_buildD h hd hk ho hK
 ·rename_i ho; exact does_makeD h hd hk ho hK
 ·rename_i ho; exact does_allocD h hd hk ho hK
 ·rename_i ho; exact does_boxD h hd hk ho hK
 ·rename_i ho; exact does_buildN h hd hA ho hK
 ·rename_i ho; exact does_arrD h hd hk (by simp [execOp, ho]) hK
 ·rename_i ho; exact does_arrD h hd hk (by simp [execOp, ho]) hK
 ·exact hK.elim
end
end Go.Gl
namespace Go.Gl
open Go
variable [Amb]
section
variable {P : Program} {sg : FuncId → List Bool} {w0 : World} {nA nt : Nat} {M G : Nat → Prop} {ι0 : Nat → Loc} {A : Nat → Prop} {w w' : World} {S : St} {ι : Nat → Loc} {a : Act}
theorem HeapOk.map {z : Nat} {h : Nat → Blk} (ok : HeapOk w z M G h ι) {id : Nat} {m : Bool} {kt : Value → Prop} {es : List (PV × PV)} (hb : h id = .map m kt es) :
  (ι id).cap ≠ 0 ∧ Org z M G m (ι id).B ∧ ∃ A clock, w.heap[(ι id).B]? = some (.map A clock) ∧ MapOk w (Held h ι) G kt es A := by
 have := ok.ok id; rw [hb] at this; exact this
theorem key1_rep {F : Nat → Prop} {x : PV} {v : Value} (hx : keyP1 x = true) (h : RepP w F G x v) : v = kV1 x := by
 cases x <;> simp [keyP1] at hx
 ·simpa [RepP, kV1] using h
 ·simpa [RepP, kV1] using h
 ·simpa [RepP, kV1] using h
theorem key_repP {F : Nat → Prop} {x : PV} {v : Value} (hx : keyP x = true) (h : RepP w F G x v) : v = kV x := by
 cases x with
 | agg xs =>
  simp only [RepP] at h
  obtain ⟨cs, rfl, hc⟩ := h
  have : cs = xs.map kV1 := by
   simp only [keyP, List.all_eq_true] at hx
   induction xs generalizing cs with
   | nil => simpa [RepL] using hc
   | cons y ys ih =>
    simp only [RepL] at hc
    obtain ⟨u, us, rfl, h1, h2⟩ := hc
    rw [key1_rep (hx y (by simp)) h1, ih us h2 (fun z hz => hx z (by simp [hz]))]; rfl
  simp only [kV, this]
 | int k n => exact key1_rep (by simpa [keyP] using hx) h
 | bool b => exact key1_rep (by simpa [keyP] using hx) h
 | str s => exact key1_rep (by simpa [keyP] using hx) h
 | _ => simp [keyP, keyP1] at hx
theorem asKL_rep {F : Nat → Prop} : ∀ {xs : List AV} {ys : List PV} {vs : List Value}, asKL xs = some ys → RepAL w F G ι xs vs → RepL w F G ys vs
 | [], ys, vs, e, h => by simp only [asKL, Option.some.injEq] at e; subst e; simpa [RepAL, RepL] using h
 | x :: xs, ys, vs, e, h => by
  cases x with
  | p x =>
   simp only [asKL, Option.map_eq_some_iff] at e
   obtain ⟨zs, e, rfl⟩ := e
   simp only [RepAL] at h
   obtain ⟨u, us, rfl, h1, h2⟩ := h
   simp only [RepL]
   exact ⟨u, us, rfl, h1, asKL_rep e h2⟩
  | _ => simp [asKL] at e
theorem asK_rep {F : Nat → Prop} {x : AV} {q : PV} {v : Value} (e : asK x = some q) (hq : keyP q = true) (h : RepA w F G ι x v) : v = kV q := by
 cases x with
 | p x => simp only [asK, Option.some.injEq] at e; subst e; exact key_repP hq h
 | agg xs =>
  simp only [asK, Option.map_eq_some_iff] at e
  obtain ⟨ys, e, rfl⟩ := e
  simp only [RepA] at h
  obtain ⟨cs, rfl, hc⟩ := h
  exact key_repP hq (by simp only [RepP]; exact ⟨cs, rfl, asKL_rep e hc⟩)
 | _ => simp [asK] at e
theorem does_makeMap {o : Oper} {k : Nat} {K : R → Prop} (h : Rel w0 nA nt M G ι0 A w S ι a) (hd : ∀ d, o.dst = some d → d < nt) (hA : ∀ x, x < 256 → ¬ A (k + x)) {t : TypeId} {r : Option Operand}
  (ho : o.op = .makeMap t r) (hK : makeMapW P t r k K) : Does P w0 nA nt M G ι0 A k o w S a K := by
 obtain ⟨rfl, hK⟩ := hK
 split at hK
 ·rename_i kt z _
  intro Kc Qc next
  have hk : ¬ A k := by simpa using hA 0 (by omega)
  have hp : Pushed w (w.alloc (.map #[] 0)) (.map #[] 0) := Pushed.alloc w _
  have hl : ∀ B, owns (.map false (kOf P kt) []) ⟨w.heap.size, 0, 1, 0, noInn⟩ B → B = w.heap.size := fun B ho => ho.2.symm
  have ok := h.heap.newB (k := k) hp (b := .map false (kOf P kt) []) (l := ⟨w.heap.size, 0, 1, 0, noInn⟩) hl
   ⟨by simp, .inl ⟨h.keep.size, h.new _ h.keep.size⟩, #[], 0, hp.at, by simp, by simp, fun q _ e he => by simp at he, fun q x hq => by simp [mget] at hq⟩
  have st := Stays.newB (ι := ι) hp (h := S.h) (k := k) (b := .map false (kOf P kt) []) (l := ⟨w.heap.size, 0, 1, 0, noInn⟩) hl
  have h2 := h.step (A' := plus A k) (fun i hi => .inl hi) (hp.keep M) ok st (fun i hi => by
   have : i ≠ k := fun e => hk (e ▸ hi)
   simp [updL, this, LocEq.refl]) (fun i hi => by
   have hne : i ≠ k := fun e => hi (.inr ⟨by omega, by omega⟩)
   simp only [updH, hne, if_false]
   exact h.alloc i fun hA' => hi (.inl hA'))
  have hr : (execOp a.eval o).run P w = .ok (.value (.map (some w.heap.size))) (w.alloc (.map #[] 0)) := by
   have hm : (Instr.makeMap t none).run P w = .ok (.map (some w.heap.size)) (w.alloc (.map #[] 0)) := rfl
   simp only [execOp, ho, Option.map_none, Sem.run_bind, hm]; rfl
  refine wp_value hr (next _ _ _ (updL ι k ⟨w.heap.size, 0, 1, 0, noInn⟩) hK ?_)
  rw [app_eq]
  refine h2.put o.dst hd (by simp [RepA, updL]) fun i hi => ?_
  simp only [AV.has, beq_iff_eq] at hi
  exact .inr ⟨by omega, by omega⟩
 ·exact hK.elim
theorem nlz_rep {F : Nat → Prop} {x : PV} {v : Value} (h : RepP w F G x v) : RepP w F G (nlz x) v := by
 unfold nlz
 split
 ·simp only [RepP] at h ⊢
  obtain ⟨a, cap, rfl, _, _, h1, _⟩ := h
  obtain ⟨_, rfl, rfl⟩ := h1 trivial
  rfl
 ·exact h
theorem mapT_spec {t kt : TypeId} {z : PV} (h : mapT P t = some (kt, z)) : ∃ e zv, P.underlying t = some (.map kt e) ∧ (∀ w, (zeroValue e).run P w = .ok zv w) ∧ z = nlz (ofConst zv) := by
 unfold mapT at h
 split at h
 ·rename_i k e hu
  split at h
  ·rename_i i hi
   split at h
   ·rename_i zv hz
    simp only [Option.some.injEq, Prod.mk.injEq] at h
    obtain ⟨rfl, rfl⟩ := h
    exact ⟨e, zv, hu, fun w => by simp [zeroValue, typeInfo, hi, hz], rfl⟩
   ·cases h
  ·cases h
 ·cases h
theorem does_lookup {o : Oper} {k : Nat} {K : R → Prop} (h : Rel w0 nA nt M G ι0 A w S ι a) (hd : ∀ d, o.dst = some d → d < nt) {t : TypeId} {m x : Operand} {c : Bool}
  (ho : o.op = .lookup t m x c) (hK : lookupW P t S.h (Gl.opd S m) (Gl.opd S x) c K) : Does P w0 nA nt M G ι0 A k o w S a K := by
 unfold lookupW at hK
 split at hK
 ·rename_i kt z id q e1 e2 e3
  split at hK
  ·rename_i b kt' es hb
   obtain ⟨rfl, hkd, hkp, hkk, hK⟩ := hK
   obtain ⟨l, hl⟩ := hkk
   obtain ⟨e, zv, hu, hz, rfl⟩ := mapT_spec e1
   obtain ⟨h0, _, Ar, cl, hh, mo⟩ := h.heap.map hb
   have hm := h.opd m
   rw [e2] at hm
   simp only [RepA] at hm
   have hx := asK_rep e3 hkp (h.opd x)
   have fin : ∀ {v : AV} {val : Value}, lkV (nlz (ofConst zv)) c (mget es q) = v → (Instr.lookup t (.map (some (ι id).B)) (kV q) c).run P w = .ok val w → RepA w (Held S.h ι) G ι v val → (∀ i, v.has i = true → A i) → Does P w0 nA nt M G ι0 A k o w S a K := by
    intro v val hv hr hrep hn
    refine does_value h hd (v := v) (val := val) ?_ hrep hn (hv ▸ hK)
    simp only [execOp, ho, hm, hx, Sem.run_bind, hr]; rfl
   have tup : ∀ {y : PV} {u : Value} {bb : Bool}, RepP w (Held S.h ι) G y u → RepA w (Held S.h ι) G ι (.tup [.p y, .p (.bool bb)]) (.tuple #[u, .bool bb]) := fun {y u bb} hy => by
    simp only [RepA, RepAL]
    exact ⟨[u, .bool bb], rfl, u, _, rfl, hy, _, _, rfl, by simp [RepP], rfl⟩
   rcases hkd.find w hl Ar.toList mo.keys with ⟨g1, g2⟩ | ⟨j, e0, g1, g2, g3⟩
   ·have hnone : mget es q = none := by
     cases hg : mget es q with
     | none => rfl
     | some y => obtain ⟨e', he', hk', _⟩ := mo.yes q y hg; exact absurd hk' (g2 e' he')
    have hrun : (Instr.lookup t (.map (some (ι id).B)) (kV q) c).run P w = .ok (if c then .tuple #[zv, .bool false] else zv) w := by
     simp [Instr.lookup, run_underlying hu, MapKept.run_getObj_map hh, hkd.check w _ hl, g1, hz, Result.andThen]
    cases c
    ·exact fin (v := .p (nlz (ofConst zv))) (val := zv) (by rw [hnone]; rfl) hrun (by simp only [RepA]; exact nlz_rep (ofConst_rep zv)) (fun i hi => by simp [AV.has] at hi)
    ·exact fin (by rw [hnone]; rfl) hrun (tup (nlz_rep (ofConst_rep zv))) (fun i hi => by simp [AV.has, AV.hasL] at hi)
   ·have hmem : e0 ∈ Ar.toList := List.mem_of_getElem? g2
    cases hg : mget es q with
    | none => exact absurd g3 (mo.no q hg e0 hmem)
    | some y =>
     obtain ⟨e', he', hk', hy⟩ := mo.yes q y hg
     have hee : e' = e0 := by
      by_cases q1 : e' = e0
      ·exact q1
      ·exfalso
       obtain ⟨i, hi, hi'⟩ := List.getElem_of_mem he'
       obtain ⟨j', hj, hj'⟩ := List.getElem_of_mem hmem
       have pw := List.pairwise_iff_getElem.1 mo.apart
       rcases Nat.lt_trichotomy i j' with q2 | q2 | q2
       ·exact pw i j' hi hj q2 (by rw [hi', hj', hk', g3])
       ·subst q2; exact q1 (hi'.symm.trans hj')
       ·exact pw j' i hj hi q2 (by rw [hi', hj', hk', g3])
     subst hee
     have hrun : (Instr.lookup t (.map (some (ι id).B)) (kV q) c).run P w = .ok (if c then .tuple #[e'.val, .bool true] else e'.val) w := by
      simp [Instr.lookup, run_underlying hu, MapKept.run_getObj_map hh, hkd.check w _ hl, g1, Result.andThen]
     cases c
     ·exact fin (v := .p y) (val := e'.val) (by rw [hg]; rfl) hrun (by simp only [RepA]; exact hy) (fun i hi => by simp [AV.has] at hi)
     ·exact fin (by rw [hg]; rfl) hrun (tup hy) (fun i hi => by simp [AV.has, AV.hasL] at hi)
  ·exact hK.elim
 ·exact hK.elim
theorem mget_put {q q' : PV} {x : PV} {es : List (PV × PV)} : (kV q = kV q' → mget ((q, x) :: es) q' = some x) ∧ (kV q ≠ kV q' → mget ((q, x) :: es) q' = mget es q') :=
 ⟨fun e => by simp [mget, e], fun e => by simp [mget, e]⟩
theorem does_update {o : Oper} {k : Nat} {K : R → Prop} (h : Rel w0 nA nt M G ι0 A w S ι a) (hd : ∀ d, o.dst = some d → d < nt) {t : TypeId} {m x y : Operand}
  (ho : o.op = .mapUpdate t m x y ∨ o.op = .insert t m x y) (hK : updateW P t S.h (Gl.opd S m) (Gl.opd S x) (Gl.opd S y) K) : Does P w0 nA nt M G ι0 A k o w S a K := by
 unfold updateW at hK
 split at hK
 ·rename_i kt z id q e1 e2 e3
  split at hK
  ·rename_i b kt' es hb
   obtain ⟨rfl, hkd, hkp, hkk, hK⟩ := hK
   have hkk' := hkk
   obtain ⟨l, hl⟩ := hkk
   obtain ⟨e, zv, hu, _, _⟩ := mapT_spec e1
   obtain ⟨yv, ws, rd, ⟨hid, hk⟩, hf, _, hrd, hrep⟩ := pub_sound hK
   have h1 := h.frz hf.frz
   have hne : ∀ p ∈ ws, p.1 ≠ id := fun p hp e => hid (e ▸ hrd p hp)
   have hb1 : hwsH S.h ws id = .map b (kOf P kt) es := by rw [hwsH_other hne]; exact hb
   obtain ⟨h0, horg, Ar, cl, hh, mo⟩ := h1.heap.map hb1
   have hm := h.opd m
   rw [e2] at hm
   simp only [RepA] at hm
   have hx := asK_rep e3 hkp (h.opd x)
   have hy : RepP w (Held (hwsH S.h ws) ι) G yv (a.eval y) := hrep h.heap hf.frz (hwsH_frz hf) (h.opd y)
   -- the world behind the write
   obtain ⟨A', cl', hrun, hput⟩ : ∃ A' cl', (Instr.mapUpdate t (.map (some (ι id).B)) (kV q) (a.eval y)).run P w = .ok () { w with heap := w.heap.setIfInBounds (ι id).B (.map A' cl') } ∧
     (∀ {w1 : World} {F1 : Nat → Prop}, (∀ z v, RepP w (Held (hwsH S.h ws) ι) G z v → RepP w1 F1 G z v) → MapOk w1 F1 G (kOf P kt) ((q, yv) :: es) A') := by
    rcases hkd.find w hl Ar.toList mo.keys with ⟨g1, g2⟩ | ⟨j, e0, g1, g2, g3⟩
    ·refine ⟨Ar.push ⟨kV q, a.eval y, cl⟩, cl + 1, by
      simp [Instr.mapUpdate, run_underlying hu, MapKept.run_getObj_map hh, hkd.check w false hl, g1, MapKept.run_setObj_map _ hh, Result.andThen], fun {w1 F1} tr => ?_⟩
     refine ⟨fun e' he' => ?_, ?_, fun q' hq' e' he' => ?_, fun q' x' hq' => ?_⟩
     ·simp only [Array.toList_push, List.mem_append, List.mem_singleton] at he'
      rcases he' with he' | rfl
      ·exact mo.keys e' he'
      ·exact hkk'
     ·simp only [Array.toList_push, List.pairwise_append, List.pairwise_cons, List.mem_singleton, List.not_mem_nil, false_implies, implies_true, true_and, List.Pairwise.nil, and_true]
      exact ⟨mo.apart, fun e' he' e2 h2 => by subst h2; exact g2 e' he'⟩
     ·simp only [Array.toList_push, List.mem_append, List.mem_singleton] at he'
      by_cases hqq : kV q = kV q'
      ·rw [mget_put.1 hqq] at hq'; cases hq'
      ·rw [mget_put.2 hqq] at hq'
       rcases he' with he' | rfl
       ·exact mo.no q' hq' e' he'
       ·exact hqq
     ·by_cases hqq : kV q = kV q'
      ·rw [mget_put.1 hqq] at hq'
       cases hq'
       exact ⟨⟨kV q, a.eval y, cl⟩, by simp, hqq, tr _ _ hy⟩
      ·rw [mget_put.2 hqq] at hq'
       obtain ⟨e', he', hk', hr'⟩ := mo.yes q' x' hq'
       exact ⟨e', by simp [he'], hk', tr _ _ hr'⟩
    ·obtain ⟨hj, hj'⟩ := List.getElem?_eq_some_iff.1 g2
     have hjs : j < Ar.size := by simpa using hj
     have hAj : Ar[j]? = some e0 := by rw [← Array.getElem?_toList]; exact g2
     have stay := hkd.stays w hl
     have hmod : (Ar.modify j fun e => { e with key := kV q, val := a.eval y }).toList = Ar.toList.set j { e0 with key := kV q, val := a.eval y } := by
      rw [Array.toList_modify]
      apply List.ext_getElem?; intro i
      rw [List.getElem?_modify, List.getElem?_set]
      by_cases hij : j = i
      ·subst hij; rw [g2, if_pos rfl, if_pos hj]; simp
      ·simp [hij]
     refine ⟨Ar.modify j fun e => { e with key := kV q, val := a.eval y }, cl, by
      simp [Instr.mapUpdate, run_underlying hu, MapKept.run_getObj_map hh, hkd.check w false hl, g1, MapKept.run_setObj_map _ hh, Result.andThen, hAj, g3, stay], fun {w1 F1} tr => ?_⟩
     have mem : ∀ e', e' ∈ Ar.toList.set j { e0 with key := kV q, val := a.eval y } → e' = { e0 with key := kV q, val := a.eval y } ∨ (e' ∈ Ar.toList ∧ e'.key ≠ kV q) := fun e' he' => by
      obtain ⟨i, hi, hi'⟩ := List.getElem_of_mem he'
      simp only [List.length_set] at hi
      rw [List.getElem_set] at hi'
      by_cases hij : j = i
      ·rw [if_pos hij] at hi'; exact .inl hi'.symm
      ·rw [if_neg hij] at hi'
       refine .inr ⟨hi' ▸ List.getElem_mem _, fun hkk => ?_⟩
       have pw := List.pairwise_iff_getElem.1 mo.apart
       rcases Nat.lt_or_gt_of_ne hij with q2 | q2
       ·exact pw j i hj hi q2 (by rw [hi', hj', hkk, g3])
       ·exact pw i j hi hj q2 (by rw [hi', hj', hkk, g3])
     refine ⟨fun e' he' => ?_, ?_, fun q' hq' e' he' => ?_, fun q' x' hq' => ?_⟩
     ·rw [hmod] at he'
      rcases mem e' he' with rfl | ⟨he', _⟩
      ·exact hkk'
      ·exact mo.keys e' he'
     ·rw [hmod, List.pairwise_iff_getElem]
      intro i i' hi hi' hlt
      simp only [List.length_set] at hi hi'
      have pw := List.pairwise_iff_getElem.1 mo.apart i i' hi hi' hlt
      rw [List.getElem_set, List.getElem_set]
      by_cases q1 : j = i
      ·subst q1
       rw [if_pos rfl, if_neg (by omega)]
       simp only
       rw [hj', g3] at pw
       exact pw
      ·rw [if_neg q1]
       by_cases q2 : j = i'
       ·subst q2
        rw [if_pos rfl]
        simp only
        rw [hj', g3] at pw
        exact pw
       ·rw [if_neg q2]; exact pw
     ·rw [hmod] at he'
      by_cases hqq : kV q = kV q'
      ·rw [mget_put.1 hqq] at hq'; cases hq'
      ·rw [mget_put.2 hqq] at hq'
       rcases mem e' he' with rfl | ⟨he', _⟩
       ·exact hqq
       ·exact mo.no q' hq' e' he'
     ·by_cases hqq : kV q = kV q'
      ·rw [mget_put.1 hqq] at hq'
       cases hq'
       refine ⟨{ e0 with key := kV q, val := a.eval y }, by rw [hmod]; exact List.mem_iff_getElem?.2 ⟨j, List.getElem?_set_self hj⟩, hqq, tr _ _ hy⟩
      ·rw [mget_put.2 hqq] at hq'
       obtain ⟨e', he', hk', hr'⟩ := mo.yes q' x' hq'
       refine ⟨e', ?_, hk', tr _ _ hr'⟩
       rw [hmod]
       obtain ⟨i, hi, hi'⟩ := List.getElem_of_mem he'
       have hij : j ≠ i := by
        rintro rfl
        rw [hj'] at hi'
        subst hi'
        exact hqq (g3.symm.trans hk')
       have : (Ar.toList.set j { e0 with key := kV q, val := a.eval y })[i]? = some e' := by
        rw [List.getElem?_set_ne hij, List.getElem?_eq_getElem hi, hi']
       exact List.mem_of_getElem? this
   intro Kc Qc next
   let w2 : World := { w with heap := w.heap.setIfInBounds (ι id).B (.map A' cl') }
   have hset := MapKept.heap_set (o' := Obj.map A' cl') hh
   have oth : ∀ B, B ≠ (ι id).B → w2.heap[B]? = w.heap[B]? := fun B hB => hset.2 B hB
   have hown : owns (hwsH S.h ws id) (ι id) (ι id).B := by rw [hb1]; exact ⟨h0, rfl⟩
   obtain ⟨ok, hh2, st⟩ := h1.heap.writeB (w' := w2) (id := id) (k := id) (.inl rfl) (b := .map b (kOf P kt) ((q, yv) :: es)) (l := ι id) (fun B ho => oth B fun e => ho (e ▸ hown)) (fun B ho => by show owns (hwsH S.h ws id) (ι id) B; rw [hb1]; exact ho)
    (fun st => ⟨h0, horg, A', cl', hset.1, hput fun z v hz => RepP.tr st (fun _ _ _ h => h) _ _ hz⟩)
   have eL : updL ι id (ι id) = ι := updL_self
   have eH : updH (updH (hwsH S.h ws) id .dead) id (.map b (kOf P kt) ((q, yv) :: es)) = hwsH S.h (ws ++ [(id, .map b (kOf P kt) ((q, yv) :: es))]) := by
    rw [hwsH_append]
    funext i
    simp only [updH, hwsH]
    by_cases q1 : i = id <;> simp [q1]
   rw [eL, eH] at ok
   rw [eL, eH] at st
   have hkeep : Keep w0 w2 M := by
    have k0 := h1.keep
    refine ⟨k0.os, k0.tape, k0.output, by simpa [w2] using k0.size, fun B hB hM => ?_, k0.drawn⟩
    have hne : B ≠ (ι id).B := by
     rintro rfl
     rcases horg with ⟨q1, _⟩ | ⟨_, q1⟩
     ·exact Nat.lt_irrefl _ (Nat.lt_of_lt_of_le hB q1)
     ·exact hM q1
    rw [oth B hne]; exact k0.block B hB hM
   have hA : A id := h.opd_named m id (by rw [e2]; simp [AV.has])
   have h2 := h1.stepK (A' := plus A k) (fun i hi => .inl hi) hkeep ok st (fun i _ => LocEq.refl _) (fun i hi => by
    have hni : i ≠ id := fun e => hi (.inl (e ▸ hA))
    rw [hwsH_append]
    simp only [hwsH, hni, if_false]
    exact h1.alloc i fun q => hi (.inl q))
   have hr : (execOp a.eval o).run P w = .ok .skip w2 := by
    rcases ho with ho | ho <;> simp only [execOp, ho, hm, hx, Sem.run_bind, hrun] <;> rfl
   refine wp_skip' hr (next _ _ _ ι hk ?_)
   rw [app_eq]
   exact h2.put o.dst hd (by simp [RepA, RepP]) (fun i hi => by simp [AV.has] at hi)
  ·exact hK.elim
 ·exact hK.elim
end
end Go.Gl
