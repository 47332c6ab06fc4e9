/-
  Grids: what is below fits too; grids are turned with the inverse. Conditions: none.
-/
import Derived.Test.YtknmheddofilbaaFindG
import Derived.Test.YtknmheddofilbaaTurn
import Derived.Test.YtknmheddofilbaaExc
import Derived.Test.YtknmheddofilbaaCodM
set_option linter.unusedSimpArgs false
set_option linter.unusedVariables false
set_option maxRecDepth 20000
set_option linter.unusedSectionVars false
namespace Go.Gl
open Go Go.Proofs
variable [Amb]
theorem rk_cnt {l : List Int} {x : Int} : rkI l x l.length = cntLt x l + 1 := by
  rw [rkI, List.take_length, cntLt_countP, List.countP_eq_length_filter]
theorem prt_cnt {l : List Int} {x : Int} : prtI l x = cntLt x l := by rw [prtI, rk_cnt]; omega
theorem prt_map {g : Int → Int} {x x' : Int} : ∀ {l : List Int}, (∀ c ∈ l, (g c < x' ↔ c < x)) → prtI (l.map g) x' = prtI l x := fun {l} h => by
  rw [prt_cnt, prt_cnt]
  induction l with
  | nil => rfl
  | cons c l ih =>
    rw [List.map_cons, cntLt, cntLt, ih fun d hd => h d (List.mem_cons_of_mem _ hd)]
    have := h c List.mem_cons_self
    congr 2
    exact decide_eq_decide.2 this
theorem cnt_id {n : Nat} {x : Int} (h1 : 1 ≤ x) (h2 : x ≤ n) : cntLt x (idL n) = x - 1 := by
  have hi : (x - 1).toNat < (idL n).length := by rw [idL_len]; omega
  have e : (idL n).getD (x - 1).toNat 0 = x := by
    rw [List.getD_eq_getElem?_getD]; unfold idL
    rw [List.getElem?_map, List.getElem?_range (by omega)]
    simp only [Option.map_some, Option.getD_some]; omega
  have h3 := cntLt_perm (v := x) (cut_perm hi)
  have h4 := cnt_at (idL_si (n := n)) hi
  rw [e] at h3 h4
  rw [← h3, cntLt, h4, decide_eq_false (by omega), bitI, if_neg (by decide)]; omega
theorem cnt_perm {p : List Int} (hp : permB p = true) {x : Int} (h1 : 1 ≤ x) (h2 : x ≤ p.length) : cntLt x p = x - 1 := by
  rw [cntLt_perm (perm_id hp), cnt_id h1 h2]
/-- A place, the j-th left out. -/
def skI (j k : Nat) : Nat := if k < j then k else k + 1
theorem skI_at {p : List Int} {j k : Nat} (hj : j < p.length) (hk : k < p.length - 1) : (p.take j ++ p.drop (j + 1)).getD k 0 = p.getD (skI j k) 0 := by
  unfold skI
  by_cases h : k < j
  · rw [if_pos h, List.getD_eq_getElem?_getD, List.getElem?_append_left (by simp; omega), List.getElem?_take_of_lt h, ← List.getD_eq_getElem?_getD]
  · rw [if_neg h, List.getD_eq_getElem?_getD, List.getElem?_append_right (by simp; omega), List.getElem?_drop, List.length_take, List.getD_eq_getElem?_getD]
    congr 2; omega
theorem wo_at {p : List Int} (hp : permB p = true) {j k : Nat} (hj : j < p.length) (hk : k < p.length - 1) : (woL p j).getD k 0 = p.getD (skI j k) 0 - bitI (decide (p.getD j 0 < p.getD (skI j k) 0)) := by
  have hs : skI j k < p.length := by unfold skI; split <;> omega
  have hb := (permB_iff.1 hp).1 _ (getD_mem (d := 0) hs)
  have hl : (p.take j ++ p.drop (j + 1)).length = p.length - 1 := by simp; omega
  have h1 := cntLt_perm (v := p.getD (skI j k) 0) (cut_perm hj)
  rw [cntLt, cnt_perm hp hb.1 hb.2] at h1
  rw [woL, patL, List.getD_eq_getElem?_getD, List.getElem?_map, List.getElem?_eq_getElem (by omega), Option.map_some, Option.getD_some, rk_cnt]
  have e : (p.take j ++ p.drop (j + 1))[k]'(by omega) = p.getD (skI j k) 0 := by
    rw [← skI_at hj hk, List.getD_eq_getElem?_getD, List.getElem?_eq_getElem (by omega)]; rfl
  rw [e]; omega
theorem perm_ne' {p : List Int} (h : permB p = true) {i j : Nat} (hi : i < p.length) (hj : j < p.length) (e : i ≠ j) : p.getD i 0 ≠ p.getD j 0 := fun q => e (perm_inj h hi hj q)
theorem ga_lt' {l : List Int} {j : Nat} {x d : Int} (h : j < l.length) : (l ++ [x]).getD j d = l.getD j d := by rw [List.getD_eq_getElem?_getD, List.getElem?_append_left h, ← List.getD_eq_getElem?_getD]
theorem ga_eq' {l : List Int} {j : Nat} {x d : Int} (h : j = l.length) : (l ++ [x]).getD j d = x := by
  subst h; rw [List.getD_eq_getElem?_getD, List.getElem?_append_right (Nat.le_refl _), Nat.sub_self]; rfl
theorem lvlC_le {n : Nat} : ∀ {k : Nat} {L : List (List Int)}, (∀ l ∈ L, ∀ x ∈ l, 0 ≤ x ∧ x ≤ (n : Int)) → ∀ l ∈ lvlC n k L, ∀ x ∈ l, 0 ≤ x ∧ x ≤ (n : Int)
  | 0, L, h, l, hl => h l (by simpa [lvlC] using hl)
  | k + 1, L, h, l, hl => by
    rw [lvlC_succ, List.mem_flatMap] at hl
    obtain ⟨p, hp, hl⟩ := hl
    have ih := lvlC_le (k := k) h p hp
    simp only [extC, List.mem_map, List.mem_range, cntC] at hl
    obtain ⟨t, ht, rfl⟩ := hl
    intro x hx
    rcases List.mem_append.1 hx with q | q
    · exact ih x q
    · rw [List.mem_singleton] at q; subst q
      have : 0 ≤ lastI p := by
        unfold lastI; split
        · omega
        · exact (ih _ (getD_mem (by omega))).1
      omega
theorem allC_le {n k : Nat} : ∀ l ∈ allC n k, ∀ x ∈ l, 0 ≤ x ∧ x ≤ (n : Int) := lvlC_le (by simp)
theorem gf_iff {p : List Int} {m : List (List Int)} {cs rs : List Int} : gfB p m cs rs = true ↔ ∀ k, k < p.length → okK p m cs rs k := by
  unfold gfB; exact decide_eq_true_iff
def gC (j : Nat) (c : Int) : Int := if (j : Int) + 1 ≤ c then c - 1 else c
def gR (v r : Int) : Int := if v ≤ r then r - 1 else r
theorem sk_ne {j k : Nat} : skI j k ≠ j := by unfold skI; split <;> omega
theorem sk_lt {j i k : Nat} : skI j i < skI j k ↔ i < k := by unfold skI; split <;> split <;> omega
theorem sk_len {j k n : Nat} (h : k < n - 1) : skI j k < n := by unfold skI; split <;> omega
theorem gC_lt {j k : Nat} {c : Int} : gC j c < (k : Int) + 1 ↔ c < ((skI j k : Nat) : Int) + 1 := by
  unfold gC skI; split <;> split <;> omega
theorem gR_lt {v w r : Int} (h : w ≠ v) : gR v r < w - bitI (decide (v < w)) ↔ r < w := by
  by_cases g : v < w
  · have hb : bitI (decide (v < w)) = 1 := by rw [decide_eq_true g]; rfl
    rw [hb]; unfold gR; split <;> omega
  · have hb : bitI (decide (v < w)) = 0 := by rw [decide_eq_false g]; rfl
    rw [hb]; unfold gR; split <;> omega
theorem wo_lt {v w1 w2 : Int} (h1 : w1 ≠ v) (h2 : w2 ≠ v) : w1 - bitI (decide (v < w1)) < w2 - bitI (decide (v < w2)) ↔ w1 < w2 := by
  by_cases g1 : v < w1 <;> by_cases g2 : v < w2 <;> simp only [decide_eq_true, decide_eq_false, g1, g2, not_false_eq_true, bitI, if_true, Bool.false_eq_true, if_false] <;> (try simp) <;> omega
theorem gf_low {p : List Int} {m : List (List Int)} {cs rs : List Int} (hp : permB p = true) {j : Nat} (hj : j < p.length) (h : gfB p m cs rs = true) : gfB (woL p j) m (cs.map (gC j)) (rs.map (gR (p.getD j 0))) = true := by
  rw [gf_iff] at h ⊢
  have hl := woL_len hj
  intro k hk
  rw [hl] at hk
  have ne : ∀ {k}, k < p.length - 1 → p.getD (skI j k) 0 ≠ p.getD j 0 := fun {k} hk => perm_ne' hp (sk_len hk) hj sk_ne
  have eC : ∀ k : Nat, prtI (cs.map (gC j)) ((k : Int) + 1) = prtI cs (((skI j k : Nat) : Int) + 1) := fun k => prt_map fun c _ => gC_lt
  have eR : ∀ {k}, k < p.length - 1 → prtI (rs.map (gR (p.getD j 0))) ((woL p j).getD k 0) = prtI rs (p.getD (skI j k) 0) := fun {k} hk => by
    rw [wo_at hp hj hk]; exact prt_map fun r _ => gR_lt (ne hk)
  have eG : fG m (cs.map (gC j)) (rs.map (gR (p.getD j 0))) (woL p j) k = fG m cs rs p (skI j k) := by
    unfold fG; rw [eC, eR hk]
  obtain ⟨h1, h2⟩ := h (skI j k) (sk_len hk)
  refine ⟨by rw [eG]; exact h1, fun i hi hs => ?_⟩
  have hi2 : i < p.length - 1 := by omega
  rw [eG, wo_at hp hj hi2, wo_at hp hj hk, wo_lt (ne hi2) (ne hk)]
  refine h2 (skI j i) (sk_lt.2 hi) ?_
  unfold fS at hs ⊢
  rw [eC, eC, eR hi2, eR hk] at hs
  exact hs
/-! ### all cuts -/
theorem allC_mem {n : Nat} : ∀ {k : Nat} {q : List Int}, q.length = k → srtB q = true → (∀ x ∈ q, 0 ≤ x ∧ x ≤ (n : Int)) → q ∈ allC n k
  | 0, q, h, _, _ => by rw [List.eq_nil_of_length_eq_zero h]; simp [allC, lvlC]
  | k + 1, q, h, hs, hb => by
    have hne : q ≠ [] := fun e => by rw [e] at h; cases h
    obtain ⟨p, x, rfl⟩ : ∃ p x, q = p ++ [x] := ⟨q.dropLast, q.getLast hne, (List.dropLast_concat_getLast hne).symm⟩
    rw [List.length_append, List.length_singleton] at h
    have hk : p.length = k := by omega
    rw [srtB_iff] at hs
    have hp : srtB p = true := srtB_iff.2 fun i hi h0 => by
      have := hs i (by simp; omega) h0
      rwa [ga_lt' (by omega), ga_lt' (by omega)] at this
    have ih := allC_mem hk hp fun y hy => hb y (by simp [hy])
    have hx := hb x (by simp)
    unfold allC at ih ⊢
    rw [lvlC_succ, List.mem_flatMap]
    refine ⟨p, ih, ?_⟩
    have hlast : 0 ≤ lastI p ∧ lastI p ≤ x := by
      unfold lastI
      split
      · omega
      · rename_i h0
        have h1 := hs p.length (by simp) (by omega)
        rw [ga_lt' (by omega), ga_eq' rfl] at h1
        have h2 := hb (p.getD (p.length - 1) 0) (List.mem_append.2 (.inl (getD_mem (by omega))))
        omega
    simp only [extC, List.mem_map, List.mem_range, cntC]
    refine ⟨(x - lastI p).toNat, by omega, ?_⟩
    congr 2; omega
theorem fRow_none {p : List Int} {m : List (List Int)} {c : List Int} : ∀ {R : List (List Int)}, fRow p m c R = none → ∀ r ∈ R, gfB p m c r = false
  | [], _, _, hr => by cases hr
  | x :: R, h, r, hr => by
    rw [fRow] at h
    split at h
    · cases h
    · rename_i hx
      rcases List.mem_cons.1 hr with rfl | hr
      · simpa using hx
      · exact fRow_none h r hr
theorem fCol_none {p : List Int} {m : List (List Int)} {R : List (List Int)} : ∀ {C : List (List Int)}, fCol p m R C = none → ∀ c ∈ C, ∀ r ∈ R, gfB p m c r = false
  | [], _, _, hc, _, _ => by cases hc
  | x :: C, h, c, hc, r, hr => by
    rw [fCol] at h
    split at h
    · cases h
    · rename_i hx
      rcases List.mem_cons.1 hc with rfl | hc
      · exact fRow_none hx r hr
      · exact fCol_none h c hc r hr
/-- It fits just where some cuts serve. -/
theorem fnd_iff {p : List Int} {m : List (List Int)} (h8 : p.length ≤ 8) : (fndG p m).2 = true ↔ ∃ c r, gfB p m c r = true ∧ c.length = (m.getD 0 []).length - 1 ∧ r.length = m.length - 1 ∧ srtB c = true ∧ srtB r = true ∧ (∀ x ∈ c, 0 ≤ x ∧ x ≤ (p.length : Int)) ∧ ∀ x ∈ r, 0 ≤ x ∧ x ≤ (p.length : Int) := by
  constructor
  · intro h
    cases e : fCol p m (allC p.length (m.length - 1)) (allC p.length ((m.getD 0 []).length - 1)) with
    | none => rw [fndG_none e] at h; cases h
    | some x =>
      obtain ⟨c, r⟩ := x
      obtain ⟨h1, h2, h3⟩ := fCol_mem e
      obtain ⟨g1, g2⟩ := allC_gd h8 c h1
      obtain ⟨g3, g4⟩ := allC_gd h8 r h2
      have b1 := allC_le c h1
      have b2 := allC_le r h2
      exact ⟨c, r, h3, g2, g4, g1.1, g3.1, b1, b2⟩
  · rintro ⟨c, r, h1, h2, h3, h4, h5, h6, h7⟩
    cases e : fCol p m (allC p.length (m.length - 1)) (allC p.length ((m.getD 0 []).length - 1)) with
    | none =>
      have := fCol_none e c (allC_mem h2 h4 h6) r (allC_mem h3 h5 h7)
      rw [h1] at this; cases this
    | some x => rw [fndG_some e]
theorem srt_map {g : Int → Int} (hg : ∀ a b, a ≤ b → g a ≤ g b) {l : List Int} (h : srtB l = true) : srtB (l.map g) = true := by
  rw [srtB_iff] at h ⊢
  intro i hi h0
  rw [List.length_map] at hi
  have e : ∀ j, j < l.length → (l.map g).getD j 0 = g (l.getD j 0) := fun j hj => by
    rw [List.getD_eq_getElem?_getD, List.getElem?_map, List.getElem?_eq_getElem hj, List.getD_eq_getElem?_getD, List.getElem?_eq_getElem hj]; rfl
  rw [e _ (by omega), e _ hi]
  exact hg _ _ (h i hi h0)
/-- What is below fits too. -/
theorem fnd_low {p : List Int} {m : List (List Int)} (hp : isPermB p = true) {j : Nat} (hj : j < p.length) (h : (fndG p m).2 = true) : (fndG (woL p j) m).2 = true := by
  obtain ⟨h8, hq⟩ := isP_8 hp
  have hl := woL_len hj
  obtain ⟨c, r, h1, h2, h3, h4, h5, h6, h7⟩ := (fnd_iff h8).1 h
  have hv := (permB_iff.1 hq).1 _ (getD_mem (d := 0) hj)
  refine (fnd_iff (by omega)).2 ⟨c.map (gC j), r.map (gR (p.getD j 0)), gf_low hq hj h1, by rw [List.length_map]; exact h2, by rw [List.length_map]; exact h3, srt_map (fun a b hab => ?_) h4, srt_map (fun a b hab => ?_) h5, fun x hx => ?_, fun x hx => ?_⟩
  · unfold gC; split <;> split <;> omega
  · unfold gR; split <;> split <;> omega
  · obtain ⟨y, hy, rfl⟩ := List.mem_map.1 hx
    have := h6 y hy
    unfold gC; split <;> omega
  · obtain ⟨y, hy, rfl⟩ := List.mem_map.1 hx
    have := h7 y hy
    unfold gR; split <;> omega
/-! ### turned -/
/-- Fitting, told of both of two places alike. -/
def symOK (p : List Int) (m : List (List Int)) (cs rs : List Int) : Prop := (∀ k, k < p.length → fG m cs rs p k ≠ 0) ∧ ∀ i k, i < p.length → k < p.length → i ≠ k → fS cs rs p i k → ((i < k ↔ p.getD i 0 < p.getD k 0) ↔ fG m cs rs p k = 1)
theorem fS_G {p : List Int} {m : List (List Int)} {cs rs : List Int} {i k : Nat} (h : fS cs rs p i k) : fG m cs rs p i = fG m cs rs p k := by
  unfold fS at h; unfold fG; rw [h.1, h.2]
theorem gf_sym {p : List Int} {m : List (List Int)} {cs rs : List Int} (hp : permB p = true) : gfB p m cs rs = true ↔ symOK p m cs rs := by
  rw [gf_iff]
  constructor
  · intro h
    refine ⟨fun k hk => (h k hk).1, fun i k hi hk hne hs => ?_⟩
    have hd := perm_ne' hp hi hk hne
    rcases Nat.lt_or_ge i k with g | g
    · have := (h k hk).2 i g hs
      rw [← this]
      simp [g]
    · have hs' : fS cs rs p k i := ⟨hs.1.symm, hs.2.symm⟩
      have := (h i hi).2 k (by omega) hs'
      rw [fS_G (m := m) hs] at this
      rw [← this]
      constructor
      · intro q; have : ¬ p.getD i 0 < p.getD k 0 := fun e => by have := q.2 e; omega
        omega
      · intro q; constructor
        · intro e; omega
        · intro e; omega
  · rintro ⟨h1, h2⟩ k hk
    refine ⟨h1 k hk, fun i hi hs => ?_⟩
    have := h2 i k (by omega) hk (by omega) hs
    rw [← this]
    simp [hi]
theorem inv_at {p : List Int} (hp : permB p = true) {k : Nat} (hk : k < p.length) : (inv p).getD (p.getD k 0 - 1).toNat 0 = (k : Int) + 1 := invL_at hp (Nat.le_refl _) k hk
theorem gd_rm {β : Type} {f : Nat → β} {n i : Nat} {d : β} (h : i < n) : ((List.range n).map f).getD i d = f i := by
  rw [List.getD_eq_getElem?_getD, List.getElem?_map, List.getElem?_range h]; rfl
theorem tg_at {m : List (List Int)} (hm : gridB m = true) {a b : Nat} (ha : a < tgN m) (hb : b < m.length) : ((tgL m).getD (tgN m - 1 - a) []).getD b 0 = (m.getD (m.length - 1 - b) []).getD a 0 := by
  rw [tgL, if_pos hm, gd_rm (by omega), tgR, gd_rm hb, tgC, show tgN m - 1 - (tgN m - 1 - a) = a by omega]
theorem tg_len {m : List (List Int)} (hm : gridB m = true) : (tgL m).length = tgN m := by rw [tgL, if_pos hm]; simp
theorem prt_nat {l : List Int} {x : Int} : ∃ a : Nat, prtI l x = a ∧ a ≤ l.length := by
  have := prt_b (l := l) (x := x)
  exact ⟨(prtI l x).toNat, by omega, by omega⟩
theorem fG_turn {p : List Int} {m : List (List Int)} {cs rs : List Int} (hp : permB p = true) (hm : gridB m = true) (h1 : cs.length = tgN m - 1) (h2 : rs.length = m.length - 1) {k : Nat} (hk : k < p.length) :
    fG (tgL m) rs cs (inv p) (p.getD k 0 - 1).toNat = fG m cs rs p k := by
  obtain ⟨g1, g2, g3, g4, g5⟩ := grid_facts hm
  have hv := (permB_iff.1 hp).1 _ (getD_mem (d := 0) hk)
  obtain ⟨a, ea, la⟩ := prt_nat (l := cs) (x := (k : Int) + 1)
  obtain ⟨b, eb, lb⟩ := prt_nat (l := rs) (x := p.getD k 0)
  unfold fG
  rw [inv_at hp hk, show (((p.getD k 0 - 1).toNat : Nat) : Int) + 1 = p.getD k 0 by omega, ea, eb, tg_len hm, show ((tgN m : Int) - 1 - a).toNat = tgN m - 1 - a by omega, show ((m.length : Int) - 1 - b).toNat = m.length - 1 - b by omega]
  exact tg_at hm (by omega) (by omega)
theorem fS_turn {p cs rs : List Int} (hp : permB p = true) {i k : Nat} (hi : i < p.length) (hk : k < p.length) : fS rs cs (inv p) (p.getD i 0 - 1).toNat (p.getD k 0 - 1).toNat ↔ fS cs rs p i k := by
  have hvi := (permB_iff.1 hp).1 _ (getD_mem (d := 0) hi)
  have hvk := (permB_iff.1 hp).1 _ (getD_mem (d := 0) hk)
  unfold fS
  rw [inv_at hp hi, inv_at hp hk, show (((p.getD i 0 - 1).toNat : Nat) : Int) + 1 = p.getD i 0 by omega, show (((p.getD k 0 - 1).toNat : Nat) : Int) + 1 = p.getD k 0 by omega]
  exact And.comm
theorem at_val {p : List Int} (hp : permB p = true) {k : Nat} (hk : k < p.length) : ∃ i, i < p.length ∧ (p.getD i 0 - 1).toNat = k := by
  obtain ⟨i, hi, e⟩ := perm_spot hp (v := (k : Int) + 1) (by omega) (by omega)
  exact ⟨i, hi, by rw [e]; omega⟩
theorem gf_turn {p : List Int} {m : List (List Int)} {cs rs : List Int} (hp : permB p = true) (hi : permB (inv p) = true) (hm : gridB m = true) (h1 : cs.length = tgN m - 1) (h2 : rs.length = m.length - 1) : gfB (inv p) (tgL m) rs cs = true ↔ gfB p m cs rs = true := by
  rw [gf_sym hp, gf_sym hi]
  have hl : (inv p).length = p.length := inv_len
  have vb : ∀ {i}, i < p.length → 1 ≤ p.getD i 0 ∧ p.getD i 0 ≤ p.length := fun {i} h => (permB_iff.1 hp).1 _ (getD_mem (d := 0) h)
  constructor
  · rintro ⟨a1, a2⟩
    refine ⟨fun k hk => ?_, fun i k hik hk hne hs => ?_⟩
    · have := vb hk
      rw [← fG_turn hp hm h1 h2 hk]; exact a1 _ (by omega)
    · have b1 := vb hik
      have b2 := vb hk
      have b3 := perm_ne' hp hik hk hne
      have := a2 (p.getD i 0 - 1).toNat (p.getD k 0 - 1).toNat (by omega) (by omega) (by omega) ((fS_turn hp hik hk).2 hs)
      rw [inv_at hp hik, inv_at hp hk, fG_turn hp hm h1 h2 hk] at this
      rw [← this]
      constructor
      · intro q; constructor <;> intro e <;> omega
      · intro q; constructor <;> intro e <;> omega
  · rintro ⟨a1, a2⟩
    refine ⟨fun k hk => ?_, fun i k hik hk hne hs => ?_⟩
    · obtain ⟨k0, hk0, rfl⟩ := at_val hp (k := k) (by omega)
      rw [fG_turn hp hm h1 h2 hk0]; exact a1 _ hk0
    · obtain ⟨i0, hi0, rfl⟩ := at_val hp (k := i) (by omega)
      obtain ⟨k0, hk0, rfl⟩ := at_val hp (k := k) (by omega)
      have b1 := vb hi0
      have b2 := vb hk0
      have hne0 : i0 ≠ k0 := fun e => hne (by rw [e])
      have b3 := perm_ne' hp hi0 hk0 hne0
      have := a2 i0 k0 hi0 hk0 hne0 ((fS_turn hp hi0 hk0).1 hs)
      rw [inv_at hp hi0, inv_at hp hk0, fG_turn hp hm h1 h2 hk0, ← this]
      constructor
      · intro q; constructor <;> intro e <;> omega
      · intro q; constructor <;> intro e <;> omega
/-- Turned, it fits just where it did. -/
theorem fnd_turn {p : List Int} {m : List (List Int)} (hp : isPermB p = true) (hi : permB (inv p) = true) (hm : gridB m = true) : (fndG (inv p) (tgL m)).2 = (fndG p m).2 := by
  obtain ⟨h8, hq⟩ := isP_8 hp
  obtain ⟨g1, g2, g3, g4, g5⟩ := grid_facts hm
  have hl : (inv p).length = p.length := inv_len
  have e1 : (tgL m).length = tgN m := tg_len hm
  have e2 : ((tgL m).getD 0 []).length = m.length := by
    rw [tgL, if_pos hm, List.getD_eq_getElem?_getD, List.getElem?_map, List.getElem?_range (by omega)]
    simp [tgR]
  rw [Bool.eq_iff_iff, fnd_iff (by omega), fnd_iff h8]
  constructor
  · rintro ⟨c, r, h1, h2, h3, h4, h5, h6, h7⟩
    rw [e2] at h2; rw [e1] at h3; rw [hl] at h6 h7
    exact ⟨r, c, (gf_turn hq hi hm h3 h2).1 h1, h3, h2, h5, h4, h7, h6⟩
  · rintro ⟨c, r, h1, h2, h3, h4, h5, h6, h7⟩
    exact ⟨r, c, (gf_turn hq hi hm h2 h3).2 h1, by rw [e2]; exact h3, by rw [e1]; exact h2, h5, h4, by rw [hl]; exact h7, by rw [hl]; exact h6⟩
end Go.Gl
