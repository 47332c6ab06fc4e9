/-
  Codes and permutations: each tells the other, in order. Conditions: none.
-/
import Derived.Test.YtnoedblfedppkaaNext
import Derived.Test.YtnoedblfedppkaaPermF
set_option linter.unusedSimpArgs false
set_option linter.unusedVariables false
set_option maxRecDepth 20000
set_option linter.unusedSectionVars false
namespace Go.Gl
open Go Go.Proofs
variable [Amb]
theorem cntLt_countP {v : Int} : ∀ {l : List Int}, cntLt v l = (l.countP (fun w => decide (w < v)) : Int)
  | [] => rfl
  | w :: l => by
    rw [cntLt, cntLt_countP, List.countP_cons]
    by_cases h : w < v
    · rw [decide_eq_true h, if_pos rfl, bitI, if_pos rfl]; omega
    · rw [decide_eq_false h, if_neg (by decide), bitI, if_neg (by decide)]; omega
theorem cntLt_perm {v : Int} {a b : List Int} (h : a.Perm b) : cntLt v a = cntLt v b := by rw [cntLt_countP, cntLt_countP, h.countP_eq]
theorem codeGo_in : ∀ {p : List Int}, codeIn (codeGo p) = true
  | [] => rfl
  | v :: p => by
    have := cntLt_le v p
    rw [codeGo, codeIn, codeGo_in, codeGo_length]
    simp only [Bool.and_true, Bool.and_eq_true, decide_eq_true_eq]; omega
/-- In order, each once. -/
def SI (l : List Int) : Prop := l.Pairwise (· < ·)
theorem si_cut {l : List Int} {i : Nat} (h : SI l) : SI (l.take i ++ l.drop (i + 1)) := by
  refine List.Pairwise.sublist ?_ h
  calc List.Sublist (l.take i ++ l.drop (i + 1)) (l.take i ++ l.drop i) := List.Sublist.append (List.Sublist.refl _) (by rw [← List.drop_drop]; exact List.drop_sublist _ _)
    _ = l := List.take_append_drop i l
theorem cut_perm {l : List Int} {i : Nat} (h : i < l.length) : (l.getD i 0 :: (l.take i ++ l.drop (i + 1))).Perm l := by
  refine List.perm_middle.symm.trans ?_
  rw [← dropI_at h, List.take_append_drop]
theorem cnt_lo {v : Int} : ∀ {l : List Int}, (∀ w ∈ l, w < v) → cntLt v l = l.length
  | [], _ => rfl
  | w :: l, h => by
    rw [cntLt, cnt_lo fun x hx => h x (List.mem_cons_of_mem _ hx), bitI, decide_eq_true (h w List.mem_cons_self), if_pos rfl, List.length_cons]; omega
theorem cnt_hi {v : Int} : ∀ {l : List Int}, (∀ w ∈ l, ¬ w < v) → cntLt v l = 0
  | [], _ => rfl
  | w :: l, h => by
    rw [cntLt, cnt_hi fun x hx => h x (List.mem_cons_of_mem _ hx), bitI, decide_eq_false (h w List.mem_cons_self), if_neg (by decide)]; rfl
theorem cnt_app {v : Int} {a b : List Int} : cntLt v (a ++ b) = cntLt v a + cntLt v b := by
  rw [cntLt_countP, cntLt_countP, cntLt_countP, List.countP_append]; omega
theorem cnt_at {l : List Int} {i : Nat} (hs : SI l) (h : i < l.length) : cntLt (l.getD i 0) (l.take i ++ l.drop (i + 1)) = i := by
  have q := hs
  unfold SI at q
  rw [← List.take_append_drop i l, List.pairwise_append, dropI_at h, List.pairwise_cons] at q
  rw [cnt_app, cnt_lo fun w hw => q.2.2 w hw _ List.mem_cons_self, cnt_hi fun w hw => by have := q.2.1.1 w hw; omega, List.length_take]; omega
theorem si_nodup {l : List Int} (h : SI l) : l.Nodup := List.Pairwise.imp (fun h e => by omega) h
/-- A permutation out of its code. -/
theorem poc_code : ∀ {p l : List Int}, SI l → p.Perm l → pocGo (codeGo p) l = p
  | [], _, _, _ => rfl
  | v :: p, l, hs, h => by
    have hm : v ∈ l := h.subset List.mem_cons_self
    obtain ⟨i, hi, e⟩ := List.getElem_of_mem hm
    have e2 : l.getD i 0 = v := by rw [List.getD_eq_getElem?_getD, List.getElem?_eq_getElem hi]; exact e
    have h2 : (v :: p).Perm (v :: (l.take i ++ l.drop (i + 1))) := h.trans (e2 ▸ (cut_perm hi).symm)
    have h3 : p.Perm (l.take i ++ l.drop (i + 1)) := (List.perm_cons v).1 h2
    have h4 : cntLt v p = i := by rw [cntLt_perm h3, ← e2, cnt_at hs hi]
    rw [codeGo, pocGo, h4, Int.toNat_natCast, e2, poc_code (si_cut hs) h3]
/-- What a code makes is what was there. -/
theorem poc_perm : ∀ {cs l : List Int}, codeIn cs = true → l.length = cs.length → (pocGo cs l).Perm l
  | [], l, _, hl => by rw [List.length_nil] at hl; rw [List.eq_nil_of_length_eq_zero hl]; exact List.Perm.refl _
  | c :: cs, l, h, hl => by
    rw [codeIn] at h
    simp only [Bool.and_eq_true, decide_eq_true_eq] at h
    rw [List.length_cons] at hl
    have hc : c.toNat < l.length := by omega
    rw [pocGo]
    exact (List.Perm.cons _ (poc_perm h.2 (by rw [cut_len hc]; omega))).trans (cut_perm hc)
theorem code_poc : ∀ {cs l : List Int}, SI l → codeIn cs = true → l.length = cs.length → codeGo (pocGo cs l) = cs
  | [], _, _, _, _ => rfl
  | c :: cs, l, hs, h, hl => by
    rw [codeIn] at h
    simp only [Bool.and_eq_true, decide_eq_true_eq] at h
    rw [List.length_cons] at hl
    have hc : c.toNat < l.length := by omega
    have h1 := poc_perm h.2 (l := l.take c.toNat ++ l.drop (c.toNat + 1)) (by rw [cut_len hc]; omega)
    rw [pocGo, codeGo, cntLt_perm h1, cnt_at hs hc, code_poc (si_cut hs) h.2 (by rw [cut_len hc]; omega)]
    congr 1; omega
theorem idL_si : ∀ {n : Nat}, SI (idL n) := fun {n} => by
  unfold SI idL
  rw [List.pairwise_map]
  exact List.Pairwise.imp (fun h => by omega) List.pairwise_lt_range
theorem idL_mem {n : Nat} {v : Int} : v ∈ idL n ↔ 1 ≤ v ∧ v ≤ n := by
  unfold idL
  simp only [List.mem_map, List.mem_range]
  constructor
  · rintro ⟨i, h, rfl⟩; omega
  · intro h; exact ⟨(v - 1).toNat, by omega, by omega⟩
theorem nd_perm {a b : List Int} (ha : a.Nodup) (hb : b.Nodup) (h : ∀ x, x ∈ a ↔ x ∈ b) : a.Perm b := by
  rw [List.perm_iff_count]
  intro x
  rw [ha.count, hb.count]
  by_cases q : x ∈ a
  · rw [if_pos q, if_pos ((h x).1 q)]
  · rw [if_neg q, if_neg fun e => q ((h x).2 e)]
theorem perm_id {p : List Int} (h : permB p = true) : p.Perm (idL p.length) := by
  obtain ⟨h1, h2⟩ := permB_iff.1 h
  refine nd_perm h2 (si_nodup idL_si) fun x => ⟨fun hx => idL_mem.2 (h1 x hx), fun hx => ?_⟩
  have := idL_mem.1 hx
  obtain ⟨i, hi, e⟩ := perm_spot h (v := x) (by omega) (by omega)
  rw [← e]; exact getD_mem hi
theorem id_permB {p : List Int} {n : Nat} (h : p.Perm (idL n)) : permB p = true ∧ p.length = n := by
  have hl : p.length = n := by rw [h.length_eq, idL_len]
  refine ⟨permB_iff.2 ⟨fun v hv => ?_, (h.nodup_iff).2 (si_nodup idL_si)⟩, hl⟩
  rw [hl]; exact idL_mem.1 (h.subset hv)
/-! ### ranks -/
/-- A code's rank. -/
def rkN : List Int → Nat
  | [] => 0
  | c :: cs => c.toNat * facn cs.length + rkN cs
theorem rkN_eq : ∀ {cs : List Int}, codeIn cs = true → rankGo cs = rkN cs
  | [], _ => rfl
  | c :: cs, h => by
    rw [codeIn] at h
    simp only [Bool.and_eq_true, decide_eq_true_eq] at h
    rw [rankGo, rkN, rkN_eq h.2, facN_n, Int.natCast_add, Int.natCast_mul]
    congr 2; omega
theorem rkN_lt : ∀ {cs : List Int}, codeIn cs = true → rkN cs < facn cs.length
  | [], _ => by decide
  | c :: cs, h => by
    rw [codeIn] at h
    simp only [Bool.and_eq_true, decide_eq_true_eq] at h
    have h1 := rkN_lt h.2
    have h2 : c.toNat * facn cs.length ≤ cs.length * facn cs.length := Nat.mul_le_mul_right _ (by omega)
    rw [rkN, List.length_cons, facn, Nat.add_mul]; omega
theorem facn_div : ∀ {m n : Nat}, m ≤ n → ∃ t, facn n = facn m * t
  | m, 0, h => by obtain rfl : m = 0 := (by omega); exact ⟨1, rfl⟩
  | m, n + 1, h => by
    by_cases e : m = n + 1
    · subst e; exact ⟨1, (Nat.mul_one _).symm⟩
    · obtain ⟨t, ht⟩ := facn_div (m := m) (n := n) (by omega)
      exact ⟨(n + 1) * t, by rw [facn, ht, Nat.mul_left_comm]⟩
theorem cdAt_add {n a r k : Nat} (hk : k < n) : cdAt n (a * facn n + r) k = cdAt n r k := by
  obtain ⟨t, ht⟩ := facn_div (m := n - k) (n := n) (by omega)
  unfold cdAt
  have e : facn n = facn (n - 1 - k) * ((n - k) * t) := by rw [ht, facn_split hk, Nat.mul_comm (n - k), Nat.mul_assoc]
  rw [e, show a * (facn (n - 1 - k) * ((n - k) * t)) + r = r + facn (n - 1 - k) * (a * ((n - k) * t)) by rw [Nat.mul_left_comm, Nat.add_comm], Nat.add_mul_div_left _ _ (facn_pos _), show a * ((n - k) * t) = (n - k) * (a * t) by rw [Nat.mul_left_comm], Nat.add_mul_mod_self_left]
theorem cdL_add {n a r : Nat} : cdL n (a * facn n + r) = cdL n r := by
  unfold cdL
  refine List.map_congr_left fun k hk => ?_
  rw [cdAt_add (by simpa using hk)]
theorem cdL_cons {n r : Nat} : cdL (n + 1) r = ((r / facn n % (n + 1) : Nat) : Int) :: cdL n r := by
  unfold cdL
  rw [List.range_succ_eq_map, List.map_cons, List.map_map]
  congr 1
  refine List.map_congr_left fun k hk => ?_
  simp only [Function.comp, cdAt]
  rw [show n + 1 - 1 - k.succ = n - 1 - k by omega, show n + 1 - k.succ = n - k by omega]
theorem cd_rk : ∀ {cs : List Int}, codeIn cs = true → cdL cs.length (rkN cs) = cs
  | [], _ => rfl
  | c :: cs, h => by
    rw [codeIn] at h
    simp only [Bool.and_eq_true, decide_eq_true_eq] at h
    have h1 := rkN_lt h.2
    rw [List.length_cons, cdL_cons, rkN, cdL_add, cd_rk h.2, Nat.mul_comm, Nat.mul_add_div (facn_pos _), Nat.div_eq_of_lt h1, Nat.add_zero, Nat.mod_eq_of_lt (by omega)]
    congr 1; omega
theorem rk_cd : ∀ {n r : Nat}, r < facn n → rkN (cdL n r) = r
  | 0, r, h => by simp [facn] at h; subst h; rfl
  | n + 1, r, h => by
    have h1 : cdL n r = cdL n (r % facn n) := by
      have := cdL_add (n := n) (a := r / facn n) (r := r % facn n)
      rw [Nat.mul_comm, Nat.div_add_mod] at this; exact this
    have h2 : r / facn n < n + 1 := by rw [Nat.div_lt_iff_lt_mul (facn_pos _)]; exact h
    rw [cdL_cons, rkN, cdL_len, Int.toNat_natCast, Nat.mod_eq_of_lt h2, h1, rk_cd (Nat.mod_lt _ (facn_pos _)), Nat.mul_comm, Nat.div_add_mod]
/-- A permutation at its rank. -/
theorem pa_rank {p : List Int} (h : isPermB p = true) : paOk p.length (rankGo (codeGo p)) = true ∧ paL p.length (rankGo (codeGo p)) = p := by
  obtain ⟨h8, hp⟩ : p.length ≤ 8 ∧ permB p = true := by simpa [isPermB] using h
  have h1 := rkN_lt (codeGo_in (p := p))
  have h2 := rkN_eq (codeGo_in (p := p))
  have hl := codeGo_length p
  rw [hl] at h1
  have hok : paOk p.length (rankGo (codeGo p)) = true := by
    have := facN_n p.length
    simp only [paOk, Int.toNat_natCast, Bool.and_eq_true, decide_eq_true_eq]; omega
  refine ⟨hok, ?_⟩
  have h3 := cd_rk (codeGo_in (p := p))
  rw [hl] at h3
  rw [paL, if_pos hok, h2, Int.toNat_natCast, Int.toNat_natCast, h3, poc_code idL_si (perm_id hp)]
/-- A permutation that was made at a rank. -/
theorem rank_pa {n r : Int} (h : paOk n r = true) : isPermB (paL n r) = true ∧ rankGo (codeGo (paL n r)) = r ∧ ((paL n r).length : Int) = n := by
  have h' := h
  simp only [paOk, Bool.and_eq_true, decide_eq_true_eq] at h'
  obtain ⟨⟨⟨h0, h8⟩, hr⟩, hf⟩ := h'
  have hin := cdL_in (n := n.toNat) (r := r.toNat)
  have hl := cdL_len (n := n.toNat) (r := r.toNat)
  have hp := id_permB (poc_perm hin (l := idL n.toNat) (by rw [hl, idL_len]))
  have hF := facN_n n.toNat
  rw [paL, if_pos h]
  refine ⟨?_, ?_, by omega⟩
  · simp only [isPermB, hp.1, Bool.and_true, decide_eq_true_eq]; omega
  · rw [code_poc idL_si hin (by rw [hl, idL_len]), rkN_eq hin, rk_cd (by omega)]; omega
/-! ### ranks are in the order of the lists -/
def lexI : List Int → List Int → Bool
  | a :: x, b :: y => decide (a < b) || (decide (a = b) && lexI x y)
  | _, _ => false
theorem si_lt {l : List Int} (h : SI l) {i j : Nat} (hij : i < j) (hj : j < l.length) : l.getD i 0 < l.getD j 0 := by
  unfold SI at h
  rw [List.pairwise_iff_getElem] at h
  have := h i j (by omega) hj hij
  rw [List.getD_eq_getElem?_getD, List.getD_eq_getElem?_getD, List.getElem?_eq_getElem (by omega), List.getElem?_eq_getElem hj]
  exact this
theorem lex_rank : ∀ {cs ds l : List Int}, SI l → codeIn cs = true → codeIn ds = true → l.length = cs.length → l.length = ds.length → rkN cs < rkN ds → lexI (pocGo cs l) (pocGo ds l) = true
  | [], [], _, _, _, _, _, _, h => absurd h (Nat.lt_irrefl _)
  | [], _ :: _, _, _, _, _, h1, h2, _ => by rw [h1] at h2; cases h2
  | _ :: _, [], _, _, _, _, h1, h2, _ => by rw [h1] at h2; cases h2
  | c :: cs, d :: ds, l, hs, hc, hd, hl, hm, h => by
    rw [codeIn] at hc hd
    simp only [Bool.and_eq_true, decide_eq_true_eq] at hc hd
    rw [List.length_cons] at hl hm
    have e : cs.length = ds.length := by omega
    have r1 := rkN_lt hc.2
    have r2 := rkN_lt hd.2
    rw [rkN, rkN, e] at h
    rw [e] at r1
    rw [pocGo, pocGo, lexI]
    rcases Nat.lt_trichotomy c.toNat d.toNat with g | g | g
    · rw [decide_eq_true (si_lt hs g (by omega))]; rfl
    · rw [g] at h ⊢
      have hk : d.toNat < l.length := by omega
      rw [decide_eq_true rfl, lex_rank (si_cut hs) hc.2 hd.2 (by rw [cut_len hk]; omega) (by rw [cut_len hk]; omega) (by omega), Bool.and_true, Bool.or_true]
    · have : (d.toNat + 1) * facn ds.length ≤ c.toNat * facn ds.length := Nat.mul_le_mul_right _ g
      rw [Nat.add_mul] at this; omega
/-! ### pairs out of order -/
/-- How many of a list's are above. -/
def gtC (v : Int) : List Int → Int
  | [] => 0
  | w :: l => bitI (decide (v < w)) + gtC v l
/-- Of the first places: how many lie behind a greater one. -/
def invN (p : List Int) : Nat → Int
  | 0 => 0
  | k + 1 => invN p k + gtC (p.getD k 0) (p.take k)
def sumI : List Int → Int
  | [] => 0
  | x :: l => x + sumI l
theorem invN_cons {v : Int} {p : List Int} : ∀ {k : Nat}, k ≤ p.length → invN (v :: p) (k + 1) = cntLt v (p.take k) + invN p k
  | 0, _ => by simp [invN, gtC, cntLt]
  | k + 1, h => by
    show invN (v :: p) (k + 1) + gtC ((v :: p).getD (k + 1) 0) ((v :: p).take (k + 1)) = cntLt v (p.take (k + 1)) + (invN p k + gtC (p.getD k 0) (p.take k))
    rw [invN_cons (k := k) (by omega), take_getD (l := p) (i := k) (d := 0) (by omega), cnt_app, List.getD_cons_succ, List.take_succ_cons, gtC, cntLt, cntLt]; omega
theorem inv_code : ∀ {p : List Int}, sumI (codeGo p) = invN p p.length
  | [] => rfl
  | v :: p => by rw [codeGo, sumI, inv_code, List.length_cons, invN_cons (Nat.le_refl _), List.take_length]
theorem gtC_snoc {v x : Int} : ∀ {l : List Int}, gtC v (l ++ [x]) = gtC v l + bitI (decide (v < x))
  | [] => by simp [gtC]
  | w :: l => by rw [List.cons_append, gtC, gtC, gtC_snoc]; omega
theorem gtC_r {v : Int} : ∀ {l : List Int}, 0 ≤ gtC v l ∧ gtC v l ≤ l.length
  | [] => by simp [gtC]
  | w :: l => by have := gtC_r (v := v) (l := l); have := bitI_r (decide (v < w)); rw [gtC, List.length_cons]; omega
theorem sumI_snoc {x : Int} : ∀ {l : List Int}, sumI (l ++ [x]) = sumI l + x
  | [] => by simp [sumI]
  | w :: l => by rw [List.cons_append, sumI, sumI, sumI_snoc]; omega
end Go.Gl
