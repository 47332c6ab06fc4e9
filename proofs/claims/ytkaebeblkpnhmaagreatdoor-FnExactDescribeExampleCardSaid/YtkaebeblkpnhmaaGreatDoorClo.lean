/-
  Finite classes, and classes with all sums: what their functions compute. Conditions: none.
-/
import Derived.Test.YtkaebeblkpnhmaaGreatDoorCloS
import Derived.Test.YtkaebeblkpnhmaaGreatDoorSrd
import Derived.Test.YtkaebeblkpnhmaaGreatDoorIdn
import Derived.Test.YtkaebeblkpnhmaaGreatDoorRev
import Derived.Test.YtkaebeblkpnhmaaGreatDoorSess
set_option linter.unusedSimpArgs false
set_option linter.unusedVariables false
set_option maxRecDepth 20000
set_option linter.unusedSectionVars false
namespace Go.Gl
open Go Go.Proofs
variable [Amb]
theorem basis_perm {L : List (List Int)} (h : basisB L = true) : ∀ q ∈ L, isPermB q = true := fun q hq => by
  obtain ⟨i, hi, rfl⟩ := List.getElem_of_mem hq
  simp only [basisB, Bool.and_eq_true] at h
  have h1 := basK_perm h.2 hi
  rwa [List.getD_eq_getElem?_getD, List.getElem?_eq_getElem hi] at h1
def upB (p : List Int) : Bool := decide (p = idL p.length)
def dnB (p : List Int) : Bool := decide (p.reverse = idL p.length)
theorem idL_at {n i : Nat} (h : i < n) : (idL n).getD i 0 = (i : Int) + 1 := by
  rw [List.getD_eq_getElem?_getD, idL, List.getElem?_map, List.getElem?_range h]; rfl
theorem srt_up {p : List Int} (hp : permB p = true) : srtB p = upB p := by
  obtain ⟨h1, h2⟩ := permB_iff.1 hp
  rw [Bool.eq_iff_iff, srtB_iff, upB, decide_eq_true_iff]
  constructor
  · intro hs
    have lt : ∀ i, i + 1 < p.length → p.getD i 0 < p.getD (i + 1) 0 := fun i hi => by
      have a := hs (i + 1) hi (by omega)
      rw [Nat.add_sub_cancel] at a
      have b : p.getD i 0 ≠ p.getD (i + 1) 0 := fun e => by have := perm_inj hp (by omega) hi e; omega
      omega
    have lo : ∀ i, i < p.length → (i : Int) + 1 ≤ p.getD i 0 := fun i => by
      induction i with
      | zero => intro hi; have := (h1 _ (getD_mem (d := 0) hi)).1; omega
      | succ i ih => intro hi; have := ih (by omega); have := lt i hi; omega
    have hi : ∀ d i, i + d + 1 = p.length → p.getD i 0 ≤ (i : Int) + 1 := fun d => by
      induction d with
      | zero => intro i h; have := (h1 _ (getD_mem (d := 0) (show i < p.length by omega))).2; omega
      | succ d ih => intro i h; have := ih (i + 1) (by omega); have := lt i (by omega); omega
    refine List.ext_getElem (by rw [idL_len]) fun i a b => ?_
    have x1 := lo i a
    have x2 := hi (p.length - i - 1) i (by omega)
    have x3 := idL_at a
    rw [List.getD_eq_getElem?_getD, List.getElem?_eq_getElem a] at x1 x2
    rw [List.getD_eq_getElem?_getD, List.getElem?_eq_getElem b] at x3
    simp at x1 x2 x3; omega
  · intro e i h3 h4
    have x1 := idL_at (n := p.length) (i := i - 1) (by omega)
    have x2 := idL_at (n := p.length) (i := i) h3
    rw [← e] at x1 x2; omega
def finB (L : List (List Int)) : Bool := basisB L && L.any upB && L.any dnB
theorem impl_isRising_c {m0 : Bool} (p : List Int) (hp : isPermB p = true) : Fun Tryz.prog 78 [(.sl (.lent m0) (List.map (PV.int .i64) (p)))] [(.bool (upB p))] := by
  refine fO sg0 [2] Tryz.func78 ?_
  have cE1 := @slices_IsSorted_int_int_c
  obtain ⟨h8, hq⟩ : p.length ≤ 8 ∧ permB p = true := by simpa [isPermB] using hp
  refine dEa trivial ?_
  all_goals try (refine zlf ?_; repeat' first | exact zso | refine And.intro ?_ ?_ | (refine zim ?_; intro zb hc) | (refine zin ?_; intro zb) | intro j')
  all_goals try refine zbx ?_
  all_goals exact srt_up hq
theorem dn_dec {p : List Int} : decide (p = (idL p.length).reverse) = dnB p := by
  rw [dnB, decide_eq_decide]
  exact ⟨fun h => by rw [h, List.reverse_reverse, List.length_reverse, idL_len], fun h => by rw [← h, List.reverse_reverse]⟩
theorem impl_isFalling_c {m0 : Bool} (p : List Int) (hp : isPermB p = true) : Fun Tryz.prog 79 [(.sl (.lent m0) (List.map (PV.int .i64) (p)))] [(.bool (dnB p))] := by
  refine fO sg0 [2] Tryz.func79 ?_
  have cE1 := @impl_identity_c; have cE2 := @impl_reverse_c; have cE3 := @slices_Equal_int_int_c
  obtain ⟨h8, hq⟩ : p.length ≤ 8 ∧ permB p = true := by simpa [isPermB] using hp
  have e1 : (idL p.length).length = p.length := idL_len
  have e2 : (idL p.length).reverse.length = p.length := by rw [List.length_reverse, idL_len]
  have e3 : List.take p.length (idL p.length) = idL p.length := List.take_of_length_le (by omega)
  have e4 : List.take p.length (idL p.length).reverse = (idL p.length).reverse := List.take_of_length_le (by omega)
  refine dEa (And.intro @e1 (And.intro @e2 (And.intro @e3 @e4))) ?_
  all_goals try (refine zlf ?_; repeat' first | exact zso | refine And.intro ?_ ?_ | (refine zim ?_; intro zb hc) | (refine zin ?_; intro zb) | intro j')
  all_goals try refine zbx ?_
  all_goals exact dn_dec
theorem impl_IsFinite_c {e0 m0 : Bool} (L : List (List Int)) (hL : L.length ≤ 1048576) (hl : ∀ l ∈ L, l.length ≤ 1048576) : Fun Tryz.prog 39 [(.sl (.lent m0) (List.map (elI e0) (L)))] [(.bool (finB L))] := by
  by_cases hb : basisB L = true
  · have hp := basis_perm hb
    have c1 := slices_ContainsFunc_LLint_int_c (e0 := e0) (m0 := m0) L 78 [] upB (by omega) (fun q hq => impl_isRising_c (m0 := e0) q (hp q hq))
    have c2 := slices_ContainsFunc_LLint_int_c (e0 := e0) (m0 := m0) L 79 [] dnB (by omega) (fun q hq => impl_isFalling_c (m0 := e0) q (hp q hq))
    have e : finB L = (L.any upB && L.any dnB) := by rw [finB, hb, Bool.true_and]
    rw [e]
    refine fO sg0 [2] Tryz.func39 ?_
    have cE1 := @impl_IsBasis_c; have cE2 := @slices_ContainsFunc_LLint_int_c; have cE3 := @impl_isRising_c; have cE4 := @impl_isFalling_c
    have cE1 := @c1; have cE2 := @c2; have cE3 := @impl_IsBasis_c; have cE4 := @slices_ContainsFunc_LLint_int_c; have cE5 := @impl_isRising_c; have cE6 := @impl_isFalling_c
    refine dEa @hb ?_
    all_goals try (refine zlf ?_; repeat' first | exact zso | refine And.intro ?_ ?_ | (refine zim ?_; intro zb hc) | (refine zin ?_; intro zb) | intro j')
    all_goals try refine zbx ?_
    all_goals simp [hc]
  · rw [Bool.not_eq_true] at hb
    have e : finB L = false := by rw [finB, hb]; rfl
    rw [e]
    refine fO sg0 [2] Tryz.func39 ?_
    have cE1 := @impl_IsBasis_c; have cE2 := @slices_ContainsFunc_LLint_int_c; have cE3 := @impl_isRising_c; have cE4 := @impl_isFalling_c
    refine dEa @hb ?_
    all_goals try (refine zlf ?_; repeat' first | exact zso | refine And.intro ?_ ?_ | (refine zim ?_; intro zb hc) | (refine zin ?_; intro zb) | intro j')
    all_goals try refine zbx ?_
theorem spec_l13Straight_c {m0 : Bool} (p : List Int) (hp : p.length ≤ 8) : Fun Tryz.prog 61 [(.sl (.lent m0) (List.map (PV.int .i64) (p)))] [(.bool (upB p))] := by
  refine fO sg0 [2] Tryz.func61 ?_
  have cE1 := @spec_IdentityPerm_c; have cE2 := @spec_l2Same_c
  have e1 : (idL p.length).length = p.length := idL_len
  have e3 : List.take p.length (idL p.length) = idL p.length := List.take_of_length_le (by omega)
  refine dEa (And.intro @e1 @e3) ?_
  all_goals try (refine zlf ?_; repeat' first | exact zso | refine And.intro ?_ ?_ | (refine zim ?_; intro zb hc) | (refine zin ?_; intro zb) | intro j')
  all_goals try refine zbx ?_
  all_goals rfl
theorem spec_IsFinite_c {e0 m0 : Bool} (L : List (List Int)) (hL : L.length ≤ 1048576) (hl : ∀ l ∈ L, l.length ≤ 1048576) : Fun Tryz.prog 29 [(.sl (.lent m0) (List.map (elI e0) (L)))] [(.bool (finB L))] := by
  by_cases hb : basisB L = true
  · have hp := basis_row hb
    have e : finB L = (L.any upB && L.any dnB) := by rw [finB, hb, Bool.true_and]
    have dn : ∀ q : List Int, upB q.reverse = dnB q := fun q => by rw [upB, dnB, List.length_reverse]
    rw [e]
    refine fO sg0 [2] Tryz.func29 ?_
    have cE1 := @spec_IsBasis_c; have cE2 := @spec_l13Straight_c; have cE3 := @spec_l3Reverse_c
    refine dEa @hb ?_
    all_goals try (refine zlf ?_; repeat' first | exact zso | refine And.intro ?_ ?_ | (refine zim ?_; intro zb hc; repeat (have zc := zb.1; replace zb := zb.2)) | (refine zin ?_; intro zb) | intro j')
    all_goals try refine zbx ?_
    refine v_loopB (fun ms1 S1 => ∃ (k : Nat), S1.e 0 = .p (.sl (.lent m0) (List.map (elI e0) (L))) ∧ S1.e 3 = .p (.bool ((L.take k).any upB)) ∧ S1.e 4 = .p (.bool ((L.take k).any dnB)) ∧ S1.e 5 = .p (.int .i64 (k)) ∧ (k ≤ L.length) ∧ ms1 = L.length - k) ((fun (k : Nat) => L.length - k) (0)) ?_ ⟨0, dC trivial ?_⟩
    all_goals try (refine zlf ?_; repeat' first | exact zso | refine And.intro ?_ ?_ | (refine zim ?_; intro zb hc; repeat (have zc := zb.1; replace zb := zb.2)) | (refine zin ?_; intro zb) | intro j')
    all_goals try refine zbx ?_
    rintro ms1 S1 ⟨k, h1_0, h1_3, h1_4, h1_5, c1_0, hm1⟩
    have fL1 := (And.intro h1_0 (And.intro h1_3 (And.intro h1_4 h1_5)))
    by_cases hk : k < L.length
    · have g1 := hp _ (getD_mem (d := []) hk)
      have g2 : (L.getD k []).reverse.length ≤ 8 := by rw [List.length_reverse]; exact g1
      have t1 : (L.take (k + 1)).any upB = ((L.take k).any upB || upB (L.getD k [])) := by rw [take_getD (d := []) hk, List.any_append]; simp
      have t2 : (L.take (k + 1)).any dnB = ((L.take k).any dnB || dnB (L.getD k [])) := by rw [take_getD (d := []) hk, List.any_append]; simp
      refine dEa (And.intro fL1 (And.intro @hb @dn)) ?_
      all_goals try (refine zlf ?_; repeat' first | exact zso | refine And.intro ?_ ?_ | (refine zim ?_; intro zb hc; repeat (have zc := zb.1; replace zb := zb.2)) | (refine zin ?_; intro zb) | intro j')
      all_goals try refine zbx ?_
      · focus
          refine q_lp_n ((fun (k : Nat) => L.length - k) (k+1)) (dC fL1 ?_) ⟨k+1, dC fL1 ?_⟩
          all_goals try (refine zlf ?_; repeat' first | exact zso | refine And.intro ?_ ?_ | (refine zim ?_; intro zb hc; repeat (have zc := zb.1; replace zb := zb.2)) | (refine zin ?_; intro zb) | intro j')
          all_goals try refine zbx ?_
        all_goals simp_all
      · focus
          refine q_lp_n ((fun (k : Nat) => L.length - k) (k+1)) (dC fL1 ?_) ⟨k+1, dC fL1 ?_⟩
          all_goals try (refine zlf ?_; repeat' first | exact zso | refine And.intro ?_ ?_ | (refine zim ?_; intro zb hc; repeat (have zc := zb.1; replace zb := zb.2)) | (refine zin ?_; intro zb) | intro j')
          all_goals try refine zbx ?_
        all_goals simp_all
      · focus
          refine q_lp_n ((fun (k : Nat) => L.length - k) (k+1)) (dC fL1 ?_) ⟨k+1, dC fL1 ?_⟩
          all_goals try (refine zlf ?_; repeat' first | exact zso | refine And.intro ?_ ?_ | (refine zim ?_; intro zb hc; repeat (have zc := zb.1; replace zb := zb.2)) | (refine zin ?_; intro zb) | intro j')
          all_goals try refine zbx ?_
        all_goals simp_all
      · focus
          refine q_lp_n ((fun (k : Nat) => L.length - k) (k+1)) (dC fL1 ?_) ⟨k+1, dC fL1 ?_⟩
          all_goals try (refine zlf ?_; repeat' first | exact zso | refine And.intro ?_ ?_ | (refine zim ?_; intro zb hc; repeat (have zc := zb.1; replace zb := zb.2)) | (refine zin ?_; intro zb) | intro j')
          all_goals try refine zbx ?_
        all_goals simp_all
    · obtain rfl : k = L.length := by omega
      refine dEa fL1 ?_
      all_goals try (refine zlf ?_; repeat' first | exact zso | refine And.intro ?_ ?_ | (refine zim ?_; intro zb hc; repeat (have zc := zb.1; replace zb := zb.2)) | (refine zin ?_; intro zb) | intro j')
      all_goals try refine zbx ?_
  · rw [Bool.not_eq_true] at hb
    have e : finB L = false := by rw [finB, hb]; rfl
    rw [e]
    refine fO sg0 [2] Tryz.func29 ?_
    have cE1 := @spec_IsBasis_c; have cE2 := @spec_l13Straight_c; have cE3 := @spec_l3Reverse_c
    refine dEa @hb ?_
    all_goals try (refine zlf ?_; repeat' first | exact zso | refine And.intro ?_ ?_ | (refine zim ?_; intro zb hc; repeat (have zc := zb.1; replace zb := zb.2)) | (refine zin ?_; intro zb) | intro j')
    all_goals try refine zbx ?_
    refine v_loopB (fun ms1 S1 => ∃ (k : Nat), S1.e 0 = .p (.sl (.lent m0) (List.map (elI e0) (L))) ∧ S1.e 3 = .p (.bool (false)) ∧ S1.e 4 = .p (.bool (false)) ∧ S1.e 5 = .p (.int .i64 (0)) ∧ (k = 0) ∧ ms1 = 1 - k) ((fun (k : Nat) => 1 - k) (0)) ?_ ⟨0, dIa trivial ?_⟩
    all_goals try (refine zlf ?_; repeat' first | exact zso | refine And.intro ?_ ?_ | (refine zim ?_; intro zb hc; repeat (have zc := zb.1; replace zb := zb.2)) | (refine zin ?_; intro zb) | intro j')
    all_goals try refine zbx ?_
    rintro ms1 S1 ⟨k, h1_0, h1_3, h1_4, h1_5, c1_0, hm1⟩
    have fL1 := (And.intro h1_0 (And.intro h1_3 (And.intro h1_4 h1_5)))
    refine dEa (And.intro fL1 @hb) ?_
    all_goals try (refine zlf ?_; repeat' first | exact zso | refine And.intro ?_ ?_ | (refine zim ?_; intro zb hc; repeat (have zc := zb.1; replace zb := zb.2)) | (refine zin ?_; intro zb) | intro j')
    all_goals try refine zbx ?_
theorem impl_IsSumClosed_1_c {m0 : Bool} (p : List Int) (hp : isPermB p = true) : Fun Tryz.prog 80 [(.sl (.lent m0) (List.map (PV.int .i64) (p)))] [(.bool (decide ((1 : Int) < (partN p : Int))))] := by
  refine fO sg0 [2] Tryz.func80 ?_
  have cE1 := @impl_sumParts_c
  have h8 := (isPerm_facts hp).1
  have h9 := perm_b8 hp
  have b6 : (spG shI p p.length).1.length = partN p := rfl
  refine dEa @b6 ?_
  all_goals try (refine zlf ?_; repeat' first | exact zso | refine And.intro ?_ ?_ | (refine zim ?_; intro zb hc) | (refine zin ?_; intro zb) | intro j')
  all_goals try refine zbx ?_
theorem sc_any {L : List (List Int)} (hb : basisB L = true) : (!L.any fun q => decide ((1 : Int) < (partN q : Int))) = scB L := by
  have hp := basis_perm hb
  rw [scB, hb, Bool.true_and, Bool.eq_iff_iff, Bool.not_eq_true', List.any_eq_false, List.all_eq_true]
  refine forall_congr' fun q => ?_
  constructor
  · intro h hq; have := h hq; rw [hp q hq]; simp at this ⊢; omega
  · intro h hq; have := h hq; rw [hp q hq] at this; simp at this ⊢; omega
theorem impl_IsSumClosed_c {e0 m0 : Bool} (L : List (List Int)) (hL : L.length ≤ 1048576) (hl : ∀ l ∈ L, l.length ≤ 1048576) : Fun Tryz.prog 40 [(.sl (.lent m0) (List.map (elI e0) (L)))] [(.bool (scB L))] := by
  by_cases hb : basisB L = true
  · have hp := basis_perm hb
    have c1 := slices_ContainsFunc_LLint_int_c (e0 := e0) (m0 := m0) L 80 [] (fun q => decide ((1 : Int) < (partN q : Int))) (by omega) (fun q hq => impl_IsSumClosed_1_c (m0 := e0) q (hp q hq))
    rw [← sc_any hb]
    refine fO sg0 [2] Tryz.func40 ?_
    have cE1 := @impl_IsBasis_c; have cE2 := @slices_ContainsFunc_LLint_int_c; have cE3 := @impl_IsSumClosed_1_c
    have cE1 := @c1; have cE2 := @impl_IsBasis_c; have cE3 := @slices_ContainsFunc_LLint_int_c; have cE4 := @impl_IsSumClosed_1_c
    refine dEa @hb ?_
    all_goals try (refine zlf ?_; repeat' first | exact zso | refine And.intro ?_ ?_ | (refine zim ?_; intro zb hc) | (refine zin ?_; intro zb) | intro j')
    all_goals try refine zbx ?_
  · rw [Bool.not_eq_true] at hb
    have e : scB L = false := by rw [scB, hb]; rfl
    rw [e]
    refine fO sg0 [2] Tryz.func40 ?_
    have cE1 := @impl_IsBasis_c; have cE2 := @slices_ContainsFunc_LLint_int_c; have cE3 := @impl_IsSumClosed_1_c
    refine dEa @hb ?_
    all_goals try (refine zlf ?_; repeat' first | exact zso | refine And.intro ?_ ?_ | (refine zim ?_; intro zb hc) | (refine zin ?_; intro zb) | intro j')
    all_goals try refine zbx ?_
end Go.Gl
