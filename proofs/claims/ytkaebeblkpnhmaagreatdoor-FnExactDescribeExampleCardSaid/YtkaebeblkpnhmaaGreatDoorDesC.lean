/-
  A class told of: what the functions compute. Conditions: none.
-/
import Derived.Test.YtkaebeblkpnhmaaGreatDoorKnC
import Derived.Test.YtkaebeblkpnhmaaGreatDoorClo
import Derived.Test.YtkaebeblkpnhmaaGreatDoorSUp
import Derived.Test.YtkaebeblkpnhmaaGreatDoorItoa
set_option linter.unusedSimpArgs false
set_option linter.unusedVariables false
set_option maxRecDepth 20000
set_option linter.unusedSectionVars false
namespace Go.Gl
open Go Go.Proofs
variable [Amb]
variable [TabA]
def wFinite : List UInt8 := [102, 105, 110, 105, 116, 101]
def wSums : List UInt8 := [115, 117, 109, 115]
def desW (L : List (List Int)) : List (List UInt8) := [[99, 111, 117, 110, 116, 115], numT (ccR L 5), [107, 110, 111, 119, 110], knownR L 5, [119, 104, 111, 108, 101], numT (wholesB L 5), [115, 108, 111, 116, 115], fmtI (suB L 5)]
def desX (L : List (List Int)) : List (List UInt8) := desW L ++ (if finB L = true then [wFinite] else []) ++ (if scB L = true then [wSums] else [])
def desT (L : List (List Int)) : List UInt8 := if basisB L = true then Lib.join (desX L) [32] else []
theorem ccR_b {L : List (List Int)} {n : Int} : ∀ x ∈ ccR L n, -9223372036854775808 ≤ x ∧ x ≤ 9223372036854775807 := fun x hx => by
  unfold ccR at hx; split at hx
  · obtain ⟨k, hk, rfl⟩ := List.mem_map.1 hx
    have := cls_b (L := L) (k := k) (by rw [List.mem_range] at hk; omega)
    omega
  · simp at hx
theorem wh_b {L : List (List Int)} {n : Int} : ∀ x ∈ wholesB L n, -9223372036854775808 ≤ x ∧ x ≤ 9223372036854775807 := fun x hx => by
  unfold wholesB at hx; split at hx
  · obtain ⟨k, hk, rfl⟩ := List.mem_map.1 hx
    have h1 := class_len (L := L) (n := k) (by rw [List.mem_range] at hk; omega)
    have h2 := List.length_filter_le (fun p => decide (partN p = 1)) (classL L k)
    unfold wholeN; omega
  · simp at hx
theorem su_b {L : List (List Int)} {n : Int} : -1 ≤ suB L n ∧ suB L n ≤ 8 := by
  unfold suB; split
  · have := suN_r (L := L) (m := n.toNat + 1); omega
  · omega
theorem knW_len {k : Nat} : (knW k).length ≤ 9 := by
  unfold knW; split <;> decide
theorem kn_len {L : List (List Int)} {n : Int} : (knownR L n).length ≤ 9 := by
  unfold knownR knN
  repeat' split
  all_goals first | exact knW_len | decide
theorem cc5 {L : List (List Int)} (h : basisB L = true) : (ccR L 5).length = 6 := by rw [ccR, if_pos ⟨h, by omega⟩]; rfl
theorem wh5 {L : List (List Int)} (h : basisB L = true) : (wholesB L 5).length = 6 := by rw [wholesB, if_pos ⟨h, by omega⟩]; rfl
theorem num_ne {l : List Int} (h : l.length = 6) : numT l = Lib.join (fmtL l) [44] := by rw [numT, if_neg (by rintro rfl; simp at h)]
theorem desX_b {L : List (List Int)} (h : basisB L = true) : ∀ x ∈ desX L, x.length ≤ 200 := fun x hx => by
  have h1 := numT_len (ccR_b (L := L) (n := 5))
  have h2 := numT_len (wh_b (L := L) (n := 5))
  have h3 := kn_len (L := L) (n := 5)
  have h4 := fmtI_len (n := suB L 5) (by have := su_b (L := L) (n := 5); omega) (by have := su_b (L := L) (n := 5); omega)
  rw [cc5 h] at h1
  rw [wh5 h] at h2
  simp only [desX, desW, List.mem_append, List.mem_cons, List.not_mem_nil, or_false] at hx
  rcases hx with (hx | hx) | hx
  · rcases hx with rfl | rfl | rfl | rfl | rfl | rfl | rfl | rfl <;> first | omega | (simp; done)
  · split at hx <;> simp at hx; subst hx; decide
  · split at hx <;> simp at hx; subst hx; decide
theorem desX_len {L : List (List Int)} (h : basisB L = true) : (Lib.join (desX L) [32]).length ≤ 4000 := by
  have := join_len_le (sep := [32]) (desX_b h)
  have e : (desX L).length ≤ 10 := by unfold desX desW; repeat' split
                                      all_goals simp
  simp at this
  omega
theorem impl_DescribeClass_c {e0 m0 : Bool} (L : List (List Int)) (hL : L.length ≤ 1048576) (hl : ∀ l ∈ L, l.length ≤ 1048576) : Fun Tryz.prog 9 [(.sl (.lent m0) (List.map (elI e0) (L)))] [(.str (desT L))] := by
  by_cases hb : basisB L = true
  · have e0 : desT L = Lib.join (desX L) [32] := if_pos hb
    have b0 := desX_len hb
    have b1 := ccR_b (L := L) (n := 5)
    have b2 := wh_b (L := L) (n := 5)
    have b3 := su_b (L := L) (n := 5)
    have b4 := cc5 hb
    have b5 := wh5 hb
    rw [e0]
    obtain ⟨W, hW⟩ : ∃ W, desW L = W := ⟨_, rfl⟩
    have hn : W.length = 8 := by rw [← hW]; rfl
    have hw : [PV.str [99, 111, 117, 110, 116, 115], PV.str (numT (ccR L 5)), PV.str [107, 110, 111, 119, 110], PV.str (knownR L 5), PV.str [119, 104, 111, 108, 101], PV.str (numT (wholesB L 5)), PV.str [115, 108, 111, 116, 115], PV.str (fmtI (suB L 5))] = List.map PV.str W := by rw [← hW]; rfl
    have hf : ([102, 105, 110, 105, 116, 101] : List UInt8) = wFinite := rfl
    have hs : ([115, 117, 109, 115] : List UInt8) = wSums := rfl
    have n1 : ∀ x : List UInt8, (W ++ [x]).length = 9 := fun x => by rw [List.length_append, hn]; rfl
    have n3 : ∀ x y : List UInt8, (W ++ [x] ++ [y]).length = 10 := fun x y => by rw [List.length_append, n1]; rfl
    have k1 : ∀ x : List UInt8, List.take 9 (W ++ [x]) = W ++ [x] := fun x => List.take_of_length_le (by rw [n1]; omega)
    have k8 : List.take 8 W = W := List.take_of_length_le (by omega)
    have n4 : ∀ x y : List UInt8, (W ++ [x, y]).length = 10 := fun x y => by rw [List.length_append, hn]; rfl
    have k4 : ∀ x y : List UInt8, List.take 10 (W ++ [x, y]) = W ++ [x, y] := fun x y => List.take_of_length_le (by rw [n4]; omega)
    have k3 : ∀ x y : List UInt8, List.take 10 (W ++ [x] ++ [y]) = W ++ [x] ++ [y] := fun x y => List.take_of_length_le (by rw [n3]; omega)
    rw [desX, hW] at b0 ⊢
    by_cases h1 : finB L = true
    · by_cases h2 : scB L = true
      · rw [if_pos h1, if_pos h2] at b0 ⊢
        simp only [List.append_nil, List.append_assoc, List.cons_append, List.nil_append] at b0 ⊢
        refine fO sg0 [2] Tryz.func9 ?_
        have cE1 := @impl_IsBasis_c; have cE2 := @impl_ClassCounts_c; have cE3 := @impl_NumbersText_c; have cE4 := @impl_KnownCounts_c; have cE5 := @impl_WholeCounts_c; have cE6 := @impl_SlotsUpTo_c
        have cE7 := @impl_FormatInt_c; have cE8 := @impl_IsFinite_c; have cE9 := @impl_IsSumClosed_c; have cE10 := @strings_Join_c
        refine dEa (And.intro @hb (And.intro @h1 (And.intro @h2 (And.intro @hw (And.intro @hn (And.intro @hf (And.intro @hs (And.intro @n1 (And.intro @n3 (And.intro @n4 (And.intro @k1 (And.intro @k3 (And.intro @k4 @k8))))))))))))) ?_
        all_goals try (refine zlf ?_; repeat' first | exact zso | refine And.intro ?_ ?_ | (refine zim ?_; intro zb hc) | (refine zin ?_; intro zb) | intro j')
        all_goals try refine zbx ?_
        all_goals trace_state
      · rw [Bool.not_eq_true] at h2
        rw [if_pos h1, if_neg (by rw [h2]; decide)] at b0 ⊢
        simp only [List.append_nil, List.append_assoc, List.cons_append, List.nil_append] at b0 ⊢
        refine fO sg0 [2] Tryz.func9 ?_
        have cE1 := @impl_IsBasis_c; have cE2 := @impl_ClassCounts_c; have cE3 := @impl_NumbersText_c; have cE4 := @impl_KnownCounts_c; have cE5 := @impl_WholeCounts_c; have cE6 := @impl_SlotsUpTo_c
        have cE7 := @impl_FormatInt_c; have cE8 := @impl_IsFinite_c; have cE9 := @impl_IsSumClosed_c; have cE10 := @strings_Join_c
        refine dEa (And.intro @hb (And.intro @h1 (And.intro @h2 (And.intro @hw (And.intro @hn (And.intro @hf (And.intro @hs (And.intro @n1 (And.intro @n3 (And.intro @n4 (And.intro @k1 (And.intro @k3 (And.intro @k4 @k8))))))))))))) ?_
        all_goals try (refine zlf ?_; repeat' first | exact zso | refine And.intro ?_ ?_ | (refine zim ?_; intro zb hc) | (refine zin ?_; intro zb) | intro j')
        all_goals try refine zbx ?_
        all_goals trace_state
    · rw [Bool.not_eq_true] at h1
      by_cases h2 : scB L = true
      · rw [if_neg (by rw [h1]; decide), if_pos h2] at b0 ⊢
        simp only [List.append_nil, List.append_assoc, List.cons_append, List.nil_append] at b0 ⊢
        refine fO sg0 [2] Tryz.func9 ?_
        have cE1 := @impl_IsBasis_c; have cE2 := @impl_ClassCounts_c; have cE3 := @impl_NumbersText_c; have cE4 := @impl_KnownCounts_c; have cE5 := @impl_WholeCounts_c; have cE6 := @impl_SlotsUpTo_c
        have cE7 := @impl_FormatInt_c; have cE8 := @impl_IsFinite_c; have cE9 := @impl_IsSumClosed_c; have cE10 := @strings_Join_c
        refine dEa (And.intro @hb (And.intro @h1 (And.intro @h2 (And.intro @hw (And.intro @hn (And.intro @hf (And.intro @hs (And.intro @n1 (And.intro @n3 (And.intro @n4 (And.intro @k1 (And.intro @k3 (And.intro @k4 @k8))))))))))))) ?_
        all_goals try (refine zlf ?_; repeat' first | exact zso | refine And.intro ?_ ?_ | (refine zim ?_; intro zb hc) | (refine zin ?_; intro zb) | intro j')
        all_goals try refine zbx ?_
        all_goals trace_state
      · rw [Bool.not_eq_true] at h2
        rw [if_neg (by rw [h1]; decide), if_neg (by rw [h2]; decide)] at b0 ⊢
        simp only [List.append_nil, List.append_assoc, List.cons_append, List.nil_append] at b0 ⊢
        refine fO sg0 [2] Tryz.func9 ?_
        have cE1 := @impl_IsBasis_c; have cE2 := @impl_ClassCounts_c; have cE3 := @impl_NumbersText_c; have cE4 := @impl_KnownCounts_c; have cE5 := @impl_WholeCounts_c; have cE6 := @impl_SlotsUpTo_c
        have cE7 := @impl_FormatInt_c; have cE8 := @impl_IsFinite_c; have cE9 := @impl_IsSumClosed_c; have cE10 := @strings_Join_c
        refine dEa (And.intro @hb (And.intro @h1 (And.intro @h2 (And.intro @hw (And.intro @hn (And.intro @hf (And.intro @hs (And.intro @n1 (And.intro @n3 (And.intro @n4 (And.intro @k1 (And.intro @k3 (And.intro @k4 @k8))))))))))))) ?_
        all_goals try (refine zlf ?_; repeat' first | exact zso | refine And.intro ?_ ?_ | (refine zim ?_; intro zb hc) | (refine zin ?_; intro zb) | intro j')
        all_goals try refine zbx ?_
        all_goals trace_state
  · rw [Bool.not_eq_true] at hb
    rw [show desT L = [] from if_neg (by rw [hb]; decide)]
    refine fO sg0 [2] Tryz.func9 ?_
    have cE1 := @impl_IsBasis_c; have cE2 := @impl_ClassCounts_c; have cE3 := @impl_NumbersText_c; have cE4 := @impl_KnownCounts_c; have cE5 := @impl_WholeCounts_c; have cE6 := @impl_SlotsUpTo_c
    have cE7 := @impl_FormatInt_c; have cE8 := @impl_IsFinite_c; have cE9 := @impl_IsSumClosed_c; have cE10 := @strings_Join_c
    refine dEa @hb ?_
    all_goals try (refine zlf ?_; repeat' first | exact zso | refine And.intro ?_ ?_ | (refine zim ?_; intro zb hc) | (refine zin ?_; intro zb) | intro j')
    all_goals try refine zbx ?_
theorem spec_DescribeClass_c {e0 m0 : Bool} (L : List (List Int)) (hL : L.length ≤ 1048576) (hl : ∀ l ∈ L, l.length ≤ 1048576) : Fun Tryz.prog 7 [(.sl (.lent m0) (List.map (elI e0) (L)))] [(.str (desT L))] := by
  by_cases hb : basisB L = true
  · have e0 : desT L = Lib.join (desX L) [32] := if_pos hb
    have b0 := desX_len hb
    have b1 := ccR_b (L := L) (n := 5)
    have b2 := wh_b (L := L) (n := 5)
    have b3 := su_b (L := L) (n := 5)
    have b4 := cc5 hb
    have b5 := wh5 hb
    have g1 := fmtL_len b1
    have g2 := fmtL_len b2
    have g3 := kn_len (L := L) (n := 5)
    have g4 := fmtI_len (n := suB L 5) (by omega) (by omega)
    rw [e0]
    refine fO sg0 [2] Tryz.func7 ?_
    have cE1 := @spec_IsBasis_c; have cE2 := @spec_ClassCounts_c; have cE3 := @spec_l35Text_c; have cE4 := @spec_KnownCounts_c; have cE5 := @spec_WholeCounts_c; have cE6 := @spec_SlotsUpTo_c
    have cE7 := @spec_FormatInt_c; have cE8 := @spec_IsFinite_c; have cE9 := @spec_IsSumClosed_c
    refine dEa @hb ?_
    all_goals try (refine zlf ?_; repeat' first | exact zso | refine And.intro ?_ ?_ | (refine zim ?_; intro zb hc; repeat (have zc := zb.1; replace zb := zb.2)) | (refine zin ?_; intro zb) | intro j')
    all_goals try refine zbx ?_
    all_goals have zf : finB L = true ∨ finB L = false := by cases finB L <;> simp
    all_goals (rw [desX, desW, num_ne b4, num_ne b5])
    all_goals simp only [*, if_true, if_false, Bool.false_eq_true, List.cons_append, List.nil_append, List.append_nil, Lib.join_cons, Lib.joinTail, List.flatMap_cons, List.flatMap_nil, List.append_assoc, wFinite, wSums]
    all_goals first | rfl | (simp; done) | trace_state
  · rw [Bool.not_eq_true] at hb
    rw [show desT L = [] from if_neg (by rw [hb]; decide)]
    refine fO sg0 [2] Tryz.func7 ?_
    have cE1 := @spec_IsBasis_c; have cE2 := @spec_ClassCounts_c; have cE3 := @spec_l35Text_c; have cE4 := @spec_KnownCounts_c; have cE5 := @spec_WholeCounts_c; have cE6 := @spec_SlotsUpTo_c
    have cE7 := @spec_FormatInt_c; have cE8 := @spec_IsFinite_c; have cE9 := @spec_IsSumClosed_c
    refine dEa @hb ?_
    all_goals try (refine zlf ?_; repeat' first | exact zso | refine And.intro ?_ ?_ | (refine zim ?_; intro zb hc; repeat (have zc := zb.1; replace zb := zb.2)) | (refine zin ?_; intro zb) | intro j')
    all_goals try refine zbx ?_
end Go.Gl
