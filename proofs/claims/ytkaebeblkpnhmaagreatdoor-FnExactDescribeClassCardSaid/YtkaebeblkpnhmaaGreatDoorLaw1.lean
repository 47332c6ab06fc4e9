/-
  The helpers of the laws for slices of slices. Conditions: none.
-/
import Derived.Test.YtkaebeblkpnhmaaGreatDoorLaw0
set_option linter.unusedSimpArgs false
set_option linter.unusedVariables false
set_option maxRecDepth 20000
set_option linter.unusedSectionVars false
namespace Go.Gl
open Go Go.Proofs
variable [Amb]
def szGo : Int → List (List Int) → Int
  | left, [] => left
  | left, l :: L => if left - l.length < 0 then -1 else szGo (left - l.length) L
def szSS (L : List (List Int)) (left : Int) : Int := if left - L.length < 0 then -1 else szGo (left - L.length) L
theorem szGo_all : ∀ {L : List (List Int)} {left : Int}, 0 ≤ szGo left L → ∀ l ∈ L, (l.length : Int) ≤ left
  | [], _, _, l, h => by simp at h
  | m :: L, left, h, l, hl => by
    simp only [szGo] at h
    split at h
    · omega
    · rcases List.mem_cons.1 hl with rfl | hl
      · omega
      · have := szGo_all h l hl; omega
theorem szSS_all {L : List (List Int)} {left : Int} (h : 0 ≤ szSS L left) : (L.length : Int) ≤ left ∧ ∀ l ∈ L, (l.length : Int) ≤ left := by
  unfold szSS at h
  split at h
  · omega
  · refine ⟨by omega, fun l hl => ?_⟩
    have := szGo_all h l hl; omega
theorem dropL_at {α : Type} {l : List (List α)} {i : Nat} (h : i < l.length) : l.drop i = l.getD i [] :: l.drop (i + 1) := by
  rw [List.drop_eq_getElem_cons h, List.getD_eq_getElem?_getD, List.getElem?_eq_getElem h]; rfl
theorem getD_mem {α : Type} {l : List α} {i : Nat} {d : α} (h : i < l.length) : l.getD i d ∈ l := by
  rw [List.getD_eq_getElem?_getD, List.getElem?_eq_getElem h]; exact List.getElem_mem h
theorem laws_szIntS_c {m0 : Bool} (l : List Int) (left : Int) (hl : l.length ≤ 9223372036854775807) (h0 : -1 ≤ left) (h1 : left ≤ 1048576) : Fun Tryz.prog 22 [(.sl (.lent m0) (List.map (PV.int .i64) (l))), (.int .i64 (left))] [(.int .i64 ((if left - l.length < 0 then -1 else left - l.length)))] := by
  refine fO sg0 [4] Tryz.func22 ?_
  refine dEa trivial ?_
  all_goals try (refine zlf ?_; repeat' first | exact zso | refine And.intro ?_ ?_ | (refine zim ?_; intro zb hc) | (refine zin ?_; intro zb) | intro j')
  all_goals try refine zbx ?_
theorem laws_szIntSS_c {e0 m0 : Bool} (L : List (List Int)) (left : Int) (hL : L.length ≤ 9223372036854775807) (hl : ∀ l ∈ L, l.length ≤ 9223372036854775807) (h0 : 0 ≤ left) (h1 : left ≤ 1048576) : Fun Tryz.prog 6 [(.sl (.lent m0) (List.map (elI e0) (L))), (.int .i64 (left))] [(.int .i64 (szSS L left))] := by
  refine fO sg0 [4] Tryz.func6 ?_
  have cE1 := @laws_szIntS_c
  refine dEa trivial ?_
  all_goals try (refine zlf ?_; repeat' first | exact zso | refine And.intro ?_ ?_ | (refine zim ?_; intro zb hc; repeat (have zc := zb.1; replace zb := zb.2)) | (refine zin ?_; intro zb) | intro j')
  all_goals try refine zbx ?_
  · rw [szSS, if_pos hc]
  refine v_loopB (fun ms1 S1 => ∃ (i : Nat) (x : Int), S1.e 0 = .p (.sl (.lent m0) (List.map (elI e0) (L))) ∧ S1.e 1 = .p (.int .i64 (x)) ∧ S1.e 5 = .p (.int .i64 (i)) ∧ (i ≤ L.length) ∧ (szSS L left = szGo x (L.drop i)) ∧ (0 ≤ x) ∧ (x ≤ left) ∧ ms1 = L.length - i) ((fun (i : Nat) (x : Int) => L.length - i) (0) (left - L.length)) ?_ ⟨0, left - L.length, dI trivial ?_⟩
  all_goals try (refine zlf ?_; repeat' first | exact zso | refine And.intro ?_ ?_ | (refine zim ?_; intro zb hc; repeat (have zc := zb.1; replace zb := zb.2)) | (refine zin ?_; intro zb) | intro j')
  all_goals try refine zbx ?_
  rintro ms1 S1 ⟨i, x, h1_0, h1_1, h1_5, c1_0, c1_1, c1_2, c1_3, hm1⟩
  have fL1 := (And.intro h1_0 (And.intro h1_1 h1_5))
  refine dE fL1 ?_
  all_goals try (refine zlf ?_; repeat' first | exact zso | refine And.intro ?_ ?_ | (refine zim ?_; intro zb hc; repeat (have zc := zb.1; replace zb := zb.2)) | (refine zin ?_; intro zb) | intro j')
  all_goals try refine zbx ?_
  all_goals try have hm := hl (L.getD i []) (getD_mem (by omega))
  all_goals try exact zaut
  · rw [c1_1, dropL_at (by omega), szGo]
    split
    · rfl
    · rw [if_neg (by assumption)] at hc; omega
  · rw [if_neg (by intro h; rw [if_pos h] at hc; omega)]
    focus
      refine q_lp_n ((fun (i : Nat) (x : Int) => L.length - i) (i+1) (x - (L.getD i []).length)) (dC fL1 ?_) ⟨i+1, x - (L.getD i []).length, dC fL1 ?_⟩
      all_goals try (refine zlf ?_; repeat' first | exact zso | refine And.intro ?_ ?_ | (refine zim ?_; intro zb hc; repeat (have zc := zb.1; replace zb := zb.2)) | (refine zin ?_; intro zb) | intro j')
      all_goals try refine zbx ?_
    rw [c1_1, dropL_at (by omega), szGo, if_neg (by intro h; rw [if_pos h] at hc; omega)]
  · rw [c1_1, List.drop_of_length_le (by omega), szGo]
  · rw [szSS, if_neg (by omega)]
def sgN : FuncId → List Bool := fun f => if f = 4294967297 then [true, false, false] else []
theorem sgN_eq {f : FuncId} : sgN f = if f = 4294967297 then [true, false, false] else [] := _root_.id rfl
theorem way_sgN : wayE sgN = false ∧ wayN sgN = true ∧ wayS sgN = false ∧ wayZ sgN = false := ⟨rfl, rfl, rfl, rfl⟩
attribute [go_sem] sgN_eq way_sgN
theorem laws_toIntSS_c {e0 m0 : Bool} (L : List (List Int)) (hL : L.length ≤ 1099511627776) (hl : ∀ l ∈ L, l.length ≤ 1099511627776) : Fun Tryz.prog 8 [(.sl (.lent m0) (List.map (elI e0) (L)))] [(.dl (List.map (List.map (PV.int .i64)) (L)))] := by
  refine fO sgN [2] Tryz.func8 ?_
  have cE1 := @laws_toIntS_c
  refine dEa trivial ?_
  all_goals try (refine zlf ?_; repeat' first | exact zso | refine And.intro ?_ ?_ | (refine zim ?_; intro zb hc) | (refine zin ?_; intro zb) | intro j')
  all_goals try refine zbx ?_
  refine v_loopB (fun ms1 S1 => ∃ (i : Nat), S1.e 0 = .p (.sl (.lent m0) (List.map (elI e0) (L))) ∧ DznL (S1.e 3) S1.h S1.n (PV.int .i64) (L.length) (L.take i) (L.length - i) ∧ S1.e 4 = .p (.int .i64 (i)) ∧ (i ≤ L.length) ∧ ms1 = L.length - i) ((fun (i : Nat) => L.length - i) (0)) ?_ ⟨0, dI trivial ?_⟩
  all_goals try (refine zlf ?_; repeat' first | exact zso | refine And.intro ?_ ?_ | (refine zim ?_; intro zb hc) | (refine zin ?_; intro zb) | intro j')
  all_goals try refine zbx ?_
  rintro ms1 S1 ⟨i, h1_0, o1_3, h1_4, c1_0, hm1⟩
  obtain ⟨i1_3, h1_3, b1_3, l1_3⟩ := o1_3.out
  have ni1_3 := znds (x := i1_3) (n := S1.n)
  have fL1 := (And.intro h1_0 (And.intro h1_4 (And.intro h1_3 (And.intro b1_3 ni1_3))))
  refine dE fL1 ?_
  all_goals try (refine zlf ?_; repeat' first | exact zso | refine And.intro ?_ ?_ | (refine zim ?_; intro zb hc) | (refine zin ?_; intro zb) | intro j')
  all_goals try refine zbx ?_
  all_goals try have hm := hl (L.getD i []) (getD_mem (by omega))
  all_goals try exact zaut
  · focus
      refine q_lp_n ((fun (i : Nat) => L.length - i) (i+1)) (dC fL1 ?_) ⟨i+1, dC fL1 ?_⟩
      all_goals try (refine zlf ?_; repeat' first | exact zso | refine And.intro ?_ ?_ | (refine zim ?_; intro zb hc) | (refine zin ?_; intro zb) | intro j')
      all_goals try refine zbx ?_
    exact (take_getD hc).symm
  · rw [show L.length - i = 0 by omega, dkz_0, List.take_of_length_le (by omega), fd_dk]
    exact ⟨Nat.le_refl _, by simp, by rw [List.take_length], by simp only [go_sem]⟩
theorem takeL_succ_iff {α : Type} {a b : List (List α)} {k : Nat} (ha : k < a.length) (hb : k < b.length) : a.take (k + 1) = b.take (k + 1) ↔ a.take k = b.take k ∧ a.getD k [] = b.getD k [] := by
  rw [take_getD (d := []) ha, take_getD (d := []) hb]
  constructor
  · intro h
    have := List.append_inj h (by simp; omega)
    exact ⟨this.1, by simpa using this.2⟩
  · rintro ⟨h1, h2⟩; rw [h1, h2]
theorem laws_eqIntSS_c {e0 m0 e1 m1 : Bool} (a b : List (List Int)) (ha : a.length ≤ 1099511627776) (hb : b.length ≤ 1099511627776) (hla : ∀ l ∈ a, l.length ≤ 1099511627776) (hlb : ∀ l ∈ b, l.length ≤ 1099511627776) : Fun Tryz.prog 10 [(.sl (.lent m0) (List.map (elI e0) (a))), (.sl (.lent m1) (List.map (elI e1) (b)))] [(.bool (decide (a = b)))] := by
  refine fO sg0 [4] Tryz.func10 ?_
  have cE1 := @laws_eqIntS_c; have cD1 := zdh [false, false, false, false, false, false, false, false, true, false] []
  refine dE trivial ?_
  all_goals try (refine zlf ?_; repeat' first | exact zso | refine And.intro ?_ ?_ | (refine zim ?_; intro zb hc) | (refine zin ?_; intro zb) | intro j')
  all_goals try refine zbx ?_
  · rw [decide_eq_false]; intro e; subst e; exact hc rfl
  refine v_loopB (fun ms1 S1 => ∃ (k : Nat), S1.e 0 = .p (.sl (.lent m0) (List.map (elI e0) (a))) ∧ S1.e 1 = .p (.sl (.lent m1) (List.map (elI e1) (b))) ∧ S1.e 5 = .p (.int .i64 (k)) ∧ (k ≤ a.length) ∧ (a.take k = b.take k) ∧ ms1 = a.length - k) ((fun (k : Nat) => a.length - k) (0)) ?_ ⟨0, dI trivial ?_⟩
  all_goals try (refine zlf ?_; repeat' first | exact zso | refine And.intro ?_ ?_ | (refine zim ?_; intro zb hc) | (refine zin ?_; intro zb) | intro j')
  all_goals try refine zbx ?_
  rintro ms1 S1 ⟨k, h1_0, h1_1, h1_5, c1_0, c1_1, hm1⟩
  have fL1 := (And.intro h1_0 (And.intro h1_1 h1_5))
  refine dE fL1 ?_
  all_goals try (refine zlf ?_; repeat' first | exact zso | refine And.intro ?_ ?_ | (refine zim ?_; intro zb hc) | (refine zin ?_; intro zb) | intro j')
  all_goals try refine zbx ?_
  all_goals try have hm := hla (a.getD k []) (getD_mem (by omega))
  all_goals try have hn := hlb (b.getD k []) (getD_mem (by omega))
  all_goals try exact zaut
  · rw [decide_eq_false]; intro e; subst e; exact hc rfl
  · focus
      refine q_lp_n ((fun (k : Nat) => a.length - k) (k+1)) (dC fL1 ?_) ⟨k+1, dC fL1 ?_⟩
      all_goals try (refine zlf ?_; repeat' first | exact zso | refine And.intro ?_ ?_ | (refine zim ?_; intro zb hc) | (refine zin ?_; intro zb) | intro j')
      all_goals try refine zbx ?_
    rw [takeL_succ_iff (by omega) (by omega)]; exact ⟨c1_1, hc⟩
  · rw [decide_eq_true]
    rw [List.take_of_length_le (by omega), List.take_of_length_le (by omega)] at c1_1; exact c1_1
end Go.Gl
