/-
  The counts of a class, told length by length: what their functions compute. Conditions: none.
-/
import Derived.Test.YtfjfobbniglaeaaPClass
set_option linter.unusedSimpArgs false
set_option linter.unusedVariables false
set_option maxRecDepth 20000
set_option linter.unusedSectionVars false
namespace Go.Gl
open Go Go.Proofs
variable [Amb]
def insF (v : Int) (x : Int) : Int := x + bitI (decide (v ≤ x))
def insE (q : List Int) (v : Int) : List Int := q.map (insF v) ++ [v]
def nxV (L : List (List Int)) (q : List Int) : Nat → List (List Int)
  | 0 => []
  | v + 1 => nxV L q v ++ if avB L (insE q ((v : Int) + 1)) = true then [insE q ((v : Int) + 1)] else []
def nxL (L last : List (List Int)) (n : Nat) : List (List Int) := last.flatMap fun q => nxV L q n
def clsL (L : List (List Int)) : Nat → List (List Int)
  | 0 => [[]]
  | k + 1 => nxL L (clsL L k) (k + 1)
theorem nxV_len {L : List (List Int)} {q : List Int} : ∀ {v : Nat}, (nxV L q v).length ≤ v
  | 0 => Nat.le_refl _
  | v + 1 => by
    have := nxV_len (L := L) (q := q) (v := v)
    rw [nxV, List.length_append]
    split <;> simp <;> omega
theorem nxL_len {L : List (List Int)} {n : Nat} : ∀ {last : List (List Int)}, (nxL L last n).length ≤ last.length * n
  | [] => by simp [nxL]
  | q :: l => by
    have h1 := nxV_len (L := L) (q := q) (v := n)
    have h2 := nxL_len (L := L) (n := n) (last := l)
    rw [nxL, List.flatMap_cons, List.length_append, List.length_cons, Nat.succ_mul]
    rw [nxL] at h2
    omega
theorem insF_r {v x : Int} (h : 0 ≤ x) {m : Int} (h2 : x ≤ m) : 0 ≤ insF v x ∧ insF v x ≤ m + 1 := by
  have := bitI_r (decide (v ≤ x)); unfold insF; omega
theorem nxV_mem {L : List (List Int)} {q y : List Int} : ∀ {n : Nat}, y ∈ nxV L q n ↔ avB L y = true ∧ ∃ v : Nat, v < n ∧ y = insE q ((v : Int) + 1)
  | 0 => by simp [nxV]
  | n + 1 => by
    rw [nxV, List.mem_append, nxV_mem (n := n)]
    constructor
    · rintro (⟨h, v, hv, e⟩ | h)
      · exact ⟨h, v, by omega, e⟩
      · split at h
        · rename_i g; rw [List.mem_singleton] at h; subst h; exact ⟨g, n, by omega, rfl⟩
        · simp at h
    · rintro ⟨h, v, hv, e⟩
      by_cases hn : v = n
      · subst hn; subst e; right; rw [if_pos h]; simp
      · exact .inl ⟨h, v, by omega, e⟩
theorem cls_ok {L : List (List Int)} : ∀ {k : Nat}, ∀ q ∈ clsL L k, q.length = k ∧ ∀ x ∈ q, 0 ≤ x ∧ x ≤ k
  | 0, q, h => by simp [clsL] at h; subst h; simp
  | k + 1, y, h => by
    rw [clsL, nxL, List.mem_flatMap] at h
    obtain ⟨q, hq, hy⟩ := h
    obtain ⟨_, v, hv, rfl⟩ := nxV_mem.1 hy
    obtain ⟨h1, h2⟩ := cls_ok q hq
    refine ⟨by simp [insE, h1], fun x hx => ?_⟩
    rw [insE, List.mem_append] at hx
    rcases hx with hx | hx
    · obtain ⟨z, hz, rfl⟩ := List.mem_map.1 hx
      have := insF_r (v := (v : Int) + 1) (h2 z hz).1 (h2 z hz).2
      omega
    · simp at hx; omega
theorem cls_len {L : List (List Int)} : ∀ {k : Nat}, k ≤ 6 → (clsL L k).length ≤ 6 ^ k
  | 0, _ => by simp [clsL]
  | k + 1, h => by
    have h1 := nxL_len (L := L) (n := k + 1) (last := clsL L k)
    have h2 := Nat.mul_le_mul (cls_len (L := L) (k := k) (by omega)) h
    rw [clsL, Nat.pow_succ]
    omega
theorem cls_b {L : List (List Int)} {k : Nat} (h : k ≤ 6) : (clsL L k).length ≤ 46656 := Nat.le_trans (cls_len h) (Nat.le_trans (Nat.pow_le_pow_right (by omega) h) (by decide))
def sgNx : FuncId → List Bool := fun f => []
theorem sgNx_eq {f : FuncId} : sgNx f = [] := _root_.id rfl
theorem way_sgNx : wayE sgNx = false ∧ wayN sgNx = false ∧ wayS sgNx = false ∧ wayZ sgNx = false ∧ wayM sgNx = false := ⟨rfl, rfl, rfl, rfl, rfl⟩
attribute [go_sem] sgNx_eq way_sgNx
theorem spec_l12Next_c {e0 m0 e1 m1 : Bool} (L last : List (List Int)) (n : Int) (hn : 0 ≤ n ∧ n ≤ 8) (hL : L.length ≤ 1099511627776) (hl : ∀ q ∈ L, q.length ≤ 8) (h1 : last.length ≤ 16777216) (h2 : ∀ q ∈ last, q.length ≤ 7 ∧ ∀ x ∈ q, 0 ≤ x ∧ x ≤ 8) : Fun Try.prog 132 [(.sl (.lent m0) (List.map (elI e0) (L))), (.sl (.lent m1) (List.map (elI e1) (last))), (.int .i64 (n))] [(.sl .own (List.map (elI false) (nxL L last n.toNat)))] := by
  obtain ⟨N, rfl⟩ := Int.eq_ofNat_of_zero_le hn.1
  rw [Int.toNat_natCast]
  refine fO sgNx [6] Try.func132 ?_
  have cE1 := @spec_l1Bit_c; have cE2 := @spec_l12Avoids_c; have cD1 := zdh [false, false, false, false, false, false, false, false, false, false, false, false, false, false, false, false, false, true, false, true, true, false] [(0, 17), (1, 17), (2, 17), (3, 17), (4, 17), (5, 17), (6, 17), (7, 17), (0, 19)]
  refine dEa trivial ?_
  all_goals try (refine zlf ?_; repeat' first | exact zso | refine And.intro ?_ ?_ | (refine zim ?_; intro zb hc) | (refine zin ?_; intro zb) | intro j')
  all_goals try refine zbx ?_
  refine v_loopB (fun ms1 S1 => ∃ (k : Nat), S1.e 0 = .p (.sl (.lent m0) (List.map (elI e0) (L))) ∧ S1.e 1 = .p (.sl (.lent m1) (List.map (elI e1) (last))) ∧ S1.e 2 = .p (.int .i64 (N)) ∧ OwnL (S1.e 7) S1.h S1.n (elI false) ((nxL L (last.take k) N).length) (nxL L (last.take k) N) ∧ S1.e 8 = .p (.int .i64 (k)) ∧ (k ≤ last.length) ∧ ms1 = last.length - k) ((fun (k : Nat) => last.length - k) (0)) ?_ ⟨0, dC trivial ?_⟩
  all_goals try (refine zlf ?_; repeat' first | exact zso | refine And.intro ?_ ?_ | (refine zim ?_; intro zb hc) | (refine zin ?_; intro zb) | intro j')
  all_goals try refine zbx ?_
  rintro ms1 S1 ⟨k, h1_0, h1_1, h1_2, o1_7, h1_8, c1_0, hm1⟩
  obtain ⟨i1_7, h1_7, b1_7, l1_7⟩ := o1_7.out
  have ni1_7 := znds (x := i1_7) (n := S1.n)
  have fL1 := (And.intro h1_0 (And.intro h1_1 (And.intro h1_2 (And.intro h1_8 (And.intro h1_7 (And.intro b1_7 ni1_7))))))
  have b1 : (nxL L (last.take k) N).length ≤ 16777216 * 8 := Nat.le_trans nxL_len (Nat.mul_le_mul (by simp; omega) (by omega))
  by_cases hk : k < last.length
  · obtain ⟨g1, g2⟩ := h2 _ (getD_mem (d := []) hk)
    refine dEa fL1 ?_
    all_goals try (refine zlf ?_; repeat' first | exact zso | refine And.intro ?_ ?_ | (refine zim ?_; intro zb hc) | (refine zin ?_; intro zb) | intro j')
    all_goals try refine zbx ?_
    refine v_loopB (fun ms2 S2 => ∃ (v : Nat), S2.e 0 = .p (.sl (.lent m0) (List.map (elI e0) (L))) ∧ S2.e 1 = .p (.sl (.lent m1) (List.map (elI e1) (last))) ∧ S2.e 2 = .p (.int .i64 (N)) ∧ OwnL (S2.e 7) S2.h S2.n (elI false) ((nxL L (last.take k) N ++ nxV L (last.getD k []) v).length) (nxL L (last.take k) N ++ nxV L (last.getD k []) v) ∧ S2.e 8 = .p (.int .i64 (k)) ∧ S2.e 9 = .p (.int .i64 ((v + 1))) ∧ (v ≤ N) ∧ S1.n ≤ S2.n ∧ ms2 = N - v) ((fun (v : Nat) => N - v) (0)) ?_ ⟨0, dC fL1 ?_⟩
    all_goals try (refine zlf ?_; repeat' first | exact zso | refine And.intro ?_ ?_ | (refine zim ?_; intro zb hc) | (refine zin ?_; intro zb) | intro j')
    all_goals try refine zbx ?_
    rintro ms2 S2 ⟨v, h2_0, h2_1, h2_2, o2_7, h2_8, h2_9, c2_0, u2_0, hm2⟩
    obtain ⟨i2_7, h2_7, b2_7, l2_7⟩ := o2_7.out
    have ni2_7 := znds (x := i2_7) (n := S2.n)
    have fL2 := (And.intro h2_0 (And.intro h2_1 (And.intro h2_2 (And.intro h2_8 (And.intro h2_9 (And.intro h2_7 (And.intro b2_7 ni2_7)))))))
    have b2 := nxV_len (L := L) (q := last.getD k []) (v := v)
    by_cases hv : v < N
    · refine dEa fL2 ?_
      all_goals try (refine zlf ?_; repeat' first | exact zso | refine And.intro ?_ ?_ | (refine zim ?_; intro zb hc) | (refine zin ?_; intro zb) | intro j')
      all_goals try refine zbx ?_
      refine v_loopB (fun ms4 S4 => ∃ (i : Nat), S4.e 0 = .p (.sl (.lent m0) (List.map (elI e0) (L))) ∧ S4.e 1 = .p (.sl (.lent m1) (List.map (elI e1) (last))) ∧ S4.e 2 = .p (.int .i64 (N)) ∧ S4.e 7 = .ref i2_7 0 (nxL L (last.take k) N ++ nxV L (last.getD k []) v).length ∧ S4.h i2_7 = .live false (List.map (elI false) (nxL L (last.take k) N ++ nxV L (last.getD k []) v)) ∧ S4.e 8 = .p (.int .i64 (k)) ∧ S4.e 9 = .p (.int .i64 ((v + 1))) ∧ OwnL (S4.e 10) S4.h S4.n (PV.int .i64) ((((last.getD k []).take i).map (insF ((v : Int) + 1))).length) (((last.getD k []).take i).map (insF ((v : Int) + 1))) ∧ S4.e 11 = .p (.int .i64 (i)) ∧ (i ≤ (last.getD k []).length) ∧ NId (S4.e 10) (.ref i2_7 0 0) ∧ S2.n ≤ S4.n ∧ ms4 = (last.getD k []).length - i) ((fun (i : Nat) => (last.getD k []).length - i) (0)) ?_ ⟨0, dC fL2 ?_⟩
      all_goals try (refine zlf ?_; repeat' first | exact zso | refine And.intro ?_ ?_ | (refine zim ?_; intro zb hc) | (refine zin ?_; intro zb) | intro j')
      all_goals try refine zbx ?_
      rintro ms4 S4 ⟨i, h4_0, h4_1, h4_2, h4_7, b4_7, h4_8, h4_9, o4_10, h4_11, c4_0, u4_0, u4_1, hm4⟩
      obtain ⟨i4_10, h4_10, b4_10, l4_10⟩ := o4_10.out
      have k4_0 := (u4_0).out h4_10 rfl
      have ni4_10 := znds (x := i4_10) (n := S4.n)
      have ni2_7 := znds (x := i2_7) (n := S4.n)
      have di4_10i2_7 := zdne (x := i4_10) (y := i2_7)
      have fL4 := (And.intro h4_0 (And.intro h4_1 (And.intro h4_2 (And.intro h4_7 (And.intro b4_7 (And.intro h4_8 (And.intro h4_9 (And.intro h4_11 (And.intro h4_10 (And.intro b4_10 (And.intro ni4_10 (And.intro ni2_7 di4_10i2_7))))))))))))
      by_cases hi : i < (last.getD k []).length
      · have g3 := g2 _ (getD_mem (d := 0) hi)
        have g4 := bitI_r (decide ((v : Int) + 1 ≤ (last.getD k []).getD i 0))
        refine dEa fL4 ?_
        all_goals try (refine zlf ?_; repeat' first | exact zso | refine And.intro ?_ ?_ | (refine zim ?_; intro zb hc) | (refine zin ?_; intro zb) | intro j')
        all_goals try refine zbx ?_
        focus
          refine q_lp_n ((fun (i : Nat) => (last.getD k []).length - i) (i+1)) (dC fL4 ?_) ⟨i+1, dC fL4 ?_⟩
          all_goals try (refine zlf ?_; repeat' first | exact zso | refine And.intro ?_ ?_ | (refine zim ?_; intro zb hc) | (refine zin ?_; intro zb) | intro j')
          all_goals try refine zbx ?_
        all_goals (rw [take_getD (d := 0) hi])
        all_goals simp [insF]
      · obtain rfl : i = (last.getD k []).length := by omega
        have e1 : List.take ((last.getD k []).length + 1) ((last.getD k []).map (insF ((v : Int) + 1)) ++ [(v : Int) + 1]) = insE (last.getD k []) ((v : Int) + 1) := by rw [List.take_of_length_le (by simp), insE]
        have e2 : (insE (last.getD k []) ((v : Int) + 1)).length ≤ 8 := by rw [insE, List.length_append, List.length_map, List.length_singleton]; omega
        refine dEa (And.intro fL4 @e1) ?_
        all_goals try (refine zlf ?_; repeat' first | exact zso | refine And.intro ?_ ?_ | (refine zim ?_; intro zb hc) | (refine zin ?_; intro zb) | intro j')
        all_goals try refine zbx ?_
        · focus
            refine q_lp_n ((fun (v : Nat) => N - v) (v+1)) (dC fL4 ?_) ⟨v+1, dC fL4 ?_⟩
            all_goals try (refine zlf ?_; repeat' first | exact zso | refine And.intro ?_ ?_ | (refine zim ?_; intro zb hc) | (refine zin ?_; intro zb) | intro j')
            all_goals try refine zbx ?_
          all_goals (rw [nxV, if_pos hc])
          all_goals simp [Nat.add_assoc]
        · focus
            refine q_lp_n ((fun (v : Nat) => N - v) (v+1)) (dC fL4 ?_) ⟨v+1, dC fL4 ?_⟩
            all_goals try (refine zlf ?_; repeat' first | exact zso | refine And.intro ?_ ?_ | (refine zim ?_; intro zb hc) | (refine zin ?_; intro zb) | intro j')
            all_goals try refine zbx ?_
          all_goals (rw [nxV, if_neg (by rw [hc]; decide)])
          all_goals simp
    · skip
      obtain rfl : v = N := by omega
      refine dEa fL2 ?_
      all_goals try (refine zlf ?_; repeat' first | exact zso | refine And.intro ?_ ?_ | (refine zim ?_; intro zb hc) | (refine zin ?_; intro zb) | intro j')
      all_goals try refine zbx ?_
      focus
        refine q_lp_n ((fun (k : Nat) => last.length - k) (k+1)) (dC fL2 ?_) ⟨k+1, dC fL2 ?_⟩
        all_goals try (refine zlf ?_; repeat' first | exact zso | refine And.intro ?_ ?_ | (refine zim ?_; intro zb hc) | (refine zin ?_; intro zb) | intro j')
        all_goals try refine zbx ?_
      all_goals (rw [take_getD (d := []) hk])
      all_goals simp [nxL]
    all_goals simp [nxV]
  · skip
    obtain rfl : k = last.length := by omega
    refine dEa fL1 ?_
    all_goals try (refine zlf ?_; repeat' first | exact zso | refine And.intro ?_ ?_ | (refine zim ?_; intro zb hc) | (refine zin ?_; intro zb) | intro j')
    all_goals try refine zbx ?_
/-- Lists of rows as elements. -/
def elG (q : List (List Int)) : PV := .sl (.lent false) (List.map (elI false) q)
theorem elG_eq {q : List (List Int)} : elG q = .sl (.lent false) (List.map (elI false) q) := _root_.id rfl
theorem mp_elG {l : List (List (List Int))} {x : List (List Int)} {r : List PV} : List.map elG l ++ (PV.sl (.lent false) (List.map (elI false) x) :: r) = List.map elG (l ++ [x]) ++ r := by simp [elG]
instance : NDf elG := ⟨by intro a rows h; cases h⟩
theorem nr_frG {l : List (List Int)} : noRo (elG l) = true := noRoL_map (fun _ => nr_frI) l
theorem nrL_frG {l : List (List (List Int))} : noRoL (l.map elG) = true := noRoL_map (fun _ => nr_frG) l
attribute [go_sem] elG_eq mp_elG nrL_frG
def clsR (L : List (List Int)) (k : Nat) : List (List (List Int)) := (List.range k).map (clsL L)
theorem clsR_succ {L : List (List Int)} {k : Nat} : clsR L (k + 1) = clsR L k ++ [clsL L k] := by simp [clsR, List.range_succ]
theorem clsR_len {L : List (List Int)} {k : Nat} : (clsR L k).length = k := by simp [clsR]
theorem clsR_at {L : List (List Int)} {k i : Nat} (h : i < k) : (clsR L k).getD i [] = clsL L i := by
  rw [List.getD_eq_getElem?_getD, clsR, List.getElem?_map, List.getElem?_range h]; rfl
theorem spec_l12Class_c {e0 m0 : Bool} (L : List (List Int)) (n : Int) (hn : 0 ≤ n ∧ n ≤ 6) (hL : L.length ≤ 1099511627776) (hl : ∀ q ∈ L, q.length ≤ 8) : Fun Try.prog 113 [(.sl (.lent m0) (List.map (elI e0) (L))), (.int .i64 (n))] [(.sl .own (List.map elG (clsR L (n.toNat + 1))))] := by
  obtain ⟨N, rfl⟩ := Int.eq_ofNat_of_zero_le hn.1
  rw [Int.toNat_natCast]
  refine fO sg0 [4] Try.func113 ?_
  have cE1 := @spec_l12Next_c
  refine dEa trivial ?_
  all_goals try (refine zlf ?_; repeat' first | exact zso | refine And.intro ?_ ?_ | (refine zim ?_; intro zb hc) | (refine zin ?_; intro zb) | intro j')
  all_goals try refine zbx ?_
  refine v_loopB (fun ms1 S1 => ∃ (k : Nat), S1.e 0 = .p (.sl (.lent m0) (List.map (elI e0) (L))) ∧ S1.e 1 = .p (.int .i64 (N)) ∧ FroL (S1.e 5) S1.h S1.n (elI false) ((clsL L k).length) (clsL L k) ∧ OwnL (S1.e 6) S1.h S1.n elG ((clsR L (k + 1)).length) (clsR L (k + 1)) ∧ S1.e 7 = .p (.int .i64 ((k + 1))) ∧ (k ≤ N) ∧ NId (S1.e 6) (S1.e 5) ∧ ms1 = N - k) ((fun (k : Nat) => N - k) (0)) ?_ ⟨0, dC trivial ?_⟩
  all_goals try (refine zlf ?_; repeat' first | exact zso | refine And.intro ?_ ?_ | (refine zim ?_; intro zb hc) | (refine zin ?_; intro zb) | intro j')
  all_goals try refine zbx ?_
  rintro ms1 S1 ⟨k, h1_0, h1_1, o1_5, o1_6, h1_7, c1_0, u1_0, hm1⟩
  obtain ⟨i1_5, h1_5, b1_5, l1_5⟩ := o1_5.out
  obtain ⟨i1_6, h1_6, b1_6, l1_6⟩ := o1_6.out
  have k1_0 := (u1_0).out h1_6 h1_5
  have ni1_5 := znds (x := i1_5) (n := S1.n)
  have ni1_6 := znds (x := i1_6) (n := S1.n)
  have di1_5i1_6 := zdne (x := i1_5) (y := i1_6)
  have fL1 := (And.intro h1_0 (And.intro h1_1 (And.intro h1_7 (And.intro h1_5 (And.intro b1_5 (And.intro h1_6 (And.intro b1_6 (And.intro ni1_5 (And.intro ni1_6 di1_5i1_6)))))))))
  have b0 := clsR_len (L := L) (k := k + 1)
  by_cases hk : k < N
  · have b1 := cls_b (L := L) (k := k) (by omega)
    have b2 : ∀ q ∈ clsL L k, q.length ≤ 7 ∧ ∀ x ∈ q, 0 ≤ x ∧ x ≤ 8 := fun q hq => by
      obtain ⟨g1, g2⟩ := cls_ok q hq
      exact ⟨by omega, fun x hx => by have := g2 x hx; omega⟩
    have e1 : nxL L (clsL L k) ((k : Int) + 1).toNat = clsL L (k + 1) := rfl
    refine dEa (And.intro fL1 (And.intro @b0 @e1)) ?_
    all_goals try (refine zlf ?_; repeat' first | exact zso | refine And.intro ?_ ?_ | (refine zim ?_; intro zb hc) | (refine zin ?_; intro zb) | intro j')
    all_goals try refine zbx ?_
    focus
      refine q_lp_n ((fun (k : Nat) => N - k) (k+1)) (dC fL1 ?_) ⟨k+1, dC fL1 ?_⟩
      all_goals try (refine zlf ?_; repeat' first | exact zso | refine And.intro ?_ ?_ | (refine zim ?_; intro zb hc) | (refine zin ?_; intro zb) | intro j')
      all_goals try refine zbx ?_
    all_goals first | (simp only [clsR_len]; done) | (rw [clsR_succ (k := k + 1)]; rfl)
  · obtain rfl : k = N := by omega
    refine dEa fL1 ?_
    all_goals try (refine zlf ?_; repeat' first | exact zso | refine And.intro ?_ ?_ | (refine zim ?_; intro zb hc) | (refine zin ?_; intro zb) | intro j')
    all_goals try refine zbx ?_
def ccR (L : List (List Int)) (n : Int) : List Int := if basisB L = true ∧ 0 ≤ n ∧ n ≤ 6 then (List.range (n.toNat + 1)).map fun k => ((clsL L k).length : Int) else []
theorem spec_ClassCounts_c {e0 m0 : Bool} (L : List (List Int)) (n : Int) (hL : L.length ≤ 1048576) (hl : ∀ q ∈ L, q.length ≤ 1048576) : Fun Try.prog 73 [(.sl (.lent m0) (List.map (elI e0) (L))), (.int .i64 (n))] [(.sl .own (List.map (PV.int .i64) (ccR L n)))] := by
  by_cases hc0 : basisB L = true ∧ 0 ≤ n ∧ n ≤ 6
  · have e1 : ccR L n = (List.range (n.toNat + 1)).map fun k => ((clsL L k).length : Int) := if_pos hc0
    have hb := basis_row hc0.1
    have e3 := hc0.1
    have b0 := clsR_len (L := L) (k := n.toNat + 1)
    rw [e1]
    refine fO sg0 [4] Try.func73 ?_
    have cE1 := @spec_l1In_c; have cE2 := @spec_IsBasis_c; have cE3 := @spec_l12Class_c
    refine dEa @e3 ?_
    all_goals try (refine zlf ?_; repeat' first | exact zso | refine And.intro ?_ ?_ | (refine zim ?_; intro zb hc; repeat (have zc := zb.1; replace zb := zb.2)) | (refine zin ?_; intro zb) | intro j')
    all_goals try refine zbx ?_
    refine v_loopB (fun ms1 S1 => ∃ (k : Nat), S1.e 0 = .p (.sl (.lent m0) (List.map (elI e0) (L))) ∧ OwnL (S1.e 6) S1.h S1.n elG ((clsR L (n.toNat + 1)).length) (clsR L (n.toNat + 1)) ∧ OwnL (S1.e 5) S1.h S1.n (PV.int .i64) (((List.range k).map (fun k => ((clsL L k).length : Int))).length) ((List.range k).map (fun k => ((clsL L k).length : Int))) ∧ S1.e 7 = .p (.int .i64 (k)) ∧ (k ≤ n.toNat + 1) ∧ NId (S1.e 5) (S1.e 6) ∧ ms1 = n.toNat + 1 - k) ((fun (k : Nat) => n.toNat + 1 - k) (0)) ?_ ⟨0, dC trivial ?_⟩
    all_goals try (refine zlf ?_; repeat' first | exact zso | refine And.intro ?_ ?_ | (refine zim ?_; intro zb hc; repeat (have zc := zb.1; replace zb := zb.2)) | (refine zin ?_; intro zb) | intro j')
    all_goals try refine zbx ?_
    rintro ms1 S1 ⟨k, h1_0, o1_6, o1_5, h1_7, c1_0, u1_0, hm1⟩
    obtain ⟨i1_6, h1_6, b1_6, l1_6⟩ := o1_6.out
    obtain ⟨i1_5, h1_5, b1_5, l1_5⟩ := o1_5.out
    have k1_0 := (u1_0).out h1_5 h1_6
    have ni1_6 := znds (x := i1_6) (n := S1.n)
    have ni1_5 := znds (x := i1_5) (n := S1.n)
    have di1_6i1_5 := zdne (x := i1_6) (y := i1_5)
    have fL1 := (And.intro h1_0 (And.intro h1_7 (And.intro h1_6 (And.intro b1_6 (And.intro h1_5 (And.intro b1_5 (And.intro ni1_6 (And.intro ni1_5 di1_6i1_5))))))))
    by_cases hk : k < n.toNat + 1
    · have e4 := clsR_at (L := L) hk
      have b1 := cls_b (L := L) (k := k) (by omega)
      refine dEa (And.intro fL1 (And.intro @e4 @b0)) ?_
      all_goals try (refine zlf ?_; repeat' first | exact zso | refine And.intro ?_ ?_ | (refine zim ?_; intro zb hc; repeat (have zc := zb.1; replace zb := zb.2)) | (refine zin ?_; intro zb) | intro j')
      all_goals try refine zbx ?_
      focus
        refine q_lp_n ((fun (k : Nat) => n.toNat + 1 - k) (k+1)) (dC fL1 ?_) ⟨k+1, dC fL1 ?_⟩
        all_goals try (refine zlf ?_; repeat' first | exact zso | refine And.intro ?_ ?_ | (refine zim ?_; intro zb hc; repeat (have zc := zb.1; replace zb := zb.2)) | (refine zin ?_; intro zb) | intro j')
        all_goals try refine zbx ?_
      all_goals simp [List.range_succ]
    · obtain rfl : k = n.toNat + 1 := by omega
      refine dEa (And.intro fL1 @b0) ?_
      all_goals try (refine zlf ?_; repeat' first | exact zso | refine And.intro ?_ ?_ | (refine zim ?_; intro zb hc; repeat (have zc := zb.1; replace zb := zb.2)) | (refine zin ?_; intro zb) | intro j')
      all_goals try refine zbx ?_
  · rw [show ccR L n = [] from if_neg hc0]
    refine fO sg0 [4] Try.func73 ?_
    have cE1 := @spec_l1In_c; have cE2 := @spec_IsBasis_c; have cE3 := @spec_l12Class_c
    refine dEa trivial ?_
    all_goals try (refine zlf ?_; repeat' first | exact zso | refine And.intro ?_ ?_ | (refine zim ?_; intro zb hc; repeat (have zc := zb.1; replace zb := zb.2)) | (refine zin ?_; intro zb) | intro j')
    all_goals try refine zbx ?_
    all_goals exact absurd ⟨by assumption, by assumption⟩ hc0
end Go.Gl
