/-
  All permutations of a length: what their functions compute. Conditions: none.
-/
import Derived.Test.YtfjfobbniglaeaaDoorPerm
import Derived.Test.YtfjfobbniglaeaaDoorClone
import Derived.Test.YtfjfobbniglaeaaDoorLaw1
set_option linter.unusedSimpArgs false
set_option linter.unusedVariables false
set_option maxRecDepth 20000
set_option linter.unusedSectionVars false
namespace Go.Gl
open Go Go.Proofs
variable [Amb] [NoQ]
/-- The numbers 1 to j that a list lacks. -/
def lackL (p : List Int) (j : Nat) : List Int := ((List.range j).map fun i : Nat => (i : Int) + 1).filter fun v => !p.contains v
theorem lackL_succ {p : List Int} {j : Nat} : lackL p (j + 1) = lackL p j ++ (if p.contains ((j : Int) + 1) then [] else [(j : Int) + 1]) := by
  simp only [lackL, List.range_succ, List.map_append, List.filter_append, List.map_cons, List.map_nil]
  congr 1
  rw [List.filter_cons]
  cases p.contains ((j : Int) + 1) <;> rfl
theorem lackL_len {p : List Int} {j : Nat} : (lackL p j).length ≤ j := by
  unfold lackL; exact Nat.le_trans (List.length_filter_le _ _) (by simp)
/-- A list with each of the lacking numbers behind it. -/
def extL (p : List Int) (j : Nat) : List (List Int) := (lackL p j).map fun v => p ++ [v]
theorem extL_succ {p : List Int} {j : Nat} : extL p (j + 1) = extL p j ++ (if p.contains ((j : Int) + 1) then [] else [p ++ [(j : Int) + 1]]) := by
  rw [extL, lackL_succ, List.map_append]; congr 1
  cases p.contains ((j : Int) + 1) <;> simp
theorem extL_len {p : List Int} {j : Nat} : (extL p j).length ≤ j := by simpa [extL] using lackL_len
def lvl (n : Nat) : Nat → List (List Int) → List (List Int)
  | 0, L => L
  | k + 1, L => lvl n k (L.flatMap fun p => extL p n)
theorem lvl_app {n : Nat} : ∀ {k : Nat} {A B : List (List Int)}, lvl n k (A ++ B) = lvl n k A ++ lvl n k B
  | 0, _, _ => rfl
  | k + 1, A, B => by simp only [lvl, List.flatMap_append, lvl_app]
theorem lvl_succ {n : Nat} : ∀ {k : Nat} {L : List (List Int)}, lvl n (k + 1) L = (lvl n k L).flatMap fun p => extL p n
  | 0, _ => rfl
  | k + 1, L => by rw [lvl, lvl_succ (k := k), ← lvl]
theorem lvl_nil {n : Nat} : ∀ {k : Nat}, lvl n k [] = []
  | 0 => rfl
  | k + 1 => by rw [lvl]; exact lvl_nil
theorem flat_len {n : Nat} : ∀ {L : List (List Int)}, (L.flatMap fun p => extL p n).length ≤ L.length * n
  | [] => by simp
  | p :: L => by
    have := flat_len (n := n) (L := L)
    have h1 := extL_len (p := p) (j := n)
    simp only [List.flatMap_cons, List.length_append, List.length_cons, Nat.succ_mul]; omega
theorem lvl_len {n : Nat} (hn : n ≤ 8) : ∀ {k : Nat} {L : List (List Int)}, (lvl n k L).length ≤ L.length * 8 ^ k
  | 0, L => by simp [lvl]
  | k + 1, L => by
    rw [lvl, Nat.pow_succ]
    refine Nat.le_trans (lvl_len hn) ?_
    have h1 := flat_len (n := n) (L := L)
    have h2 : L.length * n ≤ L.length * 8 := Nat.mul_le_mul_left _ hn
    calc _ ≤ (L.length * 8) * 8 ^ k := Nat.mul_le_mul_right _ (Nat.le_trans h1 h2)
      _ = _ := by rw [Nat.mul_assoc, Nat.mul_comm 8]
theorem lvl_row {n : Nat} : ∀ {k m : Nat} {L : List (List Int)}, (∀ l ∈ L, l.length = m) → ∀ l ∈ lvl n k L, l.length = m + k
  | 0, m, L, h, l, hl => by simpa [lvl] using h l hl
  | k + 1, m, L, h, l, hl => by
    rw [lvl] at hl
    have := lvl_row (k := k) (m := m + 1) (fun q hq => by
      simp only [List.mem_flatMap, extL, List.mem_map] at hq
      obtain ⟨p, hp, v, _, rfl⟩ := hq
      simp [h p hp]) l hl
    omega
/-- The permutations of a length, in order. -/
def permL (n : Nat) : List (List Int) := lvl n n [[]]
theorem permL_len {n : Nat} (hn : n ≤ 8) : (permL n).length ≤ 8 ^ 8 := by
  have h1 := lvl_len hn (k := n) (L := [[]])
  have h2 : 8 ^ n ≤ 8 ^ 8 := Nat.pow_le_pow_right (by omega) hn
  simp only [permL, List.length_singleton, Nat.one_mul] at h1 ⊢; omega
theorem permL_row {n : Nat} : ∀ l ∈ permL n, l.length = n := fun l hl => by
  have := lvl_row (m := 0) (by simp) l hl
  omega
theorem tk1 {α : Type} {l : List α} {x : α} : List.take (l.length + 1) (l ++ [x]) = l ++ [x] := List.take_of_length_le (by simp)
theorem lvl_b8 {n k : Nat} (hn : n ≤ 8) (hk : k ≤ 8) : (lvl n k [[]]).length ≤ 8 ^ 8 := by
  have h1 := lvl_len hn (k := k) (L := [[]])
  have h2 : 8 ^ k ≤ 8 ^ 8 := Nat.pow_le_pow_right (by omega) hk
  simp only [List.length_singleton, Nat.one_mul] at h1; omega
def sgNP : FuncId → List Bool := fun f => if f = 4294967297 then [true, false, false, false] else []
theorem sgNP_eq {f : FuncId} : sgNP f = if f = 4294967297 then [true, false, false, false] else [] := _root_.id rfl
theorem way_sgNP : wayE sgNP = false ∧ wayN sgNP = true ∧ wayS sgNP = false ∧ wayZ sgNP = false ∧ wayM sgNP = false := ⟨rfl, rfl, rfl, rfl, rfl⟩
attribute [go_sem] sgNP_eq way_sgNP
theorem impl_perms_c (n : Nat) (h1 : n ≤ 8) : Fun Tryd.prog 75 [(.int .i64 (n))] [(.dl (List.map (List.map (PV.int .i64)) (permL n)))] := by
  refine fO sgNP [2] Tryd.func75 ?_
  have cE1 := @slices_Contains_int_int_c; have cE2 := @slices_Clone_c
  refine dE trivial ?_
  all_goals try (refine zlf ?_; repeat' first | exact zso | refine And.intro ?_ ?_ | (refine zim ?_; intro zb hc) | (refine zin ?_; intro zb) | intro j')
  all_goals try refine zbx ?_
  refine v_loopB (fun ms1 S1 => ∃ (i : Nat), S1.e 0 = .p (.int .i64 (n)) ∧ DwnL (S1.e 3) S1.h S1.n (PV.int .i64) ((lvl n i [[]]).length) (lvl n i [[]]) ∧ S1.e 10 = .p (.int .i64 (n)) ∧ S1.e 11 = .p (.int .i64 (i)) ∧ (i ≤ n) ∧ ms1 = n - i) ((fun (i : Nat) => n - i) (0)) ?_ ⟨0, dI trivial ?_⟩
  all_goals try (refine zlf ?_; repeat' first | exact zso | refine And.intro ?_ ?_ | (refine zim ?_; intro zb hc) | (refine zin ?_; intro zb) | intro j')
  all_goals try refine zbx ?_
  rintro ms1 S1 ⟨i, h1_0, o1_3, h1_10, h1_11, c1_0, hm1⟩
  obtain ⟨i1_3, h1_3, b1_3, l1_3⟩ := o1_3.out
  have ni1_3 := znds (x := i1_3) (n := S1.n)
  have fL1 := (And.intro h1_0 (And.intro h1_10 (And.intro h1_11 (And.intro h1_3 (And.intro b1_3 ni1_3)))))
  have b1 : (lvl n i [[]]).length ≤ 8 ^ 8 := lvl_b8 h1 (by omega)
  refine dE fL1 ?_
  all_goals try (refine zlf ?_; repeat' first | exact zso | refine And.intro ?_ ?_ | (refine zim ?_; intro zb hc) | (refine zin ?_; intro zb) | intro j')
  all_goals try refine zbx ?_
  refine v_loopB (fun ms2 S2 => ∃ (j : Nat), S2.e 0 = .p (.int .i64 (n)) ∧ DwnL (S2.e 14) S2.h S2.n (PV.int .i64) ((lvl n i [[]]).length) (lvl n i [[]]) ∧ DwnL (S2.e 4) S2.h S2.n (PV.int .i64) ((((lvl n i [[]]).take j).flatMap (fun p => extL p n)).length) (((lvl n i [[]]).take j).flatMap (fun p => extL p n)) ∧ S2.e 10 = .p (.int .i64 (n)) ∧ S2.e 11 = .p (.int .i64 (i)) ∧ S2.e 15 = .p (.int .i64 ((lvl n i [[]]).length)) ∧ S2.e 16 = .p (.int .i64 (j)) ∧ (j ≤ (lvl n i [[]]).length) ∧ NId (S2.e 4) (S2.e 14) ∧ S1.n ≤ S2.n ∧ ms2 = (lvl n i [[]]).length - j) ((fun (j : Nat) => (lvl n i [[]]).length - j) (0)) ?_ ⟨0, dIa fL1 ?_⟩
  all_goals try (refine zlf ?_; repeat' first | exact zso | refine And.intro ?_ ?_ | (refine zim ?_; intro zb hc) | (refine zin ?_; intro zb) | intro j')
  all_goals try refine zbx ?_
  rintro ms2 S2 ⟨j, h2_0, o2_14, o2_4, h2_10, h2_11, h2_15, h2_16, c2_0, u2_0, u2_1, hm2⟩
  obtain ⟨i2_14, h2_14, b2_14, l2_14⟩ := o2_14.out
  obtain ⟨i2_4, h2_4, b2_4, l2_4⟩ := o2_4.out
  have k2_0 := (u2_0).out h2_4 h2_14
  have ni2_14 := znds (x := i2_14) (n := S2.n)
  have ni2_4 := znds (x := i2_4) (n := S2.n)
  have di2_14i2_4 := zdne (x := i2_14) (y := i2_4)
  have fL2 := (And.intro h2_0 (And.intro h2_10 (And.intro h2_11 (And.intro h2_15 (And.intro h2_16 (And.intro h2_14 (And.intro b2_14 (And.intro h2_4 (And.intro b2_4 (And.intro ni2_14 (And.intro ni2_4 di2_14i2_4)))))))))))
  have b2 : ((lvl n i [[]]).take j).length ≤ 8 ^ 8 := by simp; omega
  have b3 := Nat.le_trans (flat_len (n := n) (L := (lvl n i [[]]).take j)) (Nat.mul_le_mul b2 h1)
  refine dEa fL2 ?_
  all_goals try (refine zlf ?_; repeat' first | exact zso | refine And.intro ?_ ?_ | (refine zim ?_; intro zb hc) | (refine zin ?_; intro zb) | intro j')
  all_goals try refine zbx ?_
  · refine v_loopB (fun ms4 S4 => ∃ (v : Nat), S4.e 0 = .p (.int .i64 (n)) ∧ DwnL (S4.e 14) S4.h S4.n (PV.int .i64) ((lvl n i [[]]).length) (lvl n i [[]]) ∧ DwnL (S4.e 4) S4.h S4.n (PV.int .i64) ((((lvl n i [[]]).take j).flatMap (fun p => extL p n) ++ extL ((lvl n i [[]]).getD j []) v).length) (((lvl n i [[]]).take j).flatMap (fun p => extL p n) ++ extL ((lvl n i [[]]).getD j []) v) ∧ InnL (S4.e 6) (S4.e 14) (j) (((lvl n i [[]]).getD j []).length) ∧ S4.e 7 = .p (.int .i64 ((v + 1))) ∧ S4.e 10 = .p (.int .i64 (n)) ∧ S4.e 11 = .p (.int .i64 (i)) ∧ S4.e 15 = .p (.int .i64 ((lvl n i [[]]).length)) ∧ S4.e 16 = .p (.int .i64 (j)) ∧ (v ≤ n) ∧ (j < (lvl n i [[]]).length) ∧ NId (S4.e 4) (S4.e 14) ∧ S2.n ≤ S4.n ∧ ms4 = n - v) ((fun (v : Nat) => n - v) (0)) ?_ ⟨0, dIa fL2 ?_⟩
    all_goals try (refine zlf ?_; repeat' first | exact zso | refine And.intro ?_ ?_ | (refine zim ?_; intro zb hc) | (refine zin ?_; intro zb) | intro j')
    all_goals try refine zbx ?_
    rintro ms4 S4 ⟨v, h4_0, o4_14, o4_4, o4_6, h4_7, h4_10, h4_11, h4_15, h4_16, c4_0, c4_1, u4_0, u4_1, hm4⟩
    obtain ⟨i4_14, h4_14, b4_14, l4_14⟩ := o4_14.out
    obtain ⟨i4_4, h4_4, b4_4, l4_4⟩ := o4_4.out
    have h4_6 := (o4_6).out h4_14
    have k4_0 := (u4_0).out h4_4 h4_14
    have ni4_14 := znds (x := i4_14) (n := S4.n)
    have ni4_4 := znds (x := i4_4) (n := S4.n)
    have di4_14i4_4 := zdne (x := i4_14) (y := i4_4)
    have fL4 := (And.intro h4_6 (And.intro h4_0 (And.intro h4_7 (And.intro h4_10 (And.intro h4_11 (And.intro h4_15 (And.intro h4_16 (And.intro h4_14 (And.intro b4_14 (And.intro h4_4 (And.intro b4_4 (And.intro ni4_14 (And.intro ni4_4 di4_14i4_4)))))))))))))
    have b4 := extL_len (p := (lvl n i [[]]).getD j []) (j := v)
    have b5 : ((lvl n i [[]]).getD j []).length = 0 + i := lvl_row (by simp) _ (getD_mem c4_1)
    refine dEa fL4 ?_
    all_goals try (refine zlf ?_; repeat' first | exact zso | refine And.intro ?_ ?_ | (refine zim ?_; intro zb hc) | (refine zin ?_; intro zb) | intro j')
    all_goals try refine zbx ?_
    · focus
        refine q_lp_n ((fun (v : Nat) => n - v) (v+1)) (dC fL4 ?_) ⟨v+1, dC fL4 ?_⟩
        all_goals try (refine zlf ?_; repeat' first | exact zso | refine And.intro ?_ ?_ | (refine zim ?_; intro zb hc) | (refine zin ?_; intro zb) | intro j')
        all_goals try refine zbx ?_
      all_goals (rw [extL_succ, hc, if_neg (by decide)] <;> simp only [List.append_assoc, List.length_append, List.length_cons, List.length_nil, Nat.add_assoc])
    · focus
        refine q_lp_n ((fun (v : Nat) => n - v) (v+1)) (dC fL4 ?_) ⟨v+1, dC fL4 ?_⟩
        all_goals try (refine zlf ?_; repeat' first | exact zso | refine And.intro ?_ ?_ | (refine zim ?_; intro zb hc) | (refine zin ?_; intro zb) | intro j')
        all_goals try refine zbx ?_
      all_goals (rw [extL_succ, hc, if_pos rfl, List.append_nil])
    · focus
        refine q_lp_n ((fun (j : Nat) => (lvl n i [[]]).length - j) (j+1)) (dC fL4 ?_) ⟨j+1, dC fL4 ?_⟩
        all_goals try (refine zlf ?_; repeat' first | exact zso | refine And.intro ?_ ?_ | (refine zim ?_; intro zb hc) | (refine zin ?_; intro zb) | intro j')
        all_goals try refine zbx ?_
      all_goals (obtain rfl : v = n := by omega)
      all_goals (rw [take_getD (d := []) (by omega), List.flatMap_append]; simp)
    · simp [extL, lackL]
    · simp [extL, lackL]
  · focus
      refine q_lp_n ((fun (i : Nat) => n - i) (i+1)) (dC fL2 ?_) ⟨i+1, dC fL2 ?_⟩
      all_goals try (refine zlf ?_; repeat' first | exact zso | refine And.intro ?_ ?_ | (refine zim ?_; intro zb hc) | (refine zin ?_; intro zb) | intro j')
      all_goals try refine zbx ?_
    all_goals (rw [lvl_succ, List.take_of_length_le (by omega)])
  · obtain rfl : i = n := by omega
    rfl
def sgFl : FuncId → List Bool := fun f => if f = 76 then [false, false, true] else if f = 8589934668 then [false, true] else []
theorem sgFl_eq {f : FuncId} : sgFl f = if f = 76 then [false, false, true] else if f = 8589934668 then [false, true] else [] := _root_.id rfl
theorem way_sgFl : wayE sgFl = false ∧ wayN sgFl = false ∧ wayS sgFl = false ∧ wayZ sgFl = false ∧ wayM sgFl = false := ⟨rfl, rfl, rfl, rfl, rfl⟩
attribute [go_sem] sgFl_eq way_sgFl
theorem spec_l2Fill_c (n : Nat) (h8 : n ≤ 8) : ∀ (d : Nat) (head : List Int) (out : List (List Int)), head.length + d = n → out.length + 8 ^ d ≤ 1099511627776 → CallT Tryd.prog true 76 [.pv (.int .i64 n), .pv (.sl (.lent false) (List.map (PV.int .i64) head)), .mu false (List.map (elI false) out)] [none, none, none] [.sl .own (List.map (elI false) (out ++ lvl n d [head]))] := by
  intro d
  induction d with
  | zero =>
    intro head out hd ho
    refine CallT.of (sg := sgFl) (ts := [6]) mo Tryd.func76 rfl rfl rfl rfl (by kernel_rfl) (by simp only [go_sem]) rfl rfl ?_
    have cE1 := @spec_l2Has_c
    refine dTa trivial ?_
    all_goals try (refine zlf ?_; repeat' first | exact zso | refine And.intro ?_ ?_ | (refine zim ?_; intro zb hc) | (refine zin ?_; intro zb) | intro j')
    all_goals try refine zbx ?_
    all_goals (rw [List.take_of_length_le (by simp)]; rfl)
  | succ d ih =>
    intro head out hd ho
    refine CallT.of (sg := sgFl) (ts := [6]) mo Tryd.func76 rfl rfl rfl rfl (by kernel_rfl) (by simp only [go_sem]) rfl rfl ?_
    have cE1 := @spec_l2Has_c
    refine dTa trivial ?_
    all_goals try (refine zlf ?_; repeat' first | exact zso | refine And.intro ?_ ?_ | (refine zim ?_; intro zb hc) | (refine zin ?_; intro zb) | intro j')
    all_goals try refine zbx ?_
    refine v_loopB (fun ms1 S1 => ∃ (v : Nat), S1.e 0 = .p (.int .i64 (n)) ∧ S1.e 1 = .p (.sl (.lent false) (List.map (PV.int .i64) (head))) ∧ OwnM (S1.e 2) S1.h S1.n (elI false) ((out ++ lvl n d (extL head v)).length) (out ++ lvl n d (extL head v)) ∧ S1.e 7 = .p (.int .i64 ((v + 1))) ∧ (v ≤ n) ∧ ms1 = n - v) ((fun (v : Nat) => n - v) (0)) ?_ ⟨0, dIa trivial ?_⟩
    all_goals try (refine zlf ?_; repeat' first | exact zso | refine And.intro ?_ ?_ | (refine zim ?_; intro zb hc) | (refine zin ?_; intro zb) | intro j')
    all_goals try refine zbx ?_
    rintro ms1 S1 ⟨v, h1_0, h1_1, o1_2, h1_7, c1_0, hm1⟩
    obtain ⟨i1_2, mm1_2, h1_2, b1_2, l1_2⟩ := o1_2.out
    have ni1_2 := znds (x := i1_2) (n := S1.n)
    have fL1 := (And.intro h1_0 (And.intro h1_1 (And.intro h1_7 (And.intro h1_2 (And.intro b1_2 ni1_2)))))
    have b1 := lvl_len h8 (k := d) (L := extL head v)
    have b2 := extL_len (p := head) (j := v)
    have b3 : (extL head v).length * 8 ^ d ≤ v * 8 ^ d := Nat.mul_le_mul_right _ b2
    have cM1 := @ih
    refine dTa fL1 ?_
    all_goals try (refine zlf ?_; repeat' first | exact zso | refine And.intro ?_ ?_ | (refine zim ?_; intro zb hc) | (refine zin ?_; intro zb) | intro j')
    all_goals try refine zbx ?_
    · have b4 := Nat.mul_le_mul_right (8 ^ d) (show v + 1 ≤ 8 by omega)
      have b5 : 8 ^ (d + 1) = 8 * 8 ^ d := by rw [Nat.pow_succ, Nat.mul_comm]
      rw [Nat.succ_mul] at b4
      rw [List.length_append]; omega
    · focus
        refine q_lp_n ((fun (v : Nat) => n - v) (v+1)) (dC fL1 ?_) ⟨v+1, dC fL1 ?_⟩
        all_goals try (refine zlf ?_; repeat' first | exact zso | refine And.intro ?_ ?_ | (refine zim ?_; intro zb hc) | (refine zin ?_; intro zb) | intro j')
        all_goals try refine zbx ?_
      all_goals (rw [extL_succ, hc, if_neg (by decide), lvl_app]; try simp only [tk1, List.length_append, List.append_assoc, Nat.add_assoc])
    · focus
        refine q_lp_n ((fun (v : Nat) => n - v) (v+1)) (dC fL1 ?_) ⟨v+1, dC fL1 ?_⟩
        all_goals try (refine zlf ?_; repeat' first | exact zso | refine And.intro ?_ ?_ | (refine zim ?_; intro zb hc) | (refine zin ?_; intro zb) | intro j')
        all_goals try refine zbx ?_
      all_goals (rw [extL_succ, hc, if_pos rfl, List.append_nil])
    · obtain rfl : v = n := by omega
      rw [lvl, List.flatMap_cons, List.flatMap_nil, List.append_nil]
    · rw [show extL head 0 = [] by simp [extL, lackL], lvl_nil, List.append_nil]
    · rw [show extL head 0 = [] by simp [extL, lackL], lvl_nil, List.append_nil]
def permsB (n : Int) : List (List Int) := if 0 ≤ n ∧ n ≤ 6 then permL n.toNat else []
theorem spec_PermsOf_c (n : Int) : Fun Tryd.prog 46 [(.int .i64 (n))] [(.sl .own (List.map (elI false) (permsB n)))] := by
  have h8 := fun (a : 0 ≤ n) (b : n ≤ 6) => spec_l2Fill_c n.toNat (by omega) n.toNat [] [] (Nat.zero_add _) (by have h2 : 8 ^ n.toNat ≤ 8 ^ 8 := Nat.pow_le_pow_right (by omega) (by omega); simp only [List.length_nil, Nat.zero_add]; omega)
  by_cases hn : 0 ≤ n ∧ n ≤ 6
  · have h9 := h8 hn.1 hn.2
    rw [show ((n.toNat : Nat) : Int) = n by omega] at h9
    have h10 : permsB n = lvl n.toNat n.toNat [[]] := by rw [permsB, if_pos hn]; rfl
    rw [h10]
    simp only [List.map_nil, List.nil_append] at h9
    refine fO sgFl [2] Tryd.func46 ?_
    have cE1 := @spec_l1In_c
    have cM1 := @h9
    refine dEa trivial ?_
    all_goals try (refine zlf ?_; repeat' first | exact zso | refine And.intro ?_ ?_ | (refine zim ?_; intro zb hc) | (refine zin ?_; intro zb) | intro j')
    all_goals try refine zbx ?_
  · have h10 : permsB n = [] := by rw [permsB, if_neg hn]
    rw [h10]
    refine fO sgFl [2] Tryd.func46 ?_
    have cE1 := @spec_l1In_c
    refine dE trivial ?_
    all_goals try (refine zlf ?_; repeat' first | exact zso | refine And.intro ?_ ?_ | (refine zim ?_; intro zb hc) | (refine zin ?_; intro zb) | intro j')
    all_goals try refine zbx ?_
    all_goals exact absurd hc hn
end Go.Gl
