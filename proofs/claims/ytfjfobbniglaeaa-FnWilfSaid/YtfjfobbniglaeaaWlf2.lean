/-
  Permutations in groups by the counts of their classes: what their functions compute. Conditions: none.
-/
import Derived.Test.YtfjfobbniglaeaaWlf
import Derived.Test.YtfjfobbniglaeaaDg
import Derived.Test.YtfjfobbniglaeaaSess
import Derived.Test.YtfjfobbniglaeaaSame
import Derived.Test.YtfjfobbniglaeaaIvl
set_option linter.unusedSimpArgs false
set_option linter.unusedVariables false
set_option maxRecDepth 20000
set_option linter.unusedSectionVars false
namespace Go.Gl
open Go Go.Proofs
variable [Amb]
theorem m2_a : nest2T Try.prog 42 = true := by kernel_rfl
theorem m2_b : nest2T Try.prog 28 = false := by kernel_rfl
theorem m2_c : nest2T Try.prog 22 = false := by kernel_rfl
attribute [local go_sem] m2_a m2_b m2_c
attribute [go_sem ↓] w_opm w_opl
theorem str_w1 {C : R → Prop} {m m' : Bool} {cs : List Nat} {L : List (Option (List (List Int)))} {p : List Int} {id off id' off' len : Nat} (h : off = cs.length) : stRB (dgn (elI false) m cs L) (.live m' [.sl (.lent false) (List.map (PV.int .i64) p)]) id off id' off' len C = ((m' = true → m = true) ∧ off' = 0 ∧ len = 1 ∧ id' ≠ id ∧ C ⟨.p .any, [(id', .dead), (id, dgo (elI false) m (cs ++ [L.length]) (L ++ [some [p]]))], [id, id']⟩) := str_gn (l := [p]) h
theorem str_w2 {C : R → Prop} {m m' : Bool} {cs : List Nat} {L : List (Option (List (List Int)))} {p : List Int} {id off id' off' len : Nat} : stRB (dgo (elI false) m cs L) (.live m' [.sl (.lent false) (List.map (PV.int .i64) p)]) id off id' off' len C = ((m' = true → m = true) ∧ off' = 0 ∧ len = 1 ∧ off < cs.length ∧ id' ≠ id ∧ C ⟨.p .any, [(id', .dead), (id, dgo (elI false) m (cs.set off L.length) (L ++ [some [p]]))], [id, id']⟩) := str_go (l := [p])
attribute [go_sem] str_w2
abbrev RowsG := List (Option (List (List Int)))
theorem nrLL_fI {T : List (List (List Int))} : noRoLL (List.map (List.map (elI false)) T) = true := by
  induction T with
  | nil => rfl
  | cons a T ih => rw [List.map_cons, noRoLL, ih, noRoL_map (fun _ => nr_frI)]; rfl
attribute [go_sem] nrLL_fI
def sgWg : FuncId → List Bool := fun f => if f = 4294967297 then [false, false, true, true] else []
theorem sgWg_eq {f : FuncId} : sgWg f = if f = 4294967297 then [false, false, true, true] else [] := _root_.id rfl
theorem way_sgWg : wayE sgWg = false ∧ wayN sgWg = false ∧ wayS sgWg = false ∧ wayZ sgWg = true ∧ wayM sgWg = true := ⟨rfl, rfl, rfl, rfl, rfl⟩
attribute [go_sem] sgWg_eq way_sgWg
def sgWs : FuncId → List Bool := fun f => if f = 4294967297 then [false, false, false, true] else []
theorem sgWs_eq {f : FuncId} : sgWs f = if f = 4294967297 then [false, false, false, true] else [] := _root_.id rfl
theorem way_sgWs : wayE sgWs = false ∧ wayN sgWs = false ∧ wayS sgWs = false ∧ wayZ sgWs = false ∧ wayM sgWs = true := ⟨rfl, rfl, rfl, rfl, rfl⟩
attribute [go_sem] sgWs_eq way_sgWs
theorem impl_WilfGroups_1_c {m0 : Bool} (d c : List Int) (h1 : d.length ≤ 1099511627776) (h2 : c.length ≤ 1099511627776) : Fun Try.prog 70 [(.sl (.lent m0) (List.map (PV.int .i64) (d))), (.pc [.sl (.lent false) (List.map (PV.int .i64) c)])] [(.bool (decide (c = d)))] := by
  refine fO sg0 [3] Try.func70 ?_
  have cE1 := @slices_Equal_int_int_c
  refine dEa trivial ?_
  all_goals try (refine zlf ?_; repeat' first | exact zso | refine And.intro ?_ ?_ | (refine zim ?_; intro zb hc) | (refine zin ?_; intro zb) | intro j')
  all_goals try refine zbx ?_
theorem cc_len {L : List (List Int)} {n : Int} : (ccR L n).length ≤ 7 := by
  unfold ccR; split
  · simp; omega
  · simp
theorem wgS_row {n : Int} {L : List (List Int)} : ∀ {j : Nat}, ∀ d ∈ (wgS n L j).1, d.length ≤ 7
  | 0, d, h => by simp [wgS] at h
  | j + 1, d, h => by
    rw [wgS] at h
    split at h
    · rcases List.mem_append.1 h with q | q
      · exact wgS_row d q
      · rw [List.mem_singleton] at q; subst q; exact cc_len
    · exact wgS_row d h
set_option maxHeartbeats 4000000 in
theorem impl_WilfGroups_c (k n : Int) : Fun Try.prog 23 [(.int .i64 (k)), (.int .i64 (n))] [(.dl (List.map (List.map (elI false)) (wgR k n)))] := by
  by_cases h0 : 1 ≤ k ∧ k ≤ 4 ∧ 0 ≤ n ∧ n ≤ 6
  · obtain ⟨K, rfl⟩ := Int.eq_ofNat_of_zero_le (show 0 ≤ k by omega)
    have hr : wgR (K : Nat) n = wgL K n := if_pos h0
    rw [hr]
    have b1 := few_perms K (by omega)
    have b2 := fun p h => one_basis K (by omega) (by omega) p h
    refine fO sgWg [4] Try.func23 ?_
    have cE1 := @impl_isSix_c; have cE2 := @impl_perms_f_c; have cE3 := @impl_perms_c; have cE4 := @impl_ClassCounts_c; have cE5 := @slices_IndexFunc_LLint_int_c; have cD1 := zdh [false, true, true, false, false, true, true, false, false] [(0, 1), (1, 3), (2, 3), (1, 4), (2, 4), (0, 5), (1, 5), (2, 5), (3, 5)]
    have cE3 := @impl_ClassCounts_c; have cE4 := @slices_IndexFunc_LLint_int_c; have cE5 := trivial
    refine dEa trivial ?_
    all_goals try (refine zlf ?_; repeat' first | exact zso | refine And.intro ?_ ?_ | (refine zim ?_; intro zb hc) | (refine zin ?_; intro zb) | intro j')
    all_goals try refine zbx ?_
    refine v_loopB (fun ms1 S1 => ∃ (j : Nat) (cs : List Nat) (L : RowsG), S1.e 0 = .p (.int .i64 (K)) ∧ S1.e 1 = .p (.int .i64 (n)) ∧ GwnL (S1.e 5) S1.h S1.n (elI false) (cs) (L) ∧ OwnL (S1.e 6) S1.h S1.n (elI false) (((wgS n (permL K) j).1).length) ((wgS n (permL K) j).1) ∧ OwnL (S1.e 25) S1.h S1.n (elI false) ((permL K).length) (permL K) ∧ S1.e 26 = .p (.int .i64 ((permL K).length)) ∧ S1.e 27 = .p (.int .i64 (j)) ∧ (j ≤ (permL K).length) ∧ (Tb cs L (wgS n (permL K) j).2) ∧ NId (S1.e 6) (S1.e 5) ∧ NId (S1.e 25) (S1.e 5) ∧ NId (S1.e 25) (S1.e 6) ∧ ms1 = (permL K).length - j) ((fun (j : Nat) (cs : List Nat) (L : RowsG) => (permL K).length - j) (0) ([]) ([])) ?_ ⟨0, [], [], dC trivial ?_⟩
    all_goals try (refine zlf ?_; repeat' first | exact zso | refine And.intro ?_ ?_ | (refine zim ?_; intro zb hc) | (refine zin ?_; intro zb) | intro j')
    all_goals try refine zbx ?_
    rintro ms1 S1 ⟨j, cs, L, h1_0, h1_1, o1_5, o1_6, o1_25, h1_26, h1_27, c1_0, c1_1, u1_0, u1_1, u1_2, hm1⟩
    obtain ⟨i1_5, h1_5, b1_5, l1_5⟩ := o1_5.out
    obtain ⟨i1_6, h1_6, b1_6, l1_6⟩ := o1_6.out
    obtain ⟨i1_25, h1_25, b1_25, l1_25⟩ := o1_25.out
    have k1_0 := (u1_0).out h1_6 h1_5
    have k1_1 := (u1_1).out h1_25 h1_5
    have k1_2 := (u1_2).out h1_25 h1_6
    have ni1_5 := znds (x := i1_5) (n := S1.n)
    have ni1_6 := znds (x := i1_6) (n := S1.n)
    have ni1_25 := znds (x := i1_25) (n := S1.n)
    have di1_5i1_6 := zdne (x := i1_5) (y := i1_6)
    have di1_5i1_25 := zdne (x := i1_5) (y := i1_25)
    have di1_6i1_25 := zdne (x := i1_6) (y := i1_25)
    have fL1 := (And.intro h1_0 (And.intro h1_1 (And.intro h1_26 (And.intro h1_27 (And.intro h1_5 (And.intro b1_5 (And.intro h1_6 (And.intro b1_6 (And.intro h1_25 (And.intro b1_25 (And.intro ni1_5 (And.intro ni1_6 (And.intro ni1_25 (And.intro di1_5i1_6 (And.intro di1_5i1_25 di1_6i1_25)))))))))))))))
    · obtain ⟨l1, l2, l3⟩ := wgS_len (n := n) (L := permL K) (j := j)
      have lc := c1_1.len
      by_cases hj : j < (permL K).length
      · obtain ⟨p, hp⟩ : ∃ p, (permL K).getD j [] = p := ⟨_, rfl⟩
        have hm : p ∈ permL K := by rw [← hp]; exact getD_mem hj
        have hb := b2 p hm
        have q2 : wgS n (permL K) (j + 1) = if fstG (ccR [p] n) (wgS n (permL K) j).1 = (wgS n (permL K) j).1.length then ((wgS n (permL K) j).1 ++ [ccR [p] n], (wgS n (permL K) j).2 ++ [[p]])
          else ((wgS n (permL K) j).1, (wgS n (permL K) j).2.set (fstG (ccR [p] n) (wgS n (permL K) j).1) ((wgS n (permL K) j).2.getD (fstG (ccR [p] n) (wgS n (permL K) j).1) [] ++ [p])) := by rw [← hp]; rfl
        have dr : ∀ d ∈ (wgS n (permL K) j).1, d.length ≤ 7 := wgS_row
        generalize (wgS n (permL K) j).1 = D at *
        generalize (wgS n (permL K) j).2 = T at *
        obtain ⟨x, hx⟩ : ∃ x, ccR [p] n = x := ⟨_, rfl⟩
        have xl := cc_len (L := [p]) (n := n)
        have pl : p.length ≤ 8 := by have := permL_row _ hm; omega
        have cc := fun m0 : Bool => impl_ClassCounts_c (m0 := m0) (e0 := false) [p] n (by simp) (fun q hq => by rw [List.mem_singleton] at hq; subst hq; omega)
        rw [hx] at q2 xl cc
        simp only [List.map_cons, List.map_nil, elI_eq] at cc
        have ix := idx_fstG (x := x) (l := D) (i := 0)
        have h3 := fstG_le (x := x) (l := D)
        have c2 := fun m0 : Bool => slices_IndexFunc_LLint_int_c (m0 := m0) (e0 := false) D 70 [.pc [.sl (.lent false) (List.map (PV.int .i64) x)]] (fun d => decide (x = d)) (by omega) (fun d hd => impl_WilfGroups_1_c (m0 := false) d x (by have := dr d hd; omega) (by omega))
        by_cases hr2 : fstG x D = D.length
        · rw [if_pos hr2] at ix q2
          rw [ix] at c2
          have l1 : ∀ {m L id C}, ldB (dgn (elI false) m cs L) id cs.length C = C ⟨.p (.sl .own []), [], [id]⟩ := fun {m L id C} => ld_gn rfl
          have g1 := fun {m m' L p id id' off' len C} => str_w1 (m := m) (m' := m') (cs := cs) (L := L) (p := p) (id := id) (id' := id') (off := cs.length) (off' := off') (len := len) (C := C) rfl
          have p3 := tb_snoc (l := [p]) c1_1
          have cE1 := @cc; have cE2 := @c2; have cE3 := @impl_isSix_c; have cE4 := @slices_IndexFunc_LLint_int_c; have cE5 := trivial
          refine dEa (And.intro fL1 (And.intro @hp (And.intro @l1 @g1))) ?_
          all_goals try (refine zlf ?_; repeat' first | exact zso | refine And.intro ?_ ?_ | (refine zim ?_; intro zb hc) | (refine zin ?_; intro zb) | intro j')
          all_goals try refine zbx ?_
          focus
            refine q_lp_n ((fun (j : Nat) (cs : List Nat) (L : RowsG) => (permL K).length - j) (j+1) (cs ++ [L.length]) (L ++ [some [p]])) (dC fL1 ?_) ⟨j+1, cs ++ [L.length], L ++ [some [p]], dC fL1 ?_⟩
            all_goals try (refine zlf ?_; repeat' first | exact zso | refine And.intro ?_ ?_ | (refine zim ?_; intro zb hc) | (refine zin ?_; intro zb) | intro j')
            all_goals try refine zbx ?_
          all_goals first | (rw [q2]; exact p3) | (rw [q2]; done) | (rw [q2]; rfl) | (rw [q2]; simp; done) | trace_state
        · rw [if_neg hr2] at ix q2
          rw [ix] at c2
          have e2 := c1_1.at_ (fstG x D) (by omega)
          have e3 := l3 (T.getD (fstG x D) []) (getD_mem (by omega))
          have e6 : ((0 : Int) + (fstG x D : Int)).toNat = fstG x D := by omega
          have p4 := tb_grow (i := fstG x D) (l := T.getD (fstG x D) [] ++ [p]) c1_1 (by omega)
          have cE1 := @cc; have cE2 := @c2; have cE3 := @impl_isSix_c; have cE4 := @slices_IndexFunc_LLint_int_c; have cE5 := trivial
          refine dEa (And.intro fL1 (And.intro @hp (And.intro @e2 @e6))) ?_
          all_goals try (refine zlf ?_; repeat' first | exact zso | refine And.intro ?_ ?_ | (refine zim ?_; intro zb hc) | (refine zin ?_; intro zb) | intro j')
          all_goals try refine zbx ?_
          focus
            refine q_lp_n ((fun (j : Nat) (cs : List Nat) (L : RowsG) => (permL K).length - j) (j+1) (cs.set (fstG x D) (L.set (cs.getD (fstG x D) 0) none).length) (L.set (cs.getD (fstG x D) 0) none ++ [some (T.getD (fstG x D) [] ++ [p])])) (dC fL1 ?_) ⟨j+1, cs.set (fstG x D) (L.set (cs.getD (fstG x D) 0) none).length, L.set (cs.getD (fstG x D) 0) none ++ [some (T.getD (fstG x D) [] ++ [p])], dC fL1 ?_⟩
            all_goals try (refine zlf ?_; repeat' first | exact zso | refine And.intro ?_ ?_ | (refine zim ?_; intro zb hc) | (refine zin ?_; intro zb) | intro j')
            all_goals try refine zbx ?_
          all_goals first | (rw [q2]; exact p4) | (rw [q2]; done) | (rw [q2]; rfl) | trace_state
      · obtain rfl : j = (permL K).length := by omega
        have cE1 := @impl_isSix_c; have cE2 := @impl_ClassCounts_c; have cE3 := @slices_IndexFunc_LLint_int_c; have cE4 := trivial; have cE5 := trivial
        refine dEa fL1 ?_
        all_goals try (refine zlf ?_; repeat' first | exact zso | refine And.intro ?_ ?_ | (refine zim ?_; intro zb hc) | (refine zin ?_; intro zb) | intro j')
        all_goals try refine zbx ?_
        refine fd_go c1_1 (fun h => by cases h) rfl c1_1.len ?_
        simp only [FK, FL, fins, F0, List.nil_append, List.cons_append, List.append_nil]
        exact List.pairwise_singleton _ _
    all_goals first | exact Tb.nil | trace_state
  · have hr : wgR k n = [] := if_neg h0
    rw [hr]
    refine fO sgWg [4] Try.func23 ?_
    have cE1 := @impl_isSix_c; have cE2 := @impl_perms_f_c; have cE3 := @impl_perms_c; have cE4 := @impl_ClassCounts_c; have cE5 := @slices_IndexFunc_LLint_int_c; have cD1 := zdh [false, true, true, false, false, true, true, false, false] [(0, 1), (1, 3), (2, 3), (1, 4), (2, 4), (0, 5), (1, 5), (2, 5), (3, 5)]
    have cE3 := @impl_ClassCounts_c; have cE4 := @slices_IndexFunc_LLint_int_c; have cE5 := trivial
    refine dEa trivial ?_
    all_goals try (refine zlf ?_; repeat' first | exact zso | refine And.intro ?_ ?_ | (refine zim ?_; intro zb hc) | (refine zin ?_; intro zb) | intro j')
    all_goals try refine zbx ?_
    all_goals trace_state
theorem laws_hasList_c {e0 m0 m1 : Bool} (L : List (List Int)) (x : List Int) (hL : L.length ≤ 1099511627776) (hl : ∀ l ∈ L, l.length ≤ 1099511627776) (hx : x.length ≤ 1099511627776) : Fun Try.prog 40 [(.sl (.lent m0) (List.map (elI e0) (L))), (.sl (.lent m1) (List.map (PV.int .i64) (x)))] [(.bool (L.contains x))] := by
  refine fO sg0 [4] Try.func40 ?_
  have cE1 := @laws_sameInts_c
  refine dEa trivial ?_
  all_goals try (refine zlf ?_; repeat' first | exact zso | refine And.intro ?_ ?_ | (refine zim ?_; intro zb hc) | (refine zin ?_; intro zb) | intro j')
  all_goals try refine zbx ?_
  refine v_loopB (fun ms1 S1 => ∃ (k : Nat), S1.e 0 = .p (.sl (.lent m0) (List.map (elI e0) (L))) ∧ S1.e 1 = .p (.sl (.lent m1) (List.map (PV.int .i64) (x))) ∧ S1.e 5 = .p (.int .i64 (k)) ∧ (k ≤ L.length) ∧ (∀ i, i < k → ¬ L.getD i [] = x) ∧ ms1 = L.length - k) ((fun (k : Nat) => L.length - k) (0)) ?_ ⟨0, dC trivial ?_⟩
  all_goals try (refine zlf ?_; repeat' first | exact zso | refine And.intro ?_ ?_ | (refine zim ?_; intro zb hc) | (refine zin ?_; intro zb) | intro j')
  all_goals try refine zbx ?_
  rintro ms1 S1 ⟨k, h1_0, h1_1, h1_5, c1_0, c1_1, hm1⟩
  have fL1 := (And.intro h1_0 (And.intro h1_1 h1_5))
  · have b1 : k < L.length → (L.getD k []).length ≤ 1099511627776 := fun h => hl _ (getD_mem h)
    refine dE fL1 ?_
    all_goals try (refine zlf ?_; repeat' first | exact zso | refine And.intro ?_ ?_ | (refine zim ?_; intro zb hc) | (refine zin ?_; intro zb) | intro j')
    all_goals try refine zbx ?_
    all_goals try have b2 := b1 (by omega)
    all_goals try exact zaut
    · exact (List.contains_iff_mem.2 (by rw [← hc]; exact getD_mem (by omega))).symm
    · focus
        refine q_lp_n ((fun (k : Nat) => L.length - k) (k+1)) (dC fL1 ?_) ⟨k+1, dC fL1 ?_⟩
        all_goals try (refine zlf ?_; repeat' first | exact zso | refine And.intro ?_ ?_ | (refine zim ?_; intro zb hc) | (refine zin ?_; intro zb) | intro j')
        all_goals try refine zbx ?_
      intro i hi
      by_cases e : i = k
      · subst e; exact hc
      · exact c1_1 i (by omega)
    · symm
      rw [← Bool.not_eq_true, List.contains_iff_mem]
      intro hm
      obtain ⟨i, hi, e⟩ := List.getElem_of_mem hm
      refine c1_1 i (by omega) ?_
      rw [List.getD_eq_getElem?_getD, List.getElem?_eq_getElem hi]; exact e
  all_goals trace_state
theorem spec_ReversePerm_c {m0 : Bool} (p : List Int) (hl : p.length ≤ 1048576) (hp : isPermB p = true) : Fun Try.prog 41 [(.sl (.lent m0) (List.map (PV.int .i64) (p)))] [(.sl .own (List.map (PV.int .i64) (p.reverse)))] := by
  refine fO sg0 [2] Try.func41 ?_
  have cE1 := @spec_IsPerm_c; have cE2 := @spec_l3Reverse_c
  refine dEa @hp ?_
  all_goals try (refine zlf ?_; repeat' first | exact zso | refine And.intro ?_ ?_ | (refine zim ?_; intro zb hc) | (refine zin ?_; intro zb) | intro j')
  all_goals try refine zbx ?_
theorem spec_ComplementPerm_c {m0 : Bool} (p : List Int) (hl : p.length ≤ 1048576) (hp : isPermB p = true) : Fun Try.prog 42 [(.sl (.lent m0) (List.map (PV.int .i64) (p)))] [(.sl .own (List.map (PV.int .i64) (cplL p)))] := by
  refine fO sg0 [2] Try.func42 ?_
  have cE1 := @spec_IsPerm_c; have cE2 := @spec_l3Complement_c
  have hb := perm_bd hp
  refine dEa @hp ?_
  all_goals try (refine zlf ?_; repeat' first | exact zso | refine And.intro ?_ ?_ | (refine zim ?_; intro zb hc) | (refine zin ?_; intro zb) | intro j')
  all_goals try refine zbx ?_
end Go.Gl
