/-
 Simple permutations one below the other: what the program's function computes. Conditions: none.
-/
import Derived.Test.YtfjfobbniglaeaaSimC
set_option linter.unusedSimpArgs false
set_option linter.unusedVariables false
set_option maxRecDepth 20000
set_option linter.unusedSectionVars false
namespace Go.Gl
open Go Go.Proofs
variable [Amb] [NoQ]
theorem chL_end {d : Nat} {q : List Int} (h : ¬ 2 < q.length) : chL d q = [q] := by
 cases d with
 | zero => rfl
 | succ d => rw [chL, if_neg h]
theorem ptR_len {p : List Int} {k : Nat} (h8 : p.length ≤ 8) (hk : k ≤ p.length) : (ptR p k).length ≤ 70 := by
 have := putL_len (L := (plK p.length k).map fun l => patL (ptA p l))
 rw [List.length_map] at this
 exact Nat.le_trans this (plK_len p.length (by omega) k (by omega))
theorem ptR_row {p : List Int} {k : Nat} (h8 : p.length ≤ 8) (hk : k ≤ p.length) : ∀ l ∈ ptR p k, l.length ≤ 8 ∧ ∀ x ∈ l, 0 ≤ x ∧ x ≤ 1048576 := by
 intro l h
 rw [ptR, putL, put_mem] at h
 rcases h with h | h
 ·obtain ⟨r, hr, rfl⟩ := List.mem_map.1 h
  have h1 := (plK_f r hr).1
  have h2 : (patL (ptA p r)).length = r.length := by rw [patL_len]; simp [ptA]
  refine ⟨by omega, fun x hx => ?_⟩
  rw [patL, List.mem_map] at hx
  obtain ⟨y, _, rfl⟩ := hx
  have := rkI_b (l := ptA p r) (x := y) (k := (ptA p r).length)
  have h3 : (ptA p r).length = r.length := by simp [ptA]
  omega
 ·cases h
def chB (p : List Int) : List (List Int) := if (isPermB p && isSimB p) = true then chL p.length p else []
theorem smpL_len {p : List Int} : (smpL p).length ≤ p.length := by
 have := List.length_filter_le isSimB (lowL p)
 have := lowL_len (p := p)
 unfold smpL; omega
theorem nx_e {q : List Int} (h1 : ((List.filter isSimB (lowL q)).length : Int) = 0) : smpL q = [] := List.length_eq_zero_iff.1 (by rw [smpL]; omega)
theorem nx_no {q : List Int} (hN : nxS q ≠ []) (h1 : ((List.filter isSimB (lowL q)).length : Int) = 0) (h2 : ((List.filter isSimB (ptR q (q.length - 2))).length : Int) = 0) : False := by
 refine hN ?_
 rw [nxS, if_pos (nx_e h1)]
 exact List.length_eq_zero_iff.1 (by omega)
theorem nx_2 {q : List Int} (h1 : ((List.filter isSimB (lowL q)).length : Int) = 0) : (List.filter isSimB (ptR q (q.length - 2))).getD 0 [] = nxQ q := by rw [nxQ, nxS, if_pos (nx_e h1)]
theorem nx_1 {q : List Int} (h1 : ¬ ((List.filter isSimB (lowL q)).length : Int) = 0) : (List.filter isSimB (lowL q)).getD 0 [] = nxQ q := by
 rw [nxQ, nxS, if_neg (fun e => h1 (by rw [show List.filter isSimB (lowL q) = smpL q from rfl, e]; rfl))]; rfl
def sgSmC : FuncId → List Bool := fun f => if f = 53 then [true] else []
theorem sgSmC_eq {f : FuncId} : sgSmC f = if f = 53 then [true] else [] := _root_.id rfl
theorem way_sgSmC : wayE sgSmC = false ∧ wayN sgSmC = false ∧ wayS sgSmC = false ∧ wayZ sgSmC = false ∧ wayM sgSmC = false := ⟨rfl, rfl, rfl, rfl, rfl⟩
attribute [go_sem] sgSmC_eq way_sgSmC
set_option maxHeartbeats 2000000 in
theorem impl_SimpleChain_f_c {m0 : Bool} (p : List Int) (hl : p.length ≤ 1048576) : Fun Try.prog 19 [(.sl (.lent m0) (List.map (PV.int .i64) (p)))] [(.sl .own (List.map (elI false) (chB p))), (.bool ((isPermB p && isSimB p)))] := by
 by_cases hp : isPermB p = true
 ·by_cases hs : isSimB p = true
  ·obtain ⟨h8, hq⟩ := isP_8 hp
   have e0 : chB p = chL p.length p := by rw [chB, hp, hs]; rfl
   rw [e0, hp, hs]
   refine fO sgSmC [2, 3] Try.func19 ?_
   have cE1 := @impl_IsSimple_c; have cE2 := @slices_Clone_c; have cE3 := @impl_lowers_c; have cE4 := @impl_PatternsIn_c; have cM1 := @impl_simples_c
   refine dEa (And.intro @hp (And.intro @hs @Bool.and_self)) ?_
   all_goals try (refine zlf ?_; repeat' first | exact zso | refine And.intro ?_ ?_ | (refine zim ?_; intro zb hc; repeat (have zc := zb.1; replace zb := zb.2)) | (refine zin ?_; intro zb) | intro j')
   all_goals try refine zbx ?_
   refine v_loopB (fun ms1 S1 => ∃ (u : Bool) (d : Nat) (q : List Int) (pre : List (List Int)), S1.e 0 = .p (.sl (.lent u) (List.map (PV.int .i64) q)) ∧ OwnL (S1.e 4) S1.h S1.n (elI false) ((pre ++ [q]).length) (pre ++ [q]) ∧ (isPermB q = true) ∧ (isSimB q = true) ∧ (q.length ≤ d) ∧ (pre.length + q.length ≤ p.length) ∧ (pre ++ chL d q = chL p.length p) ∧ ms1 = q.length) ((fun (u : Bool) (d : Nat) (q : List Int) (pre : List (List Int)) => q.length) (m0) (p.length) (p) ([])) ?_ ⟨m0, p.length, p, [], dC trivial ?_⟩
   all_goals try (refine zlf ?_; repeat' first | exact zso | refine And.intro ?_ ?_ | (refine zim ?_; intro zb hc; repeat (have zc := zb.1; replace zb := zb.2)) | (refine zin ?_; intro zb) | intro j')
   all_goals try refine zbx ?_
   rintro ms1 S1 ⟨u, d, q, pre, h1_0, o1_4, c1_0, c1_1, c1_2, c1_3, c1_4, hm1⟩
   obtain ⟨i1_4, h1_4, b1_4, l1_4⟩ := o1_4.out
   have ni1_4 := znds (x := i1_4) (n := S1.n)
   have fL1 := (And.intro h1_0 (And.intro h1_4 (And.intro b1_4 ni1_4)))
   ·obtain ⟨g8, gq⟩ := isP_8 c1_0
    by_cases h2 : 2 < q.length
    ·have hN := nxS_ok c1_0 c1_1 h2
     have hM := nxQ_mem c1_0 c1_1 h2
     obtain ⟨n1, n2, n3, _, _⟩ := hN.2 _ hM
     obtain ⟨d, rfl⟩ : ∃ e, d = e + 1 := ⟨d - 1, by omega⟩
     have q4 := c1_4
     rw [chL, if_pos h2] at q4
     have b0 := smpL_len (p := q)
     have b1 := lowL_len (p := q)
     have b2 : ∀ l ∈ lowL q, l.length ≤ 8 ∧ ∀ x ∈ l, 0 ≤ x ∧ x ≤ 1048576 := fun l h => ⟨(low_facts gq g8 h).1, (low_facts gq g8 h).2.2⟩
     have b3 := ptR_len (p := q) (k := q.length - 2) g8 (by omega)
     have b4 := ptR_row (p := q) (k := q.length - 2) g8 (by omega)
     have cP := impl_PatternsIn_c (m0 := u) q (q.length - 2) c1_0 (by omega)
     rw [show ((q.length - 2 : Nat) : Int) = (q.length : Int) - 2 by omega] at cP
     have b5 : ((List.filter isSimB (lowL q)).length : Int) ≤ 1048576 := by have := List.length_filter_le isSimB (lowL q); omega
     have b6 : ((List.filter isSimB (ptR q (q.length - 2))).length : Int) ≤ 1048576 := by have := List.length_filter_le isSimB (ptR q (q.length - 2)); omega
     have cE1 := @cP; have cE2 := @impl_IsSimple_c; have cE3 := @slices_Clone_c; have cE4 := @impl_lowers_c
     refine dEa fL1 ?_
     all_goals try (refine zlf ?_; repeat' first | exact zso | refine And.intro ?_ ?_ | (refine zim ?_; intro zb hc; repeat (have zc := zb.1; replace zb := zb.2)) | (refine zin ?_; intro zb) | intro j')
     all_goals try refine zbx ?_
     all_goals try first | exact b2 | exact b4 | exact (nx_no hN.1 (by assumption) hc).elim
     ·have hx := nx_2 (q := q) (by assumption)
      rw [hx]
      focus
       refine q_lp_n ((fun (u : Bool) (d : Nat) (q : List Int) (pre : List (List Int)) => q.length) (false) (d) (nxQ q) (pre ++ [q])) (dC fL1 ?_) ⟨false, d, nxQ q, pre ++ [q], dC fL1 ?_⟩
       all_goals try (refine zlf ?_; repeat' first | exact zso | refine And.intro ?_ ?_ | (refine zim ?_; intro zb hc; repeat (have zc := zb.1; replace zb := zb.2)) | (refine zin ?_; intro zb) | intro j')
       all_goals try refine zbx ?_
      all_goals trace_state
     ·have hx := nx_1 hc
      rw [hx]
      focus
       refine q_lp_n ((fun (u : Bool) (d : Nat) (q : List Int) (pre : List (List Int)) => q.length) (false) (d) (nxQ q) (pre ++ [q])) (dC fL1 ?_) ⟨false, d, nxQ q, pre ++ [q], dC fL1 ?_⟩
       all_goals try (refine zlf ?_; repeat' first | exact zso | refine And.intro ?_ ?_ | (refine zim ?_; intro zb hc; repeat (have zc := zb.1; replace zb := zb.2)) | (refine zin ?_; intro zb) | intro j')
       all_goals try refine zbx ?_
      all_goals trace_state
    ·have e3 := chL_end (d := d) h2
     rw [e3] at c1_4
     have cE1 := @impl_IsSimple_c; have cE2 := @slices_Clone_c; have cE3 := @impl_lowers_c; have cE4 := @impl_PatternsIn_c
     refine dEa fL1 ?_
     all_goals try (refine zlf ?_; repeat' first | exact zso | refine And.intro ?_ ?_ | (refine zim ?_; intro zb hc; repeat (have zc := zb.1; replace zb := zb.2)) | (refine zin ?_; intro zb) | intro j')
     all_goals try refine zbx ?_
     all_goals trace_state
   all_goals trace_state
  ·rw [Bool.not_eq_true] at hs
   rw [chB, hp, hs]
   refine fO sgSmC [2, 3] Try.func19 ?_
   have cE1 := @impl_IsSimple_c; have cE2 := @slices_Clone_c; have cE3 := @impl_lowers_c; have cE4 := @impl_PatternsIn_c; have cM1 := @impl_simples_c
   refine dEa (And.intro @hp @hs) ?_
   all_goals try (refine zlf ?_; repeat' first | exact zso | refine And.intro ?_ ?_ | (refine zim ?_; intro zb hc; repeat (have zc := zb.1; replace zb := zb.2)) | (refine zin ?_; intro zb) | intro j')
   all_goals try refine zbx ?_
   all_goals trace_state
 ·rw [Bool.not_eq_true] at hp
  rw [chB, hp]
  refine fO sgSmC [2, 3] Try.func19 ?_
  have cE1 := @impl_IsSimple_c; have cE2 := @slices_Clone_c; have cE3 := @impl_lowers_c; have cE4 := @impl_PatternsIn_c; have cM1 := @impl_simples_c
  refine dEa @hp ?_
  all_goals try (refine zlf ?_; repeat' first | exact zso | refine And.intro ?_ ?_ | (refine zim ?_; intro zb hc; repeat (have zc := zb.1; replace zb := zb.2)) | (refine zin ?_; intro zb) | intro j')
  all_goals try refine zbx ?_
  all_goals trace_state
end Go.Gl
