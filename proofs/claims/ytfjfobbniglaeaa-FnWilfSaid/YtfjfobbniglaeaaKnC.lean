/-
  The names of known numbers: what the program computes. Conditions: none.
-/
import Derived.Test.YtfjfobbniglaeaaKnS
set_option linter.unusedSimpArgs false
set_option linter.unusedVariables false
set_option maxRecDepth 20000
set_option linter.unusedSectionVars false
namespace Go.Gl
open Go Go.Proofs
variable [Amb]
def knG : Nat → FuncId
  | 0 => 81
  | 1 => 82
  | 2 => 35
  | 3 => 31
  | _ => 83
def knCs : List PV := [.str (knW 0), .fn (knG 0) [] [], .str (knW 1), .fn (knG 1) [] [], .str (knW 2), .fn (knG 2) [] [], .str (knW 3), .fn (knG 3) [] [], .str (knW 4), .fn (knG 4) [] []]
theorem knCs_len : knCs.length = 10 := rfl
theorem kn_at {k : Nat} (hk : k < 5) : List.take 2 (List.drop (k * 2) knCs) = [.str (knW k), .fn (knG k) [] []] := by
  obtain rfl | rfl | rfl | rfl | rfl : k = 0 ∨ k = 1 ∨ k = 2 ∨ k = 3 ∨ k = 4 := by omega
  all_goals rfl
theorem pt_kn : pairT Try.prog 77 = true := by kernel_rfl
theorem ck_nilf : PV.cellOk .nilf = true := _root_.id rfl
theorem ce_nilf : PV.cell .nilf = .nilf := _root_.id rfl
theorem ce_fn {f : FuncId} {a b : List PV} : PV.cell (.fn f a b) = .fn f a b := _root_.id rfl
attribute [local go_sem] pt_kn ck_nilf ce_nilf ce_fn
theorem kn_call {k : Nat} (hk : k < 5) (m : Int) (h0 : 0 ≤ m ∧ m ≤ 6) : Fun Try.prog (knG k) [.int .i64 m] [.int .i64 (knF k m)] := by
  obtain rfl | rfl | rfl | rfl | rfl : k = 0 ∨ k = 1 ∨ k = 2 ∨ k = 3 ∨ k = 4 := by omega
  · exact impl_KnownCounts_1_c m
  · exact impl_KnownCounts_2_c m h0
  · exact impl_FibonacciNumber_c m
  · exact impl_CatalanNumber_c m
  · exact impl_KnownCounts_3_c m h0
theorem impl_KnownCounts_c {e0 m0 : Bool} (L : List (List Int)) (n : Int) (hL : L.length ≤ 1048576) (hl : ∀ l ∈ L, l.length ≤ 1048576) : Fun Try.prog 37 [(.sl (.lent m0) (List.map (elI e0) (L))), (.int .i64 (n))] [(.str (knownR L n))] := by
  by_cases h : basisB L = true ∧ 4 ≤ n ∧ n ≤ 6
  · have hb := h.1
    have cl := ccR_len h
    have e : knownR L n = knN (ccR L n) := if_pos h
    rw [e]
    obtain ⟨c, hc0⟩ : ∃ c, ccR L n = c := ⟨_, rfl⟩
    rw [hc0] at cl ⊢
    refine fO sg0 [4] Try.func37 ?_
    have cE1 := @impl_KnownCounts_1_c; have cE2 := @impl_FibonacciNumber_c; have cE3 := @impl_CatalanNumber_c; have cE4 := @impl_IsBasis_c; have cE5 := @impl_ClassCounts_c; have cE6 := @impl_KnownCounts_2_c
    have cE7 := @impl_KnownCounts_3_c
    refine dEa (And.intro @hb @hc0) ?_
    all_goals try (refine zlf ?_; repeat' first | exact zso | refine And.intro ?_ ?_ | (refine zim ?_; intro zb hc; repeat (have zc := zb.1; replace zb := zb.2)) | (refine zin ?_; intro zb) | intro j')
    all_goals try refine zbx ?_
    refine v_loopB (fun ms1 S1 => ∃ (k : Nat), OwnL (S1.e 5) S1.h S1.n (PV.int .i64) ((c).length) (c) ∧ PrsL (S1.e 32) S1.h S1.n (5) (knCs) ∧ S1.e 33 = .p (.int .i64 (5)) ∧ S1.e 34 = .p (.int .i64 (k)) ∧ (k ≤ 5) ∧ (∀ j, j < k → knB c j = false) ∧ NId (asR (S1.e 32)) (S1.e 5) ∧ ms1 = 5 - k) ((fun (k : Nat) => 5 - k) (0)) ?_ ⟨0, dC trivial ?_⟩
    all_goals try (refine zlf ?_; repeat' first | exact zso | refine And.intro ?_ ?_ | (refine zim ?_; intro zb hc; repeat (have zc := zb.1; replace zb := zb.2)) | (refine zin ?_; intro zb) | intro j')
    all_goals try refine zbx ?_
    rintro ms1 S1 ⟨k, o1_5, o1_32, h1_33, h1_34, c1_0, c1_1, u1_0, hm1⟩
    obtain ⟨i1_5, h1_5, b1_5, l1_5⟩ := o1_5.out
    obtain ⟨i1_32, h1_32, b1_32, l1_32⟩ := o1_32.out
    have k1_0 := (u1_0).out (asR_ep h1_32) h1_5
    have ni1_5 := znds (x := i1_5) (n := S1.n)
    have ni1_32 := znds (x := i1_32) (n := S1.n)
    have di1_5i1_32 := zdne (x := i1_5) (y := i1_32)
    have fL1 := (And.intro h1_33 (And.intro h1_34 (And.intro h1_5 (And.intro b1_5 (And.intro h1_32 (And.intro b1_32 (And.intro ni1_5 (And.intro ni1_32 di1_5i1_32))))))))
    · by_cases hk : k < 5
      · have e1 := kn_at hk
        refine dEa (And.intro fL1 (And.intro @e1 @knCs_len)) ?_
        all_goals try (refine zlf ?_; repeat' first | exact zso | refine And.intro ?_ ?_ | (refine zim ?_; intro zb hc; repeat (have zc := zb.1; replace zb := zb.2)) | (refine zin ?_; intro zb) | intro j')
        all_goals try refine zbx ?_
        refine v_loopB (fun ms2 S2 => ∃ (m : Nat), S2.e 5 = .ref i1_5 0 (c).length ∧ S2.h i1_5 = .live false (List.map (PV.int .i64) (c)) ∧ S2.e 38 = .ref i1_5 0 (c).length ∧ S2.h i1_5 = .live false (List.map (PV.int .i64) (c)) ∧ PrsL (S2.e 32) S2.h S2.n (5) (knCs) ∧ S2.e 33 = .p (.int .i64 (5)) ∧ S2.e 34 = .p (.int .i64 (k)) ∧ PtrL (S2.e 8) S2.h S2.n (.live false [.str (knW k), .fn (knG k) [] []]) ∧ S2.e 39 = .p (.int .i64 (c.length)) ∧ S2.e 40 = .p (.int .i64 (m)) ∧ S2.e 9 = .p (.bool (knK c k m)) ∧ (m ≤ c.length) ∧ NId (asR (S2.e 8)) (asR (S2.e 32)) ∧ NId (asR (S2.e 32)) (.ref i1_5 0 0) ∧ NId (asR (S2.e 8)) (.ref i1_5 0 0) ∧ S1.n ≤ S2.n ∧ ms2 = c.length - m) ((fun (m : Nat) => c.length - m) (0)) ?_ ⟨0, dC fL1 ?_⟩
        all_goals try (refine zlf ?_; repeat' first | exact zso | refine And.intro ?_ ?_ | (refine zim ?_; intro zb hc; repeat (have zc := zb.1; replace zb := zb.2)) | (refine zin ?_; intro zb) | intro j')
        all_goals try refine zbx ?_
        rintro ms2 S2 ⟨m, h2_5, b2_5, h2_38, b2_38, o2_32, h2_33, h2_34, o2_8, h2_39, h2_40, h2_9, c2_0, u2_0, u2_1, u2_2, u2_3, hm2⟩
        obtain ⟨i2_32, h2_32, b2_32, l2_32⟩ := o2_32.out
        obtain ⟨i2_8, h2_8, b2_8, l2_8⟩ := o2_8.out
        have k2_0 := (u2_0).out (asR_eq h2_8) (asR_ep h2_32)
        have k2_1 := (u2_1).out (asR_ep h2_32) rfl
        have k2_2 := (u2_2).out (asR_eq h2_8) rfl
        have ni2_32 := znds (x := i2_32) (n := S2.n)
        have ni2_8 := znds (x := i2_8) (n := S2.n)
        have ni1_5 := znds (x := i1_5) (n := S2.n)
        have di2_32i2_8 := zdne (x := i2_32) (y := i2_8)
        have di2_32i1_5 := zdne (x := i2_32) (y := i1_5)
        have di2_8i1_5 := zdne (x := i2_8) (y := i1_5)
        have fL2 := (And.intro h2_5 (And.intro b2_5 (And.intro h2_38 (And.intro b2_38 (And.intro h2_33 (And.intro h2_34 (And.intro h2_39 (And.intro h2_40 (And.intro h2_9 (And.intro h2_32 (And.intro b2_32 (And.intro h2_8 (And.intro b2_8 (And.intro ni2_32 (And.intro ni2_8 (And.intro ni1_5 (And.intro di2_32i2_8 (And.intro di2_32i1_5 di2_8i1_5))))))))))))))))))
        · by_cases hm : m < c.length
          · have c9 := kn_call hk m (by omega)
            have cE1 := @c9; have cE2 := @impl_KnownCounts_1_c; have cE3 := @impl_FibonacciNumber_c; have cE4 := @impl_CatalanNumber_c; have cE5 := @impl_IsBasis_c; have cE6 := @impl_ClassCounts_c
            have cE7 := @impl_KnownCounts_2_c; have cE8 := @impl_KnownCounts_3_c
            refine dEa fL2 ?_
            all_goals try (refine zlf ?_; repeat' first | exact zso | refine And.intro ?_ ?_ | (refine zim ?_; intro zb hc; repeat (have zc := zb.1; replace zb := zb.2)) | (refine zin ?_; intro zb) | intro j')
            all_goals try refine zbx ?_
            · focus
                refine q_lp_n ((fun (m : Nat) => c.length - m) (m+1)) (dC fL2 ?_) ⟨m+1, dC fL2 ?_⟩
                all_goals try (refine zlf ?_; repeat' first | exact zso | refine And.intro ?_ ?_ | (refine zim ?_; intro zb hc; repeat (have zc := zb.1; replace zb := zb.2)) | (refine zin ?_; intro zb) | intro j')
                all_goals try refine zbx ?_
              all_goals (rw [knK_succ]; simp [*])
            · focus
                refine q_lp_n ((fun (m : Nat) => c.length - m) (m+1)) (dC fL2 ?_) ⟨m+1, dC fL2 ?_⟩
                all_goals try (refine zlf ?_; repeat' first | exact zso | refine And.intro ?_ ?_ | (refine zim ?_; intro zb hc; repeat (have zc := zb.1; replace zb := zb.2)) | (refine zin ?_; intro zb) | intro j')
                all_goals try refine zbx ?_
              all_goals (rw [knK_succ]; simp [*])
          · obtain rfl : m = c.length := by omega
            have cE1 := @impl_KnownCounts_1_c; have cE2 := @impl_FibonacciNumber_c; have cE3 := @impl_CatalanNumber_c; have cE4 := @impl_IsBasis_c; have cE5 := @impl_ClassCounts_c; have cE6 := @impl_KnownCounts_2_c
            have cE7 := @impl_KnownCounts_3_c; have cE8 := trivial
            refine dEa fL2 ?_
            all_goals try (refine zlf ?_; repeat' first | exact zso | refine And.intro ?_ ?_ | (refine zim ?_; intro zb hc; repeat (have zc := zb.1; replace zb := zb.2)) | (refine zin ?_; intro zb) | intro j')
            all_goals try refine zbx ?_
            · exact (knN_at (by omega) c1_1 hc).symm
            · focus
                refine q_lp_n ((fun (k : Nat) => 5 - k) (k+1)) (dC fL2 ?_) ⟨k+1, dC fL2 ?_⟩
                all_goals try (refine zlf ?_; repeat' first | exact zso | refine And.intro ?_ ?_ | (refine zim ?_; intro zb hc; repeat (have zc := zb.1; replace zb := zb.2)) | (refine zin ?_; intro zb) | intro j')
                all_goals try refine zbx ?_
              intro j hj
              by_cases e : j = k
              · subst e; exact hc
              · exact c1_1 j (by omega)
        all_goals trace_state
      · obtain rfl : k = 5 := by omega
        have cE1 := @impl_KnownCounts_1_c; have cE2 := @impl_FibonacciNumber_c; have cE3 := @impl_CatalanNumber_c; have cE4 := @impl_IsBasis_c; have cE5 := @impl_ClassCounts_c; have cE6 := @impl_KnownCounts_2_c
        have cE7 := @impl_KnownCounts_3_c; have cE8 := trivial
        refine dEa fL1 ?_
        all_goals try (refine zlf ?_; repeat' first | exact zso | refine And.intro ?_ ?_ | (refine zim ?_; intro zb hc; repeat (have zc := zb.1; replace zb := zb.2)) | (refine zin ?_; intro zb) | intro j')
        all_goals try refine zbx ?_
        all_goals exact (knN_no c1_1).symm
    all_goals trace_state
  · rw [show knownR L n = [] from if_neg h]
    refine fO sg0 [4] Try.func37 ?_
    have cE1 := @impl_KnownCounts_1_c; have cE2 := @impl_FibonacciNumber_c; have cE3 := @impl_CatalanNumber_c; have cE4 := @impl_IsBasis_c; have cE5 := @impl_ClassCounts_c; have cE6 := @impl_KnownCounts_2_c
    have cE7 := @impl_KnownCounts_3_c
    refine dEa trivial ?_
    all_goals try (refine zlf ?_; repeat' first | exact zso | refine And.intro ?_ ?_ | (refine zim ?_; intro zb hc; repeat (have zc := zb.1; replace zb := zb.2)) | (refine zin ?_; intro zb) | intro j')
    all_goals try refine zbx ?_
    all_goals exact absurd ⟨by assumption, by omega, by omega⟩ h
end Go.Gl
