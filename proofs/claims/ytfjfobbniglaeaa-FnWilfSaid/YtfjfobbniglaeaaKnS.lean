/-
  The names of known numbers: what the reference computes. Conditions: none.
-/
import Derived.Test.YtfjfobbniglaeaaClsI
import Derived.Test.YtfjfobbniglaeaaCat
set_option linter.unusedSimpArgs false
set_option linter.unusedVariables false
set_option maxRecDepth 20000
set_option linter.unusedSectionVars false
namespace Go.Gl
open Go Go.Proofs
variable [Amb]
def pwR (m : Int) : Int := 2 ^ (max (m - 1) 0).toNat
theorem p2_b : ∀ k, k < 6 → (1 : Int) ≤ 2 ^ k ∧ (2 : Int) ^ k ≤ 32 := by decide
theorem pwR_b {m : Int} (h : m ≤ 6) : 1 ≤ pwR m ∧ pwR m ≤ 32 := p2_b _ (by omega)
theorem impl_KnownCounts_1_c (m : Int) : Fun Try.prog 81 [(.int .i64 (m))] [(.int .i64 (1))] := by
  refine fO sg0 [2] Try.func81 ?_
  refine dEa trivial ?_
  all_goals try (refine zlf ?_; repeat' first | exact zso | refine And.intro ?_ ?_ | (refine zim ?_; intro zb hc) | (refine zin ?_; intro zb) | intro j')
  all_goals try refine zbx ?_
theorem impl_KnownCounts_2_c (m : Int) (h0 : 0 ≤ m ∧ m ≤ 6) : Fun Try.prog 82 [(.int .i64 (m))] [(.int .i64 (pwR m))] := by
  refine fO sg0 [2] Try.func82 ?_
  have b := pwR_b h0.2
  have e : 1 * 2 ^ (max (m - 1) 0).toNat = pwR m := Int.one_mul _
  refine dEa trivial ?_
  all_goals try (refine zlf ?_; repeat' first | exact zso | refine And.intro ?_ ?_ | (refine zim ?_; intro zb hc) | (refine zin ?_; intro zb) | intro j')
  all_goals try refine zbx ?_
  all_goals first | exact e | (rw [e]; simp only [n_i64]; omega)
theorem impl_KnownCounts_3_c (m : Int) (h0 : 0 ≤ m ∧ m ≤ 6) : Fun Try.prog 83 [(.int .i64 (m))] [(.int .i64 (srR (max (m - 1) 0)))] := by
  refine fO sg0 [2] Try.func83 ?_
  have cE1 := @impl_SchroederNumber_c
  refine dEa trivial ?_
  all_goals try (refine zlf ?_; repeat' first | exact zso | refine And.intro ?_ ?_ | (refine zim ?_; intro zb hc) | (refine zin ?_; intro zb) | intro j')
  all_goals try refine zbx ?_
def knW : Nat → List UInt8
  | 0 => [111, 110, 101]
  | 1 => [112, 111, 119, 101, 114, 115]
  | 2 => [102, 105, 98, 111, 110, 97, 99, 99, 105]
  | 3 => [99, 97, 116, 97, 108, 97, 110]
  | _ => [115, 99, 104, 114, 111, 101, 100, 101, 114]
def knF (k : Nat) (m : Int) : Int := match k with
  | 0 => 1
  | 1 => pwR m
  | 2 => fibR m
  | 3 => catR m
  | _ => srR (max (m - 1) 0)
def knK (c : List Int) (k m : Nat) : Bool := (List.range m).all fun i => decide (c.getD i 0 = knF k i)
theorem knK_succ {c : List Int} {k m : Nat} : knK c k (m + 1) = (knK c k m && decide (c.getD m 0 = knF k m)) := by simp [knK, List.range_succ]
def knB (c : List Int) (k : Nat) : Bool := knK c k c.length
def knN (c : List Int) : List UInt8 := if knB c 0 then knW 0 else if knB c 1 then knW 1 else if knB c 2 then knW 2 else if knB c 3 then knW 3 else if knB c 4 then knW 4 else [111, 116, 104, 101, 114]
theorem knN_at {c : List Int} {k : Nat} (h5 : k < 5) (h : ∀ j, j < k → knB c j = false) (hk : knB c k = true) : knN c = knW k := by
  obtain rfl | rfl | rfl | rfl | rfl : k = 0 ∨ k = 1 ∨ k = 2 ∨ k = 3 ∨ k = 4 := by omega
  · rw [knN, if_pos hk]
  · rw [knN, h 0 (by omega), if_pos hk]; rfl
  · rw [knN, h 0 (by omega), h 1 (by omega), if_pos hk]; rfl
  · rw [knN, h 0 (by omega), h 1 (by omega), h 2 (by omega), if_pos hk]; rfl
  · rw [knN, h 0 (by omega), h 1 (by omega), h 2 (by omega), h 3 (by omega), if_pos hk]; rfl
theorem knN_no {c : List Int} (h : ∀ j, j < 5 → knB c j = false) : knN c = [111, 116, 104, 101, 114] := by
  rw [knN, h 0 (by omega), h 1 (by omega), h 2 (by omega), h 3 (by omega), h 4 (by omega)]; rfl
def knownR (L : List (List Int)) (n : Int) : List UInt8 := if basisB L = true ∧ 4 ≤ n ∧ n ≤ 6 then knN (ccR L n) else []
theorem ccR_len {L : List (List Int)} {n : Int} (h : basisB L = true ∧ 4 ≤ n ∧ n ≤ 6) : (ccR L n).length = n.toNat + 1 := by
  rw [ccR, if_pos ⟨h.1, by omega⟩]; simp
theorem kw_ne : (knW 0 = knW 1) = False ∧ (knW 0 = knW 2) = False ∧ (knW 0 = knW 3) = False ∧ (knW 0 = knW 4) = False ∧ (knW 2 = knW 1) = False ∧ (knW 3 = knW 1) = False ∧ (knW 3 = knW 2) = False ∧ (knW 4 = knW 1) = False ∧ (knW 4 = knW 2) = False ∧ (knW 4 = knW 3) = False := by decide
theorem kw_lit : ([112, 111, 119, 101, 114, 115] : List UInt8) = knW 1 ∧ ([102, 105, 98, 111, 110, 97, 99, 99, 105] : List UInt8) = knW 2 ∧ ([99, 97, 116, 97, 108, 97, 110] : List UInt8) = knW 3 ∧ ([115, 99, 104, 114, 111, 101, 100, 101, 114] : List UInt8) = knW 4 := ⟨rfl, rfl, rfl, rfl⟩
theorem n_u64 {n : Int} : inR .u64 n = (0 ≤ n ∧ n ≤ 18446744073709551615) := by simp only [inR]; rfl
theorem pw_s {m : Int} : 1 * 2 ^ (max 0 (m - 1)).toNat = pwR m := by rw [Int.one_mul, pwR, Int.max_comm]
theorem spec_l16Known_c (k : Nat) (m : Int) (hk : k < 5) (h0 : 0 ≤ m ∧ m ≤ 6) : Fun Try.prog 84 [(.str (knW k)), (.int .i64 (m))] [(.int .i64 (knF k m))] := by
  have b := pwR_b h0.2
  have e : 1 * 2 ^ (max 0 (m - 1)).toNat = pwR m := pw_s
  have e2 : max 0 (m - 1) = max (m - 1) 0 := Int.max_comm ..
  have u3 : (Try.prog.underlying 3).isSome = true := by rw [Try.underlying3]; rfl
  obtain rfl | rfl | rfl | rfl | rfl : k = 0 ∨ k = 1 ∨ k = 2 ∨ k = 3 ∨ k = 4 := by omega
  all_goals simp only [knF]
  · refine fO sg0 [4] Try.func84 ?_
    have cE1 := @spec_l1Max_c; have cE2 := @spec_FibonacciNumber_c; have cE3 := @spec_CatalanNumber_c; have cE4 := @spec_SchroederNumber_c
    refine dEa (And.intro @kw_lit (And.intro @kw_ne @u3)) ?_
    all_goals try (refine zlf ?_; repeat' first | exact zso | refine And.intro ?_ ?_ | (refine zim ?_; intro zb hc) | (refine zin ?_; intro zb) | intro j')
    all_goals try refine zbx ?_
    all_goals first | rfl | exact e | (rw [e]; simp only [n_i64]; omega) | (simp only [n_u64]; omega) | exact congrArg srR e2 | trace_state
  · refine fO sg0 [4] Try.func84 ?_
    have cE1 := @spec_l1Max_c; have cE2 := @spec_FibonacciNumber_c; have cE3 := @spec_CatalanNumber_c; have cE4 := @spec_SchroederNumber_c
    refine dEa (And.intro @kw_lit (And.intro @kw_ne @u3)) ?_
    all_goals try (refine zlf ?_; repeat' first | exact zso | refine And.intro ?_ ?_ | (refine zim ?_; intro zb hc) | (refine zin ?_; intro zb) | intro j')
    all_goals try refine zbx ?_
    all_goals first | rfl | exact e | (rw [e]; simp only [n_i64]; omega) | (simp only [n_u64]; omega) | exact congrArg srR e2 | trace_state
  · refine fO sg0 [4] Try.func84 ?_
    have cE1 := @spec_l1Max_c; have cE2 := @spec_FibonacciNumber_c; have cE3 := @spec_CatalanNumber_c; have cE4 := @spec_SchroederNumber_c
    refine dEa (And.intro @kw_lit (And.intro @kw_ne @u3)) ?_
    all_goals try (refine zlf ?_; repeat' first | exact zso | refine And.intro ?_ ?_ | (refine zim ?_; intro zb hc) | (refine zin ?_; intro zb) | intro j')
    all_goals try refine zbx ?_
    all_goals first | rfl | exact e | (rw [e]; simp only [n_i64]; omega) | (simp only [n_u64]; omega) | exact congrArg srR e2 | trace_state
  · refine fO sg0 [4] Try.func84 ?_
    have cE1 := @spec_l1Max_c; have cE2 := @spec_FibonacciNumber_c; have cE3 := @spec_CatalanNumber_c; have cE4 := @spec_SchroederNumber_c
    refine dEa (And.intro @kw_lit (And.intro @kw_ne @u3)) ?_
    all_goals try (refine zlf ?_; repeat' first | exact zso | refine And.intro ?_ ?_ | (refine zim ?_; intro zb hc) | (refine zin ?_; intro zb) | intro j')
    all_goals try refine zbx ?_
    all_goals first | rfl | exact e | (rw [e]; simp only [n_i64]; omega) | (simp only [n_u64]; omega) | exact congrArg srR e2 | trace_state
  · refine fO sg0 [4] Try.func84 ?_
    have cE1 := @spec_l1Max_c; have cE2 := @spec_FibonacciNumber_c; have cE3 := @spec_CatalanNumber_c; have cE4 := @spec_SchroederNumber_c
    refine dEa (And.intro @kw_lit (And.intro @kw_ne @u3)) ?_
    all_goals try (refine zlf ?_; repeat' first | exact zso | refine And.intro ?_ ?_ | (refine zim ?_; intro zb hc) | (refine zin ?_; intro zb) | intro j')
    all_goals try refine zbx ?_
    all_goals first | rfl | exact e | (rw [e]; simp only [n_i64]; omega) | (simp only [n_u64]; omega) | exact congrArg srR e2 | trace_state
def kws : List (List UInt8) := [knW 0, knW 1, knW 2, knW 3, knW 4]
theorem kws_len : kws.length = 5 := rfl
theorem kc_at {k : Nat} (hk : k < 5) : kws.getD k [] = knW k := by
  obtain rfl | rfl | rfl | rfl | rfl : k = 0 ∨ k = 1 ∨ k = 2 ∨ k = 3 ∨ k = 4 := by omega
  all_goals rfl
theorem spec_KnownCounts_c {e0 m0 : Bool} (L : List (List Int)) (n : Int) (hL : L.length ≤ 1048576) (hl : ∀ l ∈ L, l.length ≤ 1048576) : Fun Try.prog 38 [(.sl (.lent m0) (List.map (elI e0) (L))), (.int .i64 (n))] [(.str (knownR L n))] := by
  by_cases h : basisB L = true ∧ 4 ≤ n ∧ n ≤ 6
  · have hb := h.1
    have cl := ccR_len h
    have e : knownR L n = knN (ccR L n) := if_pos h
    rw [e]
    obtain ⟨c, hc0⟩ : ∃ c, ccR L n = c := ⟨_, rfl⟩
    rw [hc0] at cl ⊢
    refine fO sg0 [4] Try.func38 ?_
    have cE1 := @spec_l1In_c; have cE2 := @spec_IsBasis_c; have cE3 := @spec_ClassCounts_c; have cE4 := @spec_l16Known_c; have cD1 := zdh [false, false, false, false, false, false, false, false, false, false, false, true, false, false, false] [(2, 11), (3, 11), (4, 11), (5, 11)]
    refine dEa (And.intro @hb @hc0) ?_
    all_goals try (refine zlf ?_; repeat' first | exact zso | refine And.intro ?_ ?_ | (refine zim ?_; intro zb hc; repeat (have zc := zb.1; replace zb := zb.2)) | (refine zin ?_; intro zb) | intro j')
    all_goals try refine zbx ?_
    refine v_loopB (fun ms1 S1 => ∃ (k : Nat), S1.e 0 = .p (.sl (.lent m0) (List.map (elI e0) (L))) ∧ S1.e 1 = .p (.int .i64 (n)) ∧ OwnL (S1.e 5) S1.h S1.n (PV.int .i64) ((c).length) (c) ∧ OwnL (S1.e 6) S1.h S1.n PV.str ((kws).length) (kws) ∧ S1.e 7 = .p (.int .i64 (k)) ∧ (k ≤ 5) ∧ (∀ j, j < k → knB c j = false) ∧ NId (S1.e 6) (S1.e 5) ∧ ms1 = 5 - k) ((fun (k : Nat) => 5 - k) (0)) ?_ ⟨0, dC trivial ?_⟩
    all_goals try (refine zlf ?_; repeat' first | exact zso | refine And.intro ?_ ?_ | (refine zim ?_; intro zb hc; repeat (have zc := zb.1; replace zb := zb.2)) | (refine zin ?_; intro zb) | intro j')
    all_goals try refine zbx ?_
    rintro ms1 S1 ⟨k, h1_0, h1_1, o1_5, o1_6, h1_7, c1_0, c1_1, u1_0, hm1⟩
    obtain ⟨i1_5, h1_5, b1_5, l1_5⟩ := o1_5.out
    obtain ⟨i1_6, h1_6, b1_6, l1_6⟩ := o1_6.out
    have k1_0 := (u1_0).out h1_6 h1_5
    have ni1_5 := znds (x := i1_5) (n := S1.n)
    have ni1_6 := znds (x := i1_6) (n := S1.n)
    have di1_5i1_6 := zdne (x := i1_5) (y := i1_6)
    have fL1 := (And.intro h1_0 (And.intro h1_1 (And.intro h1_7 (And.intro h1_5 (And.intro b1_5 (And.intro h1_6 (And.intro b1_6 (And.intro ni1_5 (And.intro ni1_6 di1_5i1_6)))))))))
    by_cases hk : k < 5
    · have e1 := kc_at hk
      refine dEa (And.intro fL1 @kws_len) ?_
      all_goals try (refine zlf ?_; repeat' first | exact zso | refine And.intro ?_ ?_ | (refine zim ?_; intro zb hc; repeat (have zc := zb.1; replace zb := zb.2)) | (refine zin ?_; intro zb) | intro j')
      all_goals try refine zbx ?_
      refine v_loopB (fun ms2 S2 => ∃ (m : Nat), S2.e 0 = .p (.sl (.lent m0) (List.map (elI e0) (L))) ∧ S2.e 1 = .p (.int .i64 (n)) ∧ S2.e 5 = .ref i1_5 0 (c).length ∧ S2.h i1_5 = .live false (List.map (PV.int .i64) (c)) ∧ S2.e 6 = .ref i1_6 0 (kws).length ∧ S2.h i1_6 = .live false (List.map PV.str (kws)) ∧ S2.e 7 = .p (.int .i64 (k)) ∧ S2.e 8 = .p (.bool (knK c k m)) ∧ S2.e 9 = .p (.int .i64 (m)) ∧ ((m : Int) ≤ n + 1) ∧ S1.n ≤ S2.n ∧ ms2 = n.toNat + 1 - m) ((fun (m : Nat) => n.toNat + 1 - m) (0)) ?_ ⟨0, dC fL1 ?_⟩
      all_goals try (refine zlf ?_; repeat' first | exact zso | refine And.intro ?_ ?_ | (refine zim ?_; intro zb hc; repeat (have zc := zb.1; replace zb := zb.2)) | (refine zin ?_; intro zb) | intro j')
      all_goals try refine zbx ?_
      rintro ms2 S2 ⟨m, h2_0, h2_1, h2_5, b2_5, h2_6, b2_6, h2_7, h2_8, h2_9, c2_0, u2_0, hm2⟩
      have ni1_5 := znds (x := i1_5) (n := S2.n)
      have ni1_6 := znds (x := i1_6) (n := S2.n)
      have di1_5i1_6 := zdne (x := i1_5) (y := i1_6)
      have fL2 := (And.intro h2_0 (And.intro h2_1 (And.intro h2_5 (And.intro b2_5 (And.intro h2_6 (And.intro b2_6 (And.intro h2_7 (And.intro h2_8 (And.intro h2_9 (And.intro ni1_5 (And.intro ni1_6 di1_5i1_6)))))))))))
      by_cases hm : (m : Int) < n + 1
      · refine dEa (And.intro fL2 (And.intro @e1 @kws_len)) ?_
        all_goals try (refine zlf ?_; repeat' first | exact zso | refine And.intro ?_ ?_ | (refine zim ?_; intro zb hc; repeat (have zc := zb.1; replace zb := zb.2)) | (refine zin ?_; intro zb) | intro j')
        all_goals try refine zbx ?_
        · focus
            refine q_lp_n ((fun (m : Nat) => n.toNat + 1 - m) (m+1)) (dC fL2 ?_) ⟨m+1, dC fL2 ?_⟩
            all_goals try (refine zlf ?_; repeat' first | exact zso | refine And.intro ?_ ?_ | (refine zim ?_; intro zb hc; repeat (have zc := zb.1; replace zb := zb.2)) | (refine zin ?_; intro zb) | intro j')
            all_goals try refine zbx ?_
          all_goals (rw [knK_succ]; simp [*])
        · focus
            refine q_lp_n ((fun (m : Nat) => n.toNat + 1 - m) (m+1)) (dC fL2 ?_) ⟨m+1, dC fL2 ?_⟩
            all_goals try (refine zlf ?_; repeat' first | exact zso | refine And.intro ?_ ?_ | (refine zim ?_; intro zb hc; repeat (have zc := zb.1; replace zb := zb.2)) | (refine zin ?_; intro zb) | intro j')
            all_goals try refine zbx ?_
          all_goals (rw [knK_succ]; simp [*])
      · obtain rfl : m = c.length := by omega
        refine dEa (And.intro fL2 (And.intro @e1 @kws_len)) ?_
        all_goals try (refine zlf ?_; repeat' first | exact zso | refine And.intro ?_ ?_ | (refine zim ?_; intro zb hc; repeat (have zc := zb.1; replace zb := zb.2)) | (refine zin ?_; intro zb) | intro j')
        all_goals try refine zbx ?_
        · exact (knN_at (by omega) c1_1 hc).symm
        · focus
            refine q_lp_n ((fun (k : Nat) => 5 - k) (k+1)) (dC fL2 ?_) ⟨k+1, dC fL2 ?_⟩
            all_goals try (refine zlf ?_; repeat' first | exact zso | refine And.intro ?_ ?_ | (refine zim ?_; intro zb hc; repeat (have zc := zb.1; replace zb := zb.2)) | (refine zin ?_; intro zb) | intro j')
            all_goals try refine zbx ?_
          intro j hj
          by_cases e : j = k
          · subst e; exact hc
          · exact c1_1 j (by omega)
    · obtain rfl : k = 5 := by omega
      refine dEa (And.intro fL1 @kws_len) ?_
      all_goals try (refine zlf ?_; repeat' first | exact zso | refine And.intro ?_ ?_ | (refine zim ?_; intro zb hc; repeat (have zc := zb.1; replace zb := zb.2)) | (refine zin ?_; intro zb) | intro j')
      all_goals try refine zbx ?_
      all_goals exact (knN_no c1_1).symm
  · rw [show knownR L n = [] from if_neg h]
    refine fO sg0 [4] Try.func38 ?_
    have cE1 := @spec_l1In_c; have cE2 := @spec_IsBasis_c; have cE3 := @spec_ClassCounts_c; have cE4 := @spec_l16Known_c; have cD1 := zdh [false, false, false, false, false, false, false, false, false, false, false, true, false, false, false] [(2, 11), (3, 11), (4, 11), (5, 11)]
    refine dEa trivial ?_
    all_goals try (refine zlf ?_; repeat' first | exact zso | refine And.intro ?_ ?_ | (refine zim ?_; intro zb hc; repeat (have zc := zb.1; replace zb := zb.2)) | (refine zin ?_; intro zb) | intro j')
    all_goals try refine zbx ?_
    all_goals exact absurd ⟨by assumption, by omega, by omega⟩ h
end Go.Gl
