/-
  The numbers of sums of parts: what their functions compute (their sums may go round). Conditions: none.
-/
import Derived.Test.YtknmheddofilbaaNum
import Derived.Test.YtknmheddofilbaaGlC
set_option linter.unusedSimpArgs false
set_option linter.unusedVariables false
set_option maxRecDepth 20000
set_option linter.unusedSectionVars false
namespace Go.Gl
open Go Go.Proofs
variable [Amb]
def sgW : FuncId → List Bool := fun f => if f = 4294967296 then [true] else []
theorem sgW_eq {f : FuncId} : sgW f = if f = 4294967296 then [true] else [] := _root_.id rfl
theorem wayE_sgW : wayE sgW = true := _root_.id rfl
theorem wayN_sgW : wayN sgW = false := _root_.id rfl
theorem wayS_sgW : wayS sgW = false := _root_.id rfl
theorem wayZ_sgW : wayZ sgW = false := _root_.id rfl
attribute [local go_sem] wayN_sgW wayS_sgW wayZ_sgW
theorem wrap_i {x : Int} (h : inR .i64 x) : IntKind.i64.wrap x = x := wrap_in h
attribute [local go_sem] wayE_sgW wrap_i sgW_eq
def scSum (w a : List Int) (m : Nat) : Nat → Int
  | 0 => 0
  | k + 1 => IntKind.i64.wrap (scSum w a m k + IntKind.i64.wrap (w.getD (k + 1) 0 * a.getD (m - (k + 1)) 0))
def scL (w : List Int) : Nat → List Int
  | 0 => [1]
  | n + 1 => scL w n ++ [scSum w (scL w n) (n + 1) (min (n + 1) (w.length - 1))]
theorem scL_len {w : List Int} : ∀ n, (scL w n).length = n + 1
  | 0 => rfl
  | n + 1 => by simp [scL, scL_len n]
def scOk (w : List Int) (n : Int) : Bool := decide (0 ≤ n) && decide (n ≤ 10) && decide (w.length ≤ 20) && w.all fun x => decide (0 ≤ x) && decide (x ≤ 1000)
def scR (w : List Int) (n : Int) : List Int := if scOk w n then scL w n.toNat else []
theorem memW {l : List Int} {i : Nat} (h : i < l.length) : l.getD i 0 ∈ l := by
  rw [List.getD_eq_getElem?_getD, List.getElem?_eq_getElem h]; exact List.getElem_mem h
theorem takeW {l : List Int} {i : Nat} (h : i < l.length) : l.take (i + 1) = l.take i ++ [l.getD i 0] := by
  rw [List.take_add_one, List.getD_eq_getElem?_getD, List.getElem?_eq_getElem h]; rfl
theorem spec_SumCounts_c {m0 : Bool} (w : List Int) (n : Int) (hl : w.length ≤ 1048576) : Fun Try.prog 51 [(.sl (.lent m0) (List.map (PV.int .i64) (w))), (.int .i64 (n))] [(.sl .own (List.map (PV.int .i64) (scR w n)))] := by
  by_cases h : (0 ≤ n ∧ n ≤ 10) ∧ w.length ≤ 20
  · obtain ⟨N, rfl⟩ := Int.eq_ofNat_of_zero_le h.1.1
    refine fO sgW [4] Try.func51 ?_
    have cE1 := @spec_l1In_c
    refine dWa trivial ?_
    all_goals try (refine zlf ?_; repeat' first | exact zso | refine And.intro ?_ ?_ | (refine zim ?_; intro zb hc) | (refine zin ?_; intro zb) | intro j')
    all_goals try refine zbx ?_
    have hll := scL_len (w := w)
    refine v_loopB (fun ms1 S1 => ∃ (i : Nat), S1.e 0 = .p (.sl (.lent m0) (List.map (PV.int .i64) (w))) ∧ S1.e 1 = .p (.int .i64 (N)) ∧ S1.e 5 = .p (.int .i64 (i)) ∧ (i ≤ w.length) ∧ ((w.take i).all (fun x => decide (0 ≤ x) && decide (x ≤ 1000)) = true) ∧ ms1 = w.length - i) ((fun (i : Nat) => w.length - i) (0)) ?_ ⟨0, dIa trivial ?_⟩
    all_goals try (refine zlf ?_; repeat' first | exact zso | refine And.intro ?_ ?_ | (refine zim ?_; intro zb hc) | (refine zin ?_; intro zb) | intro j')
    all_goals try refine zbx ?_
    rintro ms1 S1 ⟨i, h1_0, h1_1, h1_5, c1_0, c1_1, hm1⟩
    have fL1 := (And.intro h1_0 (And.intro h1_1 h1_5))
    refine dWa fL1 ?_
    all_goals try (refine zlf ?_; repeat' first | exact zso | refine And.intro ?_ ?_ | (refine zim ?_; intro zb hc) | (refine zin ?_; intro zb) | intro j')
    all_goals try refine zbx ?_
    · have hk : scOk w N = false := by
        rw [scOk, List.all_eq_false.2 ⟨w.getD i 0, memW (by omega), by rcases hc with hc | hc <;> simp only [Bool.and_eq_true, decide_eq_true_eq] <;> omega⟩, Bool.and_false]
      rw [scR, hk]; rfl
    · focus
        refine q_lp_n ((fun (i : Nat) => w.length - i) (i+1)) (dC fL1 ?_) ⟨i+1, dC fL1 ?_⟩
        all_goals try (refine zlf ?_; repeat' first | exact zso | refine And.intro ?_ ?_ | (refine zim ?_; intro zb hc) | (refine zin ?_; intro zb) | intro j')
        all_goals try refine zbx ?_
      rw [takeW (by omega), List.all_append, c1_1, List.all_cons, decide_eq_true (by omega), decide_eq_true (by omega)]; rfl
    rw [List.take_of_length_le (by omega)] at c1_1
    have hk : scOk w N = true := by
      rw [scOk, c1_1, decide_eq_true (by omega), decide_eq_true (by omega), decide_eq_true (by omega)]; rfl
    rw [scR, if_pos hk, Int.toNat_natCast]
    refine v_loopB (fun ms2 S2 => ∃ (m : Nat), S2.e 0 = .p (.sl (.lent m0) (List.map (PV.int .i64) (w))) ∧ S2.e 1 = .p (.int .i64 (N)) ∧ OwnL (S2.e 6) S2.h S2.n (PV.int .i64) ((scL w m).length) (scL w m) ∧ S2.e 7 = .p (.int .i64 ((m+1))) ∧ (m ≤ N) ∧ S1.n ≤ S2.n ∧ ms2 = N - m) ((fun (m : Nat) => N - m) (0)) ?_ ⟨0, dIa fL1 ?_⟩
    all_goals try (refine zlf ?_; repeat' first | exact zso | refine And.intro ?_ ?_ | (refine zim ?_; intro zb hc) | (refine zin ?_; intro zb) | intro j')
    all_goals try refine zbx ?_
    rintro ms2 S2 ⟨m, h2_0, h2_1, o2_6, h2_7, c2_0, u2_0, hm2⟩
    obtain ⟨i2_6, h2_6, b2_6, l2_6⟩ := o2_6.out
    have ni2_6 := znds (x := i2_6) (n := S2.n)
    have fL2 := (And.intro h2_0 (And.intro h2_1 (And.intro h2_7 (And.intro h2_6 (And.intro b2_6 ni2_6)))))
    refine dWa fL2 ?_
    all_goals try (refine zlf ?_; repeat' first | exact zso | refine And.intro ?_ ?_ | (refine zim ?_; intro zb hc) | (refine zin ?_; intro zb) | intro j')
    all_goals try refine zbx ?_
    · have hlm := hll m
      refine v_loopB (fun ms3 S3 => ∃ (k : Nat), S3.e 0 = .p (.sl (.lent m0) (List.map (PV.int .i64) (w))) ∧ S3.e 1 = .p (.int .i64 (N)) ∧ S3.e 6 = .ref i2_6 0 (scL w m).length ∧ S3.h i2_6 = .live false (List.map (PV.int .i64) (scL w m)) ∧ S3.e 7 = .p (.int .i64 ((m+1))) ∧ S3.e 8 = .p (.int .i64 (scSum w (scL w m) (m+1) k)) ∧ S3.e 9 = .p (.int .i64 ((k+1))) ∧ (k ≤ m+1) ∧ (k ≤ w.length - 1) ∧ S2.n ≤ S3.n ∧ ms3 = m+1-k) ((fun (k : Nat) => m+1-k) (0)) ?_ ⟨0, dIa fL2 ?_⟩
      all_goals try (refine zlf ?_; repeat' first | exact zso | refine And.intro ?_ ?_ | (refine zim ?_; intro zb hc) | (refine zin ?_; intro zb) | intro j')
      all_goals try refine zbx ?_
      rintro ms3 S3 ⟨k, h3_0, h3_1, h3_6, b3_6, h3_7, h3_8, h3_9, c3_0, c3_1, u3_0, hm3⟩
      have ni2_6 := znds (x := i2_6) (n := S3.n)
      have fL3 := (And.intro h3_0 (And.intro h3_1 (And.intro h3_6 (And.intro b3_6 (And.intro h3_7 (And.intro h3_8 (And.intro h3_9 ni2_6)))))))
      refine dWa fL3 ?_
      all_goals try (refine zlf ?_; repeat' first | exact zso | refine And.intro ?_ ?_ | (refine zim ?_; intro zb hc) | (refine zin ?_; intro zb) | intro j')
      all_goals try refine zbx ?_
      · focus
          refine q_lp_n ((fun (k : Nat) => m+1-k) (k+1)) (dC fL3 ?_) ⟨k+1, dC fL3 ?_⟩
          all_goals try (refine zlf ?_; repeat' first | exact zso | refine And.intro ?_ ?_ | (refine zim ?_; intro zb hc) | (refine zin ?_; intro zb) | intro j')
          all_goals try refine zbx ?_
        rw [scSum, show ((m : Int) + 1 - (k + 1)).toNat = m + 1 - (k + 1) by omega]
      · focus
          refine q_lp_n ((fun (m : Nat) => N - m) (m+1)) (dC fL3 ?_) ⟨m+1, dC fL3 ?_⟩
          all_goals try (refine zlf ?_; repeat' first | exact zso | refine And.intro ?_ ?_ | (refine zim ?_; intro zb hc) | (refine zin ?_; intro zb) | intro j')
          all_goals try refine zbx ?_
        · rw [scL_len, scL_len]
        · rw [scL, show min (m + 1) (w.length - 1) = k by omega]
      · focus
          refine q_lp_n ((fun (m : Nat) => N - m) (m+1)) (dC fL3 ?_) ⟨m+1, dC fL3 ?_⟩
          all_goals try (refine zlf ?_; repeat' first | exact zso | refine And.intro ?_ ?_ | (refine zim ?_; intro zb hc) | (refine zin ?_; intro zb) | intro j')
          all_goals try refine zbx ?_
        · rw [scL_len, scL_len]
        · rw [scL, show min (m + 1) (w.length - 1) = k by omega]
    · rw [show m = N by omega]
  · have hk : scOk w n = false := by
      rw [scOk]
      by_cases h1 : 0 ≤ n
      · by_cases h2 : n ≤ 10
        · rw [decide_eq_false (by omega : ¬ w.length ≤ 20)]; simp
        · rw [decide_eq_false h2]; simp
      · rw [decide_eq_false h1]; simp
    rw [scR, hk]
    refine fO sgW [4] Try.func51 ?_
    have cE1 := @spec_l1In_c
    refine dWa trivial ?_
    all_goals try (refine zlf ?_; repeat' first | exact zso | refine And.intro ?_ ?_ | (refine zim ?_; intro zb hc) | (refine zin ?_; intro zb) | intro j')
    all_goals try refine zbx ?_
theorem impl_SumCounts_c {m0 : Bool} (w : List Int) (n : Int) (hl : w.length ≤ 1048576) : Fun Try.prog 50 [(.sl (.lent m0) (List.map (PV.int .i64) (w))), (.int .i64 (n))] [(.sl .own (List.map (PV.int .i64) (scR w n)))] := by
  by_cases h : (0 ≤ n ∧ n ≤ 10) ∧ w.length ≤ 20
  · obtain ⟨N, rfl⟩ := Int.eq_ofNat_of_zero_le h.1.1
    refine fO sgW [4] Try.func50 ?_
    refine dWa trivial ?_
    all_goals try (refine zlf ?_; repeat' first | exact zso | refine And.intro ?_ ?_ | (refine zim ?_; intro zb hc) | (refine zin ?_; intro zb) | intro j')
    all_goals try refine zbx ?_
    have hll := scL_len (w := w)
    refine v_loopB (fun ms1 S1 => ∃ (i : Nat), S1.e 0 = .p (.sl (.lent m0) (List.map (PV.int .i64) (w))) ∧ S1.e 1 = .p (.int .i64 (N)) ∧ S1.e 22 = .p (.sl (.lent m0) (List.map (PV.int .i64) (w))) ∧ S1.e 23 = .p (.int .i64 (w.length)) ∧ S1.e 24 = .p (.int .i64 (i)) ∧ (i ≤ w.length) ∧ ((w.take i).all (fun x => decide (0 ≤ x) && decide (x ≤ 1000)) = true) ∧ ms1 = w.length - i) ((fun (i : Nat) => w.length - i) (0)) ?_ ⟨0, dIa trivial ?_⟩
    all_goals try (refine zlf ?_; repeat' first | exact zso | refine And.intro ?_ ?_ | (refine zim ?_; intro zb hc) | (refine zin ?_; intro zb) | intro j')
    all_goals try refine zbx ?_
    rintro ms1 S1 ⟨i, h1_0, h1_1, h1_22, h1_23, h1_24, c1_0, c1_1, hm1⟩
    have fL1 := (And.intro h1_0 (And.intro h1_1 (And.intro h1_22 (And.intro h1_23 h1_24))))
    refine dWa fL1 ?_
    all_goals try (refine zlf ?_; repeat' first | exact zso | refine And.intro ?_ ?_ | (refine zim ?_; intro zb hc) | (refine zin ?_; intro zb) | intro j')
    all_goals try refine zbx ?_
    · have hk : scOk w N = false := by
        rw [scOk, List.all_eq_false.2 ⟨w.getD i 0, memW (by omega), by simp only [Bool.and_eq_true, decide_eq_true_eq]; omega⟩, Bool.and_false]
      rw [scR, hk]; rfl
    · focus
        refine q_lp_n ((fun (i : Nat) => w.length - i) (i+1)) (dC fL1 ?_) ⟨i+1, dC fL1 ?_⟩
        all_goals try (refine zlf ?_; repeat' first | exact zso | refine And.intro ?_ ?_ | (refine zim ?_; intro zb hc) | (refine zin ?_; intro zb) | intro j')
        all_goals try refine zbx ?_
      rw [takeW (by omega), List.all_append, c1_1, List.all_cons, decide_eq_true (by omega), decide_eq_true (by omega)]; rfl
    · have hk : scOk w N = false := by
        rw [scOk, List.all_eq_false.2 ⟨w.getD i 0, memW (by omega), by simp only [Bool.and_eq_true, decide_eq_true_eq]; omega⟩, Bool.and_false]
      rw [scR, hk]; rfl
    rw [List.take_of_length_le (by omega)] at c1_1
    have hk : scOk w N = true := by
      rw [scOk, c1_1, decide_eq_true (by omega), decide_eq_true (by omega), decide_eq_true (by omega)]; rfl
    rw [scR, if_pos hk, Int.toNat_natCast]
    refine v_loopB (fun ms2 S2 => ∃ (m : Nat), S2.e 0 = .p (.sl (.lent m0) (List.map (PV.int .i64) (w))) ∧ S2.e 1 = .p (.int .i64 (N)) ∧ OwnL (S2.e 7) S2.h S2.n (PV.int .i64) ((scL w m).length) (scL w m) ∧ S2.e 8 = .p (.int .i64 ((m+1))) ∧ (m ≤ N) ∧ S1.n ≤ S2.n ∧ ms2 = N - m) ((fun (m : Nat) => N - m) (0)) ?_ ⟨0, dIa fL1 ?_⟩
    all_goals try (refine zlf ?_; repeat' first | exact zso | refine And.intro ?_ ?_ | (refine zim ?_; intro zb hc) | (refine zin ?_; intro zb) | intro j')
    all_goals try refine zbx ?_
    rintro ms2 S2 ⟨m, h2_0, h2_1, o2_7, h2_8, c2_0, u2_0, hm2⟩
    obtain ⟨i2_7, h2_7, b2_7, l2_7⟩ := o2_7.out
    have ni2_7 := znds (x := i2_7) (n := S2.n)
    have fL2 := (And.intro h2_0 (And.intro h2_1 (And.intro h2_8 (And.intro h2_7 (And.intro b2_7 ni2_7)))))
    refine dWa fL2 ?_
    all_goals try (refine zlf ?_; repeat' first | exact zso | refine And.intro ?_ ?_ | (refine zim ?_; intro zb hc) | (refine zin ?_; intro zb) | intro j')
    all_goals try refine zbx ?_
    · have hlm := hll m
      refine v_loopB (fun ms3 S3 => ∃ (k : Nat), S3.e 0 = .p (.sl (.lent m0) (List.map (PV.int .i64) (w))) ∧ S3.e 1 = .p (.int .i64 (N)) ∧ S3.e 7 = .ref i2_7 0 (scL w m).length ∧ S3.h i2_7 = .live false (List.map (PV.int .i64) (scL w m)) ∧ S3.e 8 = .p (.int .i64 ((m+1))) ∧ S3.e 9 = .p (.int .i64 (scSum w (scL w m) (m+1) k)) ∧ S3.e 10 = .p (.int .i64 ((k+1))) ∧ (k ≤ m+1) ∧ (k ≤ w.length - 1) ∧ S2.n ≤ S3.n ∧ ms3 = m+1-k) ((fun (k : Nat) => m+1-k) (0)) ?_ ⟨0, dIa fL2 ?_⟩
      all_goals try (refine zlf ?_; repeat' first | exact zso | refine And.intro ?_ ?_ | (refine zim ?_; intro zb hc) | (refine zin ?_; intro zb) | intro j')
      all_goals try refine zbx ?_
      rintro ms3 S3 ⟨k, h3_0, h3_1, h3_7, b3_7, h3_8, h3_9, h3_10, c3_0, c3_1, u3_0, hm3⟩
      have ni2_7 := znds (x := i2_7) (n := S3.n)
      have fL3 := (And.intro h3_0 (And.intro h3_1 (And.intro h3_7 (And.intro b3_7 (And.intro h3_8 (And.intro h3_9 (And.intro h3_10 ni2_7)))))))
      refine dWa fL3 ?_
      all_goals try (refine zlf ?_; repeat' first | exact zso | refine And.intro ?_ ?_ | (refine zim ?_; intro zb hc) | (refine zin ?_; intro zb) | intro j')
      all_goals try refine zbx ?_
      · focus
          refine q_lp_n ((fun (k : Nat) => m+1-k) (k+1)) (dC fL3 ?_) ⟨k+1, dC fL3 ?_⟩
          all_goals try (refine zlf ?_; repeat' first | exact zso | refine And.intro ?_ ?_ | (refine zim ?_; intro zb hc) | (refine zin ?_; intro zb) | intro j')
          all_goals try refine zbx ?_
        rw [scSum, show ((m : Int) + 1 - (k + 1)).toNat = m + 1 - (k + 1) by omega]
      · focus
          refine q_lp_n ((fun (m : Nat) => N - m) (m+1)) (dC fL3 ?_) ⟨m+1, dC fL3 ?_⟩
          all_goals try (refine zlf ?_; repeat' first | exact zso | refine And.intro ?_ ?_ | (refine zim ?_; intro zb hc) | (refine zin ?_; intro zb) | intro j')
          all_goals try refine zbx ?_
        · rw [scL_len, scL_len]
        · rw [scL, show min (m + 1) (w.length - 1) = k by omega]
      · focus
          refine q_lp_n ((fun (m : Nat) => N - m) (m+1)) (dC fL3 ?_) ⟨m+1, dC fL3 ?_⟩
          all_goals try (refine zlf ?_; repeat' first | exact zso | refine And.intro ?_ ?_ | (refine zim ?_; intro zb hc) | (refine zin ?_; intro zb) | intro j')
          all_goals try refine zbx ?_
        · rw [scL_len, scL_len]
        · rw [scL, show min (m + 1) (w.length - 1) = k by omega]
    · rw [show m = N by omega]
  · have hk : scOk w n = false := by
      rw [scOk]
      by_cases h1 : 0 ≤ n
      · by_cases h2 : n ≤ 10
        · rw [decide_eq_false (by omega : ¬ w.length ≤ 20)]; simp
        · rw [decide_eq_false h2]; simp
      · rw [decide_eq_false h1]; simp
    rw [scR, hk]
    refine fO sgW [4] Try.func50 ?_
    refine dWa trivial ?_
    all_goals try (refine zlf ?_; repeat' first | exact zso | refine And.intro ?_ ?_ | (refine zim ?_; intro zb hc) | (refine zin ?_; intro zb) | intro j')
    all_goals try refine zbx ?_
end Go.Gl
