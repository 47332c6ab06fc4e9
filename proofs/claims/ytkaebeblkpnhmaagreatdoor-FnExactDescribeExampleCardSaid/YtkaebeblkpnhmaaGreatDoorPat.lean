/-
  Patterns, complements and inverses: what their functions compute. Conditions: none.
-/
import Derived.Test.YtkaebeblkpnhmaaGreatDoorPermF
import Derived.Test.YtkaebeblkpnhmaaGreatDoorPText
import Derived.Test.YtkaebeblkpnhmaaGreatDoorClone
set_option linter.unusedSimpArgs false
set_option linter.unusedVariables false
set_option maxRecDepth 20000
set_option linter.unusedSectionVars false
namespace Go.Gl
open Go Go.Proofs
variable [Amb]
/-- The pattern of a list. -/
def rkI (l : List Int) (x : Int) (k : Nat) : Int := ((l.take k).filter fun y => decide (y < x)).length + 1
def patL (l : List Int) : List Int := l.map fun x => rkI l x l.length
theorem rkI_succ {l : List Int} {x : Int} {k : Nat} (h : k < l.length) : rkI l x (k + 1) = rkI l x k + bitI (decide (l.getD k 0 < x)) := by
  rw [rkI, rkI, take_getD (d := 0) h, List.filter_append, List.length_append, List.filter_cons]
  cases decide (l.getD k 0 < x) <;> simp [bitI] <;> omega
theorem rkI_b {l : List Int} {x : Int} {k : Nat} : 1 ≤ rkI l x k ∧ rkI l x k ≤ l.length + 1 := by
  have := List.length_filter_le (fun y => decide (y < x)) (l.take k)
  rw [List.length_take] at this
  unfold rkI; omega
theorem spec_l2Pattern_c {m0 : Bool} (l : List Int) (hl : l.length ≤ 1048576) : Fun Tryz.prog 100 [(.sl (.lent m0) (List.map (PV.int .i64) (l)))] [(.sl .own (List.map (PV.int .i64) (patL l)))] := by
  refine fO sg0 [2] Tryz.func100 ?_
  have cE1 := @spec_l1Bit_c; have cD1 := zdh [false, false, false, false, false, false, false, false, false, false, true, false, false] [(0, 10)]
  refine dEa trivial ?_
  all_goals try (refine zlf ?_; repeat' first | exact zso | refine And.intro ?_ ?_ | (refine zim ?_; intro zb hc) | (refine zin ?_; intro zb) | intro j')
  all_goals try refine zbx ?_
  refine v_loopB (fun ms1 S1 => ∃ (k : Nat), S1.e 0 = .p (.sl (.lent m0) (List.map (PV.int .i64) (l))) ∧ OwnL (S1.e 3) S1.h S1.n (PV.int .i64) (((l.take k).map (fun x => rkI l x l.length)).length) ((l.take k).map (fun x => rkI l x l.length)) ∧ S1.e 4 = .p (.int .i64 (k)) ∧ (k ≤ l.length) ∧ ms1 = l.length - k) ((fun (k : Nat) => l.length - k) (0)) ?_ ⟨0, dIa trivial ?_⟩
  all_goals try (refine zlf ?_; repeat' first | exact zso | refine And.intro ?_ ?_ | (refine zim ?_; intro zb hc) | (refine zin ?_; intro zb) | intro j')
  all_goals try refine zbx ?_
  rintro ms1 S1 ⟨k, h1_0, o1_3, h1_4, c1_0, hm1⟩
  obtain ⟨i1_3, h1_3, b1_3, l1_3⟩ := o1_3.out
  have ni1_3 := znds (x := i1_3) (n := S1.n)
  have fL1 := (And.intro h1_0 (And.intro h1_4 (And.intro h1_3 (And.intro b1_3 ni1_3))))
  refine dEa fL1 ?_
  all_goals try (refine zlf ?_; repeat' first | exact zso | refine And.intro ?_ ?_ | (refine zim ?_; intro zb hc) | (refine zin ?_; intro zb) | intro j')
  all_goals try refine zbx ?_
  · refine v_loopB (fun ms2 S2 => ∃ (j : Nat), S2.e 0 = .p (.sl (.lent m0) (List.map (PV.int .i64) (l))) ∧ OwnL (S2.e 3) S2.h S2.n (PV.int .i64) (((l.take k).map (fun x => rkI l x l.length)).length) ((l.take k).map (fun x => rkI l x l.length)) ∧ S2.e 4 = .p (.int .i64 (k)) ∧ S2.e 5 = .p (.int .i64 (rkI l (l.getD k 0) j)) ∧ S2.e 6 = .p (.int .i64 (j)) ∧ (j ≤ l.length) ∧ (k < l.length) ∧ S1.n ≤ S2.n ∧ ms2 = l.length - j) ((fun (j : Nat) => l.length - j) (0)) ?_ ⟨0, dIa fL1 ?_⟩
    all_goals try (refine zlf ?_; repeat' first | exact zso | refine And.intro ?_ ?_ | (refine zim ?_; intro zb hc) | (refine zin ?_; intro zb) | intro j')
    all_goals try refine zbx ?_
    rintro ms2 S2 ⟨j, h2_0, o2_3, h2_4, h2_5, h2_6, c2_0, c2_1, u2_0, hm2⟩
    obtain ⟨i2_3, h2_3, b2_3, l2_3⟩ := o2_3.out
    have ni2_3 := znds (x := i2_3) (n := S2.n)
    have fL2 := (And.intro h2_0 (And.intro h2_4 (And.intro h2_5 (And.intro h2_6 (And.intro h2_3 (And.intro b2_3 ni2_3))))))
    have b1 := rkI_b (l := l) (x := l.getD k 0) (k := j)
    have b2 := bitI_r (decide (l.getD j 0 < l.getD k 0))
    refine dEa fL2 ?_
    all_goals try (refine zlf ?_; repeat' first | exact zso | refine And.intro ?_ ?_ | (refine zim ?_; intro zb hc) | (refine zin ?_; intro zb) | intro j')
    all_goals try refine zbx ?_
    · focus
        refine q_lp_n ((fun (j : Nat) => l.length - j) (j+1)) (dC fL2 ?_) ⟨j+1, dC fL2 ?_⟩
        all_goals try (refine zlf ?_; repeat' first | exact zso | refine And.intro ?_ ?_ | (refine zim ?_; intro zb hc) | (refine zin ?_; intro zb) | intro j')
        all_goals try refine zbx ?_
      rw [rkI_succ (by omega)]
    · focus
        refine q_lp_n ((fun (k : Nat) => l.length - k) (k+1)) (dC fL2 ?_) ⟨k+1, dC fL2 ?_⟩
        all_goals try (refine zlf ?_; repeat' first | exact zso | refine And.intro ?_ ?_ | (refine zim ?_; intro zb hc) | (refine zin ?_; intro zb) | intro j')
        all_goals try refine zbx ?_
      all_goals (obtain rfl : j = l.length := by omega)
      rw [take_getD (d := 0) (by omega), List.map_append]; rfl
  · rw [List.take_of_length_le (by omega)]; rfl
def invL (p : List Int) : Nat → List Int
  | 0 => List.replicate p.length 0
  | k + 1 => (invL p k).set (p.getD k 0 - 1).toNat ((k : Int) + 1)
theorem invL_len {p : List Int} : ∀ {k : Nat}, (invL p k).length = p.length
  | 0 => by simp [invL]
  | k + 1 => by rw [invL, List.length_set, invL_len]
theorem invL_at {p : List Int} (hp : permB p = true) : ∀ {k : Nat}, k ≤ p.length → ∀ i, i < k → (invL p k).getD (p.getD i 0 - 1).toNat 0 = (i : Int) + 1
  | k + 1, h, i, hi => by
    have b1 := perm_at hp (i := k) (by omega)
    have b2 := perm_at hp (i := i) (by omega)
    rw [invL, List.getD_eq_getElem?_getD, List.getElem?_set, invL_len]
    by_cases e : i = k
    · subst e; rw [if_pos rfl, if_pos (by omega)]; rfl
    · rw [if_neg fun h1 => e (perm_inj hp (by omega) (by omega) (by omega)), ← List.getD_eq_getElem?_getD]
      exact invL_at hp (by omega) i (by omega)
def inv (p : List Int) : List Int := invL p p.length
theorem impl_inverse_c {m0 : Bool} (p : List Int) (h8 : p.length ≤ 8) (hp : permB p = true) : Fun Tryz.prog 133 [(.sl (.lent m0) (List.map (PV.int .i64) (p)))] [(.sl .own (List.map (PV.int .i64) (inv p)))] := by
  refine fO sg0 [2] Tryz.func133 ?_
  refine dEa trivial ?_
  all_goals try (refine zlf ?_; repeat' first | exact zso | refine And.intro ?_ ?_ | (refine zim ?_; intro zb hc) | (refine zin ?_; intro zb) | intro j')
  all_goals try refine zbx ?_
  refine v_loopB (fun ms1 S1 => ∃ (k : Nat), S1.e 9 = .p (.sl (.lent m0) (List.map (PV.int .i64) (p))) ∧ OwnL (S1.e 3) S1.h S1.n (PV.int .i64) ((invL p k).length) (invL p k) ∧ S1.e 10 = .p (.int .i64 (p.length)) ∧ S1.e 11 = .p (.int .i64 (k)) ∧ (k ≤ p.length) ∧ ms1 = p.length - k) ((fun (k : Nat) => p.length - k) (0)) ?_ ⟨0, dIa trivial ?_⟩
  all_goals try (refine zlf ?_; repeat' first | exact zso | refine And.intro ?_ ?_ | (refine zim ?_; intro zb hc) | (refine zin ?_; intro zb) | intro j')
  all_goals try refine zbx ?_
  rintro ms1 S1 ⟨k, h1_9, o1_3, h1_10, h1_11, c1_0, hm1⟩
  obtain ⟨i1_3, h1_3, b1_3, l1_3⟩ := o1_3.out
  have ni1_3 := znds (x := i1_3) (n := S1.n)
  have fL1 := (And.intro h1_9 (And.intro h1_10 (And.intro h1_11 (And.intro h1_3 (And.intro b1_3 ni1_3)))))
  have b1 : (invL p k).length = p.length := invL_len
  have b2 := fun h => perm_at hp (i := k) h
  refine dEa fL1 ?_
  all_goals try (refine zlf ?_; repeat' first | exact zso | refine And.intro ?_ ?_ | (refine zim ?_; intro zb hc) | (refine zin ?_; intro zb) | intro j')
  all_goals try refine zbx ?_
  · focus
      refine q_lp_n ((fun (k : Nat) => p.length - k) (k+1)) (dC fL1 ?_) ⟨k+1, dC fL1 ?_⟩
      all_goals try (refine zlf ?_; repeat' first | exact zso | refine And.intro ?_ ?_ | (refine zim ?_; intro zb hc) | (refine zin ?_; intro zb) | intro j')
      all_goals try refine zbx ?_
    all_goals first | (rw [invL_len, invL_len]; done) | skip
  · obtain rfl : k = p.length := by omega
    rfl
  · exact invL_len.symm
theorem inv_len {p : List Int} : (inv p).length = p.length := invL_len
end Go.Gl
