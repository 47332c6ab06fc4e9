/-
  Permutations of a length counted. Conditions: none.
-/
import Derived.Test.YtfjfobbniglaeaaDoorPClass
set_option linter.unusedSimpArgs false
set_option linter.unusedVariables false
set_option maxRecDepth 20000
set_option linter.unusedSectionVars false
namespace Go.Gl
open Go Go.Proofs
variable [Amb] [NoQ]
def cntL (P : List Int → Bool) (L : List (List Int)) : Nat := (L.filter P).length
theorem cntL_succ {P : List Int → Bool} {L : List (List Int)} {k : Nat} (h : k < L.length) : cntL P (L.take (k + 1)) = cntL P (L.take k) + if P (L.getD k []) = true then 1 else 0 := by
  rw [cntL, take_getD (d := []) h, List.filter_append, List.length_append, cntL, List.filter_cons]
  split <;> simp
theorem cntL_le {P : List Int → Bool} {L : List (List Int)} {k : Nat} (h : k ≤ L.length) : cntL P (L.take k) ≤ k := by
  have := List.length_filter_le P (L.take k)
  simp at this; unfold cntL; omega
theorem impl_counted_c (n : Nat) (g : FuncId) (caps : List PV) (P : List Int → Bool) (hn : n ≤ 8) (hp : ∀ x ∈ permL n, Fun Tryd.prog g (.sl (.lent false) (List.map (PV.int .i64) x) :: caps.map PV.cell) [.bool (P x)]) : Fun Tryd.prog 44 [(.int .i64 (n)), (.fn g [] caps)] [(.int .i64 ((cntL P (permL n))))] := by
  refine fO sg0 [4] Tryd.func44 ?_
  have cE1 := @impl_perms_c; have cE2 := @impl_perms_f_c
  have b1 := permL_len hn
  have cE1 := @impl_perms_f_c; have cE2 := trivial
  refine dEa trivial ?_
  all_goals try (refine zlf ?_; repeat' first | exact zso | refine And.intro ?_ ?_ | (refine zim ?_; intro zb hc) | (refine zin ?_; intro zb) | intro j')
  all_goals try refine zbx ?_
  refine v_loopB (fun ms1 S1 => ∃ (k : Nat), S1.e 1 = .p (.fn g [] caps) ∧ OwnL (S1.e 9) S1.h S1.n (elI false) ((permL n).length) (permL n) ∧ S1.e 10 = .p (.int .i64 ((permL n).length)) ∧ S1.e 5 = .p (.int .i64 ((cntL P ((permL n).take k)))) ∧ S1.e 11 = .p (.int .i64 (k)) ∧ (k ≤ (permL n).length) ∧ ms1 = (permL n).length - k) ((fun (k : Nat) => (permL n).length - k) (0)) ?_ ⟨0, dC trivial ?_⟩
  all_goals try (refine zlf ?_; repeat' first | exact zso | refine And.intro ?_ ?_ | (refine zim ?_; intro zb hc) | (refine zin ?_; intro zb) | intro j')
  all_goals try refine zbx ?_
  rintro ms1 S1 ⟨k, h1_1, o1_9, h1_10, h1_5, h1_11, c1_0, hm1⟩
  obtain ⟨i1_9, h1_9, b1_9, l1_9⟩ := o1_9.out
  have ni1_9 := znds (x := i1_9) (n := S1.n)
  have fL1 := (And.intro h1_1 (And.intro h1_10 (And.intro h1_5 (And.intro h1_11 (And.intro h1_9 (And.intro b1_9 ni1_9))))))
  have b2 := cntL_le (P := P) c1_0
  have b3 : k < (permL n).length → Fun Tryd.prog g (.sl (.lent false) (List.map (PV.int .i64) ((permL n).getD k [])) :: caps.map PV.cell) [.bool (P ((permL n).getD k []))] := fun h => hp _ (getD_mem h)
  by_cases hk : k < (permL n).length
  · have cE1 := b3 hk; have cE2 := @impl_perms_c; have cE3 := @impl_perms_f_c
    refine dEa fL1 ?_
    all_goals try (refine zlf ?_; repeat' first | exact zso | refine And.intro ?_ ?_ | (refine zim ?_; intro zb hc) | (refine zin ?_; intro zb) | intro j')
    all_goals try refine zbx ?_
    · focus
        refine q_lp_n ((fun (k : Nat) => (permL n).length - k) (k+1)) (dC fL1 ?_) ⟨k+1, dC fL1 ?_⟩
        all_goals try (refine zlf ?_; repeat' first | exact zso | refine And.intro ?_ ?_ | (refine zim ?_; intro zb hc) | (refine zin ?_; intro zb) | intro j')
        all_goals try refine zbx ?_
      rw [cntL_succ hk, if_pos hc]; rfl
    · focus
        refine q_lp_n ((fun (k : Nat) => (permL n).length - k) (k+1)) (dC fL1 ?_) ⟨k+1, dC fL1 ?_⟩
        all_goals try (refine zlf ?_; repeat' first | exact zso | refine And.intro ?_ ?_ | (refine zim ?_; intro zb hc) | (refine zin ?_; intro zb) | intro j')
        all_goals try refine zbx ?_
      rw [cntL_succ hk, if_neg (by rw [hc]; decide)]; rfl
  · have cE1 := @impl_perms_c; have cE2 := @impl_perms_f_c; have cE3 := trivial
    refine dEa fL1 ?_
    all_goals try (refine zlf ?_; repeat' first | exact zso | refine And.intro ?_ ?_ | (refine zim ?_; intro zb hc) | (refine zin ?_; intro zb) | intro j')
    all_goals try refine zbx ?_
    rw [List.take_of_length_le (by omega)]
end Go.Gl
