/-
  Bases read from texts: what the program computes. Conditions: none.
-/
import Derived.Test.YtfjfobbniglaeaaDoorSplitS
import Derived.Test.YtfjfobbniglaeaaDoorPBas0
set_option linter.unusedSimpArgs false
set_option linter.unusedVariables false
set_option maxRecDepth 20000
set_option linter.unusedSectionVars false
namespace Go.Gl
open Go Go.Proofs
variable [Amb] [NoQ]
variable [SplA]
def sgPZ : FuncId → List Bool := fun f => if f = 4294967297 then [true, false, true, false] else []
theorem sgPZ_eq {f : FuncId} : sgPZ f = if f = 4294967297 then [true, false, true, false] else [] := _root_.id rfl
theorem way_sgPZ : wayE sgPZ = false ∧ wayN sgPZ = true ∧ wayS sgPZ = false ∧ wayZ sgPZ = true ∧ wayM sgPZ = false := ⟨rfl, rfl, rfl, rfl, rfl⟩
attribute [go_sem] sgPZ_eq way_sgPZ
theorem impl_ParseBasis_c (s : List UInt8) (hl : s.length ≤ 1000) : Fun Tryd.prog 86 [(.str (s))] [(.dl (List.map (List.map (PV.int .i64)) (pbL s))), (.bool (pbOk s))] := by
  refine fO sgPZ [2, 3] Tryd.func86 ?_
  have cE1 := @strings_Split_c; have cE2 := @impl_ParsePerm_c; have cE3 := @impl_IsBasis_c
  have b0 := spB_len (c := 32) (s := s) (cur := [])
  have b9 : ∀ x ∈ splitC 32 s, x.length ≤ 1000 := fun x hx => by have := spB_mem x hx; simp at this; omega
  have b8 : (splitC 32 s).length ≤ 1001 := by unfold splitC; omega
  have hS := strings_Split_c s 32 (by omega)
  have cE1 := @hS; have cE2 := @strings_Split_c; have cE3 := @impl_ParsePerm_c; have cE4 := @impl_IsBasis_c
  refine dEa trivial ?_
  all_goals try (refine zlf ?_; repeat' first | exact zso | refine And.intro ?_ ?_ | (refine zim ?_; intro zb hc) | (refine zin ?_; intro zb) | intro j')
  all_goals try refine zbx ?_
  · subst hc; rfl
  · subst hc; rfl
  · have hn := hc
    refine v_loopB (fun ms1 S1 => ∃ (k : Nat), DwnL (S1.e 4) S1.h S1.n (PV.int .i64) ((((splitC 32 s).take k).map prsL).length) (((splitC 32 s).take k).map prsL) ∧ OwnL (S1.e 14) S1.h S1.n PV.str ((splitC 32 s).length) (splitC 32 s) ∧ S1.e 15 = .p (.int .i64 ((splitC 32 s).length)) ∧ S1.e 16 = .p (.int .i64 (k)) ∧ (k ≤ (splitC 32 s).length) ∧ (((splitC 32 s).take k).all prsB = true) ∧ NId (S1.e 14) (S1.e 4) ∧ ms1 = (splitC 32 s).length - k) ((fun (k : Nat) => (splitC 32 s).length - k) (0)) ?_ ⟨0, dC trivial ?_⟩
    all_goals try (refine zlf ?_; repeat' first | exact zso | refine And.intro ?_ ?_ | (refine zim ?_; intro zb hc) | (refine zin ?_; intro zb) | intro j')
    all_goals try refine zbx ?_
    rintro ms1 S1 ⟨k, o1_4, o1_14, h1_15, h1_16, c1_0, c1_1, u1_0, hm1⟩
    obtain ⟨i1_4, h1_4, b1_4, l1_4⟩ := o1_4.out
    obtain ⟨i1_14, h1_14, b1_14, l1_14⟩ := o1_14.out
    have k1_0 := (u1_0).out h1_14 h1_4
    have ni1_4 := znds (x := i1_4) (n := S1.n)
    have ni1_14 := znds (x := i1_14) (n := S1.n)
    have di1_4i1_14 := zdne (x := i1_4) (y := i1_14)
    have fL1 := (And.intro h1_15 (And.intro h1_16 (And.intro h1_4 (And.intro b1_4 (And.intro h1_14 (And.intro b1_14 (And.intro ni1_4 (And.intro ni1_14 di1_4i1_14))))))))
    have b7 : k < (splitC 32 s).length → ((splitC 32 s).getD k []).length ≤ 1048576 := fun h => by have := b9 ((splitC 32 s).getD k []) (getD_mem h); omega
    have r1 := pb_row b9 (k := k)
    by_cases hk : k < (splitC 32 s).length
    · have cE1 := @strings_Split_c; have cE2 := @impl_ParsePerm_c; have cE3 := @impl_IsBasis_c; have cE4 := trivial
      refine dEa fL1 ?_
      all_goals try (refine zlf ?_; repeat' first | exact zso | refine And.intro ?_ ?_ | (refine zim ?_; intro zb hc) | (refine zin ?_; intro zb) | intro j')
      all_goals try refine zbx ?_
      · rw [pbL_no (pb_no hn hk hc)]; rfl
      · exact (pb_no hn hk hc).symm
      · focus
          refine q_lp_n ((fun (k : Nat) => (splitC 32 s).length - k) (k+1)) (dC fL1 ?_) ⟨k+1, dC fL1 ?_⟩
          all_goals try (refine zlf ?_; repeat' first | exact zso | refine And.intro ?_ ?_ | (refine zim ?_; intro zb hc) | (refine zin ?_; intro zb) | intro j')
          all_goals try refine zbx ?_
        all_goals first | (rw [take_getD (d := []) hk]; simp; done) | (rw [take_getD (d := []) hk, List.all_append, c1_1, List.all_cons, hc]; rfl) | skip
    · rw [List.take_of_length_le (by omega)] at c1_1 r1
      have r2 := pb_end hn c1_1
      have e0 : (splitC 32 s).take k = splitC 32 s := List.take_of_length_le (by omega)
      have cE1 := @strings_Split_c; have cE2 := @impl_ParsePerm_c; have cE3 := @impl_IsBasis_c; have cE4 := trivial
      refine dE (And.intro fL1 @e0) ?_
      all_goals try (refine zlf ?_; repeat' first | exact zso | refine And.intro ?_ ?_ | (refine zim ?_; intro zb hc) | (refine zin ?_; intro zb) | intro j')
      all_goals try refine zbx ?_
      all_goals try exact r1
      all_goals try exact zaut
      · rw [pbL_no (r2.trans hc)]; rfl
      · exact (r2.trans hc).symm
      · rw [pbL_yes hn (r2.trans hc)]
      · exact (r2.trans hc).symm
end Go.Gl
