/-
  Bases read from texts: what the reference computes. Conditions: none.
-/
import Derived.Test.YtfjfobbniglaeaaDoorParse
import Derived.Test.YtfjfobbniglaeaaDoorBasis
set_option linter.unusedSimpArgs false
set_option linter.unusedVariables false
set_option maxRecDepth 20000
set_option linter.unusedSectionVars false
namespace Go.Gl
open Go Go.Proofs
variable [Amb] [NoQ]
/-- The basis of a text. -/
def pbOk (s : List UInt8) : Bool := decide (s = []) || ((splitC 32 s).all prsB && basisB ((splitC 32 s).map prsL))
def pbL (s : List UInt8) : List (List Int) := if s = [] then [] else if pbOk s = true then (splitC 32 s).map prsL else []
theorem spB_mem {c : UInt8} : ∀ {s cur : List UInt8}, ∀ x ∈ spB c s cur, x.length ≤ s.length + cur.length
  | [], cur, x, h => by simp [spB] at h; subst h; simp
  | b :: l, cur, x, h => by
    rw [spB] at h
    split at h
    · rcases List.mem_cons.1 h with rfl | h
      · simp
      · have := spB_mem x h; simp at this ⊢; omega
    · have := spB_mem x h; simp at this ⊢; omega
theorem prsL_len {s : List UInt8} : (prsL s).length ≤ s.length := by
  unfold prsL; split
  · simp
  · split
    · simp [dgL]
    · simp
theorem all_atB {α : Type} {l : List α} {p : α → Bool} {k : Nat} {d : α} (h : k < l.length) (hf : p (l.getD k d) = false) : l.all p = false := by
  rw [List.all_eq_false]; exact ⟨l.getD k d, getD_mem h, by rw [hf]; decide⟩
theorem pb_no {s : List UInt8} {k : Nat} (hn : ¬ s = []) (hk : k < (splitC 32 s).length) (h : prsB ((splitC 32 s).getD k []) = false) : pbOk s = false := by
  rw [pbOk, decide_eq_false hn, all_atB hk h]; rfl
theorem pb_end {s : List UInt8} (hn : ¬ s = []) (h : (splitC 32 s).all prsB = true) : pbOk s = basisB ((splitC 32 s).map prsL) := by
  rw [pbOk, decide_eq_false hn, h]; simp
theorem pbL_no {s : List UInt8} (h : pbOk s = false) : pbL s = [] := by
  rw [pbL]; split
  · rfl
  · rw [if_neg (by rw [h]; decide)]
theorem pbL_yes {s : List UInt8} (hn : ¬ s = []) (h : pbOk s = true) : pbL s = (splitC 32 s).map prsL := by rw [pbL, if_neg hn, if_pos h]
theorem pb_row {s : List UInt8} (b9 : ∀ x ∈ splitC 32 s, x.length ≤ 1000) {k : Nat} : ∀ l ∈ ((splitC 32 s).take k).map prsL, l.length ≤ 1048576 := fun l hl => by
  obtain ⟨x, hx, rfl⟩ := List.mem_map.1 hl
  have := b9 x (List.mem_of_mem_take hx)
  have := prsL_len (s := x); omega
def sgPB : FuncId → List Bool := fun f => if f = 4294967297 then [true, false, false, false] else []
theorem sgPB_eq {f : FuncId} : sgPB f = if f = 4294967297 then [true, false, false, false] else [] := _root_.id rfl
theorem way_sgPB : wayE sgPB = false ∧ wayN sgPB = true ∧ wayS sgPB = false ∧ wayZ sgPB = false ∧ wayM sgPB = false := ⟨rfl, rfl, rfl, rfl, rfl⟩
attribute [go_sem] sgPB_eq way_sgPB
theorem spec_ParseBasis_c (s : List UInt8) (hl : s.length ≤ 1000) : Fun Tryd.prog 84 [(.str (s))] [(.dl (List.map (List.map (PV.int .i64)) (pbL s))), (.bool (pbOk s))] := by
  refine fO sgPB [2, 3] Tryd.func84 ?_
  have cE1 := @spec_SplitByte_c; have cE2 := @spec_ParsePerm_c; have cE3 := @spec_IsBasis_c
  have b0 := spB_len (c := 32) (s := s) (cur := [])
  have b9 : ∀ x ∈ splitC 32 s, x.length ≤ 1000 := fun x hx => by have := spB_mem x hx; simp at this; omega
  have b8 : (splitC 32 s).length ≤ 1001 := by unfold splitC; omega
  have hS := spec_SplitByte_c s 32 (by omega)
  rw [show (((32 : UInt8).toNat : Nat) : Int) = 32 from rfl] at hS
  have cE1 := @hS; have cE2 := @spec_SplitByte_c; have cE3 := @spec_ParsePerm_c; have cE4 := @spec_IsBasis_c
  refine dEa trivial ?_
  all_goals try (refine zlf ?_; repeat' first | exact zso | refine And.intro ?_ ?_ | (refine zim ?_; intro zb hc) | (refine zin ?_; intro zb) | intro j')
  all_goals try refine zbx ?_
  · subst hc; rfl
  · subst hc; rfl
  · have hn := hc
    refine v_loopB (fun ms1 S1 => ∃ (k : Nat), S1.e 0 = .p (.str (s)) ∧ DwnL (S1.e 4) S1.h S1.n (PV.int .i64) ((((splitC 32 s).take k).map prsL).length) (((splitC 32 s).take k).map prsL) ∧ OwnL (S1.e 5) S1.h S1.n PV.str ((splitC 32 s).length) (splitC 32 s) ∧ S1.e 6 = .p (.int .i64 (k)) ∧ (k ≤ (splitC 32 s).length) ∧ (((splitC 32 s).take k).all prsB = true) ∧ NId (S1.e 5) (S1.e 4) ∧ ms1 = (splitC 32 s).length - k) ((fun (k : Nat) => (splitC 32 s).length - k) (0)) ?_ ⟨0, dC trivial ?_⟩
    all_goals try (refine zlf ?_; repeat' first | exact zso | refine And.intro ?_ ?_ | (refine zim ?_; intro zb hc) | (refine zin ?_; intro zb) | intro j')
    all_goals try refine zbx ?_
    rintro ms1 S1 ⟨k, h1_0, o1_4, o1_5, h1_6, c1_0, c1_1, u1_0, hm1⟩
    obtain ⟨i1_4, h1_4, b1_4, l1_4⟩ := o1_4.out
    obtain ⟨i1_5, h1_5, b1_5, l1_5⟩ := o1_5.out
    have k1_0 := (u1_0).out h1_5 h1_4
    have ni1_4 := znds (x := i1_4) (n := S1.n)
    have ni1_5 := znds (x := i1_5) (n := S1.n)
    have di1_4i1_5 := zdne (x := i1_4) (y := i1_5)
    have fL1 := (And.intro h1_0 (And.intro h1_6 (And.intro h1_4 (And.intro b1_4 (And.intro h1_5 (And.intro b1_5 (And.intro ni1_4 (And.intro ni1_5 di1_4i1_5))))))))
    have b7 : k < (splitC 32 s).length → ((splitC 32 s).getD k []).length ≤ 1048576 := fun h => by have := b9 ((splitC 32 s).getD k []) (getD_mem h); omega
    have r1 := pb_row b9 (k := k)
    by_cases hk : k < (splitC 32 s).length
    · have cE1 := @spec_SplitByte_c; have cE2 := @spec_ParsePerm_c; have cE3 := @spec_IsBasis_c; have cE4 := trivial
      refine dEa fL1 ?_
      all_goals try (refine zlf ?_; repeat' first | exact zso | refine And.intro ?_ ?_ | (refine zim ?_; intro zb hc) | (refine zin ?_; intro zb) | intro j')
      all_goals try refine zbx ?_
      · rw [pbL_no (pb_no hn hk hc)]; rfl
      · exact (pb_no hn hk hc).symm
      · focus
          refine q_lp_n ((fun (k : Nat) => (splitC 32 s).length - k) (k+1)) (dC fL1 ?_) ⟨k+1, dC fL1 ?_⟩
          all_goals try (refine zlf ?_; repeat' first | exact zso | refine And.intro ?_ ?_ | (refine zim ?_; intro zb hc) | (refine zin ?_; intro zb) | intro j')
          all_goals try refine zbx ?_
        all_goals first | (rw [take_getD (d := []) hk]; simp; done) | (rw [take_getD (d := []) hk, List.all_append, c1_1, List.all_cons, hc]; rfl) | skip
    · rw [List.take_of_length_le (by omega)] at c1_1 r1
      have r2 := pb_end hn c1_1
      have e0 : (splitC 32 s).take k = splitC 32 s := List.take_of_length_le (by omega)
      have cE1 := @spec_SplitByte_c; have cE2 := @spec_ParsePerm_c; have cE3 := @spec_IsBasis_c; have cE4 := trivial
      refine dE (And.intro fL1 @e0) ?_
      all_goals try (refine zlf ?_; repeat' first | exact zso | refine And.intro ?_ ?_ | (refine zim ?_; intro zb hc) | (refine zin ?_; intro zb) | intro j')
      all_goals try refine zbx ?_
      all_goals try exact r1
      all_goals try exact zaut
      · rw [pbL_no (r2.trans hc)]; rfl
      · exact (r2.trans hc).symm
      · rw [pbL_yes hn (r2.trans hc)]
      · exact (r2.trans hc).symm
end Go.Gl
