/-
  The simple permutations below a permutation; exceptional ones. Conditions: none.
-/
import Derived.Test.YtknmheddofilbaaOrd
import Derived.Test.YtknmheddofilbaaPat
import Derived.Test.YtknmheddofilbaaPText
import Derived.Test.YtknmheddofilbaaLaw1
import Derived.Test.YtknmheddofilbaaNum
import Derived.Test.YtknmheddofilbaaGlC
set_option linter.unusedSimpArgs false
set_option linter.unusedVariables false
set_option maxRecDepth 20000
set_option linter.unusedSectionVars false
namespace Go.Gl
open Go Go.Proofs
variable [Amb]
/-- What is below. -/
def woL (p : List Int) (k : Nat) : List Int := patL (p.take k ++ p.drop (k + 1))
def lowL (p : List Int) : List (List Int) := putL ((List.range p.length).map (woL p))
theorem woL_len {p : List Int} {k : Nat} (h : k < p.length) : (woL p k).length = p.length - 1 := by
  rw [woL, patL_len]; simp; omega
theorem woL_perm {p : List Int} (hp : permB p = true) {k : Nat} : permB (woL p k) = true := by
  refine patL_perm ?_
  have h := (permB_iff.1 hp).2
  refine List.Nodup.sublist ?_ h
  calc List.Sublist (p.take k ++ p.drop (k + 1)) (p.take k ++ p.drop k) := List.Sublist.append (List.Sublist.refl _) (by rw [← List.drop_drop]; exact List.drop_sublist _ _)
    _ = p := List.take_append_drop k p
theorem low_mem {p : List Int} {l : List Int} (h : l ∈ lowL p) : ∃ k, k < p.length ∧ l = woL p k := by
  rw [lowL, putL, put_mem] at h
  rcases h with h | h
  · obtain ⟨k, hk, rfl⟩ := List.mem_map.1 h
    exact ⟨k, by simpa using hk, rfl⟩
  · cases h
theorem lowL_len {p : List Int} : (lowL p).length ≤ p.length := by
  have := put_len ((List.range p.length).map (woL p)) (A := [])
  rw [List.length_nil, Nat.add_zero, List.length_map, List.length_range] at this; exact this
theorem spec_l7Without_c {m0 : Bool} (p : List Int) (k : Nat) (hk : k < p.length) (h8 : p.length ≤ 8) : Fun Try.prog 102 [(.sl (.lent m0) (List.map (PV.int .i64) (p))), (.int .i64 (k))] [(.sl .own (List.map (PV.int .i64) (woL p k)))] := by
  refine fO sg0 [4] Try.func102 ?_
  have cE1 := @spec_l2Pattern_c; have cD1 := zdh [true, false, false, false, true, false, false, false, false, true, true, false] [(0, 1), (0, 2), (0, 3), (0, 5), (4, 5), (0, 6), (4, 6), (0, 7), (4, 7), (0, 8), (4, 8)]
  have e1 : ((k : Int) + 1).toNat = k + 1 := by omega
  have e2 : (p.take k).length + (p.drop (k + 1)).length = (p.take k ++ p.drop (k + 1)).length := by simp
  have e3 : (p.take k ++ p.drop (k + 1)).length ≤ 8 := by simp; omega
  have e4 : List.take ((p.take k).length + (p.drop (k + 1)).length) (p.take k ++ p.drop (k + 1)) = p.take k ++ p.drop (k + 1) := List.take_of_length_le (by omega)
  have e5 : (p.take k).length ≤ 8 := by simp; omega
  refine dEa (And.intro @e1 @e4) ?_
  all_goals try (refine zlf ?_; repeat' first | exact zso | refine And.intro ?_ ?_ | (refine zim ?_; intro zb hc) | (refine zin ?_; intro zb) | intro j')
  all_goals try refine zbx ?_
  rfl
def sgLow : FuncId → List Bool := fun f => if f = 101 then [true] else []
theorem sgLow_eq {f : FuncId} : sgLow f = if f = 101 then [true] else [] := _root_.id rfl
theorem way_sgLow : wayE sgLow = false ∧ wayN sgLow = false ∧ wayS sgLow = false ∧ wayZ sgLow = false := ⟨rfl, rfl, rfl, rfl⟩
attribute [go_sem] sgLow_eq way_sgLow
theorem spec_LowersOf_c {m0 : Bool} (p : List Int) (hl : p.length ≤ 1048576) (hp : isPermB p = true) : Fun Try.prog 25 [(.sl (.lent m0) (List.map (PV.int .i64) (p)))] [(.sl .own (List.map (elI false) (lowL p)))] := by
  refine fO sgLow [2] Try.func25 ?_
  have cE1 := @spec_IsPerm_c; have cE2 := @spec_l7Without_c; have cM1 := @spec_l3Put_c
  obtain ⟨h8, hq⟩ := isP_8 hp
  have q1 : ∀ {k : Nat}, ∀ l ∈ putL ((List.range k).map (woL p)), l.length ≤ 1048576 := fun {k} => put_lens fun l h => by
    obtain ⟨j, _, rfl⟩ := List.mem_map.1 h
    rw [woL, patL_len]; simp; omega
  have q2 : ∀ {k : Nat}, (woL p k).length ≤ 1048576 := fun {k} => by rw [woL, patL_len]; simp; omega
  refine dEa @hp ?_
  all_goals try (refine zlf ?_; repeat' first | exact zso | refine And.intro ?_ ?_ | (refine zim ?_; intro zb hc) | (refine zin ?_; intro zb) | intro j')
  all_goals try refine zbx ?_
  refine v_loopB (fun ms1 S1 => ∃ (k : Nat), S1.e 0 = .p (.sl (.lent m0) (List.map (PV.int .i64) (p))) ∧ OwnL (S1.e 3) S1.h S1.n (elI false) ((putL ((List.range k).map (woL p))).length) (putL ((List.range k).map (woL p))) ∧ S1.e 4 = .p (.int .i64 (k)) ∧ (k ≤ p.length) ∧ ms1 = p.length - k) ((fun (k : Nat) => p.length - k) (0)) ?_ ⟨0, dC trivial ?_⟩
  all_goals try (refine zlf ?_; repeat' first | exact zso | refine And.intro ?_ ?_ | (refine zim ?_; intro zb hc) | (refine zin ?_; intro zb) | intro j')
  all_goals try refine zbx ?_
  rintro ms1 S1 ⟨k, h1_0, o1_3, h1_4, c1_0, hm1⟩
  obtain ⟨i1_3, h1_3, b1_3, l1_3⟩ := o1_3.out
  have ni1_3 := znds (x := i1_3) (n := S1.n)
  have fL1 := (And.intro h1_0 (And.intro h1_4 (And.intro h1_3 (And.intro b1_3 ni1_3))))
  · have b1 := putL_len (L := (List.range k).map (woL p))
    rw [List.length_map, List.length_range] at b1
    refine dEa (And.intro fL1 @hp) ?_
    all_goals try (refine zlf ?_; repeat' first | exact zso | refine And.intro ?_ ?_ | (refine zim ?_; intro zb hc) | (refine zin ?_; intro zb) | intro j')
    all_goals try refine zbx ?_
    · exact q1
    · exact q2
    · focus
        refine q_lp_n ((fun (k : Nat) => p.length - k) (k+1)) (dC fL1 ?_) ⟨k+1, dC fL1 ?_⟩
        all_goals try (refine zlf ?_; repeat' first | exact zso | refine And.intro ?_ ?_ | (refine zim ?_; intro zb hc) | (refine zin ?_; intro zb) | intro j')
        all_goals try refine zbx ?_
      all_goals rw [← List.range_succ, putL_snoc]
    · obtain rfl : k = p.length := by omega
      rw [lowL]
end Go.Gl
