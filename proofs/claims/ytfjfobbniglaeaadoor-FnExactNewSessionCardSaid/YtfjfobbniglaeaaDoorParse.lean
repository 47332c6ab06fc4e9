/-
  Permutations read from texts. Conditions: none.
-/
import Derived.Test.YtfjfobbniglaeaaDoorPText
import Derived.Test.YtfjfobbniglaeaaDoorPerms
import Derived.Test.YtfjfobbniglaeaaDoorLaw2
set_option linter.unusedSimpArgs false
set_option linter.unusedVariables false
set_option maxRecDepth 20000
set_option linter.unusedSectionVars false
namespace Go.Gl
open Go Go.Proofs
variable [Amb] [NoQ]
/-- The numbers of a text's bytes, as digits. -/
def dgL (s : List UInt8) : List Int := s.map fun c => (c.toNat : Int) - 48
def prsB (s : List UInt8) : Bool := decide (s = [45]) || (!decide (s = []) && isPermB (dgL s))
def prsL (s : List UInt8) : List Int := if s = [45] then [] else if prsB s = true then dgL s else []
theorem dgL_take {s : List UInt8} {k : Nat} (h : k < s.length) : dgL (s.take (k + 1)) = dgL (s.take k) ++ [((s.getD k 0).toNat : Int) - 48] := by
  rw [take_getD (d := 0) h, dgL, List.map_append]; rfl
theorem dgL_len {s : List UInt8} : (dgL s).length = s.length := by simp [dgL]
theorem spec_ParsePerm_c (s : List UInt8) (hl : s.length ≤ 1048576) : Fun Tryd.prog 98 [(.str (s))] [(.sl .own (List.map (PV.int .i64) (prsL s))), (.bool (prsB s))] := by
  refine fO sg0 [2, 3] Tryd.func98 ?_
  have cE1 := @spec_IsPerm_c
  refine dEa trivial ?_
  all_goals try (refine zlf ?_; repeat' first | exact zso | refine And.intro ?_ ?_ | (refine zim ?_; intro zb hc; repeat (have zc := zb.1; replace zb := zb.2)) | (refine zin ?_; intro zb) | intro j')
  all_goals try refine zbx ?_
  · subst hc; rfl
  · subst hc; rfl
  · have hn := hc
    refine v_loopB (fun ms1 S1 => ∃ (k : Nat), S1.e 0 = .p (.str (s)) ∧ OwnL (S1.e 4) S1.h S1.n (PV.int .i64) ((dgL (s.take k)).length) (dgL (s.take k)) ∧ S1.e 5 = .p (.int .i64 (k)) ∧ (k ≤ s.length) ∧ ms1 = s.length - k) ((fun (k : Nat) => s.length - k) (0)) ?_ ⟨0, dC trivial ?_⟩
    all_goals try (refine zlf ?_; repeat' first | exact zso | refine And.intro ?_ ?_ | (refine zim ?_; intro zb hc; repeat (have zc := zb.1; replace zb := zb.2)) | (refine zin ?_; intro zb) | intro j')
    all_goals try refine zbx ?_
    rintro ms1 S1 ⟨k, h1_0, o1_4, h1_5, c1_0, hm1⟩
    obtain ⟨i1_4, h1_4, b1_4, l1_4⟩ := o1_4.out
    have ni1_4 := znds (x := i1_4) (n := S1.n)
    have fL1 := (And.intro h1_0 (And.intro h1_5 (And.intro h1_4 (And.intro b1_4 ni1_4))))
    have b1 := dgL_len (s := s.take k)
    rw [List.length_take] at b1
    have b2 := dgL_len (s := s)
    have b3 : (s.getD k 0).toNat < 256 := (s.getD k 0).toNat_lt
    have b4 := dgL_take (s := s) (k := k)
    by_cases hk : k < s.length
    · have u5 : (Tryd.prog.underlying 5).isSome = true := by kernel_rfl
      refine dE (And.intro fL1 @u5) ?_
      all_goals try (refine zlf ?_; repeat' first | exact zso | refine And.intro ?_ ?_ | (refine zim ?_; intro zb hc; repeat (have zc := zb.1; replace zb := zb.2)) | (refine zin ?_; intro zb) | intro j')
      all_goals try refine zbx ?_
      all_goals try (rw [n_i64]; omega)
      all_goals try exact zaut
      focus
        refine q_lp_n ((fun (k : Nat) => s.length - k) (k+1)) (dC fL1 ?_) ⟨k+1, dC fL1 ?_⟩
        all_goals try (refine zlf ?_; repeat' first | exact zso | refine And.intro ?_ ?_ | (refine zim ?_; intro zb hc; repeat (have zc := zb.1; replace zb := zb.2)) | (refine zin ?_; intro zb) | intro j')
        all_goals try refine zbx ?_
      all_goals first | (rw [b4 hk]; done) | (rw [b4 hk]; simp; done)
    · rw [List.take_of_length_le (by omega)] at *
      refine dEa fL1 ?_
      all_goals try (refine zlf ?_; repeat' first | exact zso | refine And.intro ?_ ?_ | (refine zim ?_; intro zb hc; repeat (have zc := zb.1; replace zb := zb.2)) | (refine zin ?_; intro zb) | intro j')
      all_goals try refine zbx ?_
      all_goals (simp_all [prsL, prsB]; done)
theorem impl_ParsePerm_c (s : List UInt8) (hl : s.length ≤ 1048576) : Fun Tryd.prog 100 [(.str (s))] [(.sl .own (List.map (PV.int .i64) (prsL s))), (.bool (prsB s))] := by
  refine fO sg0 [2, 3] Tryd.func100 ?_
  have cE1 := @impl_IsPerm_c
  refine dEa trivial ?_
  all_goals try (refine zlf ?_; repeat' first | exact zso | refine And.intro ?_ ?_ | (refine zim ?_; intro zb hc; repeat (have zc := zb.1; replace zb := zb.2)) | (refine zin ?_; intro zb) | intro j')
  all_goals try refine zbx ?_
  · subst hc; rfl
  · subst hc; rfl
  · have hn := hc
    refine v_loopB (fun ms1 S1 => ∃ (k : Nat), S1.e 0 = .p (.str (s)) ∧ OwnL (S1.e 4) S1.h S1.n (PV.int .i64) ((dgL (s.take k)).length) (dgL (s.take k)) ∧ S1.e 11 = .p (.int .i64 (s.length)) ∧ S1.e 12 = .p (.int .i64 (k)) ∧ (k ≤ s.length) ∧ ms1 = s.length - k) ((fun (k : Nat) => s.length - k) (0)) ?_ ⟨0, dC trivial ?_⟩
    all_goals try (refine zlf ?_; repeat' first | exact zso | refine And.intro ?_ ?_ | (refine zim ?_; intro zb hc; repeat (have zc := zb.1; replace zb := zb.2)) | (refine zin ?_; intro zb) | intro j')
    all_goals try refine zbx ?_
    rintro ms1 S1 ⟨k, h1_0, o1_4, h1_11, h1_12, c1_0, hm1⟩
    obtain ⟨i1_4, h1_4, b1_4, l1_4⟩ := o1_4.out
    have ni1_4 := znds (x := i1_4) (n := S1.n)
    have fL1 := (And.intro h1_0 (And.intro h1_11 (And.intro h1_12 (And.intro h1_4 (And.intro b1_4 ni1_4)))))
    have b1 := dgL_len (s := s.take k)
    rw [List.length_take] at b1
    have b2 := dgL_len (s := s)
    have b3 : (s.getD k 0).toNat < 256 := (s.getD k 0).toNat_lt
    have b4 := dgL_take (s := s) (k := k)
    by_cases hk : k < s.length
    · have u5 : (Tryd.prog.underlying 5).isSome = true := by kernel_rfl
      refine dE (And.intro fL1 @u5) ?_
      all_goals try (refine zlf ?_; repeat' first | exact zso | refine And.intro ?_ ?_ | (refine zim ?_; intro zb hc; repeat (have zc := zb.1; replace zb := zb.2)) | (refine zin ?_; intro zb) | intro j')
      all_goals try refine zbx ?_
      all_goals try (rw [n_i64]; omega)
      all_goals try exact zaut
      focus
        refine q_lp_n ((fun (k : Nat) => s.length - k) (k+1)) (dC fL1 ?_) ⟨k+1, dC fL1 ?_⟩
        all_goals try (refine zlf ?_; repeat' first | exact zso | refine And.intro ?_ ?_ | (refine zim ?_; intro zb hc; repeat (have zc := zb.1; replace zb := zb.2)) | (refine zin ?_; intro zb) | intro j')
        all_goals try refine zbx ?_
      all_goals first | (rw [b4 hk]; done) | (rw [b4 hk]; simp; done)
    · rw [List.take_of_length_le (by omega)] at *
      refine dEa fL1 ?_
      all_goals try (refine zlf ?_; repeat' first | exact zso | refine And.intro ?_ ?_ | (refine zim ?_; intro zb hc; repeat (have zc := zb.1; replace zb := zb.2)) | (refine zin ?_; intro zb) | intro j')
      all_goals try refine zbx ?_
      all_goals (simp_all [prsL, prsB]; done)
/-! ### splitting -/
/-- The pieces of a text between the bytes c; 'cur' is the piece begun. -/
def spB (c : UInt8) : List UInt8 → List UInt8 → List (List UInt8)
  | [], cur => [cur]
  | x :: s, cur => if x = c then cur :: spB c s [] else spB c s (cur ++ [x])
def splitC (c : UInt8) (s : List UInt8) : List (List UInt8) := spB c s []
theorem spB_len {c : UInt8} : ∀ {s cur : List UInt8}, (spB c s cur).length ≤ s.length + 1
  | [], _ => by simp [spB]
  | x :: s, cur => by
    rw [spB]; split
    · have := spB_len (c := c) (s := s) (cur := []); simp; omega
    · have := spB_len (c := c) (s := s) (cur := cur ++ [x]); simp; omega
theorem take_dropB {s : List UInt8} {f k : Nat} (h : k < s.length) (hf : f ≤ k) : (s.take (k + 1)).drop f = (s.take k).drop f ++ [s.getD k 0] := by
  rw [take_getD (d := 0) h, List.drop_append_of_le_length (by simp; omega)]
theorem spec_SplitByte_c (s : List UInt8) (c : UInt8) (hl : s.length ≤ 1048576) : Fun Tryd.prog 97 [(.str (s)), (.int .u8 ((c.toNat : Int)))] [(.sl .own (List.map PV.str (splitC c s)))] := by
  refine fO sg0 [4] Tryd.func97 ?_
  refine dEa trivial ?_
  all_goals try (refine zlf ?_; repeat' first | exact zso | refine And.intro ?_ ?_ | (refine zim ?_; intro zb hc) | (refine zin ?_; intro zb) | intro j')
  all_goals try refine zbx ?_
  refine v_loopB (fun ms1 S1 => ∃ (k : Nat) (f : Nat) (out : List (List UInt8)), S1.e 0 = .p (.str (s)) ∧ S1.e 1 = .p (.int .u8 ((c.toNat : Int))) ∧ OwnL (S1.e 5) S1.h S1.n PV.str ((out).length) (out) ∧ S1.e 6 = .p (.int .i64 (f)) ∧ S1.e 7 = .p (.int .i64 (k)) ∧ (k ≤ s.length + 1) ∧ (f ≤ k) ∧ (out.length ≤ k) ∧ (k ≤ s.length → out ++ spB c (s.drop k) ((s.take k).drop f) = splitC c s) ∧ (k = s.length + 1 → out = splitC c s) ∧ ms1 = s.length + 1 - k) ((fun (k : Nat) (f : Nat) (out : List (List UInt8)) => s.length + 1 - k) (0) (0) ([])) ?_ ⟨0, 0, [], dIa trivial ?_⟩
  all_goals try (refine zlf ?_; repeat' first | exact zso | refine And.intro ?_ ?_ | (refine zim ?_; intro zb hc) | (refine zin ?_; intro zb) | intro j')
  all_goals try refine zbx ?_
  rintro ms1 S1 ⟨k, f, out, h1_0, h1_1, o1_5, h1_6, h1_7, c1_0, c1_1, c1_2, c1_3, c1_4, hm1⟩
  obtain ⟨i1_5, h1_5, b1_5, l1_5⟩ := o1_5.out
  have ni1_5 := znds (x := i1_5) (n := S1.n)
  have fL1 := (And.intro h1_0 (And.intro h1_1 (And.intro h1_6 (And.intro h1_7 (And.intro h1_5 (And.intro b1_5 ni1_5))))))
  have d1 := fun h => drop_at (s := s) (k := k) h
  have d2 : f ≤ k → k < s.length → (s.take (k + 1)).drop f = (s.take k).drop f ++ [s.getD k 0] := fun a b => take_dropB b a
  refine dEa fL1 ?_
  all_goals try (refine zlf ?_; repeat' first | exact zso | refine And.intro ?_ ?_ | (refine zim ?_; intro zb hc) | (refine zin ?_; intro zb) | intro j')
  all_goals try refine zbx ?_
  · have e : s.getD k 0 = c := UInt8.toNat_inj.1 (by omega)
    focus
      refine q_lp_n ((fun (k : Nat) (f : Nat) (out : List (List UInt8)) => s.length + 1 - k) (k+1) (k+1) (out ++ [(s.take k).drop f])) (dC fL1 ?_) ⟨k+1, k+1, out ++ [(s.take k).drop f], dC fL1 ?_⟩
      all_goals try (refine zlf ?_; repeat' first | exact zso | refine And.intro ?_ ?_ | (refine zim ?_; intro zb hc) | (refine zin ?_; intro zb) | intro j')
      all_goals try refine zbx ?_
    · intro _
      have := c1_3 (by omega)
      rw [d1 (by omega), spB, if_pos e] at this
      rw [← this, show (s.take (k + 1)).drop (k + 1) = [] from List.drop_of_length_le (by simp; omega)]
  · have e : ¬ s.getD k 0 = c := fun e => hc (by rw [e])
    focus
      refine q_lp_n ((fun (k : Nat) (f : Nat) (out : List (List UInt8)) => s.length + 1 - k) (k+1) (f) (out)) (dC fL1 ?_) ⟨k+1, f, out, dC fL1 ?_⟩
      all_goals try (refine zlf ?_; repeat' first | exact zso | refine And.intro ?_ ?_ | (refine zim ?_; intro zb hc) | (refine zin ?_; intro zb) | intro j')
      all_goals try refine zbx ?_
    · intro _
      have := c1_3 (by omega)
      rw [d1 (by omega), spB, if_neg e] at this
      rw [d2 (by omega) (by omega)]; exact this
  · focus
      refine q_lp_n ((fun (k : Nat) (f : Nat) (out : List (List UInt8)) => s.length + 1 - k) (k+1) (k+1) (out ++ [(s.take k).drop f])) (dC fL1 ?_) ⟨k+1, k+1, out ++ [(s.take k).drop f], dC fL1 ?_⟩
      all_goals try (refine zlf ?_; repeat' first | exact zso | refine And.intro ?_ ?_ | (refine zim ?_; intro zb hc) | (refine zin ?_; intro zb) | intro j')
      all_goals try refine zbx ?_
    · intro _
      have := c1_3 (by omega)
      rw [List.drop_of_length_le (by omega), spB] at this
      exact this
  · exact c1_4 (by omega)
  · rfl
end Go.Gl
