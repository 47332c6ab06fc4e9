/-
  Bases made of what is drawn: what their functions compute. Conditions: none.
-/
import Derived.Test.YtfjfobbniglaeaaDoorDraw
import Derived.Test.YtfjfobbniglaeaaDoorSrtP
import Derived.Test.YtfjfobbniglaeaaDoorProg
import Derived.Shelf.Utf8.RuneCount
import Derived.Shelf.Strconv.Itoa0
import Derived.Shelf.Strconv.Itoa1
import Derived.Shelf.LaysM
import Derived.Shelf.Strconv.Itoa2
import Derived.Shelf.Strconv.Itoa3
import Derived.Shelf.Strings.Search1
import Derived.Shelf.Strings.Search2
import Derived.Shelf.Strings.Search3
import Derived.Shelf.Strings.Count
import Derived.Shelf.Strings.Shaped
import Derived.Shelf.Strings.Split
import Derived.Shelf.Strings.SplitShaped
import Derived.Shelf.Unicode.Decode
import Derived.Shelf.Strings.RuneCount
import Derived.Shelf.Strings.Explode
import Derived.Shelf.Unicode.DecodeSlow
import Derived.Shelf.Unicode.DecodeAny
import Derived.Shelf.Slices.Reverse
import Derived.Ground.Names2Prog
import Derived.Shelf.Slices.Clone
import Derived.Shelf.Slices.SearchI
import Derived.Shelf.Slices.Cells
import Derived.Ground.SlgnProg
import Derived.Shelf.SlicesE.Clone
import Derived.Test.YtfjfobbniglaeaaDoorPut
import Derived.Test.YtfjfobbniglaeaaDoorClone
set_option linter.unusedSimpArgs false
set_option linter.unusedVariables false
set_option maxRecDepth 20000
set_option linter.unusedSectionVars false
namespace Go.Gl
open Go Go.Proofs
variable [Amb] [NoQ]
theorem spec_l3All_c {e0 m0 : Bool} (L : List (List Int)) (hL : L.length ≤ 1048576) (hl : ∀ l ∈ L, l.length ≤ 1048576) : Fun Tryd.prog 109 [(.sl (.lent m0) (List.map (elI e0) (L)))] [(.bool (L.all isPermB))] := by
  refine fO sg0 [2] Tryd.func109 ?_
  have cE1 := @spec_IsPerm_c
  refine dEa trivial ?_
  all_goals try (refine zlf ?_; repeat' first | exact zso | refine And.intro ?_ ?_ | (refine zim ?_; intro zb hc) | (refine zin ?_; intro zb) | intro j')
  all_goals try refine zbx ?_
  refine v_loopB (fun ms1 S1 => ∃ (k : Nat), S1.e 0 = .p (.sl (.lent m0) (List.map (elI e0) (L))) ∧ S1.e 3 = .p (.int .i64 (k)) ∧ (k ≤ L.length) ∧ (∀ q ∈ L.take k, isPermB q = true) ∧ ms1 = L.length - k) ((fun (k : Nat) => L.length - k) (0)) ?_ ⟨0, dC trivial ?_⟩
  all_goals try (refine zlf ?_; repeat' first | exact zso | refine And.intro ?_ ?_ | (refine zim ?_; intro zb hc) | (refine zin ?_; intro zb) | intro j')
  all_goals try refine zbx ?_
  rintro ms1 S1 ⟨k, h1_0, h1_3, c1_0, c1_1, hm1⟩
  have fL1 := (And.intro h1_0 h1_3)
  by_cases hk : k < L.length
  · have g1 := hl _ (getD_mem (d := []) hk)
    refine dEa fL1 ?_
    all_goals try (refine zlf ?_; repeat' first | exact zso | refine And.intro ?_ ?_ | (refine zim ?_; intro zb hc) | (refine zin ?_; intro zb) | intro j')
    all_goals try refine zbx ?_
    · exact (List.all_eq_false.2 ⟨_, getD_mem hk, by rw [hc]; decide⟩).symm
    · focus
        refine q_lp_n ((fun (k : Nat) => L.length - k) (k+1)) (dC fL1 ?_) ⟨k+1, dC fL1 ?_⟩
        all_goals try (refine zlf ?_; repeat' first | exact zso | refine And.intro ?_ ?_ | (refine zim ?_; intro zb hc) | (refine zin ?_; intro zb) | intro j')
        all_goals try refine zbx ?_
      intro q hq
      rw [take_getD (d := []) (by omega)] at hq
      rcases List.mem_append.1 hq with hq | hq
      · exact c1_1 q hq
      · simp at hq; subst hq; simpa using hc
  · refine dEa fL1 ?_
    all_goals try (refine zlf ?_; repeat' first | exact zso | refine And.intro ?_ ?_ | (refine zim ?_; intro zb hc) | (refine zin ?_; intro zb) | intro j')
    all_goals try refine zbx ?_
    rw [List.take_of_length_le (by omega)] at c1_1
    exact (List.all_eq_true.2 c1_1).symm
def ordP (L : List (List Int)) : Nat → List (List Int)
  | 0 => []
  | k + 1 => putP (ordP L k) (L.getD k [])
theorem putP_len {L : List (List Int)} {p : List Int} : (putP L p).length ≤ L.length + 1 := by
  unfold putP; split
  · omega
  · exact Nat.le_of_eq insS_len
theorem ordP_len {L : List (List Int)} : ∀ {k : Nat}, (ordP L k).length ≤ k
  | 0 => Nat.le_refl _
  | k + 1 => by have := putP_len (L := ordP L k) (p := L.getD k []); have := ordP_len (L := L) (k := k); rw [ordP]; omega
theorem ordP_mem {L : List (List Int)} {x : List Int} : ∀ {k : Nat}, k ≤ L.length → x ∈ ordP L k → x ∈ L
  | 0, _, h => by simp [ordP] at h
  | k + 1, hk, h => by
    rw [ordP, putP_mem] at h
    rcases h with rfl | h
    · exact getD_mem (by omega)
    · exact ordP_mem (by omega) h
def sgOP : FuncId → List Bool := fun f => if f = 118 then [true] else []
theorem sgOP_eq {f : FuncId} : sgOP f = if f = 118 then [true] else [] := _root_.id rfl
theorem way_sgOP : wayE sgOP = false ∧ wayN sgOP = false ∧ wayS sgOP = false ∧ wayZ sgOP = false ∧ wayM sgOP = false := ⟨rfl, rfl, rfl, rfl, rfl⟩
attribute [go_sem] sgOP_eq way_sgOP
theorem spec_OrderPerms_c {e0 m0 : Bool} (L : List (List Int)) (hL : L.length ≤ 1000) (hl : ∀ l ∈ L, l.length ≤ 1048576) (ha : L.all isPermB = true) : Fun Tryd.prog 110 [(.sl (.lent m0) (List.map (elI e0) (L)))] [(.sl .own (List.map (elI false) (ordP L L.length)))] := by
  refine fO sgOP [2] Tryd.func110 ?_
  have cE1 := @spec_l3All_c; have cM1 := @spec_l3Put_c
  refine dEa trivial ?_
  all_goals try (refine zlf ?_; repeat' first | exact zso | refine And.intro ?_ ?_ | (refine zim ?_; intro zb hc) | (refine zin ?_; intro zb) | intro j')
  all_goals try refine zbx ?_
  refine v_loopB (fun ms1 S1 => ∃ (k : Nat), S1.e 0 = .p (.sl (.lent m0) (List.map (elI e0) (L))) ∧ OwnL (S1.e 3) S1.h S1.n (elI false) ((ordP L k).length) (ordP L k) ∧ S1.e 4 = .p (.int .i64 (k)) ∧ (k ≤ L.length) ∧ ms1 = L.length - k) ((fun (k : Nat) => L.length - k) (0)) ?_ ⟨0, dC trivial ?_⟩
  all_goals try (refine zlf ?_; repeat' first | exact zso | refine And.intro ?_ ?_ | (refine zim ?_; intro zb hc) | (refine zin ?_; intro zb) | intro j')
  all_goals try refine zbx ?_
  rintro ms1 S1 ⟨k, h1_0, o1_3, h1_4, c1_0, hm1⟩
  obtain ⟨i1_3, h1_3, b1_3, l1_3⟩ := o1_3.out
  have ni1_3 := znds (x := i1_3) (n := S1.n)
  have fL1 := (And.intro h1_0 (And.intro h1_4 (And.intro h1_3 (And.intro b1_3 ni1_3))))
  have b1 := ordP_len (L := L) (k := k)
  have b2 : ∀ l ∈ ordP L k, l.length ≤ 1048576 := fun l h => hl l (ordP_mem (by omega) h)
  by_cases hk : k < L.length
  · have g1 := hl _ (getD_mem (d := []) hk)
    refine dEa (And.intro fL1 @ha) ?_
    all_goals try (refine zlf ?_; repeat' first | exact zso | refine And.intro ?_ ?_ | (refine zim ?_; intro zb hc) | (refine zin ?_; intro zb) | intro j')
    all_goals try refine zbx ?_
    focus
      refine q_lp_n ((fun (k : Nat) => L.length - k) (k+1)) (dC fL1 ?_) ⟨k+1, dC fL1 ?_⟩
      all_goals try (refine zlf ?_; repeat' first | exact zso | refine And.intro ?_ ?_ | (refine zim ?_; intro zb hc) | (refine zin ?_; intro zb) | intro j')
      all_goals try refine zbx ?_
    all_goals rfl
  · obtain rfl : k = L.length := by omega
    refine dEa fL1 ?_
    all_goals try (refine zlf ?_; repeat' first | exact zso | refine And.intro ?_ ?_ | (refine zim ?_; intro zb hc) | (refine zin ?_; intro zb) | intro j')
    all_goals try refine zbx ?_
def mkA (A : List (List Int)) : Nat → List (List Int)
  | 0 => []
  | k + 1 => if avB (mkA A k) (A.getD k []) = true then mkA A k ++ [A.getD k []] else mkA A k
theorem mkA_len {A : List (List Int)} : ∀ {k : Nat}, (mkA A k).length ≤ k
  | 0 => Nat.le_refl _
  | k + 1 => by
    have := mkA_len (A := A) (k := k)
    rw [mkA]; split
    · rw [List.length_append]; simp; omega
    · omega
theorem mkA_mem {A : List (List Int)} {x : List Int} : ∀ {k : Nat}, k ≤ A.length → x ∈ mkA A k → x ∈ A
  | 0, _, h => by simp [mkA] at h
  | k + 1, hk, h => by
    rw [mkA] at h
    split at h
    · rcases List.mem_append.1 h with h | h
      · exact mkA_mem (by omega) h
      · rw [List.mem_singleton] at h; subst h; exact getD_mem (by omega)
    · exact mkA_mem (by omega) h
def mkO (L : List (List Int)) : List (List Int) := mkA (ordP L L.length) (ordP L L.length).length
def mkOk (L : List (List Int)) : Bool := L.all isPermB && basisB (mkO L)
def mkBs (L : List (List Int)) : List (List Int) := if mkOk L = true then mkO L else []
theorem spec_MakeBasis_c {e0 m0 : Bool} (L : List (List Int)) (hL : L.length ≤ 1000) (hl : ∀ l ∈ L, l.length ≤ 8) : Fun Tryd.prog 103 [(.sl (.lent m0) (List.map (elI e0) (L)))] [(.sl .own (List.map (elI false) (mkBs L))), (.bool (mkOk L))] := by
  have hl' : ∀ l ∈ L, l.length ≤ 1048576 := fun l h => Nat.le_trans (hl l h) (by decide)
  by_cases h1 : L.all isPermB = true
  · refine fO sg0 [2, 3] Tryd.func103 ?_
    have cE1 := @spec_l3All_c; have cE2 := @spec_OrderPerms_c; have cE3 := @spec_l12Avoids_c; have cE4 := @spec_IsBasis_c
    have b1 := ordP_len (L := L) (k := L.length)
    have b2 : ∀ l ∈ ordP L L.length, l.length ≤ 8 := fun l h => hl l (ordP_mem (by omega) h)
    obtain ⟨O, hO⟩ : ∃ O, ordP L L.length = O := ⟨_, rfl⟩
    rw [hO] at b1 b2
    refine dEa (And.intro @h1 @hO) ?_
    all_goals try (refine zlf ?_; repeat' first | exact zso | refine And.intro ?_ ?_ | (refine zim ?_; intro zb hc) | (refine zin ?_; intro zb) | intro j')
    all_goals try refine zbx ?_
    refine v_loopB (fun ms1 S1 => ∃ (k : Nat), S1.e 0 = .p (.sl (.lent m0) (List.map (elI e0) (L))) ∧ OwnL (S1.e 4) S1.h S1.n (elI false) ((O).length) (O) ∧ OwnL (S1.e 5) S1.h S1.n (elI false) ((mkA O k).length) (mkA O k) ∧ S1.e 6 = .p (.int .i64 (k)) ∧ (k ≤ O.length) ∧ NId (S1.e 5) (S1.e 4) ∧ ms1 = O.length - k) ((fun (k : Nat) => O.length - k) (0)) ?_ ⟨0, dC trivial ?_⟩
    all_goals try (refine zlf ?_; repeat' first | exact zso | refine And.intro ?_ ?_ | (refine zim ?_; intro zb hc) | (refine zin ?_; intro zb) | intro j')
    all_goals try refine zbx ?_
    rintro ms1 S1 ⟨k, h1_0, o1_4, o1_5, h1_6, c1_0, u1_0, hm1⟩
    obtain ⟨i1_4, h1_4, b1_4, l1_4⟩ := o1_4.out
    obtain ⟨i1_5, h1_5, b1_5, l1_5⟩ := o1_5.out
    have k1_0 := (u1_0).out h1_5 h1_4
    have ni1_4 := znds (x := i1_4) (n := S1.n)
    have ni1_5 := znds (x := i1_5) (n := S1.n)
    have di1_4i1_5 := zdne (x := i1_4) (y := i1_5)
    have fL1 := (And.intro h1_0 (And.intro h1_6 (And.intro h1_4 (And.intro b1_4 (And.intro h1_5 (And.intro b1_5 (And.intro ni1_4 (And.intro ni1_5 di1_4i1_5))))))))
    have b3 := mkA_len (A := O) (k := k)
    have b4 : ∀ l ∈ mkA O k, l.length ≤ 8 := fun l h => b2 l (mkA_mem (by omega) h)
    have b5 : ∀ l ∈ mkA O k, l.length ≤ 1048576 := fun l h => Nat.le_trans (b4 l h) (by decide)
    by_cases hk : k < O.length
    · have g1 := b2 _ (getD_mem (d := []) hk)
      refine dEa fL1 ?_
      all_goals try (refine zlf ?_; repeat' first | exact zso | refine And.intro ?_ ?_ | (refine zim ?_; intro zb hc) | (refine zin ?_; intro zb) | intro j')
      all_goals try refine zbx ?_
      · focus
          refine q_lp_n ((fun (k : Nat) => O.length - k) (k+1)) (dC fL1 ?_) ⟨k+1, dC fL1 ?_⟩
          all_goals try (refine zlf ?_; repeat' first | exact zso | refine And.intro ?_ ?_ | (refine zim ?_; intro zb hc) | (refine zin ?_; intro zb) | intro j')
          all_goals try refine zbx ?_
        all_goals (rw [mkA, if_pos hc])
        all_goals simp
      · focus
          refine q_lp_n ((fun (k : Nat) => O.length - k) (k+1)) (dC fL1 ?_) ⟨k+1, dC fL1 ?_⟩
          all_goals try (refine zlf ?_; repeat' first | exact zso | refine And.intro ?_ ?_ | (refine zim ?_; intro zb hc) | (refine zin ?_; intro zb) | intro j')
          all_goals try refine zbx ?_
        all_goals (rw [mkA, if_neg (by rw [hc]; decide)])
    · obtain rfl : k = O.length := by omega
      have e1 : mkO L = mkA O O.length := by rw [mkO, hO]
      by_cases h2 : basisB (mkA O O.length) = true
      · have e3 : mkOk L = true := by rw [mkOk, h1, e1, h2]; rfl
        have e2 : mkBs L = mkA O O.length := by rw [mkBs, if_pos e3, e1]
        rw [e2, e3]
        refine dEa (And.intro fL1 @h2) ?_
        all_goals try (refine zlf ?_; repeat' first | exact zso | refine And.intro ?_ ?_ | (refine zim ?_; intro zb hc) | (refine zin ?_; intro zb) | intro j')
        all_goals try refine zbx ?_
      · have h3 : basisB (mkA O O.length) = false := by simpa using h2
        have e3 : mkOk L = false := by rw [mkOk, h1, e1, h3]; rfl
        have e2 : mkBs L = [] := by rw [mkBs, if_neg (by rw [e3]; decide)]
        rw [e2, e3]
        refine dEa (And.intro fL1 @h3) ?_
        all_goals try (refine zlf ?_; repeat' first | exact zso | refine And.intro ?_ ?_ | (refine zim ?_; intro zb hc) | (refine zin ?_; intro zb) | intro j')
        all_goals try refine zbx ?_
  · have h2 : L.all isPermB = false := by simpa using h1
    have e3 : mkOk L = false := by rw [mkOk, h2]; rfl
    have e2 : mkBs L = [] := by rw [mkBs, if_neg (by rw [e3]; decide)]
    rw [e2, e3]
    refine fO sg0 [2, 3] Tryd.func103 ?_
    have cE1 := @spec_l3All_c; have cE2 := @spec_OrderPerms_c; have cE3 := @spec_l12Avoids_c; have cE4 := @spec_IsBasis_c
    refine dEa @h2 ?_
    all_goals try (refine zlf ?_; repeat' first | exact zso | refine And.intro ?_ ?_ | (refine zim ?_; intro zb hc) | (refine zin ?_; intro zb) | intro j')
    all_goals try refine zbx ?_
theorem mkBs_basis {L : List (List Int)} : basisB (mkBs L) = true := by
  unfold mkBs; split
  · rename_i h; rw [mkOk, Bool.and_eq_true] at h; exact h.2
  · rfl
theorem mkBs_len {L : List (List Int)} : (mkBs L).length ≤ L.length := by
  unfold mkBs; split
  · exact Nat.le_trans mkA_len ordP_len
  · exact Nat.zero_le _
theorem mkBs_mem {L : List (List Int)} {x : List Int} (h : x ∈ mkBs L) : x ∈ L := by
  unfold mkBs at h; split at h
  · exact ordP_mem (Nat.le_refl _) (mkA_mem (Nat.le_refl _) h)
  · simp at h
def bdP (b : List UInt8) (s : Cu) : Int := [2, 3, 3, 3, (4 : Int)].getD (bwX b s 5).toNat 0
theorem bdP_r {b : List UInt8} {s : Cu} : 2 ≤ bdP b s ∧ bdP b s ≤ 4 := by
  have q := bwX_r (b := b) (s := s) (n := 5)
  have h : bdP b s ∈ [2, 3, 3, 3, (4 : Int)] := getD_mem (by simp; omega)
  simp at h; omega
theorem spec_l1PickInt_b {m0 : Bool} (b : List UInt8) (s : Cu) (l : List Int) (hb : b.length ≤ 1048576) (hl : l.length ≤ 256) (h0 : 0 < l.length) : CallT Tryd.prog false 66 [.mu true (curC b s), .pv (.sl (.lent m0) (List.map (PV.int .i64) l))] [some (curC b (bwS b s l.length)), none] [.int .i64 (l.getD (bwX b s l.length).toNat 0)] := by
  have q := bwX_r (b := b) (s := s) (n := l.length)
  refine fX sgCu [4] Tryd.func66 ?_
  have cM1 := @spec_l1Below_c
  refine dEa trivial ?_
  all_goals try (refine zlf ?_; repeat' first | exact zso | refine And.intro ?_ ?_ | (refine zim ?_; intro zb hc) | (refine zin ?_; intro zb) | intro j')
  all_goals try refine zbx ?_
theorem bdP_c {m0 : Bool} (b : List UInt8) (s : Cu) (hb : b.length ≤ 1048576) : CallT Tryd.prog false 66 [.mu true (curC b s), .pv (.sl (.lent m0) [.int .i64 2, .int .i64 3, .int .i64 3, .int .i64 3, .int .i64 4])] [some (curC b (bwS b s 5)), none] [.int .i64 (bdP b s)] :=
  spec_l1PickInt_b (m0 := m0) b s [2, 3, 3, 3, 4] hb (by decide) (by decide)
def bdL (b : List UInt8) (s : Cu) : Nat → List (List Int) × Cu
  | 0 => ([], s)
  | k + 1 => ((bdL b s k).1 ++ [(drL b (bwS b (bdL b s k).2 5) (bdP b (bdL b s k).2).toNat).1], (drL b (bwS b (bdL b s k).2 5) (bdP b (bdL b s k).2).toNat).2)
theorem bdL_p {b : List UInt8} {s : Cu} : ∀ {k : Nat}, (bdL b s k).1.length = k ∧ ∀ l ∈ (bdL b s k).1, l.length ≤ 4
  | 0 => by simp [bdL]
  | k + 1 => by
    obtain ⟨h1, h2⟩ := bdL_p (b := b) (s := s) (k := k)
    rw [bdL]
    refine ⟨by simp [h1], fun x hx => ?_⟩
    rcases List.mem_append.1 hx with q | q
    · exact h2 x q
    · rw [List.mem_singleton] at q; subst q; rw [drL_len]; have := bdP_r (b := b) (s := (bdL b s k).2); omega
/-- A basis of few short rows. -/
structure BaL (L : List (List Int)) : Prop where
  len : L.length ≤ 3
  row : ∀ l ∈ L, l.length ≤ 4
  bas : basisB L = true
theorem spec_l12Draw_x (b : List UInt8) (s : Cu) (hb : b.length ≤ 1048576) : ∃ s' L, CallT Tryd.prog false 89 [.mu true (curC b s)] [some (curC b s')] [.sl .own (List.map (elI false) L)] ∧ BaL L := by
  obtain ⟨s1, n, c1, hn⟩ := spec_l1PickInt_x (m0 := true) b s [0, 1, 1, 2, 2, 3] hb (by decide) (by decide)
  have h8 : 0 ≤ n ∧ n ≤ 3 := by simp at hn; omega
  obtain ⟨N, rfl⟩ := Int.eq_ofNat_of_zero_le h8.1
  simp only [List.map_cons, List.map_nil] at c1
  obtain ⟨g1, g2⟩ := bdL_p (b := b) (s := s1) (k := N)
  refine ⟨(bdL b s1 N).2, mkBs (bdL b s1 N).1, ?_, Nat.le_trans mkBs_len (by omega), fun l h => g2 l (mkBs_mem h), mkBs_basis⟩
  refine fX sgCu [2] Tryd.func89 ?_
  have cE1 := @spec_MakeBasis_c; have cM1 := @spec_l2Draw_c
  have cM2 := @c1
  refine dEa trivial ?_
  all_goals try (refine zlf ?_; repeat' first | exact zso | refine And.intro ?_ ?_ | (refine zim ?_; intro zb hc) | (refine zin ?_; intro zb) | intro j')
  all_goals try refine zbx ?_
  refine v_loopB (fun ms1 S1 => ∃ (k : Nat), S1.e 0 = .ptr 0 0 ∧ S1.h 0 = .live true (curC b (bdL b s1 k).2) ∧ 0 < S1.n ∧ OwnL (S1.e 3) S1.h S1.n (elI false) (((bdL b s1 k).1).length) ((bdL b s1 k).1) ∧ S1.e 4 = .p (.int .i64 (N)) ∧ S1.e 5 = .p (.int .i64 (k)) ∧ (k ≤ N) ∧ NId (S1.e 3) (.ref 0 0 0) ∧ ms1 = N - k) ((fun (k : Nat) => N - k) (0)) ?_ ⟨0, dC trivial ?_⟩
  all_goals try (refine zlf ?_; repeat' first | exact zso | refine And.intro ?_ ?_ | (refine zim ?_; intro zb hc) | (refine zin ?_; intro zb) | intro j')
  all_goals try refine zbx ?_
  rintro ms1 S1 ⟨k, h1_0, b1_0, l1_0, o1_3, h1_4, h1_5, c1_0, u1_0, hm1⟩
  obtain ⟨i1_3, h1_3, b1_3, l1_3⟩ := o1_3.out
  have k1_0 := (u1_0).out h1_3 rfl
  have ni1_3 := znds (x := i1_3) (n := S1.n)
  have n0 := znds (x := 0) (n := S1.n)
  have di1_30 := zdne (x := i1_3) (y := 0)
  have fL1 := (And.intro h1_0 (And.intro b1_0 (And.intro h1_4 (And.intro h1_5 (And.intro h1_3 (And.intro b1_3 (And.intro ni1_3 (And.intro n0 di1_30))))))))
  · obtain ⟨w1, w2⟩ := bdL_p (b := b) (s := s1) (k := k)
    by_cases hk : k < N
    · have g5 := bdP_r (b := b) (s := (bdL b s1 k).2)
      have cM2 := @bdP_c
      refine dEa fL1 ?_
      all_goals try (refine zlf ?_; repeat' first | exact zso | refine And.intro ?_ ?_ | (refine zim ?_; intro zb hc) | (refine zin ?_; intro zb) | intro j')
      all_goals try refine zbx ?_
      focus
        refine q_lp_n ((fun (k : Nat) => N - k) (k+1)) (dC fL1 ?_) ⟨k+1, dC fL1 ?_⟩
        all_goals try (refine zlf ?_; repeat' first | exact zso | refine And.intro ?_ ?_ | (refine zim ?_; intro zb hc) | (refine zin ?_; intro zb) | intro j')
        all_goals try refine zbx ?_
      all_goals (rw [bdL]; simp)
    · obtain rfl : k = N := by omega
      have w3 : ∀ l ∈ (bdL b s1 k).1, l.length ≤ 8 := fun l h => Nat.le_trans (w2 l h) (by decide)
      have cM2 := trivial
      refine dEa fL1 ?_
      all_goals try (refine zlf ?_; repeat' first | exact zso | refine And.intro ?_ ?_ | (refine zim ?_; intro zb hc) | (refine zin ?_; intro zb) | intro j')
      all_goals try refine zbx ?_
  all_goals rfl
structure BnL (L : List (List Int)) : Prop where
  len : L.length ≤ 4
  row : ∀ l ∈ L, SmL l
theorem BaL.sm {L : List (List Int)} (h : BaL L) : ∀ l ∈ L, SmL l := fun l hl => by
  have hb := h.bas
  simp only [basisB, Bool.and_eq_true] at hb
  obtain ⟨i, hi, rfl⟩ := List.getElem_of_mem hl
  have := basK_perm hb.2 hi
  rw [List.getD_eq_getElem?_getD, List.getElem?_eq_getElem hi] at this
  exact SmL.of this
theorem spec_l12Bent_x (b : List UInt8) (s : Cu) (hb : b.length ≤ 1048576) : ∃ s' L, CallT Tryd.prog false 73 [.mu true (curC b s)] [some (curC b s')] [.sl .own (List.map (elI false) L)] ∧ BnL L := by
  obtain ⟨s1, L, c1, hL⟩ := spec_l12Draw_x b s hb
  obtain ⟨x, hx⟩ : ∃ x, bwX b s1 10 = x := ⟨_, rfl⟩
  by_cases h0 : x = 0
  · subst h0
    obtain ⟨s2, p, c2, hp⟩ := spec_l2Bent_x b (bwS b s1 10) hb
    refine ⟨s2, L ++ [p], ?_, by have := hL.len; simp; omega, fun l h => ?_⟩
    · have := hL.len
      refine fX sgCu [2] Tryd.func73 ?_
      have cM1 := @spec_l1Once_c
      have cM2 := @c1; have cM3 := @c2
      refine dEa @hx ?_
      all_goals try (refine zlf ?_; repeat' first | exact zso | refine And.intro ?_ ?_ | (refine zim ?_; intro zb hc) | (refine zin ?_; intro zb) | intro j')
      all_goals try refine zbx ?_
      all_goals exact List.take_of_length_le (by simp)
    · rcases List.mem_append.1 h with g | g
      · exact hL.sm l g
      · rw [List.mem_singleton] at g; subst g; exact hp
  · have f0 : (x = 0) = False := eq_false h0
    refine ⟨bwS b s1 10, L, ?_, Nat.le_trans hL.len (by decide), hL.sm⟩
    refine fX sgCu [2] Tryd.func73 ?_
    have cM1 := @spec_l1Once_c
    have cM2 := @c1
    refine dEa (And.intro @hx @f0) ?_
    all_goals try (refine zlf ?_; repeat' first | exact zso | refine And.intro ?_ ?_ | (refine zim ?_; intro zb hc) | (refine zin ?_; intro zb) | intro j')
    all_goals try refine zbx ?_
end Go.Gl
