/-
  What the functions compute, and what the law asks of it: texts joined. Conditions: those that each lemma names.
-/
import Derived.Test.YtkaebeblkpnhmaaGreatDoorT1
import Derived.Test.YtkaebeblkpnhmaaGreatDoorT2
import Derived.Test.YtkaebeblkpnhmaaGreatDoorT3
set_option linter.unusedSimpArgs false
set_option linter.unusedVariables false
set_option maxRecDepth 20000
set_option linter.unusedSectionVars false
namespace Go.Gl
open Go Go.Proofs
variable [Amb]
theorem oc_ptr : ofConst (Value.pointer none) = .any := _root_.id rfl
theorem cur_g0 {b : List UInt8} {s : Cu} : (curC b s)[0]? = some (.sl (.lent false) (b.map u8P)) := _root_.id rfl
theorem cur_g1 {b : List UInt8} {s : Cu} : (curC b s)[1]? = some (.int .i64 s.i) := _root_.id rfl
theorem cur_g2 {b : List UInt8} {s : Cu} : (curC b s)[2]? = some (.int .i64 s.h) := _root_.id rfl
theorem cur_len {b : List UInt8} {s : Cu} : (curC b s).length = 3 := _root_.id rfl
theorem cur_s1 {b : List UInt8} {s : Cu} {n : Nat} : (curC b s).set 1 (.int .i64 (n : Int)) = curC b ⟨n, s.h⟩ := _root_.id rfl
theorem cur_s2 {b : List UInt8} {s : Cu} {n : Int} : (curC b s).set 2 (.int .i64 n) = curC b ⟨s.i, n⟩ := _root_.id rfl
attribute [go_sem] oc_ptr a_any cur_g0 cur_g1 cur_g2 cur_len cur_s1 cur_s2
def newH (b : List UInt8) : Nat → Int
 | 0 => 26583 + (b.length : Int)
 | k + 1 => ((((newH b k * 131 + ((b.getD k 0).toNat : Int)) + 7).toNat &&& (1073741823 : Int).toNat : Nat) : Int)
theorem newH_r {b : List UInt8} (hb : b.length ≤ 1048576) : ∀ k, 0 ≤ newH b k ∧ newH b k ≤ 1073741823
 | 0 => by rw [newH]; omega
 | k + 1 => by
  have := Nat.and_le_right (n := ((newH b k * 131 + ((b.getD k 0).toNat : Int)) + 7).toNat) (m := (1073741823 : Int).toNat)
  rw [newH]
  omega
theorem u8_r (x : UInt8) : x.toNat ≤ 255 := by have := x.toNat_lt; omega
theorem spec_l1New_c (b : List UInt8) (hb : b.length ≤ 1048576) : Fun Tryz.prog 44 [(.sl (.lent false) (List.map u8P (b)))] [(.bx (curC b ⟨0, newH b (min b.length 4000)⟩))] := by
 refine fO sg0 [2] Tryz.func44 ?_
 have u5 : (Tryz.prog.underlying 5).isSome = true := by rw [Tryz.underlying5]; rfl
 refine dEa trivial ?_
 all_goals try (refine zlf ?_; repeat' first | exact zso | refine And.intro ?_ ?_ | (refine zim ?_; intro zb hc) | (refine zin ?_; intro zb) | intro j')
 all_goals try refine zbx ?_
 refine v_loopB (fun ms1 S1 => ∃ (k : Nat), S1.e 0 = .p (.sl (.lent false) (List.map u8P (b))) ∧ S1.e 3 = .p (.int .i64 (newH b k)) ∧ S1.e 4 = .p (.int .i64 (k)) ∧ (k ≤ b.length) ∧ (k ≤ 4000) ∧ ms1 = b.length - k) ((fun (k : Nat) => b.length - k) (0)) ?_ ⟨0, dC trivial ?_⟩
 all_goals try (refine zlf ?_; repeat' first | exact zso | refine And.intro ?_ ?_ | (refine zim ?_; intro zb hc) | (refine zin ?_; intro zb) | intro j')
 all_goals try refine zbx ?_
 rintro ms1 S1 ⟨k, h1_0, h1_3, h1_4, c1_0, c1_1, hm1⟩
 have fL1 := (And.intro h1_0 (And.intro h1_3 h1_4))
 ·have q1 := newH_r hb k
  have q2 := u8_r (b.getD k 0)
  refine dEa (And.intro fL1 @u5) ?_
  all_goals try (refine zlf ?_; repeat' first | exact zso | refine And.intro ?_ ?_ | (refine zim ?_; intro zb hc) | (refine zin ?_; intro zb) | intro j')
  all_goals try refine zbx ?_
  ·focus
    refine q_lp_n ((fun (k : Nat) => b.length - k) (k+1)) (dC fL1 ?_) ⟨k+1, dC fL1 ?_⟩
    all_goals try (refine zlf ?_; repeat' first | exact zso | refine And.intro ?_ ?_ | (refine zim ?_; intro zb hc) | (refine zin ?_; intro zb) | intro j')
    all_goals try refine zbx ?_
  ·rw [show min b.length 4000 = k by omega]; rfl
  ·rw [show min b.length 4000 = k by omega]; rfl
def byH (h : Int) : Int := IntKind.i64.wrap (IntKind.i64.wrap (h * 6364136223846793005) + 1442695040888963407)
def by0 (h : Int) : Int := andI .i64 (xorI .i64 ((byH h).fdiv (2 ^ 33)) ((byH h).fdiv (2 ^ 45))) 255
def byX (b : List UInt8) (s : Cu) : Int := if s.i < b.length then andI .i64 (IntKind.i64.wrap (by0 s.h + ((b.getD s.i 0).toNat : Int))) 255 else by0 s.h
def byS (b : List UInt8) (s : Cu) : Cu := if s.i < b.length then ⟨s.i + 1, byH s.h⟩ else ⟨s.i, byH s.h⟩
theorem wrap64 {n : Int} (h0 : -9223372036854775808 ≤ n) (h1 : n ≤ 9223372036854775807) : IntKind.i64.wrap n = n := by
 unfold IntKind.wrap
 simp only [IntKind.bits, IntKind.signed, Bool.true_and]
 split
 ·rename_i h; simp at h; omega
 ·rename_i h; simp at h; omega
theorem andI_255 {x : Int} : 0 ≤ andI .i64 x 255 ∧ andI .i64 x 255 ≤ 255 := by
 unfold andI
 generalize BitVec.ofInt IntKind.i64.bits x = y
 have h : (y &&& BitVec.ofInt IntKind.i64.bits 255).toNat ≤ 255 := by
  rw [BitVec.toNat_and]
  exact Nat.and_le_right
 rw [wrap64 (by omega) (by omega)]; omega
theorem byX_r {b : List UInt8} {s : Cu} : 0 ≤ byX b s ∧ byX b s ≤ 255 := by
 unfold byX by0; split <;> exact andI_255
def sgBy : FuncId → List Bool := fun f => if f = 4294967296 then [true] else []
theorem sgBy_eq {f : FuncId} : sgBy f = if f = 4294967296 then [true] else [] := _root_.id rfl
theorem way_sgBy : wayE sgBy = true ∧ wayN sgBy = false ∧ wayS sgBy = false ∧ wayZ sgBy = false := ⟨rfl, rfl, rfl, rfl⟩
attribute [go_sem] sgBy_eq way_sgBy
theorem spec_l1Byte_c (b : List UInt8) (s : Cu) (hb : b.length ≤ 1048576) : CallT Tryz.prog false 84 [.mu true (curC b s)] [some (curC b (byS b s))] [(.int .i64 (byX b s))] := by
 have u5 : (Tryz.prog.underlying 5).isSome = true := by rw [Tryz.underlying5]; rfl
 by_cases hi : s.i < b.length
 ·have e1 : IntKind.i64.wrap ((s.i : Int) + 1) = ((s.i + 1 : Nat) : Int) := by rw [wrap64 (by omega) (by omega)]; omega
  have e2 : byX b s = andI .i64 (IntKind.i64.wrap (by0 s.h + ((b.getD s.i 0).toNat : Int))) 255 := if_pos hi
  have e3 : byS b s = ⟨s.i + 1, byH s.h⟩ := if_pos hi
  have hu := u8_r (b.getD s.i 0)
  rw [e2, e3]
  refine fX sgBy [2] Tryz.func84 ?_
  have cD1 := zdh [false, false, false, false, false, false, false, false, false, false, false, true, false, false, false] [(0, 11)]
  refine dEa (And.intro @u5 @e1) ?_
  all_goals try (refine zlf ?_; repeat' first | exact zso | refine And.intro ?_ ?_ | (refine zim ?_; intro zb hc) | (refine zin ?_; intro zb) | intro j')
  all_goals try refine zbx ?_
  all_goals rfl
 ·have e2 : byX b s = by0 s.h := if_neg hi
  have e3 : byS b s = ⟨s.i, byH s.h⟩ := if_neg hi
  rw [e2, e3]
  refine fX sgBy [2] Tryz.func84 ?_
  have cD1 := zdh [false, false, false, false, false, false, false, false, false, false, false, true, false, false, false] [(0, 11)]
  refine dEa @u5 ?_
  all_goals try (refine zlf ?_; repeat' first | exact zso | refine And.intro ?_ ?_ | (refine zim ?_; intro zb hc) | (refine zin ?_; intro zb) | intro j')
  all_goals try refine zbx ?_
  all_goals rfl
def sgCu : FuncId → List Bool := fun f => if f = 84 then [true] else if f = 43 then [true] else if f = 86 then [true] else if f = 121 then [true] else if f = 122 then [true] else if f = 124 then [true] else if f = 87 then [true] else if f = 85 then [true] else if f = 45 then [true] else []
theorem sgCu_eq {f : FuncId} : sgCu f = if f = 84 then [true] else if f = 43 then [true] else if f = 86 then [true] else if f = 121 then [true] else if f = 122 then [true] else if f = 124 then [true] else if f = 87 then [true] else if f = 85 then [true] else if f = 45 then [true] else [] := _root_.id rfl
theorem way_sgCu : wayE sgCu = false ∧ wayN sgCu = false ∧ wayS sgCu = false ∧ wayZ sgCu = false := ⟨rfl, rfl, rfl, rfl⟩
attribute [go_sem] sgCu_eq way_sgCu
def b4X (b : List UInt8) (s : Cu) : Int := byX b s * 16777216 + byX b (byS b s) * 65536 + byX b (byS b (byS b s)) * 256 + byX b (byS b (byS b (byS b s)))
theorem b4X_r {b : List UInt8} {s : Cu} : 0 ≤ b4X b s ∧ b4X b s ≤ 4294967295 := by
 have q1 := byX_r (b := b) (s := s)
 have q2 := byX_r (b := b) (s := byS b s)
 have q3 := byX_r (b := b) (s := byS b (byS b s))
 have q4 := byX_r (b := b) (s := byS b (byS b (byS b s)))
 unfold b4X; omega
def bwX (b : List UInt8) (s : Cu) (n : Int) : Int := if n ≤ 0 then 0 else if n ≤ 256 then (byX b s).tmod n else (b4X b s).tmod n
def bwS (b : List UInt8) (s : Cu) (n : Int) : Cu := if n ≤ 0 then s else if n ≤ 256 then byS b s else byS b (byS b (byS b (byS b s)))
theorem bwX_r {b : List UInt8} {s : Cu} {n : Int} : 0 ≤ bwX b s n ∧ (0 < n → bwX b s n < n) ∧ (n ≤ 0 → bwX b s n = 0) := by
 unfold bwX
 by_cases h0 : n ≤ 0
 ·rw [if_pos h0]; omega
 ·rw [if_neg h0]
  refine ⟨?_, fun h => ?_, fun h => absurd h h0⟩
  ·split
   ·exact Int.tmod_nonneg _ byX_r.1
   ·exact Int.tmod_nonneg _ b4X_r.1
  ·split <;> exact Int.tmod_lt_of_pos _ h
/-- A number below another. -/
theorem spec_l1Below_c (b : List UInt8) (s : Cu) (n : Int) (hb : b.length ≤ 1048576) (hn : n ≤ 4294967296) : CallT Tryz.prog false 43 [.mu true (curC b s), .pv (.int .i64 (n))] [some (curC b (bwS b s n)), none] [(.int .i64 (bwX b s n))] := by
 by_cases h0 : n ≤ 0
 ·rw [bwS, bwX, if_pos h0, if_pos h0]
  refine fX sgCu [4] Tryz.func43 ?_
  have cM1 := @spec_l1Byte_c
  refine dEa trivial ?_
  all_goals try (refine zlf ?_; repeat' first | exact zso | refine And.intro ?_ ?_ | (refine zim ?_; intro zb hc) | (refine zin ?_; intro zb) | intro j')
  all_goals try refine zbx ?_
 ·by_cases h1 : n ≤ 256
  ·have q := byX_r (b := b) (s := s)
   rw [bwS, bwX, if_neg h0, if_neg h0, if_pos h1, if_pos h1]
   refine fX sgCu [4] Tryz.func43 ?_
   have cM1 := @spec_l1Byte_c
   refine dEa trivial ?_
   all_goals try (refine zlf ?_; repeat' first | exact zso | refine And.intro ?_ ?_ | (refine zim ?_; intro zb hc) | (refine zin ?_; intro zb) | intro j')
   all_goals try refine zbx ?_
  ·have q1 := byX_r (b := b) (s := s)
   have q2 := byX_r (b := b) (s := byS b s)
   have q3 := byX_r (b := b) (s := byS b (byS b s))
   have q4 := byX_r (b := b) (s := byS b (byS b (byS b s)))
   rw [bwS, bwX, if_neg h0, if_neg h0, if_neg h1, if_neg h1, b4X]
   refine fX sgCu [4] Tryz.func43 ?_
   have cM1 := @spec_l1Byte_c
   refine dEa trivial ?_
   all_goals try (refine zlf ?_; repeat' first | exact zso | refine And.intro ?_ ?_ | (refine zim ?_; intro zb hc) | (refine zin ?_; intro zb) | intro j')
   all_goals try refine zbx ?_
theorem spec_l1Once_c (b : List UInt8) (s : Cu) (n : Int) (hb : b.length ≤ 1048576) (hn : n ≤ 4294967296) : CallT Tryz.prog false 86 [.mu true (curC b s), .pv (.int .i64 (n))] [some (curC b (bwS b s n)), none] [(.bool (decide (bwX b s n = 0)))] := by
 refine fX sgCu [4] Tryz.func86 ?_
 have cM1 := @spec_l1Below_c
 refine dEa trivial ?_
 all_goals try (refine zlf ?_; repeat' first | exact zso | refine And.intro ?_ ?_ | (refine zim ?_; intro zb hc) | (refine zin ?_; intro zb) | intro j')
 all_goals try refine zbx ?_
theorem spec_l1PickInt_x {m0 : Bool} (b : List UInt8) (s : Cu) (l : List Int) (hb : b.length ≤ 1048576) (hl : l.length ≤ 256) (h0 : l ≠ []) : ∃ s' x, CallT Tryz.prog false 121 [.mu true (curC b s), .pv (.sl (.lent m0) (List.map (PV.int .i64) l))] [some (curC b s'), none] [.int .i64 x] ∧ x ∈ l := by
 have hp := List.length_pos_iff.2 h0
 have q := bwX_r (b := b) (s := s) (n := l.length)
 refine ⟨bwS b s l.length, l.getD (bwX b s l.length).toNat 0, ?_, getD_mem (by omega)⟩
 refine fX sgCu [4] Tryz.func121 ?_
 have cM1 := @spec_l1Below_c
 refine dEa trivial ?_
 all_goals try (refine zlf ?_; repeat' first | exact zso | refine And.intro ?_ ?_ | (refine zim ?_; intro zb hc) | (refine zin ?_; intro zb) | intro j')
 all_goals try refine zbx ?_
theorem take_midI {L D : List Int} {p : Int} {j : Nat} (h : j ≤ L.length) : List.take (j + 1) (L.take j ++ p :: D) = L.take j ++ [p] := by
 rw [List.take_append, List.take_of_length_le (by simp; omega), List.length_take, Nat.min_eq_left h, Nat.add_sub_cancel_left]; rfl
/-- A permutation, drawn. -/
def drL (b : List UInt8) (s : Cu) : Nat → List Int × Cu
 | 0 => ([], s)
 | k + 1 =>
  let p := drL b s k
  ((p.1.take (bwX b p.2 ((p.1.length : Int) + 1)).toNat ++ [(k : Int) + 1]) ++ p.1.drop (bwX b p.2 ((p.1.length : Int) + 1)).toNat, bwS b p.2 ((p.1.length : Int) + 1))
theorem drL_len {b : List UInt8} {s : Cu} : ∀ {k : Nat}, (drL b s k).1.length = k
 | 0 => rfl
 | k + 1 => by
  have h := drL_len (b := b) (s := s) (k := k)
  have q := bwX_r (b := b) (s := (drL b s k).2) (n := ((drL b s k).1.length : Int) + 1)
  simp only [drL, List.length_append, List.length_take, List.length_drop, List.length_singleton]
  omega
theorem drL_mem {b : List UInt8} {s : Cu} : ∀ {k : Nat}, (∀ x ∈ (drL b s k).1, 1 ≤ x ∧ x ≤ k) ∧ (drL b s k).1.Nodup
 | 0 => by simp [drL]
 | k + 1 => by
  obtain ⟨h1, h2⟩ := drL_mem (b := b) (s := s) (k := k)
  have hp : (drL b s (k + 1)).1.Perm (((k : Int) + 1) :: (drL b s k).1) := by
   simp only [drL]
   rw [List.append_assoc, List.singleton_append]
   refine List.perm_middle.trans ?_
   rw [List.take_append_drop]
  constructor
  ·intro x hx
   rcases List.mem_cons.1 (hp.subset hx) with q | q
   ·omega
   ·have := h1 x q; omega
  ·refine (hp.nodup_iff).2 (List.nodup_cons.2 ⟨fun q => ?_, h2⟩)
   have := h1 _ q; omega
theorem drL_perm {b : List UInt8} {s : Cu} {k : Nat} : permB (drL b s k).1 = true := permB_iff.2 ⟨by rw [drL_len]; exact drL_mem.1, drL_mem.2⟩
set_option maxHeartbeats 1600000 in
theorem spec_l2Draw_c (b : List UInt8) (s : Cu) (n : Int) (hb : b.length ≤ 1048576) (h0 : 0 ≤ n) (hn : n ≤ 1000) : CallT Tryz.prog false 122 [.mu true (curC b s), .pv (.int .i64 (n))] [some (curC b (drL b s n.toNat).2), none] [(.sl .own (List.map (PV.int .i64) ((drL b s n.toNat).1)))] := by
 refine fX sgCu [4] Tryz.func122 ?_
 have cM1 := @spec_l1Below_c
 refine dEa trivial ?_
 all_goals try (refine zlf ?_; repeat' first | exact zso | refine And.intro ?_ ?_ | (refine zim ?_; intro zb hc) | (refine zin ?_; intro zb) | intro j')
 all_goals try refine zbx ?_
 refine v_loopB (fun ms1 S1 => ∃ (k : Nat), S1.e 0 = .ptr 0 0 ∧ S1.h 0 = .live true (curC b (drL b s k).2) ∧ 0 < S1.n ∧ S1.e 1 = .p (.int .i64 (n)) ∧ OwnL (S1.e 5) S1.h S1.n (PV.int .i64) (((drL b s k).1).length) ((drL b s k).1) ∧ S1.e 6 = .p (.int .i64 ((k+1))) ∧ ((k : Int) ≤ n) ∧ NId (S1.e 5) (.ref 0 0 0) ∧ ms1 = n.toNat - k) ((fun (k : Nat) => n.toNat - k) (0)) ?_ ⟨0, dC trivial ?_⟩
 all_goals try (refine zlf ?_; repeat' first | exact zso | refine And.intro ?_ ?_ | (refine zim ?_; intro zb hc) | (refine zin ?_; intro zb) | intro j')
 all_goals try refine zbx ?_
 rintro ms1 S1 ⟨k, h1_0, b1_0, l1_0, h1_1, o1_5, h1_6, c1_0, u1_0, hm1⟩
 obtain ⟨i1_5, h1_5, b1_5, l1_5⟩ := o1_5.out
 have k1_0 := (u1_0).out h1_5 rfl
 have ni1_5 := znds (x := i1_5) (n := S1.n)
 have n0 := znds (x := 0) (n := S1.n)
 have di1_50 := zdne (x := i1_5) (y := 0)
 have fL1 := (And.intro h1_0 (And.intro b1_0 (And.intro h1_1 (And.intro h1_6 (And.intro h1_5 (And.intro b1_5 (And.intro ni1_5 (And.intro n0 di1_50))))))))
 ·have hl := drL_len (b := b) (s := s) (k := k)
  have hd : drL b s (k + 1) = (((drL b s k).1.take (bwX b (drL b s k).2 (((drL b s k).1.length : Int) + 1)).toNat ++ [(k : Int) + 1]) ++ (drL b s k).1.drop (bwX b (drL b s k).2 (((drL b s k).1.length : Int) + 1)).toNat, bwS b (drL b s k).2 (((drL b s k).1.length : Int) + 1)) := rfl
  have q := bwX_r (b := b) (s := (drL b s k).2) (n := ((drL b s k).1.length : Int) + 1)
  obtain ⟨j, hj⟩ : ∃ j : Nat, bwX b (drL b s k).2 (((drL b s k).1.length : Int) + 1) = j := ⟨_, (Int.toNat_of_nonneg q.1).symm⟩
  rw [hj, Int.toNat_natCast] at hd
  rw [hj] at q
  generalize hL : (drL b s k).1 = L at *
  generalize hS : (drL b s k).2 = S0 at *
  have e3 : List.take (L.length - j) (List.drop j L) = L.drop j := List.take_of_length_le (by simp)
  by_cases g0 : j = L.length
  ·subst g0
   have e4 : List.drop L.length L = [] := List.drop_length
   have e5 : List.take L.length L = L := List.take_length
   have f1 : (L.length + 1 = (L ++ [(k : Int) + 1]).length) = True := eq_true (by simp)
   rw [e4, e5, List.append_nil] at hd
   refine dEa (And.intro fL1 (And.intro @hj (And.intro @e3 (And.intro @e4 (And.intro @e5 @f1))))) ?_
   all_goals try (refine zlf ?_; repeat' first | exact zso | refine And.intro ?_ ?_ | (refine zim ?_; intro zb hc) | (refine zin ?_; intro zb) | intro j')
   all_goals try refine zbx ?_
   ·focus
     refine q_lp_n ((fun (k : Nat) => n.toNat - k) (k+1)) (dC fL1 ?_) ⟨k+1, dC fL1 ?_⟩
     all_goals try (refine zlf ?_; repeat' first | exact zso | refine And.intro ?_ ?_ | (refine zim ?_; intro zb hc) | (refine zin ?_; intro zb) | intro j')
     all_goals try refine zbx ?_
    all_goals rw [hd]
    all_goals first | (simp; done) | skip
   all_goals first | (obtain rfl : k = n.toNat := (by omega); rw [hS]; done) | (obtain rfl : k = n.toNat := (by omega); rw [hL]; done) | skip
  ·have f0 : (j = L.length) = False := eq_false g0
   have f1 : (j + 1 ≤ L.length) = True := eq_true (by omega)
   have f2 : (List.take j L ++ ((k : Int) + 1) :: List.drop (j + 1) L).length = L.length := by simp; omega
   have f3 : (List.drop j L).length = L.length - j := by simp
   by_cases g1 : j + 1 = L.length
   ·have f4 : (j + 1 = L.length) = True := eq_true g1
    refine dEa (And.intro fL1 (And.intro @hj (And.intro @e3 (And.intro @f0 (And.intro @f1 (And.intro @f2 (And.intro @f3 @f4))))))) ?_
    all_goals try (refine zlf ?_; repeat' first | exact zso | refine And.intro ?_ ?_ | (refine zim ?_; intro zb hc) | (refine zin ?_; intro zb) | intro j')
    all_goals try refine zbx ?_
    ·focus
      refine q_lp_n ((fun (k : Nat) => n.toNat - k) (k+1)) (dC fL1 ?_) ⟨k+1, dC fL1 ?_⟩
      all_goals try (refine zlf ?_; repeat' first | exact zso | refine And.intro ?_ ?_ | (refine zim ?_; intro zb hc) | (refine zin ?_; intro zb) | intro j')
      all_goals try refine zbx ?_
     all_goals rw [hd]
     all_goals first | (simp; done) | (simp; omega) | (rw [take_midI (by omega)]; done) | skip
    all_goals first | (obtain rfl : k = n.toNat := (by omega); rw [hS]; done) | (obtain rfl : k = n.toNat := (by omega); rw [hL]; done) | skip
   ·have f4 : (j + 1 = L.length) = False := eq_false g1
    have f5 : (j + (1 + (L.length - j)) ≤ L.length) = False := eq_false (by omega)
    refine dEa (And.intro fL1 (And.intro @hj (And.intro @e3 (And.intro @f0 (And.intro @f1 (And.intro @f2 (And.intro @f3 (And.intro @f4 @f5)))))))) ?_
    all_goals try (refine zlf ?_; repeat' first | exact zso | refine And.intro ?_ ?_ | (refine zim ?_; intro zb hc) | (refine zin ?_; intro zb) | intro j')
    all_goals try refine zbx ?_
    ·focus
      refine q_lp_n ((fun (k : Nat) => n.toNat - k) (k+1)) (dC fL1 ?_) ⟨k+1, dC fL1 ?_⟩
      all_goals try (refine zlf ?_; repeat' first | exact zso | refine And.intro ?_ ?_ | (refine zim ?_; intro zb hc) | (refine zin ?_; intro zb) | intro j')
      all_goals try refine zbx ?_
     all_goals rw [hd]
     all_goals first | (simp; done) | (simp; omega) | (rw [take_midI (by omega)]; done) | skip
    all_goals first | (obtain rfl : k = n.toNat := (by omega); rw [hS]; done) | (obtain rfl : k = n.toNat := (by omega); rw [hL]; done) | skip
theorem spec_l2Any_x (b : List UInt8) (s : Cu) (hb : b.length ≤ 1048576) : ∃ s' p, CallT Tryz.prog false 124 [.mu true (curC b s)] [some (curC b s')] [.sl .own (List.map (PV.int .i64) p)] ∧ isPermB p = true := by
 obtain ⟨s1, n, c1, hn⟩ := spec_l1PickInt_x (m0 := true) b s [0, 1, 2, 3, 4, 5, 5, 6, 6, 7, 8] hb (by decide) (by decide)
 have h8 : 0 ≤ n ∧ n ≤ 8 := by simp at hn; omega
 simp only [List.map_cons, List.map_nil] at c1
 refine ⟨(drL b s1 n.toNat).2, (drL b s1 n.toNat).1, ?_, ?_⟩
 ·refine fX sgCu [2] Tryz.func124 ?_
  have cM1 := @spec_l2Draw_c
  have cM2 := @c1
  refine dEa trivial ?_
  all_goals try (refine zlf ?_; repeat' first | exact zso | refine And.intro ?_ ?_ | (refine zim ?_; intro zb hc) | (refine zin ?_; intro zb) | intro j')
  all_goals try refine zbx ?_
 ·simp only [isPermB, drL_perm, drL_len, Bool.and_true, decide_eq_true_eq]; omega
/-- A list of few small numbers. -/
structure SmL (p : List Int) : Prop where
 len : p.length ≤ 9
 rg : ∀ x ∈ p, -1 ≤ x ∧ x ≤ 10
theorem SmL.of {p : List Int} (h : isPermB p = true) : SmL p := by
 obtain ⟨h8, hp⟩ : p.length ≤ 8 ∧ permB p = true := by simpa [isPermB] using h
 exact ⟨by omega, fun x hx => by have := (permB_iff.1 hp).1 x hx; omega⟩
theorem spec_l2Bent_x (b : List UInt8) (s : Cu) (hb : b.length ≤ 1048576) : ∃ s' p, CallT Tryz.prog false 87 [.mu true (curC b s)] [some (curC b s')] [.sl .own (List.map (PV.int .i64) p)] ∧ SmL p := by
 obtain ⟨s1, p, c1, hp⟩ := spec_l2Any_x b s hb
 have h8 : p.length ≤ 8 := by simp [isPermB] at hp; exact hp.1
 have hs := SmL.of hp
 obtain ⟨x, hx⟩ : ∃ x, bwX b s1 14 = x := ⟨_, rfl⟩
 by_cases h0 : x = 0
 ·have q := bwX_r (b := b) (s := bwS b s1 14) (n := 12)
  refine ⟨bwS b (bwS b s1 14) 12, p ++ [bwX b (bwS b s1 14) 12 - 1], ?_, ?_, fun y hy => ?_⟩
  ·subst h0
   refine fX sgCu [2] Tryz.func87 ?_
   have cM1 := @spec_l1Below_c
   have cM2 := @c1
   refine dEa @hx ?_
   all_goals try (refine zlf ?_; repeat' first | exact zso | refine And.intro ?_ ?_ | (refine zim ?_; intro zb hc) | (refine zin ?_; intro zb) | intro j')
   all_goals try refine zbx ?_
   all_goals exact List.take_of_length_le (by simp)
  ·simp; omega
  ·rcases List.mem_append.1 hy with g | g
   ·exact hs.rg y g
   ·simp at g; omega
 ·by_cases h1 : x = 1
  ·by_cases hl : 0 < p.length
   ·have q := bwX_r (b := b) (s := bwS b s1 14) (n := 11)
    refine ⟨bwS b (bwS b s1 14) 11, p.set 0 (bwX b (bwS b s1 14) 11 - 1), ?_, ?_, fun y hy => ?_⟩
    ·subst h1
     refine fX sgCu [2] Tryz.func87 ?_
     have cM1 := @spec_l1Below_c
     have cM2 := @c1
     refine dEa @hx ?_
     all_goals try (refine zlf ?_; repeat' first | exact zso | refine And.intro ?_ ?_ | (refine zim ?_; intro zb hc) | (refine zin ?_; intro zb) | intro j')
     all_goals try refine zbx ?_
     all_goals exact List.take_of_length_le (by simp)
    ·simp; omega
    ·rcases List.mem_or_eq_of_mem_set hy with g | g
     ·exact hs.rg y g
     ·omega
   ·refine ⟨bwS b s1 14, p, ?_, hs⟩
    subst h1
    refine fX sgCu [2] Tryz.func87 ?_
    have cM1 := @spec_l1Below_c
    have cM2 := @c1
    refine dEa @hx ?_
    all_goals try (refine zlf ?_; repeat' first | exact zso | refine And.intro ?_ ?_ | (refine zim ?_; intro zb hc) | (refine zin ?_; intro zb) | intro j')
    all_goals try refine zbx ?_
    all_goals exact List.take_of_length_le (by simp)
  ·have f0 : (x = 0) = False := eq_false h0
   have f1 : (x = 1) = False := eq_false h1
   refine ⟨bwS b s1 14, p, ?_, hs⟩
   refine fX sgCu [2] Tryz.func87 ?_
   have cM1 := @spec_l1Below_c
   have cM2 := @c1
   refine dEa (And.intro @hx (And.intro @f0 @f1)) ?_
   all_goals try (refine zlf ?_; repeat' first | exact zso | refine And.intro ?_ ?_ | (refine zim ?_; intro zb hc) | (refine zin ?_; intro zb) | intro j')
   all_goals try refine zbx ?_
   all_goals exact List.take_of_length_le (by simp)
end Go.Gl
set_option linter.unusedSimpArgs false
set_option linter.unusedVariables false
set_option maxRecDepth 20000
set_option linter.unusedSectionVars false
namespace Go.Gl
open Go Go.Proofs
variable [Amb]
/-- Where p belongs among the first k of a sorted list. -/
def atP (L : List (List Int)) (p : List Int) : Nat → Nat
 | 0 => 0
 | k + 1 => if befB p (L.getD k []) = true then atP L p k else k + 1
theorem atP_spec {L : List (List Int)} {p : List Int} : ∀ {k : Nat}, atP L p k ≤ k ∧ (∀ i, atP L p k ≤ i → i < k → befB p (L.getD i []) = true) ∧ (atP L p k = 0 ∨ befB p (L.getD (atP L p k - 1) []) = false)
 | 0 => ⟨Nat.le_refl _, fun i _ h => absurd h (by omega), .inl rfl⟩
 | k + 1 => by
  rw [atP]
  by_cases e : befB p (L.getD k []) = true
  ·rw [if_pos e]
   obtain ⟨h1, h2, h3⟩ := atP_spec (L := L) (p := p) (k := k)
   refine ⟨by omega, fun i hi hk => ?_, h3⟩
   by_cases q : i = k
   ·subst q; exact e
   ·exact h2 i hi (by omega)
  ·rw [if_neg e]
   refine ⟨Nat.le_refl _, fun i hi hk => by omega, .inr ?_⟩
   simpa using e
/-- p into the list, at place j. -/
def insK (L : List (List Int)) (p : List Int) (j : Nat) : List (List Int) := L.take j ++ p :: L.drop j
def insS (L : List (List Int)) (p : List Int) : List (List Int) := insK L p (atP L p L.length)
def putP (L : List (List Int)) (p : List Int) : List (List Int) := if 0 < atP L p L.length ∧ L.getD (atP L p L.length - 1) [] = p then L else insS L p
theorem insK_len {L : List (List Int)} {p : List Int} {j : Nat} : (insK L p j).length = L.length + 1 := by
 unfold insK; simp; omega
theorem insK_mem {L : List (List Int)} {p x : List Int} {j : Nat} : x ∈ insK L p j ↔ x = p ∨ x ∈ L := by
 unfold insK
 rw [List.mem_append, List.mem_cons]
 have : x ∈ L ↔ x ∈ L.take j ∨ x ∈ L.drop j := by rw [← List.mem_append, List.take_append_drop]
 rw [this]; constructor
 ·rintro (h | h | h) <;> simp [h]
 ·rintro (h | h | h) <;> simp [h]
theorem putP_mem {L : List (List Int)} {p x : List Int} : x ∈ putP L p ↔ x = p ∨ x ∈ L := by
 unfold putP
 split
 ·rename_i h
  constructor
  ·exact .inr
  ·rintro (rfl | h2)
   ·rw [← h.2]; exact getD_mem (by have := (atP_spec (L := L) (p := x) (k := L.length)).1; omega)
   ·exact h2
 ·exact insK_mem
theorem insS_len {L : List (List Int)} {p : List Int} : (insS L p).length = L.length + 1 := insK_len
theorem atP_uniq {L : List (List Int)} {p : List Int} : ∀ {k j : Nat}, j ≤ k → (∀ q, j ≤ q → q < k → befB p (L.getD q []) = true) → (0 < j → befB p (L.getD (j - 1) []) = false) → atP L p k = j
 | 0, j, h, _, _ => by rw [atP]; omega
 | k + 1, j, h, h1, h2 => by
  rw [atP]
  by_cases e : j = k + 1
  ·subst e
   have := h2 (by omega)
   rw [Nat.add_sub_cancel] at this
   rw [this]; rfl
  ·rw [if_pos (h1 k (by omega) (by omega))]
   exact atP_uniq (by omega) (fun q a b => h1 q a (by omega)) h2
end Go.Gl
set_option linter.unusedSimpArgs false
set_option linter.unusedVariables false
set_option maxRecDepth 20000
set_option linter.unusedSectionVars false
namespace Go.Gl
open Go Go.Proofs
variable [Amb]
theorem tk_mid {L D : List (List Int)} {p : List Int} {j : Nat} (h : j ≤ L.length) : List.take (j + 1) (L.take j ++ p :: D) = L.take j ++ [p] := by
 rw [List.take_append, List.take_of_length_le (by simp; omega), List.length_take, Nat.min_eq_left h, Nat.add_sub_cancel_left]; rfl
theorem put_at {L : List (List Int)} {p : List Int} {j : Nat} (h1 : j ≤ L.length) (h2 : ∀ q, j ≤ q → q < L.length → befB p (L.getD q []) = true) (h3 : 0 < j → befB p (L.getD (j - 1) []) = false) (h4 : 0 < j → ¬ L.getD (j - 1) [] = p) : putP L p = L.take j ++ p :: L.drop j := by
 have e := atP_uniq h1 h2 h3
 rw [putP, insS, e, if_neg fun h => h4 h.1 h.2]; rfl
theorem put_in {L : List (List Int)} {p : List Int} {j : Nat} (h1 : j ≤ L.length) (h2 : ∀ q, j ≤ q → q < L.length → befB p (L.getD q []) = true) (h3 : 0 < j → befB p (L.getD (j - 1) []) = false) (h4 : 0 < j) (h5 : L.getD (j - 1) [] = p) : putP L p = L := by
 have e := atP_uniq h1 h2 h3
 rw [putP, e, if_pos ⟨h4, h5⟩]
theorem bef_dn {L : List (List Int)} {p : List Int} {j : Nat} (h2 : ∀ q, j ≤ q → q < L.length → befB p (L.getD q []) = true) (h3 : befB p (L.getD (j - 1) []) = true) : ∀ q, j - 1 ≤ q → q < L.length → befB p (L.getD q []) = true := fun q a b => by
 by_cases e : q = j - 1
 ·rw [e]; exact h3
 ·exact h2 q (by omega) b
theorem spec_l3Put_c {m1 : Bool} (L : List (List Int)) (p : List Int) (hL : L.length ≤ 1000) (hl : ∀ l ∈ L, l.length ≤ 1048576) (hp : p.length ≤ 1048576) : CallT Tryz.prog true 149 [.mu false (List.map (elI false) (L)), .pv (.sl (.lent m1) (List.map (PV.int .i64) (p)))] [none, none] [(.sl .own (List.map (elI false) (putP L p)))] := by
 refine fX sg0 [4] Tryz.func149 ?_
 have cE1 := @spec_l2Before_c; have cE2 := @spec_l2Same_c; have cD1 := zdh [false, false, false, true, false, true, true, true, false, true, false] [(0, 3), (1, 3), (2, 3), (3, 4), (0, 5), (1, 5), (2, 5), (0, 6), (1, 6), (2, 6), (3, 8), (5, 8), (6, 8), (7, 8)]
 refine dTa trivial ?_
 all_goals try (refine zlf ?_; repeat' first | exact zso | refine And.intro ?_ ?_ | (refine zim ?_; intro zb hc; repeat (have zc := zb.1; replace zb := zb.2)) | (refine zin ?_; intro zb) | intro j')
 all_goals try refine zbx ?_
 refine v_loopB (fun ms1 S1 => ∃ (j : Nat), S1.e 0 = .ref 0 0 (L).length ∧ S1.h 0 = .live true (List.map (elI false) (L)) ∧ 0 < S1.n ∧ S1.e 1 = .p (.sl (.lent m1) (List.map (PV.int .i64) (p))) ∧ S1.e 5 = .p (.int .i64 (j)) ∧ (j ≤ L.length) ∧ (∀ q, j ≤ q → q < L.length → befB p (L.getD q []) = true) ∧ ms1 = j) ((fun (j : Nat) => j) (L.length)) ?_ ⟨L.length, dC trivial ?_⟩
 all_goals try (refine zlf ?_; repeat' first | exact zso | refine And.intro ?_ ?_ | (refine zim ?_; intro zb hc; repeat (have zc := zb.1; replace zb := zb.2)) | (refine zin ?_; intro zb) | intro j')
 all_goals try refine zbx ?_
 rintro ms1 S1 ⟨j, h1_0, b1_0, l1_0, h1_1, h1_5, c1_0, c1_1, hm1⟩
 have n0 := znds (x := 0) (n := S1.n)
 have fL1 := (And.intro h1_0 (And.intro b1_0 (And.intro h1_1 (And.intro h1_5 n0))))
 ·have e1 : ((j : Int) - 1).toNat = j - 1 := by omega
  have e3 : List.take (L.length - j) (List.drop j L) = L.drop j := List.take_of_length_le (by simp)
  by_cases hj : 0 < j
  ·have e2 := hl (L.getD (j - 1) []) (getD_mem (by omega))
   have gg : ((0 : Int) < (j : Int)) = True := eq_true (by omega)
   by_cases h0 : j = L.length
   ·have h0' := h0
    subst h0'
    have e4 : List.drop L.length L = [] := List.drop_length
    have e5 : List.take L.length L = L := List.take_length
    have f1 : (L.length + 1 = (L ++ [p]).length) = True := eq_true (by simp)
    refine dTa (And.intro fL1 (And.intro @e1 (And.intro @e3 (And.intro @e4 (And.intro @e5 (And.intro @f1 @gg)))))) ?_
    all_goals try (refine zlf ?_; repeat' first | exact zso | refine And.intro ?_ ?_ | (refine zim ?_; intro zb hc; repeat (have zc := zb.1; replace zb := zb.2)) | (refine zin ?_; intro zb) | intro j')
    all_goals try refine zbx ?_
    ·focus
      refine q_lp_n ((fun (j : Nat) => j) (L.length - 1)) (dC fL1 ?_) ⟨L.length - 1, dC fL1 ?_⟩
      all_goals try (refine zlf ?_; repeat' first | exact zso | refine And.intro ?_ ?_ | (refine zim ?_; intro zb hc; repeat (have zc := zb.1; replace zb := zb.2)) | (refine zin ?_; intro zb) | intro j')
      all_goals try refine zbx ?_
     exact bef_dn c1_1 hc
    ·exact (put_in (Nat.le_refl _) c1_1 (fun _ => by assumption) hj hc).symm
    ·rw [put_at (Nat.le_refl _) c1_1 (fun _ => by assumption) (fun _ => by assumption), List.take_of_length_le (by simp)]; simp
   ·have f0 : (j = L.length) = False := eq_false h0
    have f1 : (j + 1 ≤ L.length) = True := eq_true (by omega)
    have f2 : (List.take j L ++ p :: List.drop (j + 1) L).length = L.length := by simp; omega
    have f3 : (List.drop j L).length = L.length - j := by simp
    by_cases h1 : j + 1 = L.length
    ·have f4 : (j + 1 = L.length) = True := eq_true h1
     refine dTa (And.intro fL1 (And.intro @e1 (And.intro @e3 (And.intro @f0 (And.intro @f1 (And.intro @f2 (And.intro @f3 (And.intro @f4 @gg)))))))) ?_
     all_goals try (refine zlf ?_; repeat' first | exact zso | refine And.intro ?_ ?_ | (refine zim ?_; intro zb hc; repeat (have zc := zb.1; replace zb := zb.2)) | (refine zin ?_; intro zb) | intro j')
     all_goals try refine zbx ?_
     ·focus
       refine q_lp_n ((fun (j : Nat) => j) (j - 1)) (dC fL1 ?_) ⟨j - 1, dC fL1 ?_⟩
       all_goals try (refine zlf ?_; repeat' first | exact zso | refine And.intro ?_ ?_ | (refine zim ?_; intro zb hc; repeat (have zc := zb.1; replace zb := zb.2)) | (refine zin ?_; intro zb) | intro j')
       all_goals try refine zbx ?_
      exact bef_dn c1_1 hc
     ·exact (put_in c1_0 c1_1 (fun _ => by assumption) hj hc).symm
     ·rw [put_at c1_0 c1_1 (fun _ => by assumption) (fun _ => by assumption), List.drop_of_length_le (i := j + 1) (by omega), List.nil_append, List.take_of_length_le (by simp; omega)]
    ·have f4 : (j + 1 = L.length) = False := eq_false h1
     have f5 : (j + (1 + (L.length - j)) ≤ L.length) = False := eq_false (by omega)
     refine dTa (And.intro fL1 (And.intro @e1 (And.intro @e3 (And.intro @f0 (And.intro @f1 (And.intro @f2 (And.intro @f3 (And.intro @f4 (And.intro @f5 @gg))))))))) ?_
     all_goals try (refine zlf ?_; repeat' first | exact zso | refine And.intro ?_ ?_ | (refine zim ?_; intro zb hc; repeat (have zc := zb.1; replace zb := zb.2)) | (refine zin ?_; intro zb) | intro j')
     all_goals try refine zbx ?_
     ·focus
       refine q_lp_n ((fun (j : Nat) => j) (j - 1)) (dC fL1 ?_) ⟨j - 1, dC fL1 ?_⟩
       all_goals try (refine zlf ?_; repeat' first | exact zso | refine And.intro ?_ ?_ | (refine zim ?_; intro zb hc; repeat (have zc := zb.1; replace zb := zb.2)) | (refine zin ?_; intro zb) | intro j')
       all_goals try refine zbx ?_
      exact bef_dn c1_1 hc
     ·exact (put_in c1_0 c1_1 (fun _ => by assumption) hj hc).symm
     ·rw [put_at c1_0 c1_1 (fun _ => by assumption) (fun _ => by assumption), tk_mid (by omega), List.take_of_length_le (by simp; omega), List.append_assoc]; rfl
  ·have gg : ((0 : Int) < (j : Int)) = False := eq_false (by omega)
   by_cases h0 : j = L.length
   ·have h0' := h0
    subst h0'
    have e4 : List.drop L.length L = [] := List.drop_length
    have e5 : List.take L.length L = L := List.take_length
    have f1 : (L.length + 1 = (L ++ [p]).length) = True := eq_true (by simp)
    refine dTa (And.intro fL1 (And.intro @e1 (And.intro @e3 (And.intro @e4 (And.intro @e5 (And.intro @f1 @gg)))))) ?_
    all_goals try (refine zlf ?_; repeat' first | exact zso | refine And.intro ?_ ?_ | (refine zim ?_; intro zb hc; repeat (have zc := zb.1; replace zb := zb.2)) | (refine zin ?_; intro zb) | intro j')
    all_goals try refine zbx ?_
    rw [put_at (Nat.le_refl _) c1_1 (fun h => absurd h hj) (fun h => absurd h hj), List.take_of_length_le (by simp)]; simp
   ·have f0 : (j = L.length) = False := eq_false h0
    have f1 : (j + 1 ≤ L.length) = True := eq_true (by omega)
    have f2 : (List.take j L ++ p :: List.drop (j + 1) L).length = L.length := by simp; omega
    have f3 : (List.drop j L).length = L.length - j := by simp
    by_cases h1 : j + 1 = L.length
    ·have f4 : (j + 1 = L.length) = True := eq_true h1
     refine dTa (And.intro fL1 (And.intro @e1 (And.intro @e3 (And.intro @f0 (And.intro @f1 (And.intro @f2 (And.intro @f3 (And.intro @f4 @gg)))))))) ?_
     all_goals try (refine zlf ?_; repeat' first | exact zso | refine And.intro ?_ ?_ | (refine zim ?_; intro zb hc; repeat (have zc := zb.1; replace zb := zb.2)) | (refine zin ?_; intro zb) | intro j')
     all_goals try refine zbx ?_
     rw [put_at c1_0 c1_1 (fun h => absurd h hj) (fun h => absurd h hj), List.drop_of_length_le (i := j + 1) (by omega), List.nil_append, List.take_of_length_le (by simp; omega)]
    ·have f4 : (j + 1 = L.length) = False := eq_false h1
     have f5 : (j + (1 + (L.length - j)) ≤ L.length) = False := eq_false (by omega)
     refine dTa (And.intro fL1 (And.intro @e1 (And.intro @e3 (And.intro @f0 (And.intro @f1 (And.intro @f2 (And.intro @f3 (And.intro @f4 (And.intro @f5 @gg))))))))) ?_
     all_goals try (refine zlf ?_; repeat' first | exact zso | refine And.intro ?_ ?_ | (refine zim ?_; intro zb hc; repeat (have zc := zb.1; replace zb := zb.2)) | (refine zin ?_; intro zb) | intro j')
     all_goals try refine zbx ?_
     rw [put_at c1_0 c1_1 (fun h => absurd h hj) (fun h => absurd h hj), tk_mid (by omega), List.take_of_length_le (by simp; omega), List.append_assoc]; rfl
 all_goals trace_state
end Go.Gl
set_option linter.unusedSimpArgs false
set_option linter.unusedVariables false
set_option maxRecDepth 20000
set_option linter.unusedSectionVars false
namespace Go.Gl
open Go Go.Proofs
variable [Amb]
theorem spec_l3All_c {e0 m0 : Bool} (L : List (List Int)) (hL : L.length ≤ 1048576) (hl : ∀ l ∈ L, l.length ≤ 1048576) : Fun Tryz.prog 139 [(.sl (.lent m0) (List.map (elI e0) (L)))] [(.bool (L.all isPermB))] := by
 refine fO sg0 [2] Tryz.func139 ?_
 have cE1 := @spec_IsPerm_c
 refine dEa trivial ?_
 all_goals try (refine zlf ?_; repeat' first | exact zso | refine And.intro ?_ ?_ | (refine zim ?_; intro zb hc) | (refine zin ?_; intro zb) | intro j')
 all_goals try refine zbx ?_
 refine v_loopB (fun ms1 S1 => ∃ (k : Nat), S1.e 0 = .p (.sl (.lent m0) (List.map (elI e0) (L))) ∧ S1.e 3 = .p (.int .i64 (k)) ∧ (k ≤ L.length) ∧ (∀ q ∈ L.take k, isPermB q = true) ∧ ms1 = L.length - k) ((fun (k : Nat) => L.length - k) (0)) ?_ ⟨0, dC trivial ?_⟩
 all_goals try (refine zlf ?_; repeat' first | exact zso | refine And.intro ?_ ?_ | (refine zim ?_; intro zb hc) | (refine zin ?_; intro zb) | intro j')
 all_goals try refine zbx ?_
 rintro ms1 S1 ⟨k, h1_0, h1_3, c1_0, c1_1, hm1⟩
 have fL1 := (And.intro h1_0 h1_3)
 by_cases hk : k < L.length
 ·have g1 := hl _ (getD_mem (d := []) hk)
  refine dEa fL1 ?_
  all_goals try (refine zlf ?_; repeat' first | exact zso | refine And.intro ?_ ?_ | (refine zim ?_; intro zb hc) | (refine zin ?_; intro zb) | intro j')
  all_goals try refine zbx ?_
  ·exact (List.all_eq_false.2 ⟨_, getD_mem hk, by rw [hc]; decide⟩).symm
  ·focus
    refine q_lp_n ((fun (k : Nat) => L.length - k) (k+1)) (dC fL1 ?_) ⟨k+1, dC fL1 ?_⟩
    all_goals try (refine zlf ?_; repeat' first | exact zso | refine And.intro ?_ ?_ | (refine zim ?_; intro zb hc) | (refine zin ?_; intro zb) | intro j')
    all_goals try refine zbx ?_
   intro q hq
   rw [take_getD (d := []) (by omega)] at hq
   rcases List.mem_append.1 hq with hq | hq
   ·exact c1_1 q hq
   ·simp at hq; subst hq; simpa using hc
 ·refine dEa fL1 ?_
  all_goals try (refine zlf ?_; repeat' first | exact zso | refine And.intro ?_ ?_ | (refine zim ?_; intro zb hc) | (refine zin ?_; intro zb) | intro j')
  all_goals try refine zbx ?_
  rw [List.take_of_length_le (by omega)] at c1_1
  exact (List.all_eq_true.2 c1_1).symm
def ordP (L : List (List Int)) : Nat → List (List Int)
 | 0 => []
 | k + 1 => putP (ordP L k) (L.getD k [])
theorem putP_len {L : List (List Int)} {p : List Int} : (putP L p).length ≤ L.length + 1 := by
 unfold putP; split
 ·omega
 ·exact Nat.le_of_eq insS_len
theorem ordP_len {L : List (List Int)} : ∀ {k : Nat}, (ordP L k).length ≤ k
 | 0 => Nat.le_refl _
 | k + 1 => by have := putP_len (L := ordP L k) (p := L.getD k []); have := ordP_len (L := L) (k := k); rw [ordP]; omega
theorem ordP_mem {L : List (List Int)} {x : List Int} : ∀ {k : Nat}, k ≤ L.length → x ∈ ordP L k → x ∈ L
 | 0, _, h => by simp [ordP] at h
 | k + 1, hk, h => by
  rw [ordP, putP_mem] at h
  rcases h with rfl | h
  ·exact getD_mem (by omega)
  ·exact ordP_mem (by omega) h
def sgOP : FuncId → List Bool := fun f => if f = 149 then [true] else []
theorem sgOP_eq {f : FuncId} : sgOP f = if f = 149 then [true] else [] := _root_.id rfl
theorem way_sgOP : wayE sgOP = false ∧ wayN sgOP = false ∧ wayS sgOP = false ∧ wayZ sgOP = false := ⟨rfl, rfl, rfl, rfl⟩
attribute [go_sem] sgOP_eq way_sgOP
theorem spec_OrderPerms_c {e0 m0 : Bool} (L : List (List Int)) (hL : L.length ≤ 1000) (hl : ∀ l ∈ L, l.length ≤ 1048576) (ha : L.all isPermB = true) : Fun Tryz.prog 140 [(.sl (.lent m0) (List.map (elI e0) (L)))] [(.sl .own (List.map (elI false) (ordP L L.length)))] := by
 refine fO sgOP [2] Tryz.func140 ?_
 have cE1 := @spec_l3All_c; have cM1 := @spec_l3Put_c
 refine dEa trivial ?_
 all_goals try (refine zlf ?_; repeat' first | exact zso | refine And.intro ?_ ?_ | (refine zim ?_; intro zb hc) | (refine zin ?_; intro zb) | intro j')
 all_goals try refine zbx ?_
 refine v_loopB (fun ms1 S1 => ∃ (k : Nat), S1.e 0 = .p (.sl (.lent m0) (List.map (elI e0) (L))) ∧ OwnL (S1.e 3) S1.h S1.n (elI false) ((ordP L k).length) (ordP L k) ∧ S1.e 4 = .p (.int .i64 (k)) ∧ (k ≤ L.length) ∧ ms1 = L.length - k) ((fun (k : Nat) => L.length - k) (0)) ?_ ⟨0, dC trivial ?_⟩
 all_goals try (refine zlf ?_; repeat' first | exact zso | refine And.intro ?_ ?_ | (refine zim ?_; intro zb hc) | (refine zin ?_; intro zb) | intro j')
 all_goals try refine zbx ?_
 rintro ms1 S1 ⟨k, h1_0, o1_3, h1_4, c1_0, hm1⟩
 obtain ⟨i1_3, h1_3, b1_3, l1_3⟩ := o1_3.out
 have ni1_3 := znds (x := i1_3) (n := S1.n)
 have fL1 := (And.intro h1_0 (And.intro h1_4 (And.intro h1_3 (And.intro b1_3 ni1_3))))
 have b1 := ordP_len (L := L) (k := k)
 have b2 : ∀ l ∈ ordP L k, l.length ≤ 1048576 := fun l h => hl l (ordP_mem (by omega) h)
 by_cases hk : k < L.length
 ·have g1 := hl _ (getD_mem (d := []) hk)
  refine dEa (And.intro fL1 @ha) ?_
  all_goals try (refine zlf ?_; repeat' first | exact zso | refine And.intro ?_ ?_ | (refine zim ?_; intro zb hc) | (refine zin ?_; intro zb) | intro j')
  all_goals try refine zbx ?_
  focus
   refine q_lp_n ((fun (k : Nat) => L.length - k) (k+1)) (dC fL1 ?_) ⟨k+1, dC fL1 ?_⟩
   all_goals try (refine zlf ?_; repeat' first | exact zso | refine And.intro ?_ ?_ | (refine zim ?_; intro zb hc) | (refine zin ?_; intro zb) | intro j')
   all_goals try refine zbx ?_
  all_goals rfl
 ·obtain rfl : k = L.length := by omega
  refine dEa fL1 ?_
  all_goals try (refine zlf ?_; repeat' first | exact zso | refine And.intro ?_ ?_ | (refine zim ?_; intro zb hc) | (refine zin ?_; intro zb) | intro j')
  all_goals try refine zbx ?_
def mkA (A : List (List Int)) : Nat → List (List Int)
 | 0 => []
 | k + 1 => if avB (mkA A k) (A.getD k []) = true then mkA A k ++ [A.getD k []] else mkA A k
theorem mkA_len {A : List (List Int)} : ∀ {k : Nat}, (mkA A k).length ≤ k
 | 0 => Nat.le_refl _
 | k + 1 => by
  have := mkA_len (A := A) (k := k)
  rw [mkA]; split
  ·rw [List.length_append]; simp; omega
  ·omega
theorem mkA_mem {A : List (List Int)} {x : List Int} : ∀ {k : Nat}, k ≤ A.length → x ∈ mkA A k → x ∈ A
 | 0, _, h => by simp [mkA] at h
 | k + 1, hk, h => by
  rw [mkA] at h
  split at h
  ·rcases List.mem_append.1 h with h | h
   ·exact mkA_mem (by omega) h
   ·rw [List.mem_singleton] at h; subst h; exact getD_mem (by omega)
  ·exact mkA_mem (by omega) h
def mkO (L : List (List Int)) : List (List Int) := mkA (ordP L L.length) (ordP L L.length).length
def mkOk (L : List (List Int)) : Bool := L.all isPermB && basisB (mkO L)
def mkBs (L : List (List Int)) : List (List Int) := if mkOk L = true then mkO L else []
theorem spec_MakeBasis_c {e0 m0 : Bool} (L : List (List Int)) (hL : L.length ≤ 1000) (hl : ∀ l ∈ L, l.length ≤ 8) : Fun Tryz.prog 123 [(.sl (.lent m0) (List.map (elI e0) (L)))] [(.sl .own (List.map (elI false) (mkBs L))), (.bool (mkOk L))] := by
 have hl' : ∀ l ∈ L, l.length ≤ 1048576 := fun l h => Nat.le_trans (hl l h) (by decide)
 by_cases h1 : L.all isPermB = true
 ·refine fO sg0 [2, 3] Tryz.func123 ?_
  have cE1 := @spec_l3All_c; have cE2 := @spec_OrderPerms_c; have cE3 := @spec_l12Avoids_c; have cE4 := @spec_IsBasis_c
  have b1 := ordP_len (L := L) (k := L.length)
  have b2 : ∀ l ∈ ordP L L.length, l.length ≤ 8 := fun l h => hl l (ordP_mem (by omega) h)
  obtain ⟨O, hO⟩ : ∃ O, ordP L L.length = O := ⟨_, rfl⟩
  rw [hO] at b1 b2
  refine dEa (And.intro @h1 @hO) ?_
  all_goals try (refine zlf ?_; repeat' first | exact zso | refine And.intro ?_ ?_ | (refine zim ?_; intro zb hc) | (refine zin ?_; intro zb) | intro j')
  all_goals try refine zbx ?_
  refine v_loopB (fun ms1 S1 => ∃ (k : Nat), S1.e 0 = .p (.sl (.lent m0) (List.map (elI e0) (L))) ∧ OwnL (S1.e 4) S1.h S1.n (elI false) ((O).length) (O) ∧ OwnL (S1.e 5) S1.h S1.n (elI false) ((mkA O k).length) (mkA O k) ∧ S1.e 6 = .p (.int .i64 (k)) ∧ (k ≤ O.length) ∧ NId (S1.e 5) (S1.e 4) ∧ ms1 = O.length - k) ((fun (k : Nat) => O.length - k) (0)) ?_ ⟨0, dC trivial ?_⟩
  all_goals try (refine zlf ?_; repeat' first | exact zso | refine And.intro ?_ ?_ | (refine zim ?_; intro zb hc) | (refine zin ?_; intro zb) | intro j')
  all_goals try refine zbx ?_
  rintro ms1 S1 ⟨k, h1_0, o1_4, o1_5, h1_6, c1_0, u1_0, hm1⟩
  obtain ⟨i1_4, h1_4, b1_4, l1_4⟩ := o1_4.out
  obtain ⟨i1_5, h1_5, b1_5, l1_5⟩ := o1_5.out
  have k1_0 := (u1_0).out h1_5 h1_4
  have ni1_4 := znds (x := i1_4) (n := S1.n)
  have ni1_5 := znds (x := i1_5) (n := S1.n)
  have di1_4i1_5 := zdne (x := i1_4) (y := i1_5)
  have fL1 := (And.intro h1_0 (And.intro h1_6 (And.intro h1_4 (And.intro b1_4 (And.intro h1_5 (And.intro b1_5 (And.intro ni1_4 (And.intro ni1_5 di1_4i1_5))))))))
  have b3 := mkA_len (A := O) (k := k)
  have b4 : ∀ l ∈ mkA O k, l.length ≤ 8 := fun l h => b2 l (mkA_mem (by omega) h)
  have b5 : ∀ l ∈ mkA O k, l.length ≤ 1048576 := fun l h => Nat.le_trans (b4 l h) (by decide)
  by_cases hk : k < O.length
  ·have g1 := b2 _ (getD_mem (d := []) hk)
   refine dEa fL1 ?_
   all_goals try (refine zlf ?_; repeat' first | exact zso | refine And.intro ?_ ?_ | (refine zim ?_; intro zb hc) | (refine zin ?_; intro zb) | intro j')
   all_goals try refine zbx ?_
   ·focus
     refine q_lp_n ((fun (k : Nat) => O.length - k) (k+1)) (dC fL1 ?_) ⟨k+1, dC fL1 ?_⟩
     all_goals try (refine zlf ?_; repeat' first | exact zso | refine And.intro ?_ ?_ | (refine zim ?_; intro zb hc) | (refine zin ?_; intro zb) | intro j')
     all_goals try refine zbx ?_
    all_goals (rw [mkA, if_pos hc])
    all_goals simp
   ·focus
     refine q_lp_n ((fun (k : Nat) => O.length - k) (k+1)) (dC fL1 ?_) ⟨k+1, dC fL1 ?_⟩
     all_goals try (refine zlf ?_; repeat' first | exact zso | refine And.intro ?_ ?_ | (refine zim ?_; intro zb hc) | (refine zin ?_; intro zb) | intro j')
     all_goals try refine zbx ?_
    all_goals (rw [mkA, if_neg (by rw [hc]; decide)])
  ·obtain rfl : k = O.length := by omega
   have e1 : mkO L = mkA O O.length := by rw [mkO, hO]
   by_cases h2 : basisB (mkA O O.length) = true
   ·have e3 : mkOk L = true := by rw [mkOk, h1, e1, h2]; rfl
    have e2 : mkBs L = mkA O O.length := by rw [mkBs, if_pos e3, e1]
    rw [e2, e3]
    refine dEa (And.intro fL1 @h2) ?_
    all_goals try (refine zlf ?_; repeat' first | exact zso | refine And.intro ?_ ?_ | (refine zim ?_; intro zb hc) | (refine zin ?_; intro zb) | intro j')
    all_goals try refine zbx ?_
   ·have h3 : basisB (mkA O O.length) = false := by simpa using h2
    have e3 : mkOk L = false := by rw [mkOk, h1, e1, h3]; rfl
    have e2 : mkBs L = [] := by rw [mkBs, if_neg (by rw [e3]; decide)]
    rw [e2, e3]
    refine dEa (And.intro fL1 @h3) ?_
    all_goals try (refine zlf ?_; repeat' first | exact zso | refine And.intro ?_ ?_ | (refine zim ?_; intro zb hc) | (refine zin ?_; intro zb) | intro j')
    all_goals try refine zbx ?_
 ·have h2 : L.all isPermB = false := by simpa using h1
  have e3 : mkOk L = false := by rw [mkOk, h2]; rfl
  have e2 : mkBs L = [] := by rw [mkBs, if_neg (by rw [e3]; decide)]
  rw [e2, e3]
  refine fO sg0 [2, 3] Tryz.func123 ?_
  have cE1 := @spec_l3All_c; have cE2 := @spec_OrderPerms_c; have cE3 := @spec_l12Avoids_c; have cE4 := @spec_IsBasis_c
  refine dEa @h2 ?_
  all_goals try (refine zlf ?_; repeat' first | exact zso | refine And.intro ?_ ?_ | (refine zim ?_; intro zb hc) | (refine zin ?_; intro zb) | intro j')
  all_goals try refine zbx ?_
theorem mkBs_basis {L : List (List Int)} : basisB (mkBs L) = true := by
 unfold mkBs; split
 ·rename_i h; rw [mkOk, Bool.and_eq_true] at h; exact h.2
 ·rfl
theorem mkBs_len {L : List (List Int)} : (mkBs L).length ≤ L.length := by
 unfold mkBs; split
 ·exact Nat.le_trans mkA_len ordP_len
 ·exact Nat.zero_le _
theorem mkBs_mem {L : List (List Int)} {x : List Int} (h : x ∈ mkBs L) : x ∈ L := by
 unfold mkBs at h; split at h
 ·exact ordP_mem (Nat.le_refl _) (mkA_mem (Nat.le_refl _) h)
 ·simp at h
def bdP (b : List UInt8) (s : Cu) : Int := [2, 3, 3, 3, (4 : Int)].getD (bwX b s 5).toNat 0
theorem bdP_r {b : List UInt8} {s : Cu} : 2 ≤ bdP b s ∧ bdP b s ≤ 4 := by
 have q := bwX_r (b := b) (s := s) (n := 5)
 have h : bdP b s ∈ [2, 3, 3, 3, (4 : Int)] := getD_mem (by simp; omega)
 simp at h; omega
theorem spec_l1PickInt_b {m0 : Bool} (b : List UInt8) (s : Cu) (l : List Int) (hb : b.length ≤ 1048576) (hl : l.length ≤ 256) (h0 : 0 < l.length) : CallT Tryz.prog false 121 [.mu true (curC b s), .pv (.sl (.lent m0) (List.map (PV.int .i64) l))] [some (curC b (bwS b s l.length)), none] [.int .i64 (l.getD (bwX b s l.length).toNat 0)] := by
 have q := bwX_r (b := b) (s := s) (n := l.length)
 refine fX sgCu [4] Tryz.func121 ?_
 have cM1 := @spec_l1Below_c
 refine dEa trivial ?_
 all_goals try (refine zlf ?_; repeat' first | exact zso | refine And.intro ?_ ?_ | (refine zim ?_; intro zb hc) | (refine zin ?_; intro zb) | intro j')
 all_goals try refine zbx ?_
theorem bdP_c {m0 : Bool} (b : List UInt8) (s : Cu) (hb : b.length ≤ 1048576) : CallT Tryz.prog false 121 [.mu true (curC b s), .pv (.sl (.lent m0) [.int .i64 2, .int .i64 3, .int .i64 3, .int .i64 3, .int .i64 4])] [some (curC b (bwS b s 5)), none] [.int .i64 (bdP b s)] :=
 spec_l1PickInt_b (m0 := m0) b s [2, 3, 3, 3, 4] hb (by decide) (by decide)
def bdL (b : List UInt8) (s : Cu) : Nat → List (List Int) × Cu
 | 0 => ([], s)
 | k + 1 => ((bdL b s k).1 ++ [(drL b (bwS b (bdL b s k).2 5) (bdP b (bdL b s k).2).toNat).1], (drL b (bwS b (bdL b s k).2 5) (bdP b (bdL b s k).2).toNat).2)
theorem bdL_p {b : List UInt8} {s : Cu} : ∀ {k : Nat}, (bdL b s k).1.length = k ∧ ∀ l ∈ (bdL b s k).1, l.length ≤ 4
 | 0 => by simp [bdL]
 | k + 1 => by
  obtain ⟨h1, h2⟩ := bdL_p (b := b) (s := s) (k := k)
  rw [bdL]
  refine ⟨by simp [h1], fun x hx => ?_⟩
  rcases List.mem_append.1 hx with q | q
  ·exact h2 x q
  ·rw [List.mem_singleton] at q; subst q; rw [drL_len]; have := bdP_r (b := b) (s := (bdL b s k).2); omega
/-- A basis of few short rows. -/
structure BaL (L : List (List Int)) : Prop where
 len : L.length ≤ 3
 row : ∀ l ∈ L, l.length ≤ 4
 bas : basisB L = true
theorem spec_l12Draw_x (b : List UInt8) (s : Cu) (hb : b.length ≤ 1048576) : ∃ s' L, CallT Tryz.prog false 85 [.mu true (curC b s)] [some (curC b s')] [.sl .own (List.map (elI false) L)] ∧ BaL L := by
 obtain ⟨s1, n, c1, hn⟩ := spec_l1PickInt_x (m0 := true) b s [0, 1, 1, 2, 2, 3] hb (by decide) (by decide)
 have h8 : 0 ≤ n ∧ n ≤ 3 := by simp at hn; omega
 obtain ⟨N, rfl⟩ := Int.eq_ofNat_of_zero_le h8.1
 simp only [List.map_cons, List.map_nil] at c1
 obtain ⟨g1, g2⟩ := bdL_p (b := b) (s := s1) (k := N)
 refine ⟨(bdL b s1 N).2, mkBs (bdL b s1 N).1, ?_, Nat.le_trans mkBs_len (by omega), fun l h => g2 l (mkBs_mem h), mkBs_basis⟩
 refine fX sgCu [2] Tryz.func85 ?_
 have cE1 := @spec_MakeBasis_c; have cM1 := @spec_l2Draw_c
 have cM2 := @c1
 refine dEa trivial ?_
 all_goals try (refine zlf ?_; repeat' first | exact zso | refine And.intro ?_ ?_ | (refine zim ?_; intro zb hc) | (refine zin ?_; intro zb) | intro j')
 all_goals try refine zbx ?_
 refine v_loopB (fun ms1 S1 => ∃ (k : Nat), S1.e 0 = .ptr 0 0 ∧ S1.h 0 = .live true (curC b (bdL b s1 k).2) ∧ 0 < S1.n ∧ OwnL (S1.e 3) S1.h S1.n (elI false) (((bdL b s1 k).1).length) ((bdL b s1 k).1) ∧ S1.e 4 = .p (.int .i64 (N)) ∧ S1.e 5 = .p (.int .i64 (k)) ∧ (k ≤ N) ∧ NId (S1.e 3) (.ref 0 0 0) ∧ ms1 = N - k) ((fun (k : Nat) => N - k) (0)) ?_ ⟨0, dC trivial ?_⟩
 all_goals try (refine zlf ?_; repeat' first | exact zso | refine And.intro ?_ ?_ | (refine zim ?_; intro zb hc) | (refine zin ?_; intro zb) | intro j')
 all_goals try refine zbx ?_
 rintro ms1 S1 ⟨k, h1_0, b1_0, l1_0, o1_3, h1_4, h1_5, c1_0, u1_0, hm1⟩
 obtain ⟨i1_3, h1_3, b1_3, l1_3⟩ := o1_3.out
 have k1_0 := (u1_0).out h1_3 rfl
 have ni1_3 := znds (x := i1_3) (n := S1.n)
 have n0 := znds (x := 0) (n := S1.n)
 have di1_30 := zdne (x := i1_3) (y := 0)
 have fL1 := (And.intro h1_0 (And.intro b1_0 (And.intro h1_4 (And.intro h1_5 (And.intro h1_3 (And.intro b1_3 (And.intro ni1_3 (And.intro n0 di1_30))))))))
 ·obtain ⟨w1, w2⟩ := bdL_p (b := b) (s := s1) (k := k)
  by_cases hk : k < N
  ·have g5 := bdP_r (b := b) (s := (bdL b s1 k).2)
   have cM2 := @bdP_c
   refine dEa fL1 ?_
   all_goals try (refine zlf ?_; repeat' first | exact zso | refine And.intro ?_ ?_ | (refine zim ?_; intro zb hc) | (refine zin ?_; intro zb) | intro j')
   all_goals try refine zbx ?_
   focus
    refine q_lp_n ((fun (k : Nat) => N - k) (k+1)) (dC fL1 ?_) ⟨k+1, dC fL1 ?_⟩
    all_goals try (refine zlf ?_; repeat' first | exact zso | refine And.intro ?_ ?_ | (refine zim ?_; intro zb hc) | (refine zin ?_; intro zb) | intro j')
    all_goals try refine zbx ?_
   all_goals (rw [bdL]; simp)
  ·obtain rfl : k = N := by omega
   have w3 : ∀ l ∈ (bdL b s1 k).1, l.length ≤ 8 := fun l h => Nat.le_trans (w2 l h) (by decide)
   have cM2 := trivial
   refine dEa fL1 ?_
   all_goals try (refine zlf ?_; repeat' first | exact zso | refine And.intro ?_ ?_ | (refine zim ?_; intro zb hc) | (refine zin ?_; intro zb) | intro j')
   all_goals try refine zbx ?_
 all_goals rfl
structure BnL (L : List (List Int)) : Prop where
 len : L.length ≤ 4
 row : ∀ l ∈ L, SmL l
theorem BaL.sm {L : List (List Int)} (h : BaL L) : ∀ l ∈ L, SmL l := fun l hl => by
 have hb := h.bas
 simp only [basisB, Bool.and_eq_true] at hb
 obtain ⟨i, hi, rfl⟩ := List.getElem_of_mem hl
 have := basK_perm hb.2 hi
 rw [List.getD_eq_getElem?_getD, List.getElem?_eq_getElem hi] at this
 exact SmL.of this
theorem spec_l12Bent_x (b : List UInt8) (s : Cu) (hb : b.length ≤ 1048576) : ∃ s' L, CallT Tryz.prog false 45 [.mu true (curC b s)] [some (curC b s')] [.sl .own (List.map (elI false) L)] ∧ BnL L := by
 obtain ⟨s1, L, c1, hL⟩ := spec_l12Draw_x b s hb
 obtain ⟨x, hx⟩ : ∃ x, bwX b s1 10 = x := ⟨_, rfl⟩
 by_cases h0 : x = 0
 ·subst h0
  obtain ⟨s2, p, c2, hp⟩ := spec_l2Bent_x b (bwS b s1 10) hb
  refine ⟨s2, L ++ [p], ?_, by have := hL.len; simp; omega, fun l h => ?_⟩
  ·have := hL.len
   refine fX sgCu [2] Tryz.func45 ?_
   have cM1 := @spec_l1Once_c
   have cM2 := @c1; have cM3 := @c2
   refine dEa @hx ?_
   all_goals try (refine zlf ?_; repeat' first | exact zso | refine And.intro ?_ ?_ | (refine zim ?_; intro zb hc) | (refine zin ?_; intro zb) | intro j')
   all_goals try refine zbx ?_
   all_goals exact List.take_of_length_le (by simp)
  ·rcases List.mem_append.1 h with g | g
   ·exact hL.sm l g
   ·rw [List.mem_singleton] at g; subst g; exact hp
 ·have f0 : (x = 0) = False := eq_false h0
  refine ⟨bwS b s1 10, L, ?_, Nat.le_trans hL.len (by decide), hL.sm⟩
  refine fX sgCu [2] Tryz.func45 ?_
  have cM1 := @spec_l1Once_c
  have cM2 := @c1
  refine dEa (And.intro @hx @f0) ?_
  all_goals try (refine zlf ?_; repeat' first | exact zso | refine And.intro ?_ ?_ | (refine zim ?_; intro zb hc) | (refine zin ?_; intro zb) | intro j')
  all_goals try refine zbx ?_
end Go.Gl
set_option linter.unusedSimpArgs false
set_option linter.unusedVariables false
set_option maxRecDepth 20000
set_option linter.unusedSectionVars false
namespace Go.Gl
open Go Go.Proofs
variable [Amb]
theorem laws_big_c {m0 : Bool} (b : List UInt8) : Fun Tryz.prog 13 [(.sl (.lent m0) (List.map u8P (b)))] [(.bool (decide ((1048576 : Int) < b.length)))] := by
 refine fO sg0 [2] Tryz.func13 ?_
 refine dEa trivial ?_
 all_goals try (refine zlf ?_; repeat' first | exact zso | refine And.intro ?_ ?_ | (refine zim ?_; intro zb hc) | (refine zin ?_; intro zb) | intro j')
 all_goals try refine zbx ?_
theorem laws_sameInts_c {m0 m1 : Bool} (a b : List Int) (ha : a.length ≤ 1099511627776) (hb : b.length ≤ 1099511627776) : Fun Tryz.prog 48 [(.sl (.lent m0) (List.map (PV.int .i64) (a))), (.sl (.lent m1) (List.map (PV.int .i64) (b)))] [(.bool (decide (a = b)))] := by
 refine fO sg0 [4] Tryz.func48 ?_
 refine dE trivial ?_
 all_goals try (refine zlf ?_; repeat' first | exact zso | refine And.intro ?_ ?_ | (refine zim ?_; intro zb hc) | (refine zin ?_; intro zb) | intro j')
 all_goals try refine zbx ?_
 ·rw [decide_eq_false]; intro e; subst e; exact hc rfl
 refine v_loopB (fun ms1 S1 => ∃ (k : Nat), S1.e 0 = .p (.sl (.lent m0) (List.map (PV.int .i64) (a))) ∧ S1.e 1 = .p (.sl (.lent m1) (List.map (PV.int .i64) (b))) ∧ S1.e 5 = .p (.int .i64 (k)) ∧ (k ≤ a.length) ∧ (a.take k = b.take k) ∧ ms1 = a.length - k) ((fun (k : Nat) => a.length - k) (0)) ?_ ⟨0, dIa trivial ?_⟩
 all_goals try (refine zlf ?_; repeat' first | exact zso | refine And.intro ?_ ?_ | (refine zim ?_; intro zb hc) | (refine zin ?_; intro zb) | intro j')
 all_goals try refine zbx ?_
 rintro ms1 S1 ⟨k, h1_0, h1_1, h1_5, c1_0, c1_1, hm1⟩
 have fL1 := (And.intro h1_0 (And.intro h1_1 h1_5))
 refine dEa fL1 ?_
 all_goals try (refine zlf ?_; repeat' first | exact zso | refine And.intro ?_ ?_ | (refine zim ?_; intro zb hc) | (refine zin ?_; intro zb) | intro j')
 all_goals try refine zbx ?_
 ·rw [decide_eq_false]; intro e; subst e; exact hc rfl
 ·focus
   refine q_lp_n ((fun (k : Nat) => a.length - k) (k+1)) (dC fL1 ?_) ⟨k+1, dC fL1 ?_⟩
   all_goals try (refine zlf ?_; repeat' first | exact zso | refine And.intro ?_ ?_ | (refine zim ?_; intro zb hc) | (refine zin ?_; intro zb) | intro j')
   all_goals try refine zbx ?_
  rw [take_succ_iff (by omega) (by omega)]; exact ⟨c1_1, hc⟩
 ·rw [decide_eq_true]
  rw [List.take_of_length_le (by omega), List.take_of_length_le (by omega)] at c1_1; exact c1_1
end Go.Gl
set_option linter.unusedSimpArgs false
set_option linter.unusedVariables false
set_option maxRecDepth 20000
set_option linter.unusedSectionVars false
namespace Go.Gl
open Go Go.Proofs
variable [Amb]
variable [TabA] [SplA]
theorem strself {a : List UInt8} : decide (a = a) = true := by simp
theorem dsL {a : List (List Int)} : decide (a = a) = true := by simp
theorem bsB {a : Bool} : (a == a) = true := by simp
theorem eb_all : ∀ k : Nat, k < 9 → 1 ≤ k → ebOk k = true ∧ basisB (ebL k) = true := by decide +kernel
theorem eb_ok {k : Int} : ebOk k = (decide (1 ≤ k) && decide (k ≤ 8)) := by
 by_cases h : 1 ≤ k ∧ k ≤ 8
 ·have := (eb_all k.toNat (by omega) (by omega)).1
  rw [Int.toNat_of_nonneg (by omega)] at this
  rw [this, decide_eq_true h.1, decide_eq_true h.2]; rfl
 ·rw [ebOk, exT_no (by omega), if_pos rfl]
  by_cases h1 : 1 ≤ k
  ·rw [decide_eq_false (show ¬ k ≤ 8 by omega), Bool.and_false]
  ·rw [decide_eq_false h1, Bool.false_and]
theorem eb_bas {k : Int} (h : ebOk k = true) : basisB (ebL k) = true := by
 rw [eb_ok] at h
 simp only [Bool.and_eq_true, decide_eq_true_eq] at h
 have := (eb_all k.toNat (by omega) (by omega)).2
 rwa [Int.toNat_of_nonneg (by omega)] at this
theorem de_nil {k : Int} : decide (deT k = []) = !ebOk k := by
 by_cases h : ebOk k = true
 ·rw [h, deT, if_pos h, desT, if_pos (eb_bas h)]
  simp [desX, desW, Lib.join_cons]
 ·rw [Bool.not_eq_true] at h
  rw [h, deT, if_neg (by rw [h]; decide)]; rfl
theorem de_on {k : Int} (h : ebOk k = true) : deT k = desT (ebL k) := if_pos h
theorem spec_DrawDescribeClass_x (b : List UInt8) (hb : b.length ≤ 1048576) : ∃ L, Fun Tryz.prog 15 [.sl (.lent false) (b.map u8P)] [.sl .own (List.map (elI false) L)] ∧ BnL L := by
 obtain ⟨s1, L, c1, hL⟩ := spec_l12Bent_x b ⟨0, newH b (min b.length 4000)⟩ hb
 refine ⟨L, ?_, hL⟩
 refine fO sgCu [2] Tryz.func15 ?_
 have cE1 := @spec_l1New_c
 have cM1 := @c1
 refine dEa trivial ?_
 all_goals try (refine zlf ?_; repeat' first | exact zso | refine And.intro ?_ ?_ | (refine zim ?_; intro zb hc) | (refine zin ?_; intro zb) | intro j')
 all_goals try refine zbx ?_
theorem spec_DrawDescribeExample_x (b : List UInt8) (hb : b.length ≤ 1048576) : ∃ n, Fun Tryz.prog 14 [.sl (.lent false) (b.map u8P)] [.int .i64 n] ∧ -1 ≤ n ∧ n ≤ 9 := by
 have q := bwX_r (b := b) (s := ⟨0, newH b (min b.length 4000)⟩) (n := 11)
 refine ⟨bwX b ⟨0, newH b (min b.length 4000)⟩ 11 - 1, ?_, by omega⟩
 refine fO sgCu [2] Tryz.func14 ?_
 have cE1 := @spec_l1New_c; have cM1 := @spec_l1Below_c
 refine dEa trivial ?_
 all_goals try (refine zlf ?_; repeat' first | exact zso | refine And.intro ?_ ?_ | (refine zim ?_; intro zb hc) | (refine zin ?_; intro zb) | intro j')
 all_goals try refine zbx ?_
theorem laws_sameLists_c {e0 m0 e1 m1 : Bool} (a b : List (List Int)) (ha : a.length ≤ 1099511627776) (hb : b.length ≤ 1099511627776) (hla : ∀ l ∈ a, l.length ≤ 1099511627776) (hlb : ∀ l ∈ b, l.length ≤ 1099511627776) : Fun Tryz.prog 20 [(.sl (.lent m0) (List.map (elI e0) (a))), (.sl (.lent m1) (List.map (elI e1) (b)))] [(.bool (decide (a = b)))] := by
 refine fO sg0 [4] Tryz.func20 ?_
 have cE1 := @laws_sameInts_c; have cD1 := zdh [false, false, false, false, false, false, false, false, true, false] []
 refine dE trivial ?_
 all_goals try (refine zlf ?_; repeat' first | exact zso | refine And.intro ?_ ?_ | (refine zim ?_; intro zb hc) | (refine zin ?_; intro zb) | intro j')
 all_goals try refine zbx ?_
 ·rw [decide_eq_false]; intro e; subst e; exact hc rfl
 refine v_loopB (fun ms1 S1 => ∃ (k : Nat), S1.e 0 = .p (.sl (.lent m0) (List.map (elI e0) (a))) ∧ S1.e 1 = .p (.sl (.lent m1) (List.map (elI e1) (b))) ∧ S1.e 5 = .p (.int .i64 (k)) ∧ (k ≤ a.length) ∧ (a.take k = b.take k) ∧ ms1 = a.length - k) ((fun (k : Nat) => a.length - k) (0)) ?_ ⟨0, dI trivial ?_⟩
 all_goals try (refine zlf ?_; repeat' first | exact zso | refine And.intro ?_ ?_ | (refine zim ?_; intro zb hc) | (refine zin ?_; intro zb) | intro j')
 all_goals try refine zbx ?_
 rintro ms1 S1 ⟨k, h1_0, h1_1, h1_5, c1_0, c1_1, hm1⟩
 have fL1 := (And.intro h1_0 (And.intro h1_1 h1_5))
 refine dE fL1 ?_
 all_goals try (refine zlf ?_; repeat' first | exact zso | refine And.intro ?_ ?_ | (refine zim ?_; intro zb hc) | (refine zin ?_; intro zb) | intro j')
 all_goals try refine zbx ?_
 all_goals try have hm := hla (a.getD k []) (getD_mem (by omega))
 all_goals try have hn := hlb (b.getD k []) (getD_mem (by omega))
 all_goals try exact zaut
 ·rw [decide_eq_false]; intro e; subst e; exact hc rfl
 ·focus
   refine q_lp_n ((fun (k : Nat) => a.length - k) (k+1)) (dC fL1 ?_) ⟨k+1, dC fL1 ?_⟩
   all_goals try (refine zlf ?_; repeat' first | exact zso | refine And.intro ?_ ?_ | (refine zim ?_; intro zb hc) | (refine zin ?_; intro zb) | intro j')
   all_goals try refine zbx ?_
  rw [takeL_succ_iff (by omega) (by omega)]; exact ⟨c1_1, hc⟩
 ·rw [decide_eq_true]
  rw [List.take_of_length_le (by omega), List.take_of_length_le (by omega)] at c1_1; exact c1_1
set_option maxHeartbeats 8000000 in
theorem laws_FnExamples_c (b : List UInt8) : Fun Tryz.prog 5 [(.sl (.lent false) (List.map u8P (b)))] [(.bool (true))] := by
 by_cases hs : b.length ≤ 1048576
 ·obtain ⟨k, d1, hk⟩ := spec_DrawDescribeExample_x b hs
  obtain ⟨L, d2, hL⟩ := spec_DrawDescribeClass_x b hs
  have l1 := hL.len
  have l2 : ∀ l ∈ L, l.length ≤ 1048576 := fun l h => Nat.le_trans (hL.row l h).len (by decide)
  have w1 := (eb_rows (k := k)).1
  have w2 : ∀ l ∈ ebL k, l.length ≤ 1048576 := fun l h => by have := (eb_rows (k := k)).2 l h; omega
  have w3 : ∀ l ∈ ebL k, l.length ≤ 1099511627776 := fun l h => by have := w2 l h; omega
  have f0 : ebOk k = (decide (1 ≤ k) && decide (k ≤ 8)) := eb_ok
  have f1 := de_nil (k := k)
  have f2 : ebOk k = true → basisB (ebL k) = true := eb_bas
  have f3 : ebOk k = true → deT k = desT (ebL k) := de_on
  refine fO sg0 [2] Tryz.func5 ?_
  have cE1 := @laws_big_c; have cE2 := @impl_ExampleBasis_c; have cE3 := @spec_ExampleBasis_c; have cE4 := @impl_DescribeExample_c; have cE5 := @impl_ExampleText_c; have cE6 := @spec_ExampleText_c
  have cE7 := @spec_DescribeExample_c; have cE8 := @laws_sameLists_c; have cE9 := @impl_DescribeClass_c; have cE10 := @spec_DescribeClass_c; have cE11 := @spec_IsBasis_c
  have cE1 := @d1; have cE2 := @d2; have cE3 := @laws_big_c; have cE4 := @impl_ExampleBasis_c; have cE5 := @spec_ExampleBasis_c; have cE6 := @impl_DescribeExample_c
  have cE7 := @impl_ExampleText_c; have cE8 := @spec_ExampleText_c; have cE9 := @spec_DescribeExample_c; have cE10 := @laws_sameLists_c; have cE11 := @impl_DescribeClass_c; have cE12 := @spec_DescribeClass_c
  have cE13 := @spec_IsBasis_c
  refine dEa (And.intro @strself (And.intro @dsL (And.intro @bsB (And.intro @f1 (And.intro @f2 @f3))))) ?_
  all_goals try (refine zlf ?_; repeat' first | exact zso | refine And.intro ?_ ?_ | (refine zim ?_; intro zb hc) | (refine zin ?_; intro zb) | intro j')
  all_goals try refine zbx ?_
  all_goals first | exact decide_eq_true (de_on zb.1) | (have h9 := f2 zb.1; rw [hc] at h9; cases h9) | (rw [f0, decide_eq_true (show 1 ≤ k by omega)] at hc; simp at hc; done) | (rw [f0, decide_eq_false (show ¬ 1 ≤ k by omega)] at hc; simp at hc; done)
 ·refine fO sg0 [2] Tryz.func5 ?_
  have cE1 := @laws_big_c; have cE2 := @impl_ExampleBasis_c; have cE3 := @spec_ExampleBasis_c; have cE4 := @impl_DescribeExample_c; have cE5 := @impl_ExampleText_c; have cE6 := @spec_ExampleText_c
  have cE7 := @spec_DescribeExample_c; have cE8 := @laws_sameLists_c; have cE9 := @impl_DescribeClass_c; have cE10 := @spec_DescribeClass_c; have cE11 := @spec_IsBasis_c
  have c1 : decide ((1048576 : Int) < b.length) = true := decide_eq_true (by omega)
  refine dE @c1 ?_
  all_goals try (refine zlf ?_; repeat' first | exact zso | refine And.intro ?_ ?_ | (refine zim ?_; intro zb hc) | (refine zin ?_; intro zb) | intro j')
  all_goals try refine zbx ?_
end Go.Gl
