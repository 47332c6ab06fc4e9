/-
  Draws: a reader of bytes, what its functions compute. Conditions: none.
-/
import Derived.Test.YtfjfobbniglaeaaDoorNum
import Derived.Test.YtfjfobbniglaeaaDoorLaw1
import Derived.Test.YtfjfobbniglaeaaDoorPermF
set_option linter.unusedSimpArgs false
set_option linter.unusedVariables false
set_option maxRecDepth 20000
set_option linter.unusedSectionVars false
namespace Go.Gl
open Go Go.Proofs
variable [Amb] [NoQ]
theorem oc_ptr : ofConst (Value.pointer none) = .any := _root_.id rfl
theorem cur_g0 {b : List UInt8} {s : Cu} : (curC b s)[0]? = some (.sl (.lent false) (b.map u8P)) := _root_.id rfl
theorem cur_g1 {b : List UInt8} {s : Cu} : (curC b s)[1]? = some (.int .i64 s.i) := _root_.id rfl
theorem cur_g2 {b : List UInt8} {s : Cu} : (curC b s)[2]? = some (.int .i64 s.h) := _root_.id rfl
theorem cur_len {b : List UInt8} {s : Cu} : (curC b s).length = 3 := _root_.id rfl
theorem cur_s1 {b : List UInt8} {s : Cu} {n : Nat} : (curC b s).set 1 (.int .i64 (n : Int)) = curC b ⟨n, s.h⟩ := _root_.id rfl
theorem cur_s2 {b : List UInt8} {s : Cu} {n : Int} : (curC b s).set 2 (.int .i64 n) = curC b ⟨s.i, n⟩ := _root_.id rfl
attribute [go_sem] oc_ptr a_any cur_g0 cur_g1 cur_g2 cur_len cur_s1 cur_s2
def newH (b : List UInt8) : Nat → Int
  | 0 => 26583 + (b.length : Int)
  | k + 1 => ((((newH b k * 131 + ((b.getD k 0).toNat : Int)) + 7).toNat &&& (1073741823 : Int).toNat : Nat) : Int)
theorem newH_r {b : List UInt8} (hb : b.length ≤ 1048576) : ∀ k, 0 ≤ newH b k ∧ newH b k ≤ 1073741823
  | 0 => by rw [newH]; omega
  | k + 1 => by
    have := Nat.and_le_right (n := ((newH b k * 131 + ((b.getD k 0).toNat : Int)) + 7).toNat) (m := (1073741823 : Int).toNat)
    rw [newH]
    omega
theorem u8_r (x : UInt8) : x.toNat ≤ 255 := by have := x.toNat_lt; omega
theorem spec_l1New_c (b : List UInt8) (hb : b.length ≤ 1048576) : Fun Tryd.prog 28 [(.sl (.lent false) (List.map u8P (b)))] [(.bx (curC b ⟨0, newH b (min b.length 4000)⟩))] := by
  refine fO sg0 [2] Tryd.func28 ?_
  have u5 : (Tryd.prog.underlying 5).isSome = true := by rw [Tryd.underlying5]; rfl
  refine dEa trivial ?_
  all_goals try (refine zlf ?_; repeat' first | exact zso | refine And.intro ?_ ?_ | (refine zim ?_; intro zb hc) | (refine zin ?_; intro zb) | intro j')
  all_goals try refine zbx ?_
  refine v_loopB (fun ms1 S1 => ∃ (k : Nat), S1.e 0 = .p (.sl (.lent false) (List.map u8P (b))) ∧ S1.e 3 = .p (.int .i64 (newH b k)) ∧ S1.e 4 = .p (.int .i64 (k)) ∧ (k ≤ b.length) ∧ (k ≤ 4000) ∧ ms1 = b.length - k) ((fun (k : Nat) => b.length - k) (0)) ?_ ⟨0, dC trivial ?_⟩
  all_goals try (refine zlf ?_; repeat' first | exact zso | refine And.intro ?_ ?_ | (refine zim ?_; intro zb hc) | (refine zin ?_; intro zb) | intro j')
  all_goals try refine zbx ?_
  rintro ms1 S1 ⟨k, h1_0, h1_3, h1_4, c1_0, c1_1, hm1⟩
  have fL1 := (And.intro h1_0 (And.intro h1_3 h1_4))
  · have q1 := newH_r hb k
    have q2 := u8_r (b.getD k 0)
    refine dEa (And.intro fL1 @u5) ?_
    all_goals try (refine zlf ?_; repeat' first | exact zso | refine And.intro ?_ ?_ | (refine zim ?_; intro zb hc) | (refine zin ?_; intro zb) | intro j')
    all_goals try refine zbx ?_
    · focus
        refine q_lp_n ((fun (k : Nat) => b.length - k) (k+1)) (dC fL1 ?_) ⟨k+1, dC fL1 ?_⟩
        all_goals try (refine zlf ?_; repeat' first | exact zso | refine And.intro ?_ ?_ | (refine zim ?_; intro zb hc) | (refine zin ?_; intro zb) | intro j')
        all_goals try refine zbx ?_
    · rw [show min b.length 4000 = k by omega]; rfl
    · rw [show min b.length 4000 = k by omega]; rfl
def byH (h : Int) : Int := IntKind.i64.wrap (IntKind.i64.wrap (h * 6364136223846793005) + 1442695040888963407)
def by0 (h : Int) : Int := andI .i64 (xorI .i64 ((byH h).fdiv (2 ^ 33)) ((byH h).fdiv (2 ^ 45))) 255
def byX (b : List UInt8) (s : Cu) : Int := if s.i < b.length then andI .i64 (IntKind.i64.wrap (by0 s.h + ((b.getD s.i 0).toNat : Int))) 255 else by0 s.h
def byS (b : List UInt8) (s : Cu) : Cu := if s.i < b.length then ⟨s.i + 1, byH s.h⟩ else ⟨s.i, byH s.h⟩
theorem wrap64 {n : Int} (h0 : -9223372036854775808 ≤ n) (h1 : n ≤ 9223372036854775807) : IntKind.i64.wrap n = n := by
  unfold IntKind.wrap
  simp only [IntKind.bits, IntKind.signed, Bool.true_and]
  split
  · rename_i h; simp at h; omega
  · rename_i h; simp at h; omega
theorem andI_255 {x : Int} : 0 ≤ andI .i64 x 255 ∧ andI .i64 x 255 ≤ 255 := by
  unfold andI
  generalize BitVec.ofInt IntKind.i64.bits x = y
  have h : (y &&& BitVec.ofInt IntKind.i64.bits 255).toNat ≤ 255 := by
    rw [BitVec.toNat_and]
    exact Nat.and_le_right
  rw [wrap64 (by omega) (by omega)]; omega
theorem byX_r {b : List UInt8} {s : Cu} : 0 ≤ byX b s ∧ byX b s ≤ 255 := by
  unfold byX by0; split <;> exact andI_255
def sgBy : FuncId → List Bool := fun f => if f = 4294967296 then [true] else []
theorem sgBy_eq {f : FuncId} : sgBy f = if f = 4294967296 then [true] else [] := _root_.id rfl
theorem way_sgBy : wayE sgBy = true ∧ wayN sgBy = false ∧ wayS sgBy = false ∧ wayZ sgBy = false ∧ wayM sgBy = false := ⟨rfl, rfl, rfl, rfl, rfl⟩
attribute [go_sem] sgBy_eq way_sgBy
theorem spec_l1Byte_c (b : List UInt8) (s : Cu) (hb : b.length ≤ 1048576) : CallT Tryd.prog false 72 [.mu true (curC b s)] [some (curC b (byS b s))] [(.int .i64 (byX b s))] := by
  have u5 : (Tryd.prog.underlying 5).isSome = true := by rw [Tryd.underlying5]; rfl
  by_cases hi : s.i < b.length
  · have e1 : IntKind.i64.wrap ((s.i : Int) + 1) = ((s.i + 1 : Nat) : Int) := by rw [wrap64 (by omega) (by omega)]; omega
    have e2 : byX b s = andI .i64 (IntKind.i64.wrap (by0 s.h + ((b.getD s.i 0).toNat : Int))) 255 := if_pos hi
    have e3 : byS b s = ⟨s.i + 1, byH s.h⟩ := if_pos hi
    have hu := u8_r (b.getD s.i 0)
    rw [e2, e3]
    refine fX sgBy [2] Tryd.func72 ?_
    have cD1 := zdh [false, false, false, false, false, false, false, false, false, false, false, true, false, false, false] [(0, 11)]
    refine dEa (And.intro @u5 @e1) ?_
    all_goals try (refine zlf ?_; repeat' first | exact zso | refine And.intro ?_ ?_ | (refine zim ?_; intro zb hc) | (refine zin ?_; intro zb) | intro j')
    all_goals try refine zbx ?_
    all_goals rfl
  · have e2 : byX b s = by0 s.h := if_neg hi
    have e3 : byS b s = ⟨s.i, byH s.h⟩ := if_neg hi
    rw [e2, e3]
    refine fX sgBy [2] Tryd.func72 ?_
    have cD1 := zdh [false, false, false, false, false, false, false, false, false, false, false, true, false, false, false] [(0, 11)]
    refine dEa @u5 ?_
    all_goals try (refine zlf ?_; repeat' first | exact zso | refine And.intro ?_ ?_ | (refine zim ?_; intro zb hc) | (refine zin ?_; intro zb) | intro j')
    all_goals try refine zbx ?_
    all_goals rfl
def sgCu : FuncId → List Bool := fun f => if f = 72 then [true] else if f = 38 then [true] else if f = 40 then [true] else if f = 64 then [true] else if f = 66 then [true] else if f = 31 then [true] else if f = 65 then [true] else if f = 32 then [true] else if f = 27 then [true] else if f = 89 then [true] else if f = 73 then [true] else []
theorem sgCu_eq {f : FuncId} : sgCu f = if f = 72 then [true] else if f = 38 then [true] else if f = 40 then [true] else if f = 64 then [true] else if f = 66 then [true] else if f = 31 then [true] else if f = 65 then [true] else if f = 32 then [true] else if f = 27 then [true] else if f = 89 then [true] else if f = 73 then [true] else [] := _root_.id rfl
theorem way_sgCu : wayE sgCu = false ∧ wayN sgCu = false ∧ wayS sgCu = false ∧ wayZ sgCu = false ∧ wayM sgCu = false := ⟨rfl, rfl, rfl, rfl, rfl⟩
attribute [go_sem] sgCu_eq way_sgCu
def b4X (b : List UInt8) (s : Cu) : Int := byX b s * 16777216 + byX b (byS b s) * 65536 + byX b (byS b (byS b s)) * 256 + byX b (byS b (byS b (byS b s)))
theorem b4X_r {b : List UInt8} {s : Cu} : 0 ≤ b4X b s ∧ b4X b s ≤ 4294967295 := by
  have q1 := byX_r (b := b) (s := s)
  have q2 := byX_r (b := b) (s := byS b s)
  have q3 := byX_r (b := b) (s := byS b (byS b s))
  have q4 := byX_r (b := b) (s := byS b (byS b (byS b s)))
  unfold b4X; omega
def bwX (b : List UInt8) (s : Cu) (n : Int) : Int := if n ≤ 0 then 0 else if n ≤ 256 then (byX b s).tmod n else (b4X b s).tmod n
def bwS (b : List UInt8) (s : Cu) (n : Int) : Cu := if n ≤ 0 then s else if n ≤ 256 then byS b s else byS b (byS b (byS b (byS b s)))
theorem bwX_r {b : List UInt8} {s : Cu} {n : Int} : 0 ≤ bwX b s n ∧ (0 < n → bwX b s n < n) ∧ (n ≤ 0 → bwX b s n = 0) := by
  unfold bwX
  by_cases h0 : n ≤ 0
  · rw [if_pos h0]; omega
  · rw [if_neg h0]
    refine ⟨?_, fun h => ?_, fun h => absurd h h0⟩
    · split
      · exact Int.tmod_nonneg _ byX_r.1
      · exact Int.tmod_nonneg _ b4X_r.1
    · split <;> exact Int.tmod_lt_of_pos _ h
/-- A number below another. -/
theorem spec_l1Below_c (b : List UInt8) (s : Cu) (n : Int) (hb : b.length ≤ 1048576) (hn : n ≤ 4294967296) : CallT Tryd.prog false 38 [.mu true (curC b s), .pv (.int .i64 (n))] [some (curC b (bwS b s n)), none] [(.int .i64 (bwX b s n))] := by
  by_cases h0 : n ≤ 0
  · rw [bwS, bwX, if_pos h0, if_pos h0]
    refine fX sgCu [4] Tryd.func38 ?_
    have cM1 := @spec_l1Byte_c
    refine dEa trivial ?_
    all_goals try (refine zlf ?_; repeat' first | exact zso | refine And.intro ?_ ?_ | (refine zim ?_; intro zb hc) | (refine zin ?_; intro zb) | intro j')
    all_goals try refine zbx ?_
  · by_cases h1 : n ≤ 256
    · have q := byX_r (b := b) (s := s)
      rw [bwS, bwX, if_neg h0, if_neg h0, if_pos h1, if_pos h1]
      refine fX sgCu [4] Tryd.func38 ?_
      have cM1 := @spec_l1Byte_c
      refine dEa trivial ?_
      all_goals try (refine zlf ?_; repeat' first | exact zso | refine And.intro ?_ ?_ | (refine zim ?_; intro zb hc) | (refine zin ?_; intro zb) | intro j')
      all_goals try refine zbx ?_
    · have q1 := byX_r (b := b) (s := s)
      have q2 := byX_r (b := b) (s := byS b s)
      have q3 := byX_r (b := b) (s := byS b (byS b s))
      have q4 := byX_r (b := b) (s := byS b (byS b (byS b s)))
      rw [bwS, bwX, if_neg h0, if_neg h0, if_neg h1, if_neg h1, b4X]
      refine fX sgCu [4] Tryd.func38 ?_
      have cM1 := @spec_l1Byte_c
      refine dEa trivial ?_
      all_goals try (refine zlf ?_; repeat' first | exact zso | refine And.intro ?_ ?_ | (refine zim ?_; intro zb hc) | (refine zin ?_; intro zb) | intro j')
      all_goals try refine zbx ?_
theorem spec_l1Once_c (b : List UInt8) (s : Cu) (n : Int) (hb : b.length ≤ 1048576) (hn : n ≤ 4294967296) : CallT Tryd.prog false 40 [.mu true (curC b s), .pv (.int .i64 (n))] [some (curC b (bwS b s n)), none] [(.bool (decide (bwX b s n = 0)))] := by
  refine fX sgCu [4] Tryd.func40 ?_
  have cM1 := @spec_l1Below_c
  refine dEa trivial ?_
  all_goals try (refine zlf ?_; repeat' first | exact zso | refine And.intro ?_ ?_ | (refine zim ?_; intro zb hc) | (refine zin ?_; intro zb) | intro j')
  all_goals try refine zbx ?_
theorem spec_l1PickInt_x {m0 : Bool} (b : List UInt8) (s : Cu) (l : List Int) (hb : b.length ≤ 1048576) (hl : l.length ≤ 256) (h0 : l ≠ []) : ∃ s' x, CallT Tryd.prog false 66 [.mu true (curC b s), .pv (.sl (.lent m0) (List.map (PV.int .i64) l))] [some (curC b s'), none] [.int .i64 x] ∧ x ∈ l := by
  have hp := List.length_pos_iff.2 h0
  have q := bwX_r (b := b) (s := s) (n := l.length)
  refine ⟨bwS b s l.length, l.getD (bwX b s l.length).toNat 0, ?_, getD_mem (by omega)⟩
  refine fX sgCu [4] Tryd.func66 ?_
  have cM1 := @spec_l1Below_c
  refine dEa trivial ?_
  all_goals try (refine zlf ?_; repeat' first | exact zso | refine And.intro ?_ ?_ | (refine zim ?_; intro zb hc) | (refine zin ?_; intro zb) | intro j')
  all_goals try refine zbx ?_
theorem spec_l1Pick_x {m0 : Bool} (b : List UInt8) (s : Cu) (l : List (List UInt8)) (hb : b.length ≤ 1048576) (hl : l.length ≤ 256) (h0 : l ≠ []) : ∃ s' x, CallT Tryd.prog false 64 [.mu true (curC b s), .pv (.sl (.lent m0) (List.map PV.str l))] [some (curC b s'), none] [.str x] ∧ x ∈ l := by
  have hp := List.length_pos_iff.2 h0
  have q := bwX_r (b := b) (s := s) (n := l.length)
  refine ⟨bwS b s l.length, l.getD (bwX b s l.length).toNat [], ?_, getD_mem (by omega)⟩
  refine fX sgCu [4] Tryd.func64 ?_
  have cM1 := @spec_l1Below_c
  refine dEa trivial ?_
  all_goals try (refine zlf ?_; repeat' first | exact zso | refine And.intro ?_ ?_ | (refine zim ?_; intro zb hc) | (refine zin ?_; intro zb) | intro j')
  all_goals try refine zbx ?_
  all_goals trace_state
theorem take_midI {L D : List Int} {p : Int} {j : Nat} (h : j ≤ L.length) : List.take (j + 1) (L.take j ++ p :: D) = L.take j ++ [p] := by
  rw [List.take_append, List.take_of_length_le (by simp; omega), List.length_take, Nat.min_eq_left h, Nat.add_sub_cancel_left]; rfl
/-- A permutation, drawn. -/
def drL (b : List UInt8) (s : Cu) : Nat → List Int × Cu
  | 0 => ([], s)
  | k + 1 =>
    let p := drL b s k
    ((p.1.take (bwX b p.2 ((p.1.length : Int) + 1)).toNat ++ [(k : Int) + 1]) ++ p.1.drop (bwX b p.2 ((p.1.length : Int) + 1)).toNat, bwS b p.2 ((p.1.length : Int) + 1))
theorem drL_len {b : List UInt8} {s : Cu} : ∀ {k : Nat}, (drL b s k).1.length = k
  | 0 => rfl
  | k + 1 => by
    have h := drL_len (b := b) (s := s) (k := k)
    have q := bwX_r (b := b) (s := (drL b s k).2) (n := ((drL b s k).1.length : Int) + 1)
    simp only [drL, List.length_append, List.length_take, List.length_drop, List.length_singleton]
    omega
theorem drL_mem {b : List UInt8} {s : Cu} : ∀ {k : Nat}, (∀ x ∈ (drL b s k).1, 1 ≤ x ∧ x ≤ k) ∧ (drL b s k).1.Nodup
  | 0 => by simp [drL]
  | k + 1 => by
    obtain ⟨h1, h2⟩ := drL_mem (b := b) (s := s) (k := k)
    have hp : (drL b s (k + 1)).1.Perm (((k : Int) + 1) :: (drL b s k).1) := by
      simp only [drL]
      rw [List.append_assoc, List.singleton_append]
      refine List.perm_middle.trans ?_
      rw [List.take_append_drop]
    constructor
    · intro x hx
      rcases List.mem_cons.1 (hp.subset hx) with q | q
      · omega
      · have := h1 x q; omega
    · refine (hp.nodup_iff).2 (List.nodup_cons.2 ⟨fun q => ?_, h2⟩)
      have := h1 _ q; omega
theorem drL_perm {b : List UInt8} {s : Cu} {k : Nat} : permB (drL b s k).1 = true := permB_iff.2 ⟨by rw [drL_len]; exact drL_mem.1, drL_mem.2⟩
set_option maxHeartbeats 1600000 in
theorem spec_l2Draw_c (b : List UInt8) (s : Cu) (n : Int) (hb : b.length ≤ 1048576) (h0 : 0 ≤ n) (hn : n ≤ 1000) : CallT Tryd.prog false 65 [.mu true (curC b s), .pv (.int .i64 (n))] [some (curC b (drL b s n.toNat).2), none] [(.sl .own (List.map (PV.int .i64) ((drL b s n.toNat).1)))] := by
  refine fX sgCu [4] Tryd.func65 ?_
  have cM1 := @spec_l1Below_c
  refine dEa trivial ?_
  all_goals try (refine zlf ?_; repeat' first | exact zso | refine And.intro ?_ ?_ | (refine zim ?_; intro zb hc) | (refine zin ?_; intro zb) | intro j')
  all_goals try refine zbx ?_
  refine v_loopB (fun ms1 S1 => ∃ (k : Nat), S1.e 0 = .ptr 0 0 ∧ S1.h 0 = .live true (curC b (drL b s k).2) ∧ 0 < S1.n ∧ S1.e 1 = .p (.int .i64 (n)) ∧ OwnL (S1.e 5) S1.h S1.n (PV.int .i64) (((drL b s k).1).length) ((drL b s k).1) ∧ S1.e 6 = .p (.int .i64 ((k+1))) ∧ ((k : Int) ≤ n) ∧ NId (S1.e 5) (.ref 0 0 0) ∧ ms1 = n.toNat - k) ((fun (k : Nat) => n.toNat - k) (0)) ?_ ⟨0, dC trivial ?_⟩
  all_goals try (refine zlf ?_; repeat' first | exact zso | refine And.intro ?_ ?_ | (refine zim ?_; intro zb hc) | (refine zin ?_; intro zb) | intro j')
  all_goals try refine zbx ?_
  rintro ms1 S1 ⟨k, h1_0, b1_0, l1_0, h1_1, o1_5, h1_6, c1_0, u1_0, hm1⟩
  obtain ⟨i1_5, h1_5, b1_5, l1_5⟩ := o1_5.out
  have k1_0 := (u1_0).out h1_5 rfl
  have ni1_5 := znds (x := i1_5) (n := S1.n)
  have n0 := znds (x := 0) (n := S1.n)
  have di1_50 := zdne (x := i1_5) (y := 0)
  have fL1 := (And.intro h1_0 (And.intro b1_0 (And.intro h1_1 (And.intro h1_6 (And.intro h1_5 (And.intro b1_5 (And.intro ni1_5 (And.intro n0 di1_50))))))))
  · have hl := drL_len (b := b) (s := s) (k := k)
    have hd : drL b s (k + 1) = (((drL b s k).1.take (bwX b (drL b s k).2 (((drL b s k).1.length : Int) + 1)).toNat ++ [(k : Int) + 1]) ++ (drL b s k).1.drop (bwX b (drL b s k).2 (((drL b s k).1.length : Int) + 1)).toNat, bwS b (drL b s k).2 (((drL b s k).1.length : Int) + 1)) := rfl
    have q := bwX_r (b := b) (s := (drL b s k).2) (n := ((drL b s k).1.length : Int) + 1)
    obtain ⟨j, hj⟩ : ∃ j : Nat, bwX b (drL b s k).2 (((drL b s k).1.length : Int) + 1) = j := ⟨_, (Int.toNat_of_nonneg q.1).symm⟩
    rw [hj, Int.toNat_natCast] at hd
    rw [hj] at q
    generalize hL : (drL b s k).1 = L at *
    generalize hS : (drL b s k).2 = S0 at *
    have e3 : List.take (L.length - j) (List.drop j L) = L.drop j := List.take_of_length_le (by simp)
    by_cases g0 : j = L.length
    · subst g0
      have e4 : List.drop L.length L = [] := List.drop_length
      have e5 : List.take L.length L = L := List.take_length
      have f1 : (L.length + 1 = (L ++ [(k : Int) + 1]).length) = True := eq_true (by simp)
      rw [e4, e5, List.append_nil] at hd
      refine dEa (And.intro fL1 (And.intro @hj (And.intro @e3 (And.intro @e4 (And.intro @e5 @f1))))) ?_
      all_goals try (refine zlf ?_; repeat' first | exact zso | refine And.intro ?_ ?_ | (refine zim ?_; intro zb hc) | (refine zin ?_; intro zb) | intro j')
      all_goals try refine zbx ?_
      · focus
          refine q_lp_n ((fun (k : Nat) => n.toNat - k) (k+1)) (dC fL1 ?_) ⟨k+1, dC fL1 ?_⟩
          all_goals try (refine zlf ?_; repeat' first | exact zso | refine And.intro ?_ ?_ | (refine zim ?_; intro zb hc) | (refine zin ?_; intro zb) | intro j')
          all_goals try refine zbx ?_
        all_goals rw [hd]
        all_goals first | (simp; done) | skip
      all_goals first | (obtain rfl : k = n.toNat := (by omega); rw [hS]; done) | (obtain rfl : k = n.toNat := (by omega); rw [hL]; done) | skip
    · have f0 : (j = L.length) = False := eq_false g0
      have f1 : (j + 1 ≤ L.length) = True := eq_true (by omega)
      have f2 : (List.take j L ++ ((k : Int) + 1) :: List.drop (j + 1) L).length = L.length := by simp; omega
      have f3 : (List.drop j L).length = L.length - j := by simp
      by_cases g1 : j + 1 = L.length
      · have f4 : (j + 1 = L.length) = True := eq_true g1
        refine dEa (And.intro fL1 (And.intro @hj (And.intro @e3 (And.intro @f0 (And.intro @f1 (And.intro @f2 (And.intro @f3 @f4))))))) ?_
        all_goals try (refine zlf ?_; repeat' first | exact zso | refine And.intro ?_ ?_ | (refine zim ?_; intro zb hc) | (refine zin ?_; intro zb) | intro j')
        all_goals try refine zbx ?_
        · focus
            refine q_lp_n ((fun (k : Nat) => n.toNat - k) (k+1)) (dC fL1 ?_) ⟨k+1, dC fL1 ?_⟩
            all_goals try (refine zlf ?_; repeat' first | exact zso | refine And.intro ?_ ?_ | (refine zim ?_; intro zb hc) | (refine zin ?_; intro zb) | intro j')
            all_goals try refine zbx ?_
          all_goals rw [hd]
          all_goals first | (simp; done) | (simp; omega) | (rw [take_midI (by omega)]; done) | skip
        all_goals first | (obtain rfl : k = n.toNat := (by omega); rw [hS]; done) | (obtain rfl : k = n.toNat := (by omega); rw [hL]; done) | skip
      · have f4 : (j + 1 = L.length) = False := eq_false g1
        have f5 : (j + (1 + (L.length - j)) ≤ L.length) = False := eq_false (by omega)
        refine dEa (And.intro fL1 (And.intro @hj (And.intro @e3 (And.intro @f0 (And.intro @f1 (And.intro @f2 (And.intro @f3 (And.intro @f4 @f5)))))))) ?_
        all_goals try (refine zlf ?_; repeat' first | exact zso | refine And.intro ?_ ?_ | (refine zim ?_; intro zb hc) | (refine zin ?_; intro zb) | intro j')
        all_goals try refine zbx ?_
        · focus
            refine q_lp_n ((fun (k : Nat) => n.toNat - k) (k+1)) (dC fL1 ?_) ⟨k+1, dC fL1 ?_⟩
            all_goals try (refine zlf ?_; repeat' first | exact zso | refine And.intro ?_ ?_ | (refine zim ?_; intro zb hc) | (refine zin ?_; intro zb) | intro j')
            all_goals try refine zbx ?_
          all_goals rw [hd]
          all_goals first | (simp; done) | (simp; omega) | (rw [take_midI (by omega)]; done) | skip
        all_goals first | (obtain rfl : k = n.toNat := (by omega); rw [hS]; done) | (obtain rfl : k = n.toNat := (by omega); rw [hL]; done) | skip
theorem spec_l2Any_x (b : List UInt8) (s : Cu) (hb : b.length ≤ 1048576) : ∃ s' p, CallT Tryd.prog false 32 [.mu true (curC b s)] [some (curC b s')] [.sl .own (List.map (PV.int .i64) p)] ∧ isPermB p = true := by
  obtain ⟨s1, n, c1, hn⟩ := spec_l1PickInt_x (m0 := true) b s [0, 1, 2, 3, 4, 5, 5, 6, 6, 7, 8] hb (by decide) (by decide)
  have h8 : 0 ≤ n ∧ n ≤ 8 := by simp at hn; omega
  simp only [List.map_cons, List.map_nil] at c1
  refine ⟨(drL b s1 n.toNat).2, (drL b s1 n.toNat).1, ?_, ?_⟩
  · refine fX sgCu [2] Tryd.func32 ?_
    have cM1 := @spec_l2Draw_c
    have cM2 := @c1
    refine dEa trivial ?_
    all_goals try (refine zlf ?_; repeat' first | exact zso | refine And.intro ?_ ?_ | (refine zim ?_; intro zb hc) | (refine zin ?_; intro zb) | intro j')
    all_goals try refine zbx ?_
  · simp only [isPermB, drL_perm, drL_len, Bool.and_true, decide_eq_true_eq]; omega
/-- A list of few small numbers. -/
structure SmL (p : List Int) : Prop where
  len : p.length ≤ 9
  rg : ∀ x ∈ p, -1 ≤ x ∧ x ≤ 10
theorem SmL.of {p : List Int} (h : isPermB p = true) : SmL p := by
  obtain ⟨h8, hp⟩ : p.length ≤ 8 ∧ permB p = true := by simpa [isPermB] using h
  exact ⟨by omega, fun x hx => by have := (permB_iff.1 hp).1 x hx; omega⟩
theorem spec_l2Bent_x (b : List UInt8) (s : Cu) (hb : b.length ≤ 1048576) : ∃ s' p, CallT Tryd.prog false 27 [.mu true (curC b s)] [some (curC b s')] [.sl .own (List.map (PV.int .i64) p)] ∧ SmL p := by
  obtain ⟨s1, p, c1, hp⟩ := spec_l2Any_x b s hb
  have h8 : p.length ≤ 8 := by simp [isPermB] at hp; exact hp.1
  have hs := SmL.of hp
  obtain ⟨x, hx⟩ : ∃ x, bwX b s1 14 = x := ⟨_, rfl⟩
  by_cases h0 : x = 0
  · have q := bwX_r (b := b) (s := bwS b s1 14) (n := 12)
    refine ⟨bwS b (bwS b s1 14) 12, p ++ [bwX b (bwS b s1 14) 12 - 1], ?_, ?_, fun y hy => ?_⟩
    · subst h0
      refine fX sgCu [2] Tryd.func27 ?_
      have cM1 := @spec_l1Below_c
      have cM2 := @c1
      refine dEa @hx ?_
      all_goals try (refine zlf ?_; repeat' first | exact zso | refine And.intro ?_ ?_ | (refine zim ?_; intro zb hc) | (refine zin ?_; intro zb) | intro j')
      all_goals try refine zbx ?_
      all_goals exact List.take_of_length_le (by simp)
    · simp; omega
    · rcases List.mem_append.1 hy with g | g
      · exact hs.rg y g
      · simp at g; omega
  · by_cases h1 : x = 1
    · by_cases hl : 0 < p.length
      · have q := bwX_r (b := b) (s := bwS b s1 14) (n := 11)
        refine ⟨bwS b (bwS b s1 14) 11, p.set 0 (bwX b (bwS b s1 14) 11 - 1), ?_, ?_, fun y hy => ?_⟩
        · subst h1
          refine fX sgCu [2] Tryd.func27 ?_
          have cM1 := @spec_l1Below_c
          have cM2 := @c1
          refine dEa @hx ?_
          all_goals try (refine zlf ?_; repeat' first | exact zso | refine And.intro ?_ ?_ | (refine zim ?_; intro zb hc) | (refine zin ?_; intro zb) | intro j')
          all_goals try refine zbx ?_
          all_goals exact List.take_of_length_le (by simp)
        · simp; omega
        · rcases List.mem_or_eq_of_mem_set hy with g | g
          · exact hs.rg y g
          · omega
      · refine ⟨bwS b s1 14, p, ?_, hs⟩
        subst h1
        refine fX sgCu [2] Tryd.func27 ?_
        have cM1 := @spec_l1Below_c
        have cM2 := @c1
        refine dEa @hx ?_
        all_goals try (refine zlf ?_; repeat' first | exact zso | refine And.intro ?_ ?_ | (refine zim ?_; intro zb hc) | (refine zin ?_; intro zb) | intro j')
        all_goals try refine zbx ?_
        all_goals exact List.take_of_length_le (by simp)
    · have f0 : (x = 0) = False := eq_false h0
      have f1 : (x = 1) = False := eq_false h1
      refine ⟨bwS b s1 14, p, ?_, hs⟩
      refine fX sgCu [2] Tryd.func27 ?_
      have cM1 := @spec_l1Below_c
      have cM2 := @c1
      refine dEa (And.intro @hx (And.intro @f0 @f1)) ?_
      all_goals try (refine zlf ?_; repeat' first | exact zso | refine And.intro ?_ ?_ | (refine zim ?_; intro zb hc) | (refine zin ?_; intro zb) | intro j')
      all_goals try refine zbx ?_
      all_goals exact List.take_of_length_le (by simp)
end Go.Gl
