/-
  A program logic over the walk's rules, sixth part: the operations that write nothing and make nothing. Conditions: those that each lemma names.
-/
import Derived.Test.YtdiiocckeldkfaaGl5
namespace Go.Gl
open Go

section
variable {P : Program} {sg : FuncId → List Bool} {w0 : World} {nA nt : Nat} {M G : Nat → Prop} {ι0 : Nat → Loc} {A : Nat → Prop} {w : World} {S : St} {ι : Nat → Loc} {a : Act}

theorem wrap_in {k : IntKind} {n : Int} (h : inR k n) : k.wrap n = n := by
  obtain ⟨h1, h2⟩ := h
  cases k <;> simp [IntKind.min, IntKind.max, IntKind.signed, IntKind.bits, IntKind.wrap] at h1 h2 ⊢ <;> (try split) <;> omega

theorem ofConst1_rep {F : Nat → Prop} (v : Value) : RepP w F G (ofConst1 v) v := by
  unfold ofConst1
  split
  · simp [RepP]
  · simp [RepP]
  · simp [RepP]
  · simp only [RepP]; exact ⟨none, 0, rfl, by simp, by simp, fun _ => ⟨trivial, rfl, rfl⟩, .inl trivial⟩
  · simp [RepP]
  · simp [RepP]

theorem RepL_map1 {F : Nat → Prop} : ∀ (cs : List Value), RepL w F G (cs.map ofConst1) cs
  | [] => by simp [RepL]
  | c :: cs => by simp only [List.map_cons, RepL]; exact ⟨c, cs, rfl, ofConst1_rep c, RepL_map1 cs⟩

theorem ofConst_rep {F : Nat → Prop} (v : Value) : RepP w F G (ofConst v) v := by
  unfold ofConst
  split
  · rename_i cs
    simp only [RepP]
    exact ⟨cs.toList, rfl, RepL_map1 _⟩
  · exact ofConst1_rep v

theorem Rel.opd (h : Rel w0 nA nt M G ι0 A w S ι a) (x : Operand) : RepA w (Held S.h ι) G ι (Gl.opd S x) (a.eval x) := by
  cases x with
  | tmp t => exact h.slots t
  | const v => exact ofConst_rep v
  | func f => simp only [Gl.opd, RepA, RepP, Act.eval]; exact ⟨[], [], rfl, by simp [RepL], by simp [RepL]⟩
  | global g => simp only [Gl.opd, RepA, RepP]

theorem Rel.opd_named (h : Rel w0 nA nt M G ι0 A w S ι a) (x : Operand) : ∀ i, (Gl.opd S x).has i = true → A i := by
  cases x with
  | tmp t => exact h.named t
  | const v => simp [Gl.opd, AV.has]
  | func f => simp [Gl.opd, AV.has]
  | global g => simp [Gl.opd, AV.has]

theorem app_eq (S : St) (d : Option Nat) (r : R) : S.app d r = ({ S with h := hwsH S.h r.ws } : St).puto d r.v := by
  cases d <;> rfl

/-- The numbers given, with those of one operation. -/
def plus (A : Nat → Prop) (k : Nat) : Nat → Prop := fun i => A i ∨ (k ≤ i ∧ i < k + 256)

theorem wp_value {o : Oper} {K : Act → World → Prop} {Q : Exit → Act → World → Prop} {v : Value} {w' : World} (h : (execOp a.eval o).run P w = .ok (.value v) w') (hk : K (a.put o.dst v) w') : o.wp P a w K Q := by
  unfold Oper.wp; rw [h]; exact hk
theorem wp_skip' {o : Oper} {K : Act → World → Prop} {Q : Exit → Act → World → Prop} {w' : World} (h : (execOp a.eval o).run P w = .ok .skip w') (hk : K (a.put o.dst undef) w') : o.wp P a w K Q := by
  unfold Oper.wp; rw [h]; exact hk

/-- What an operation must do: one line for all of them. -/
def Does (P : Program) (w0 : World) (nA nt : Nat) (M G : Nat → Prop) (ι0 : Nat → Loc) (A : Nat → Prop) (k : Nat) (o : Oper) (w : World) (S : St) (a : Act) (K : R → Prop) : Prop :=
  ∀ (Kc : Act → World → Prop) (Qc : Exit → Act → World → Prop), (∀ r val w' ι', K r → Rel w0 nA nt M G ι0 (plus A k) w' (S.app o.dst r) ι' (a.put o.dst val) → Kc (a.put o.dst val) w') → o.wp P a w Kc Qc

/-- Nothing written, nothing made. -/
theorem does_value {o : Oper} {k : Nat} {K : R → Prop} (h : Rel w0 nA nt M G ι0 A w S ι a) (hd : ∀ d, o.dst = some d → d < nt) {v : AV} {val : Value} {rd : List Nat}
    (hr : (execOp a.eval o).run P w = .ok (.value val) w) (hv : RepA w (Held S.h ι) G ι v val) (hn : ∀ i, v.has i = true → A i) (hK : K ⟨v, [], rd⟩) : Does P w0 nA nt M G ι0 A k o w S a K := by
  intro Kc Qc next
  refine wp_value hr (next _ _ _ ι hK ?_)
  rw [app_eq]
  exact (h.put o.dst hd hv hn).mono fun i hi => .inl hi

/-- An own nil slice arrives. -/
theorem does_arr {o : Oper} {k : Nat} {K : R → Prop} (h : Rel w0 nA nt M G ι0 A w S ι a) (hd : ∀ d, o.dst = some d → d < nt) (hA : ∀ x, x < 256 → ¬ A (k + x)) {v : AV} {val : Value}
    (hr : (execOp a.eval o).run P w = .ok (.value val) w) (hv : RepA w (Held S.h ι) G ι v val) (hn : ∀ i, v.has i = true → A i) (hK : arr k v K) : Does P w0 nA nt M G ι0 A k o w S a K := by
  unfold arr at hK
  split at hK
  · rename_i xs
    simp only [RepA, RepP] at hv
    obtain ⟨a', cap, rfl, _, _, ho, _⟩ := hv
    obtain ⟨rfl, rfl, rfl⟩ := ho trivial
    intro Kc Qc next
    have hk : ¬ A k := hA 0 (by omega)
    obtain ⟨ok, hh⟩ := h.heap.nil (h.alloc k hk) false ⟨0, 0, 0⟩ rfl
    have st : Stays w w (Held S.h ι) (Held (updH S.h k (.live false [])) (updL ι k ⟨0, 0, 0⟩)) := fun B o v hF hv => ⟨hv, fun h' => hF (hh B h')⟩
    have h1 := h.step (A' := plus A k) (fun i hi => .inl hi) (Keep.refl w M) ok st (fun i hi => by
      have : i ≠ k := fun e => hk (e ▸ hi)
      simp [updL, this]) (fun i hi => by
      have hne : i ≠ k := fun e => hi (.inr ⟨by omega, by omega⟩)
      simp only [updH, hne, if_false]
      exact h.alloc i fun hA => hi (.inl hA))
    refine wp_value hr (next _ _ _ (updL ι k ⟨0, 0, 0⟩) hK ?_)
    rw [app_eq]
    refine h1.put o.dst hd ?_ ?_
    · simp only [RepA]
      exact ⟨none, 0, rfl, by simp, by simp [updL], by simp [updL], .inl rfl⟩
    · intro i hi
      simp [AV.has] at hi
      exact .inr ⟨by omega, by omega⟩
  · exact does_value h hd hr hv hn hK

theorem rep_int {F : Nat → Prop} {k : IntKind} {n : Int} {v : Value} (h : RepA w F G ι (.p (.int k n)) v) : v = .int k n := by simpa [RepA, RepP] using h
theorem rep_bool {F : Nat → Prop} {b : Bool} {v : Value} (h : RepA w F G ι (.p (.bool b)) v) : v = .bool b := by simpa [RepA, RepP] using h
theorem rep_str {F : Nat → Prop} {s : List UInt8} {v : Value} (h : RepA w F G ι (.p (.str s)) v) : v = .string ⟨s.toArray⟩ := by simpa [RepA, RepP] using h

theorem does_move {o : Oper} {k : Nat} {K : R → Prop} (h : Rel w0 nA nt M G ι0 A w S ι a) (hd : ∀ d, o.dst = some d → d < nt) (hA : ∀ x, x < 256 → ¬ A (k + x)) {x : Operand} (ho : o.op = .move x ∨ o.op = .assign x)
    (hK : arr k (Gl.opd S x) K) : Does P w0 nA nt M G ι0 A k o w S a K := by
  refine does_arr h hd hA (val := a.eval x) ?_ (h.opd x) (h.opd_named x) hK
  rcases ho with ho | ho <;> simp [execOp, ho]

theorem does_pick {o : Oper} {k : Nat} {K : R → Prop} (h : Rel w0 nA nt M G ι0 A w S ι a) (hd : ∀ d, o.dst = some d → d < nt) (hA : ∀ x, x < 256 → ¬ A (k + x)) {c x y : Operand} (ho : o.op = .pick c x y)
    (hK : pickW (Gl.opd S c) (Gl.opd S x) (Gl.opd S y) fun v => arr k v K) : Does P w0 nA nt M G ι0 A k o w S a K := by
  have hc := h.opd c
  have hx := h.opd x
  have hy := h.opd y
  have nx := h.opd_named x
  have ny := h.opd_named y
  unfold pickW at hK
  split at hK
  · rename_i t e
    rw [e] at hc
    have hc := rep_bool hc
    have hr : (execOp a.eval o).run P w = .ok (.value (if t then a.eval x else a.eval y)) w := by simp [execOp, ho, hc, asBool]
    split at hK
    · rename_i u v e1 e2
      rw [e1] at hx; rw [e2] at hy
      have hx := rep_bool hx
      have hy := rep_bool hy
      refine does_arr h hd hA hr ?_ (by simp [AV.has]) hK
      simp only [RepA, RepP, hx, hy]
      cases t <;> rfl
    · refine does_arr h hd hA hr ?_ ?_ hK
      · cases t
        · exact hy
        · exact hx
      · cases t
        · exact ny
        · exact nx
  · exact hK.elim

theorem eqGuard_int {op : BinOp} {t : TypeId} {x y : Operand} {k k' : IntKind} {i j : Int} : (eqGuard op t x y (.int k i) (.int k' j)).run P w = .ok () w := by
  unfold eqGuard; cases op <;> simp
theorem eqGuard_str {op : BinOp} {t : TypeId} {x y : Operand} {i j : ByteArray} : (eqGuard op t x y (.string i) (.string j)).run P w = .ok () w := by
  unfold eqGuard; cases op <;> simp
theorem eqGuard_bool {op : BinOp} {t : TypeId} {x y : Operand} {i j : Bool} : (eqGuard op t x y (.bool i) (.bool j)).run P w = .ok () w := by
  unfold eqGuard; cases op <;> simp

theorem bytesLess_eq : ∀ (x y : List UInt8), Op.bytesLess x y = lexLt x y
  | _, [] => by simp [Op.bytesLess, lexLt]
  | [], _ :: _ => by simp [Op.bytesLess, lexLt]
  | a :: x, b :: y => by simp [Op.bytesLess, lexLt, bytesLess_eq x y]

theorem and_nat {k : IntKind} {x y : Int} (hx0 : 0 ≤ x) (hy0 : 0 ≤ y) (hx : inR k x) (hy : inR k y) :
    k.wrap ((BitVec.ofInt k.bits x &&& BitVec.ofInt k.bits y).toNat : Int) = ((x.toNat &&& y.toNat : Nat) : Int) := by
  obtain ⟨n, rfl⟩ := Int.eq_ofNat_of_zero_le hx0
  obtain ⟨m, rfl⟩ := Int.eq_ofNat_of_zero_le hy0
  have hb : k.max < 2 ^ k.bits := by cases k <;> simp [IntKind.max, IntKind.signed, IntKind.bits]
  have hn : n < 2 ^ k.bits := by have := hx.2; have : (n : Int) < 2 ^ k.bits := by omega
                                 exact_mod_cast this
  have hm : m < 2 ^ k.bits := by have := hy.2; have : (m : Int) < 2 ^ k.bits := by omega
                                 exact_mod_cast this
  have e : (BitVec.ofInt k.bits (n : Int) &&& BitVec.ofInt k.bits (m : Int)).toNat = n &&& m := by
    rw [BitVec.toNat_and]
    simp only [BitVec.ofInt_natCast, BitVec.toNat_ofNat, Nat.mod_eq_of_lt hn, Nat.mod_eq_of_lt hm]
  rw [e]
  have hle : n &&& m ≤ n := Nat.and_le_left
  simp only [Int.toNat_natCast]
  refine wrap_in ⟨?_, ?_⟩
  · have := hx.1
    have : k.min ≤ 0 := by cases k <;> simp [IntKind.min, IntKind.signed, IntKind.bits]
    omega
  · have := hx.2; omega

theorem RepP_int {F : Nat → Prop} {k : IntKind} {n : Int} : RepP w F G (.int k n) (.int k n) := by simp only [RepP]
theorem RepP_bool {F : Nat → Prop} {b : Bool} : RepP w F G (.bool b) (.bool b) := by simp only [RepP]
theorem RepP_str {F : Nat → Prop} {s : List UInt8} : RepP w F G (.str s) (.string ⟨s.toArray⟩) := by simp only [RepP]

theorem run_bin {op : BinOp} {t : TypeId} {x y : AV} {u v : Value} {K : PV → Prop} {F : Nat → Prop} (hx : RepA w F G ι x u) (hy : RepA w F G ι y v) (hK : binW P op t x y K) :
    ∃ z, K z ∧ (∃ val, RepP w F G z val ∧ ∀ ox oy, (do eqGuard op t ox oy u v; binOp op t u v : Sem Value).run P w = .ok val w) := by
  unfold binW at hK
  split at hK
  · rename_i k i k' j
    have hx := rep_int hx
    have hy := rep_int hy
    subst hx hy
    split at hK
    · obtain ⟨rfl, hr, hk⟩ := hK
      exact ⟨_, hk, _, RepP_int, fun ox oy => by simp [eqGuard_int, binOp, Op.intArith, wrap_in hr]⟩
    · obtain ⟨rfl, hr, hk⟩ := hK
      exact ⟨_, hk, _, RepP_int, fun ox oy => by simp [eqGuard_int, binOp, Op.intArith, wrap_in hr]⟩
    · obtain ⟨rfl, hr, hk⟩ := hK
      exact ⟨_, hk, _, RepP_int, fun ox oy => by simp [eqGuard_int, binOp, Op.intArith, wrap_in hr]⟩
    · obtain ⟨rfl, h0, hr, hk⟩ := hK
      exact ⟨_, hk, _, RepP_int, fun ox oy => by simp [eqGuard_int, binOp, Op.intDiv, h0, wrap_in hr]⟩
    · obtain ⟨rfl, h0, hk⟩ := hK
      exact ⟨_, hk, _, RepP_int, fun ox oy => by simp [eqGuard_int, binOp, Op.intDiv, h0]⟩
    · obtain ⟨h0, h1, hr, hk⟩ := hK
      refine ⟨_, hk, _, RepP_int, fun ox oy => ?_⟩
      have n0 : ¬ j < 0 := by omega
      have n1 : min j.toNat k.bits = j.toNat := by omega
      simp [eqGuard_int, binOp, Op.shift, n0, n1, wrap_in hr]
    · obtain ⟨h0, h1, hk⟩ := hK
      refine ⟨_, hk, _, RepP_int, fun ox oy => ?_⟩
      have n0 : ¬ j < 0 := by omega
      have n1 : min j.toNat k.bits = j.toNat := by omega
      simp [eqGuard_int, binOp, Op.shift, n0, n1]
    · obtain ⟨rfl, h0, h1, r0, r1, hk⟩ := hK
      exact ⟨_, hk, _, RepP_int, fun ox oy => by simp only [Sem.run_bind, eqGuard_int, Result.andThen_ok, binOp, Op.intBits, Sem.run_pure, and_nat h0 h1 r0 r1, ne_eq, not_true_eq_false, if_false]⟩
    · obtain ⟨rfl, hk⟩ := hK
      exact ⟨_, hk, .bool (i == j), by simp only [RepP]; congr 1, fun ox oy => by simp [eqGuard_int, binOp, Op.intCmp]⟩
    · obtain ⟨rfl, hk⟩ := hK
      exact ⟨_, hk, .bool (i != j), by simp only [RepP]; congr 1, fun ox oy => by simp [eqGuard_int, binOp, Op.intCmp]⟩
    · obtain ⟨rfl, hk⟩ := hK
      exact ⟨_, hk, _, RepP_bool, fun ox oy => by simp [eqGuard_int, binOp, Op.intCmp]⟩
    · obtain ⟨rfl, hk⟩ := hK
      exact ⟨_, hk, _, RepP_bool, fun ox oy => by simp [eqGuard_int, binOp, Op.intCmp]⟩
    · obtain ⟨rfl, hk⟩ := hK
      exact ⟨_, hk, _, RepP_bool, fun ox oy => by simp [eqGuard_int, binOp, Op.intCmp]⟩
    · obtain ⟨rfl, hk⟩ := hK
      exact ⟨_, hk, _, RepP_bool, fun ox oy => by simp [eqGuard_int, binOp, Op.intCmp]⟩
    · exact hK.elim
  · rename_i s t'
    have hx := rep_str hx
    have hy := rep_str hy
    subst hx hy
    have eqv : (ByteArray.toList ⟨s.toArray⟩ == ByteArray.toList ⟨t'.toArray⟩) = decide (s = t') := by
      have e : ∀ l : List UInt8, ByteArray.toList ⟨l.toArray⟩ = l := fun l => ByteArray.toList_eq ⟨l.toArray⟩
      rw [e, e, Bool.eq_iff_iff]; simp
    have e : ∀ l : List UInt8, ByteArray.toList ⟨l.toArray⟩ = l := fun l => ByteArray.toList_eq ⟨l.toArray⟩
    split at hK
    · obtain ⟨hl, hk⟩ := hK
      refine ⟨_, hk, .string (⟨s.toArray⟩ ++ ⟨t'.toArray⟩), ?_, fun ox oy => ?_⟩
      · simp only [RepP]
        exact congrArg Value.string (by apply ByteArray.ext; first | rfl | simp)
      · have hsz : ¬ (IntKind.i64.max < (((⟨s.toArray⟩ : ByteArray).size + (⟨t'.toArray⟩ : ByteArray).size : Nat) : Int)) := by
          simp [ByteArray.size, IntKind.max, IntKind.signed, IntKind.bits]; omega
        simp only [Sem.run_bind, eqGuard_str, Result.andThen_ok, binOp, Op.stringOp]
        rw [if_neg (by simpa using hsz)]
        rfl
    · exact ⟨_, hK, _, RepP_bool, fun ox oy => by simp only [Sem.run_bind, eqGuard_str, Result.andThen_ok, binOp, Op.stringOp, eqv, Sem.run_pure]⟩
    · exact ⟨_, hK, _, RepP_bool, fun ox oy => by simp only [Sem.run_bind, eqGuard_str, Result.andThen_ok, binOp, Op.stringOp, eqv, Sem.run_pure]⟩
    · exact ⟨_, hK, _, RepP_bool, fun ox oy => by simp [eqGuard_str, binOp, Op.stringOp, e, bytesLess_eq]⟩
    · exact hK.elim
  · rename_i b c
    have hx := rep_bool hx
    have hy := rep_bool hy
    subst hx hy
    have ht : ∀ (hb : boolT P t = true), P.underlying t = some .bool := fun hb => by
      unfold boolT at hb; split at hb
      · assumption
      · cases hb
    split at hK
    · obtain ⟨hb, hk⟩ := hK
      exact ⟨_, hk, .bool (b == c), by simp only [RepP], fun ox oy => by
        simp only [Sem.run_bind, eqGuard_bool, Result.andThen_ok]
        exact run_eql_bool w t b c (ht hb)⟩
    · obtain ⟨hb, hk⟩ := hK
      exact ⟨_, hk, .bool (!(b == c)), by simp only [RepP], fun ox oy => by
        simp only [Sem.run_bind, eqGuard_bool, Result.andThen_ok]
        exact run_neq_bool w t b c (ht hb)⟩
    · exact hK.elim
  · exact hK.elim

theorem does_bin {o : Oper} {k : Nat} {K : R → Prop} (h : Rel w0 nA nt M G ι0 A w S ι a) (hd : ∀ d, o.dst = some d → d < nt) {op : BinOp} {t t' : TypeId} {x y : Operand} (ho : o.op = .binOp op t x y t')
    (hK : binW P op t (Gl.opd S x) (Gl.opd S y) fun v => K ⟨.p v, [], []⟩) : Does P w0 nA nt M G ι0 A k o w S a K := by
  obtain ⟨z, hk, val, hv, hr⟩ := run_bin (h.opd x) (h.opd y) hK
  refine does_value h hd (v := .p z) (val := val) ?_ (by simp only [RepA]; exact hv) (by simp [AV.has]) hk
  have hrun := hr x y
  simp only [Sem.run_bind] at hrun
  simp only [execOp, ho, Sem.run_bind, Sem.run_pure]
  cases hX : Sem.run P (eqGuard op t x y (a.eval x) (a.eval y)) w with
  | halt _ _ => rw [hX] at hrun; simp [Result.andThen] at hrun
  | ok u w1 =>
    rw [hX] at hrun
    simp only [Result.andThen] at hrun ⊢
    rw [hrun]

theorem does_un {o : Oper} {k : Nat} {K : R → Prop} (h : Rel w0 nA nt M G ι0 A w S ι a) (hd : ∀ d, o.dst = some d → d < nt) {op : UnOp} {t : TypeId} {x : Operand} (ho : o.op = .unOp op t x)
    (hK : unW op (Gl.opd S x) fun v => K ⟨.p v, [], []⟩) : Does P w0 nA nt M G ι0 A k o w S a K := by
  have hx := h.opd x
  unfold unW at hK
  split at hK
  · rename_i b e
    rw [e] at hx
    have hx := rep_bool hx
    exact does_value h hd (val := .bool (!b)) (by simp [execOp, ho, hx, Op.unary]) (by simp only [RepA, RepP]) (by simp [AV.has]) hK
  · rename_i k' i e
    rw [e] at hx
    have hx := rep_int hx
    exact does_value h hd (val := .int k' (0 - i)) (by simp [execOp, ho, hx, Op.unary, Op.intArith]; rw [wrap_in]; simpa using hK.1) (by simp only [RepA, RepP]) (by simp [AV.has]) hK.2
  · exact hK.elim

end
end Go.Gl
