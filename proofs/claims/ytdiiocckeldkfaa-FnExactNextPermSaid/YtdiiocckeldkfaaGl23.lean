/-
  A program logic over the walk's rules: rules by which a goal is worked out. Conditions: none; each is a plain rewriting.
-/
import Derived.Test.YtdiiocckeldkfaaGl19
set_option linter.unusedSimpArgs false
set_option linter.unusedVariables false
namespace Go.Gl
open Go

/-! ### the checks of a whole body, once -/

def codeOk (nt : Nat) : Code → Bool
  | .region _ ops false => regOk nt ops
  | .region _ ops true => regOk nt ops && apartAll ops
  | .seq a b => codeOk nt a && codeOk nt b
  | .cond _ a b => codeOk nt a && codeOk nt b
  | .block _ c => codeOk nt c
  | .loop c => codeOk nt c
  | _ => true

section
variable {P : Program} {sg : FuncId → List Bool} {nt : Nat}

/-- What a piece of code comes to; the checks left out. -/
def wpv (P : Program) (sg : FuncId → List Bool) : Code → (Ex → St → Prop) → St → Prop
  | .skip, Q, S => Q .normal S
  | .region _ ops false, Q, S => opsW P sg ops S.n ops.toList 0 S fun S' => Q .normal (S'.nx (256 * ops.size))
  | .region _ ops true, Q, S => opsD P sg ops S.n ops.toList 0 S [] fun S' L => clearAll ops L ∧ Q .normal (S'.nx (256 * ops.size))
  | .seq a b, Q, S => wpv P sg a (fun ex S' => match ex with | .normal => wpv P sg b Q S' | ex => Q ex S') S
  | .cond c a b, Q, S => match opd S c with
    | .p (.bool t) => (t = true → wpv P sg a Q S) ∧ (t = false → wpv P sg b Q S)
    | _ => False
  | .block id c, Q, S => wpv P sg c (fun ex S' => match ex with | .exit j => if j = id then Q .normal S' else Q (.exit j) S' | ex => Q ex S') S
  | .loop c, Q, S => ∃ I : Nat → St → Prop, (∃ n, I n S) ∧ ∀ n S, I n S → wpv P sg c (fun ex S' => match ex with | .normal => ∃ m, m < n ∧ I m S' | ex => Q ex S') S
  | .exit id, Q, S => Q (.exit id) S
  | .ret, Q, S => Q .ret S
  | _, _, _ => False

theorem wp_mono : ∀ (c : Code) {Q Q' : Ex → St → Prop} {S : St}, (∀ ex S', Q ex S' → Q' ex S') → Gl.wp P sg nt c Q S → Gl.wp P sg nt c Q' S := by
  have opsM : ∀ {ops : Array Oper} {n0 : Nat} (os : List Oper) (i : Nat) (S : St) {K K' : St → Prop}, (∀ S, K S → K' S) → opsW P sg ops n0 os i S K → opsW P sg ops n0 os i S K' := by
    intro ops n0 os
    induction os with
    | nil => intro i S K K' h hk; exact h _ hk
    | cons o os ih =>
      intro i S K K' h hk
      simp only [opsW] at hk ⊢
      exact guardW_mono (fun hy => opW_mono hy fun r hr => ih _ _ h hr) (fun hn => ih _ _ h hn) hk
  have opsDM : ∀ {ops : Array Oper} {n0 : Nat} (os : List Oper) (i : Nat) (S : St) (L) {K K' : St → List (List (Nat × Blk) × List Nat) → Prop}, (∀ S L, K S L → K' S L) → opsD P sg ops n0 os i S L K → opsD P sg ops n0 os i S L K' := by
    intro ops n0 os
    induction os with
    | nil => intro i S L K K' h hk; exact h _ _ hk
    | cons o os ih =>
      intro i S L K K' h hk
      simp only [opsD] at hk ⊢
      exact guardW_mono (fun hy => opW_mono hy fun r hr => ih _ _ _ h hr) (fun hn => ih _ _ _ h hn) hk
  intro c
  induction c with
  | skip => intro Q Q' S h hw; exact h _ _ hw
  | exit id => intro Q Q' S h hw; exact h _ _ hw
  | ret => intro Q Q' S h hw; exact h _ _ hw
  | seq x y ihx ihy =>
    intro Q Q' S h hw
    refine ihx (fun ex S' hq => ?_) hw
    cases ex with
    | normal => exact ihy h hq
    | exit id => exact h _ _ hq
    | ret => exact h _ _ hq
  | cond c x y ihx ihy =>
    intro Q Q' S h hw
    simp only [Gl.wp] at hw ⊢
    split at hw
    · rename_i t e; exact ⟨fun ht => ihx h (hw.1 ht), fun ht => ihy h (hw.2 ht)⟩
    · exact hw.elim
  | block id c ih =>
    intro Q Q' S h hw
    refine ih (fun ex S' hq => ?_) hw
    cases ex with
    | normal => exact h _ _ hq
    | exit j =>
      simp only at hq ⊢
      split
      · rename_i e; rw [if_pos e] at hq; exact h _ _ hq
      · rename_i e; rw [if_neg e] at hq; exact h _ _ hq
    | ret => exact h _ _ hq
  | loop c ih =>
    intro Q Q' S h hw
    obtain ⟨I, hn, hs⟩ := hw
    refine ⟨I, hn, fun n S hI => ih (fun ex S' hq => ?_) (hs n S hI)⟩
    cases ex with
    | normal => exact hq
    | exit id => exact h _ _ hq
    | ret => exact h _ _ hq
  | region id ops d =>
    intro Q Q' S h hw
    cases d with
    | false => exact ⟨hw.1, opsM _ _ _ (fun S hq => h _ _ hq) hw.2⟩
    | true => exact ⟨hw.1, hw.2.1, opsDM _ _ _ _ (fun S L hq => ⟨hq.1, h _ _ hq.2⟩) hw.2.2⟩
  | rangeFunc => intro Q Q' S h hw; exact hw
  | scope => intro Q Q' S h hw; exact hw
  | label => intro Q Q' S h hw; exact hw
  | goto => intro Q Q' S h hw; exact hw
  | refuse => intro Q Q' S h hw; exact hw

theorem wp_of_wpv : ∀ (c : Code) {Q : Ex → St → Prop} {S : St}, codeOk nt c = true → wpv P sg c Q S → Gl.wp P sg nt c Q S := by
  intro c
  induction c with
  | skip => intro Q S _ hw; exact hw
  | exit id => intro Q S _ hw; exact hw
  | ret => intro Q S _ hw; exact hw
  | seq x y ihx ihy =>
    intro Q S h hw
    simp only [codeOk, Bool.and_eq_true] at h
    refine wp_mono x (fun ex S' hq => ?_) (ihx h.1 hw)
    cases ex with
    | normal => exact ihy h.2 hq
    | exit id => exact hq
    | ret => exact hq
  | cond c x y ihx ihy =>
    intro Q S h hw
    simp only [codeOk, Bool.and_eq_true] at h
    simp only [Gl.wp, wpv] at hw ⊢
    split at hw
    · rename_i t e; simp only [e]; exact ⟨fun ht => ihx h.1 (hw.1 ht), fun ht => ihy h.2 (hw.2 ht)⟩
    · exact hw.elim
  | block id c ih => intro Q S h hw; exact ih h hw
  | loop c ih =>
    intro Q S h hw
    obtain ⟨I, hn, hs⟩ := hw
    exact ⟨I, hn, fun n S hI => ih h (hs n S hI)⟩
  | region id ops d =>
    intro Q S h hw
    cases d with
    | false => exact ⟨h, hw⟩
    | true =>
      simp only [codeOk, Bool.and_eq_true] at h
      exact ⟨h.1, h.2, hw⟩
  | rangeFunc => intro Q S _ hw; exact hw
  | scope => intro Q S _ hw; exact hw
  | label => intro Q S _ hw; exact hw
  | goto => intro Q S _ hw; exact hw
  | refuse => intro Q S _ hw; exact hw

/-- The end of a body. -/
def FinE (as : List Arg) (ts : List Nat) (res : List PV) (ex : Ex) (S : St) : Prop :=
  match ex with
  | .exit _ => False
  | _ => Fin false S as [] (ts.map S.e) res

/-- A function's value contract by its body. -/
theorem Fun.of (hm : P.follows .mixedOrders = true) {f : FuncId} {args res : List PV} {fn : Func} {code : Code} {ts : List Nat}
    (hf : P.funcs[f]? = some fn) (hb : fn.body = some code) (hname : (fn.name == "runtime.NumGoroutine") = false) (hres : fn.results = ⟨ts.map .tmp⟩) (hargs : decide (args.length ≤ fn.ntmps) = true)
    (hck : codeOk fn.ntmps code = true) (hnr : noRoL res = true) (hro : resOk res = true)
    (hw : wpv P sg code (FinE (args.map .pv) ts res) (entry (args.map .pv))) : Fun P f args res :=
  CallT.of_wp hm hf hb hname hres (by rw [List.length_map]; exact of_decide_eq_true hargs) hnr hro rfl (wp_of_wpv _ hck hw)

/-- What is fixed while one operation is worked out. -/
class Dat where
  P : Program
  sg : FuncId → List Bool
  ops : Array Oper
  n0 : Nat
  os : List Oper
  i : Nat
  S : St
def opsI [D : Dat] (K : St → Prop) : Prop := opsW D.P D.sg D.ops D.n0 D.os D.i D.S K
def opsJ [D : Dat] (L : List (List (Nat × Blk) × List Nat)) (K : St → List (List (Nat × Blk) × List Nat) → Prop) : Prop := opsD D.P D.sg D.ops D.n0 D.os D.i D.S L K

/-! ### the control of a body -/

variable {Q : Ex → St → Prop} {S : St}

def seqQ (P : Program) (sg : FuncId → List Bool) (b : Code) (Q : Ex → St → Prop) (ex : Ex) (S' : St) : Prop := match ex with | .normal => wpv P sg b Q S' | ex => Q ex S'
def blkQ (id : Nat) (Q : Ex → St → Prop) (ex : Ex) (S' : St) : Prop := match ex with | .exit j => if j = id then Q .normal S' else Q (.exit j) S' | ex => Q ex S'
def lpQ (I : Nat → St → Prop) (n : Nat) (Q : Ex → St → Prop) (ex : Ex) (S' : St) : Prop := match ex with | .normal => ∃ m, m < n ∧ I m S' | ex => Q ex S'
theorem v_seq {a b : Code} (h : wpv P sg a (seqQ P sg b Q) S) : wpv P sg (.seq a b) Q S := h
theorem v_skip (h : Q .normal S) : wpv P sg .skip Q S := h
theorem v_exit {id : Nat} (h : Q (.exit id) S) : wpv P sg (.exit id) Q S := h
theorem v_ret (h : Q .ret S) : wpv P sg .ret Q S := h
theorem v_block {id : Nat} {c : Code} (h : wpv P sg c (blkQ id Q) S) : wpv P sg (.block id c) Q S := h
theorem q_seq_n {b : Code} (h : wpv P sg b Q S) : seqQ P sg b Q .normal S := h
theorem q_seq_e {b : Code} {id : Nat} (h : Q (.exit id) S) : seqQ P sg b Q (.exit id) S := h
theorem q_seq_r {b : Code} (h : Q .ret S) : seqQ P sg b Q .ret S := h
theorem q_blk_n {id : Nat} (h : Q .normal S) : blkQ id Q .normal S := h
theorem q_blk_r {id : Nat} (h : Q .ret S) : blkQ id Q .ret S := h
theorem q_blk_s {id : Nat} (h : Q .normal S) : blkQ id Q (.exit id) S := by simp only [blkQ, if_true]; exact h
theorem q_blk_o {id j : Nat} (e : (j == id) = false) (h : Q (.exit j) S) : blkQ id Q (.exit j) S := by
  have : j ≠ id := by simpa using e
  simp only [blkQ, if_neg this]; exact h
theorem q_lp_e {I : Nat → St → Prop} {n id : Nat} (h : Q (.exit id) S) : lpQ I n Q (.exit id) S := h
theorem q_lp_r {I : Nat → St → Prop} {n : Nat} (h : Q .ret S) : lpQ I n Q .ret S := h
theorem q_lp_n {I : Nat → St → Prop} {n : Nat} (m : Nat) (hm : m < n) (h : I m S) : lpQ I n Q .normal S := ⟨m, hm, h⟩
theorem v_cond {c : Operand} {x y : Code} {t : Bool} (e : opd S c = .p (.bool t)) (h1 : t = true → wpv P sg x Q S) (h2 : t = false → wpv P sg y Q S) : wpv P sg (.cond c x y) Q S := by
  simp only [wpv, e]; exact ⟨h1, h2⟩
theorem v_loop {c : Code} (I : Nat → St → Prop) (n : Nat) (h : I n S) (hs : ∀ n S, I n S → wpv P sg c (lpQ I n Q) S) : wpv P sg (.loop c) Q S := ⟨I, ⟨n, h⟩, hs⟩
theorem v_region {id : Nat} {ops : Array Oper} {os : List Oper} {n : Nat} (e : ops.toList = os) (en : 256 * ops.size = n) (h : ∀ K : St → Prop, (∀ S', Q .normal (S'.nx n) → K S') → @opsI ⟨P, sg, ops, S.n, os, 0, S⟩ K) : wpv P sg (.region id ops false) Q S := by
  subst e; subst en; exact h _ fun S' hq => hq
theorem v_draws {id : Nat} {ops : Array Oper} {os : List Oper} {n : Nat} (e : ops.toList = os) (en : 256 * ops.size = n) (h : ∀ K : St → List (List (Nat × Blk) × List Nat) → Prop, (∀ S' L, clearAll ops L → Q .normal (S'.nx n) → K S' L) → @opsJ ⟨P, sg, ops, S.n, os, 0, S⟩ [] K) : wpv P sg (.region id ops true) Q S := by
  subst e; subst en; exact h _ fun S' L hc hq => ⟨hc, hq⟩

/-- A condition looked at. -/
def cdW (v : AV) (A B : Prop) : Prop :=
  match v with
  | .p (.bool t) => (t = true → A) ∧ (t = false → B)
  | _ => False
theorem cd_bool {t : Bool} {A B : Prop} : cdW (.p (.bool t)) A B = ((t = true → A) ∧ (t = false → B)) := _root_.id rfl
theorem cd_true {A B : Prop} : cdW (.p (.bool true)) A B = A := by simp [cdW]
theorem cd_false {A B : Prop} : cdW (.p (.bool false)) A B = B := by simp [cdW]
theorem v_if {c : Operand} {x y : Code} (h : ∀ A B : Prop, (wpv P sg x Q S → A) → (wpv P sg y Q S → B) → cdW (opd S c) A B) : wpv P sg (.cond c x y) Q S := by
  have := h _ _ id id
  simp only [wpv, cdW] at this ⊢
  exact this

/-- A result that is a plain value. -/
def plainP : PV → Bool
  | .sl .own _ | .sl .fr _ | .agg _ => false
  | _ => true
theorem fin_plain {as : List Arg} {t : Nat} {x : PV} (hx : plainP x = true) (h : S.e t = .p x) : Fin false S as [] [S.e t] [x] := by
  have e : ∀ K, K [] → fin false S.h as.length (S.e t) x K := fun K hK => by
    rw [h]
    cases x with
    | sl o xs => cases o with
      | ro => exact ⟨rfl, hK⟩
      | fr => simp [plainP] at hx
      | own => simp [plainP] at hx
    | agg xs => simp [plainP] at hx
    | _ => exact ⟨rfl, hK⟩
  refine e _ ⟨by simp, fun j _ => ?_⟩
  split
  · rename_i h; simp at h
  · trivial
theorem v_end {as : List Arg} {t : Nat} {x : PV} (hx : plainP x = true) (h : S.e t = .p x) : FinE as [t] [x] .ret S := fin_plain hx h
theorem v_end' {as : List Arg} {t : Nat} {x : PV} (hx : plainP x = true) (h : S.e t = .p x) : FinE as [t] [x] .normal S := fin_plain hx h
theorem v_end0 {as : List Arg} : FinE as [] [] .ret S := by
  refine ⟨by simp, fun j _ => ?_⟩
  split
  · rename_i h; simp at h
  · trivial
theorem v_end0' {as : List Arg} : FinE as [] [] .normal S := v_end0

theorem clearAll_quiet {ops : Array Oper} {L : List (List (Nat × Blk) × List Nat)} (h : (L.map (·.1)).all List.isEmpty = true) : clearAll ops L := by
  have key : ∀ i, (L.getD i ([], [])).1 = [] := fun i => by
    rw [List.getD_eq_getElem?_getD]
    cases hi : L[i]? with
    | none => rfl
    | some p =>
      have := List.all_eq_true.1 h p.1 (List.mem_map.2 ⟨p, List.mem_of_getElem? hi, rfl⟩)
      simpa using this
  intro j _ i _
  right
  unfold clear
  rw [key i, key j]
  simp

/-! ### the working out of a region -/

/-- What comes behind an operation. -/
def Nx [D : Dat] (d : Option Nat) (K : St → Prop) : R → Prop :=
  fun r => opsW D.P D.sg D.ops D.n0 D.os (D.i + 1) (D.S.app d r) K
def Dx [D : Dat] (d : Option Nat) (L : List (List (Nat × Blk) × List Nat)) (K : St → List (List (Nat × Blk) × List Nat) → Prop) : R → Prop :=
  fun r => opsD D.P D.sg D.ops D.n0 D.os (D.i + 1) (D.S.app d r) (L ++ [(r.ws, r.rd)]) K
def KV (K : R → Prop) (v : PV) : Prop := K ⟨.p v, [], []⟩
def KW (K : R → Prop) (v : AV) : Prop := K ⟨v, [], []⟩
def KA (k : Nat) (K : R → Prop) (v : AV) : Prop := arr k v K

variable {ops : Array Oper} {n0 i k : Nat} {os : List Oper} {d : Option Nat} {K : St → Prop} {KD : St → List (List (Nat × Blk) × List Nat) → Prop} {L : List (List (Nat × Blk) × List Nat)} {op : Op} {ty : TypeId} {ps : String} {af : Array Edge} {C : R → Prop}

/-- A guard looked at: the slot that it asks. -/
def gd (ops : Array Oper) (S : St) (j : Nat) : AV := match (ops[j]?).bind (·.dst) with | some d => S.e d | none => .p .any
theorem gdW_eq {S : St} {j : Nat} {want : Bool} {yes no : Prop} {o : Oper} (hg : o.guard = some (j, want)) : guardW ops S o yes no = gdW (gd ops S j) want yes no := by
  unfold guardW gd gdW
  simp only [hg]
  cases (ops[j]?).bind (·.dst) <;> rfl
/-- A guarded operation: the guard's value first. -/
def gI [D : Dat] (v : AV) (want : Bool) (d : Option Nat) (op : Op) (K : St → Prop) : Prop :=
  gdW v want (opW D.P D.sg (opd D.S) D.S.h (num D.n0 D.i) op (Nx d K)) (opsW D.P D.sg D.ops D.n0 D.os (D.i + 1) (D.S.puto d (.tup [])) K)
def gJ [D : Dat] (v : AV) (want : Bool) (d : Option Nat) (op : Op) (L : List (List (Nat × Blk) × List Nat)) (K : St → List (List (Nat × Blk) × List Nat) → Prop) : Prop :=
  gdW v want (opW D.P D.sg (opd D.S) D.S.h (num D.n0 D.i) op (Dx d L K)) (opsD D.P D.sg D.ops D.n0 D.os (D.i + 1) (D.S.puto d (.tup [])) (L ++ [([], [])]) K)

theorem r_nil : @opsI ⟨P, sg, ops, n0, [], i, S⟩ K = K S := _root_.id rfl
theorem r_cons : @opsI ⟨P, sg, ops, n0, ⟨d, op, ty, ps, af, none⟩ :: os, i, S⟩ K = opW P sg (opd S) S.h (num n0 i) op (@Nx ⟨P, sg, ops, n0, os, i, S⟩ d K) := _root_.id rfl
theorem r_guard {j : Nat} {want : Bool} : @opsI ⟨P, sg, ops, n0, ⟨d, op, ty, ps, af, some (j, want)⟩ :: os, i, S⟩ K = @gI ⟨P, sg, ops, n0, os, i, S⟩ (gd ops S j) want d op K :=
  gdW_eq (o := ⟨d, op, ty, ps, af, some (j, want)⟩) rfl
theorem r_nx {r : R} : @Nx ⟨P, sg, ops, n0, os, i, S⟩ d K r = @opsI ⟨P, sg, ops, n0, os, i + 1, S.app d r⟩ K := _root_.id rfl
theorem d_nil : @opsJ ⟨P, sg, ops, n0, [], i, S⟩ L KD = KD S L := _root_.id rfl
theorem d_cons : @opsJ ⟨P, sg, ops, n0, ⟨d, op, ty, ps, af, none⟩ :: os, i, S⟩ L KD = opW P sg (opd S) S.h (num n0 i) op (@Dx ⟨P, sg, ops, n0, os, i, S⟩ d L KD) := _root_.id rfl
theorem d_guard {j : Nat} {want : Bool} : @opsJ ⟨P, sg, ops, n0, ⟨d, op, ty, ps, af, some (j, want)⟩ :: os, i, S⟩ L KD = @gJ ⟨P, sg, ops, n0, os, i, S⟩ (gd ops S j) want d op L KD :=
  gdW_eq (o := ⟨d, op, ty, ps, af, some (j, want)⟩) rfl
theorem d_nx {v : AV} {ws : List (Nat × Blk)} {rd : List Nat} : @Dx ⟨P, sg, ops, n0, os, i, S⟩ d L KD ⟨v, ws, rd⟩ = @opsJ ⟨P, sg, ops, n0, os, i + 1, S.app d ⟨v, ws, rd⟩⟩ (L ++ [(ws, rd)]) KD := _root_.id rfl
theorem gW_bool {b want : Bool} {yes no : Prop} : gdW (.p (.bool b)) want yes no = ((b = want → yes) ∧ (b = !want → no)) := by
  cases b <;> cases want <;> simp [gdW]
theorem gI_un {want : Bool} : @gI ⟨P, sg, ops, n0, os, i, S⟩ (.tup []) want d op K = @opsI ⟨P, sg, ops, n0, os, i + 1, S.puto d (.tup [])⟩ K := by simp [gI, gdW, opsI]
theorem gJ_un {want : Bool} : @gJ ⟨P, sg, ops, n0, os, i, S⟩ (.tup []) want d op L KD = @opsJ ⟨P, sg, ops, n0, os, i + 1, S.puto d (.tup [])⟩ (L ++ [([], [])]) KD := by simp [gJ, gdW, opsJ]
theorem gI_tt : @gI ⟨P, sg, ops, n0, os, i, S⟩ (.p (.bool true)) true d op K = opW P sg (opd S) S.h (num n0 i) op (@Nx ⟨P, sg, ops, n0, os, i, S⟩ d K) := by simp [gI, gdW]
theorem gI_ff : @gI ⟨P, sg, ops, n0, os, i, S⟩ (.p (.bool false)) false d op K = opW P sg (opd S) S.h (num n0 i) op (@Nx ⟨P, sg, ops, n0, os, i, S⟩ d K) := by simp [gI, gdW]
theorem gI_tf : @gI ⟨P, sg, ops, n0, os, i, S⟩ (.p (.bool true)) false d op K = @opsI ⟨P, sg, ops, n0, os, i + 1, S.puto d (.tup [])⟩ K := by simp [gI, gdW, opsI]
theorem gI_ft : @gI ⟨P, sg, ops, n0, os, i, S⟩ (.p (.bool false)) true d op K = @opsI ⟨P, sg, ops, n0, os, i + 1, S.puto d (.tup [])⟩ K := by simp [gI, gdW, opsI]
theorem gI_bool {b want : Bool} : @gI ⟨P, sg, ops, n0, os, i, S⟩ (.p (.bool b)) want d op K = ((b = want → opW P sg (opd S) S.h (num n0 i) op (@Nx ⟨P, sg, ops, n0, os, i, S⟩ d K)) ∧ (b = !want → @opsI ⟨P, sg, ops, n0, os, i + 1, S.puto d (.tup [])⟩ K)) := gW_bool
theorem gJ_tt : @gJ ⟨P, sg, ops, n0, os, i, S⟩ (.p (.bool true)) true d op L KD = opW P sg (opd S) S.h (num n0 i) op (@Dx ⟨P, sg, ops, n0, os, i, S⟩ d L KD) := by simp [gJ, gdW]
theorem gJ_ff : @gJ ⟨P, sg, ops, n0, os, i, S⟩ (.p (.bool false)) false d op L KD = opW P sg (opd S) S.h (num n0 i) op (@Dx ⟨P, sg, ops, n0, os, i, S⟩ d L KD) := by simp [gJ, gdW]
theorem gJ_tf : @gJ ⟨P, sg, ops, n0, os, i, S⟩ (.p (.bool true)) false d op L KD = @opsJ ⟨P, sg, ops, n0, os, i + 1, S.puto d (.tup [])⟩ (L ++ [([], [])]) KD := by simp [gJ, gdW, opsJ]
theorem gJ_ft : @gJ ⟨P, sg, ops, n0, os, i, S⟩ (.p (.bool false)) true d op L KD = @opsJ ⟨P, sg, ops, n0, os, i + 1, S.puto d (.tup [])⟩ (L ++ [([], [])]) KD := by simp [gJ, gdW, opsJ]
theorem gJ_bool {b want : Bool} : @gJ ⟨P, sg, ops, n0, os, i, S⟩ (.p (.bool b)) want d op L KD = ((b = want → opW P sg (opd S) S.h (num n0 i) op (@Dx ⟨P, sg, ops, n0, os, i, S⟩ d L KD)) ∧ (b = !want → @opsJ ⟨P, sg, ops, n0, os, i + 1, S.puto d (.tup [])⟩ (L ++ [([], [])]) KD)) := gW_bool
theorem r_kv {v : PV} : KV C v = C ⟨.p v, [], []⟩ := _root_.id rfl
theorem r_kw {v : AV} : KW C v = C ⟨v, [], []⟩ := _root_.id rfl
theorem r_ka {v : AV} : KA k C v = arr k v C := _root_.id rfl

variable {rd : List Nat}
theorem n_i64 {n : Int} : inR .i64 n = (-9223372036854775808 ≤ n ∧ n ≤ 9223372036854775807) := by
  simp only [inR]; rfl
theorem r_app {n : Nat} {v : AV} : S.app (some n) ⟨v, [], rd⟩ = S.put n v := _root_.id rfl
theorem r_app0 {v : AV} : S.app none ⟨v, [], rd⟩ = S := _root_.id rfl
theorem r_appw {n : Nat} {v : AV} {w : Nat × Blk} {ws : List (Nat × Blk)} : S.app (some n) ⟨v, w :: ws, rd⟩ = (S.put n v).hws (w :: ws) := _root_.id rfl
theorem r_appw0 {v : AV} {w : Nat × Blk} {ws : List (Nat × Blk)} : S.app none ⟨v, w :: ws, rd⟩ = S.hws (w :: ws) := _root_.id rfl
theorem r_puto {n : Nat} {v : AV} : S.puto (some n) v = S.put n v := _root_.id rfl
theorem e_entry {as : List Arg} {t : Nat} : (entry as).e t = (argAVs 0 as).getD t (.p .any) := _root_.id rfl
theorem h_entry {as : List Arg} : (entry as).h = argH as := _root_.id rfl
theorem n_entry {as : List Arg} : (entry as).n = as.length := _root_.id rfl
theorem e_put {n : Nat} {v : AV} {t : Nat} : (S.put n v).e t = if t = n then v else S.e t := _root_.id rfl
theorem e_hws {l : List (Nat × Blk)} : (S.hws l).e = S.e := _root_.id rfl
theorem e_nx {n : Nat} : (S.nx n).e = S.e := _root_.id rfl
theorem h_put {n : Nat} {v : AV} : (S.put n v).h = S.h := _root_.id rfl
theorem h_hws {l : List (Nat × Blk)} : (S.hws l).h = hwsH S.h l := _root_.id rfl
theorem h_nx {n : Nat} : (S.nx n).h = S.h := _root_.id rfl
theorem n_put {n : Nat} {v : AV} : (S.put n v).n = S.n := _root_.id rfl
theorem n_hws {l : List (Nat × Blk)} : (S.hws l).n = S.n := _root_.id rfl
theorem n_nx {n : Nat} : (S.nx n).n = S.n + n := _root_.id rfl
theorem o_tmp {t : Nat} : opd S (.tmp t) = S.e t := _root_.id rfl
theorem o_const {v : Value} : opd S (.const v) = .p (ofConst v) := _root_.id rfl
theorem o_func {f : FuncId} : opd S (.func f) = .p (.fn f [] []) := _root_.id rfl
theorem c_int {kd : IntKind} {n : Int} : ofConst (.int kd n) = .int kd n := _root_.id rfl
theorem c_bool {b : Bool} : ofConst (.bool b) = .bool b := _root_.id rfl
theorem c_str {s : ByteArray} : ofConst (.string s) = .str s.data.toList := _root_.id rfl
theorem c_nils : ofConst (.slice none 0 0) = .sl .own [] := _root_.id rfl
theorem c_nilf : ofConst .nilFunc = .nilf := _root_.id rfl

variable {ρ : Operand → AV} {h : Nat → Blk} {t t' t'' : TypeId} {x y z : Operand}
theorem w_opb {op : Op} (hs : wayE sg = false) : opW P sg ρ h k op C = opB P sg ρ h k op C := by simp [opW, hs]
theorem w_move : opB P sg ρ h k (.move x) C = arr k (ρ x) C := _root_.id rfl
theorem w_assign : opB P sg ρ h k (.assign x) C = arr k (ρ x) C := _root_.id rfl
theorem w_pick : opB P sg ρ h k (.pick x y z) C = pickW (ρ x) (ρ y) (ρ z) (KA k C) := _root_.id rfl
theorem w_bin {b : BinOp} : opB P sg ρ h k (.binOp b t x y t') C = binW P b t (ρ x) (ρ y) (KV C) := _root_.id rfl
theorem w_un {b : UnOp} : opB P sg ρ h k (.unOp b t x) C = unW b (ρ x) (KV C) := _root_.id rfl
theorem w_conv : opB P sg ρ h k (.convert t t' x) C = convW P t t' k h (ρ x) C := _root_.id rfl
theorem w_make : opB P sg ρ h k (.makeSlice t x y) C = makeW P t k (ρ x) (ρ y) C := _root_.id rfl
theorem w_addr : opB P sg ρ h k (.indexAddr t x y) C = indexAddrW P t (ρ x) (ρ y) (KW C) := _root_.id rfl
theorem w_index : opB P sg ρ h k (.index t x y) C = indexW P t (ρ x) (ρ y) (KW C) := _root_.id rfl
theorem w_load : opB P sg ρ h k (.load t x) C = loadW P t h (ρ x) C := _root_.id rfl
theorem w_store : opB P sg ρ h k (.store t x y) C = storeW P t h (ρ x) (ρ y) C := _root_.id rfl
theorem w_alloc : opB P sg ρ h k (.alloc t) C = allocW P t k C := _root_.id rfl
theorem w_box : opB P sg ρ h k (.box t x) C = boxW h k (ρ x) C := _root_.id rfl
theorem w_field {f : Nat} : opB P sg ρ h k (.field t x f) C = fieldW P t f (ρ x) (KA k C) := _root_.id rfl
theorem w_fieldAddr {f : Nat} : opB P sg ρ h k (.fieldAddr t x f) C = fieldAddrW P t f (ρ x) (KW C) := _root_.id rfl
/-- A call: its callee worked out. -/
def callG (P : Program) (sg : FuncId → List Bool) (h : Nat → Blk) (k : Nat) (v : AV) (vs : List AV) (C : R → Prop) : Prop :=
  match v with
  | .p (.fn g first caps) => callW P sg h k g (first.map .p ++ vs ++ caps.map .p) C
  | .fn g first caps => callW P sg h k g (first ++ vs ++ caps) C
  | _ => False
/-- The call itself: its contract is asked for. -/
def Pk (P : Program) (h : Nat → Blk) (k : Nat) (f : FuncId) (C : R → Prop) : List Arg → List Nat → List (Option Nat) → Prop :=
  fun as rd ms => lentOk ms rd ∧ ∃ tk outs res, CallT P tk f as outs res ∧ C ⟨impAll k res, outWs h outs 0 ms ++ impWs tk k res, ms.filterMap id ++ rd⟩
/-- A call whose arguments are all read. -/
def PkX (P : Program) (h : Nat → Blk) (k : Nat) (f : FuncId) (C : R → Prop) : List PV → List Nat → Prop :=
  fun xs rd => Pk P h k f C (xs.map .pv) rd (xs.map fun _ => none)
def puG (h : Nat → Blk) : List AV → (List PV → List Nat → Prop) → Prop
  | [], F => F [] []
  | v :: vs, F => pur h v fun x rd => puG h vs fun xs rd' => F (x :: xs) (rd ++ rd')
theorem pass_pu {h : Nat → Blk} : ∀ {vs : List AV} {F : List Arg → List Nat → List (Option Nat) → Prop}, pass h [] vs F = puG h vs fun xs rd => F (xs.map .pv) rd (xs.map fun _ => none)
  | [], _ => rfl
  | v :: vs, F => by
    simp only [pass, puG, List.tail_nil]
    congr 1; funext x rd
    rw [pass_pu]
    rfl
/-- One argument more. -/
def UA (F : List PV → List Nat → Prop) (x : PV) (rd : List Nat) : List PV → List Nat → Prop :=
  fun xs rd' => F (x :: xs) (rd ++ rd')
def UN (h : Nat → Blk) (vs : List AV) (F : List PV → List Nat → Prop) (x : PV) (rd : List Nat) : Prop := puG h vs (UA F x rd)
/-- A slice that is read: by its block. -/
def refG (b : Blk) (id off len : Nat) (F : PV → List Nat → Prop) : Prop :=
  match b with
  | .live _ c => off + len ≤ c.length ∧ F (.sl .ro ((c.drop off).take len)) [id]
  | .froz m c => off + len ≤ c.length ∧ F (.sl (.lent m) ((c.drop off).take len)) [id]
  | .dead => False
theorem w_call {f : Operand} {args : List Operand} {ts : Array TypeId} : opB P sg ρ h k (.call { callee := .value f, args := ⟨args⟩, argTypes := ts }) C = callG P sg h k (ρ f) (args.map ρ) C := by
  simp only [opB]; rfl
theorem g_fn {g : FuncId} {vs : List AV} : callG P sg h k (.p (.fn g [] [])) vs C = pass h (sg g) vs (Pk P h k g C) := by
  simp only [callG, callW, List.map_nil, List.nil_append, List.append_nil]; rfl
theorem q_all {f : FuncId} {vs : List AV} : pass h [] vs (Pk P h k f C) = puG h vs (PkX P h k f C) := pass_pu
theorem q_nil {F : List PV → List Nat → Prop} : puG h [] F = F [] [] := _root_.id rfl
theorem q_p {x : PV} {vs : List AV} {F : List PV → List Nat → Prop} : puG h (.p x :: vs) F = puG h vs (UA F x.cell []) := _root_.id rfl
theorem q_ref {id off len : Nat} {vs : List AV} {F : List PV → List Nat → Prop} : puG h (.ref id off len :: vs) F = refG (h id) id off len (UN h vs F) := by
  simp only [puG, pur, pur1, refG]; cases h id <;> rfl
theorem q_ua {F : List PV → List Nat → Prop} {x : PV} {rd rd' : List Nat} {xs : List PV} : UA F x rd xs rd' = F (x :: xs) (rd ++ rd') := _root_.id rfl
theorem q_un {F : List PV → List Nat → Prop} {x : PV} {rd : List Nat} {vs : List AV} : UN h vs F x rd = puG h vs (UA F x rd) := _root_.id rfl
theorem q_live {m : Bool} {c : List PV} {id off len : Nat} {F : PV → List Nat → Prop} : refG (.live m c) id off len F = (off + len ≤ c.length ∧ F (.sl (.lent true) ((c.drop off).take len)) [id]) := _root_.id rfl
theorem q_froz {m : Bool} {c : List PV} {id off len : Nat} {F : PV → List Nat → Prop} : refG (.froz m c) id off len F = (off + len ≤ c.length ∧ F (.sl (.lent m) ((c.drop off).take len)) [id]) := _root_.id rfl
theorem v_call {f : FuncId} {xs res : List PV} {rd : List Nat} (hf : Fun P f xs res) (hc : C ⟨impAll k res, impWs false k res, rd⟩) : PkX P h k f C xs rd := by
  have hm : ∀ (l : List PV), (l.map fun _ => (none : Option Nat)).filterMap id = [] := fun l => by
    rw [List.filterMap_eq_nil_iff]; intro a ha; obtain ⟨_, _, rfl⟩ := List.mem_map.1 ha; rfl
  have ho : ∀ (l : List PV) (j : Nat), outWs h [] j (l.map fun _ => (none : Option Nat)) = [] := fun l => by
    induction l with
    | nil => intro j; rfl
    | cons x l ih => intro j; exact ih (j + 1)
  refine ⟨⟨by rw [hm]; exact List.nodup_nil, by rw [hm]; simp⟩, false, [], res, hf, ?_⟩
  rw [hm, ho]; exact hc
theorem cell_int {kd : IntKind} {n : Int} : (PV.int kd n).cell = .int kd n := _root_.id rfl
theorem cell_bool {b : Bool} : (PV.bool b).cell = .bool b := _root_.id rfl
theorem cell_str {s : List UInt8} : (PV.str s).cell = .str s := _root_.id rfl
theorem cell_lent {m : Bool} {s : List PV} : (PV.sl (.lent m) s).cell = .sl (.lent m) s := by cases m <;> rfl
theorem cell_own {s : List PV} : (PV.sl .own s).cell = .sl (.lent false) [] := _root_.id rfl
theorem cell_agg {s : List PV} : (PV.agg s).cell = .agg s := _root_.id rfl
theorem cell_fn {f : FuncId} {a b : List PV} : (PV.fn f a b).cell = .fn f a b := _root_.id rfl
theorem cell_nilf : PV.nilf.cell = .nilf := _root_.id rfl

/-- A value that is no slice of the call's own: it stays as it is. -/
theorem a_int {kd : IntKind} {n : Int} : arr k (.p (.int kd n)) C = C ⟨.p (.int kd n), [], []⟩ := _root_.id rfl
theorem a_bool {b : Bool} : arr k (.p (.bool b)) C = C ⟨.p (.bool b), [], []⟩ := _root_.id rfl
theorem a_str {s : List UInt8} : arr k (.p (.str s)) C = C ⟨.p (.str s), [], []⟩ := _root_.id rfl
theorem a_lent {m : Bool} {s : List PV} : arr k (.p (.sl (.lent m) s)) C = C ⟨.p (.sl (.lent m) s), [], []⟩ := by cases m <;> rfl
theorem a_own {s : List PV} : arr k (.p (.sl .own s)) C = C ⟨.ref k 0 s.length, [(k, .live false s)], []⟩ := _root_.id rfl
theorem a_agg {s : List PV} : arr k (.p (.agg s)) C = C ⟨.p (.agg s), [], []⟩ := _root_.id rfl
theorem a_fn {f : FuncId} {a b : List PV} : arr k (.p (.fn f a b)) C = C ⟨.p (.fn f a b), [], []⟩ := _root_.id rfl
theorem a_nilf : arr k (.p .nilf) C = C ⟨.p .nilf, [], []⟩ := _root_.id rfl
theorem a_pc {s : List PV} : arr k (.p (.pc s)) C = C ⟨.p (.pc s), [], []⟩ := _root_.id rfl
theorem a_any : arr k (.p .any) C = C ⟨.p .any, [], []⟩ := _root_.id rfl
theorem a_ref {a b c : Nat} : arr k (.ref a b c) C = C ⟨.ref a b c, [], []⟩ := _root_.id rfl
theorem a_ptr {a b : Nat} : arr k (.ptr a b) C = C ⟨.ptr a b, [], []⟩ := _root_.id rfl
theorem a_aggA {s : List AV} : arr k (.agg s) C = C ⟨.agg s, [], []⟩ := _root_.id rfl
theorem a_tup {s : List AV} : arr k (.tup s) C = C ⟨.tup s, [], []⟩ := _root_.id rfl
theorem a_fnA {f : FuncId} {a b : List AV} : arr k (.fn f a b) C = C ⟨.fn f a b, [], []⟩ := _root_.id rfl

variable {A : AV → Prop} {V : PV → Prop} {kd kd' : IntKind} {m n : Int} {b b' : Bool} {s s' : List UInt8} {v v' : AV}
theorem p_bool {c : Bool} : pickW (.p (.bool b)) (.p (.bool b')) (.p (.bool c)) A = A (.p (.bool (bif b then b' else c))) := _root_.id rfl
theorem p_true : pickW (.p (.bool true)) v v' A = A v := by
  unfold pickW; simp only []
  split <;> rfl
theorem p_false : pickW (.p (.bool false)) v v' A = A v' := by
  unfold pickW; simp only []
  split <;> rfl
theorem b_add : binW P .add t (.p (.int kd m)) (.p (.int kd' n)) V = (kd = kd' ∧ inR kd (m + n) ∧ V (.int kd (m + n))) := _root_.id rfl
theorem b_sub : binW P .sub t (.p (.int kd m)) (.p (.int kd' n)) V = (kd = kd' ∧ inR kd (m - n) ∧ V (.int kd (m - n))) := _root_.id rfl
theorem b_mul : binW P .mul t (.p (.int kd m)) (.p (.int kd' n)) V = (kd = kd' ∧ inR kd (m * n) ∧ V (.int kd (m * n))) := _root_.id rfl
theorem b_quo : binW P .quo t (.p (.int kd m)) (.p (.int kd' n)) V = (kd = kd' ∧ n ≠ 0 ∧ inR kd (m.tdiv n) ∧ V (.int kd (m.tdiv n))) := _root_.id rfl
theorem b_rem : binW P .rem t (.p (.int kd m)) (.p (.int kd' n)) V = (kd = kd' ∧ n ≠ 0 ∧ V (.int kd (m.tmod n))) := _root_.id rfl
theorem b_shl : binW P .shl t (.p (.int kd m)) (.p (.int kd' n)) V = (0 ≤ n ∧ n < kd.bits ∧ inR kd (m * 2 ^ n.toNat) ∧ V (.int kd (m * 2 ^ n.toNat))) := _root_.id rfl
theorem b_shr : binW P .shr t (.p (.int kd m)) (.p (.int kd' n)) V = (0 ≤ n ∧ n < kd.bits ∧ V (.int kd (m.fdiv (2 ^ n.toNat)))) := _root_.id rfl
theorem b_and : binW P .and t (.p (.int kd m)) (.p (.int kd' n)) V = (kd = kd' ∧ 0 ≤ m ∧ 0 ≤ n ∧ inR kd m ∧ inR kd n ∧ V (.int kd ((m.toNat &&& n.toNat : Nat) : Int))) := _root_.id rfl
theorem b_eql : binW P .eql t (.p (.int kd m)) (.p (.int kd' n)) V = (kd = kd' ∧ V (.bool (decide (m = n)))) := _root_.id rfl
theorem b_neq : binW P .neq t (.p (.int kd m)) (.p (.int kd' n)) V = (kd = kd' ∧ V (.bool (!decide (m = n)))) := _root_.id rfl
theorem b_lss : binW P .lss t (.p (.int kd m)) (.p (.int kd' n)) V = (kd = kd' ∧ V (.bool (decide (m < n)))) := _root_.id rfl
theorem b_leq : binW P .leq t (.p (.int kd m)) (.p (.int kd' n)) V = (kd = kd' ∧ V (.bool (decide (m ≤ n)))) := _root_.id rfl
theorem b_gtr : binW P .gtr t (.p (.int kd m)) (.p (.int kd' n)) V = (kd = kd' ∧ V (.bool (decide (n < m)))) := _root_.id rfl
theorem b_geq : binW P .geq t (.p (.int kd m)) (.p (.int kd' n)) V = (kd = kd' ∧ V (.bool (decide (n ≤ m)))) := _root_.id rfl
theorem s_add : binW P .add t (.p (.str s)) (.p (.str s')) V = (s.length + s'.length ≤ 2 ^ 60 ∧ V (.str (s ++ s'))) := _root_.id rfl
theorem s_eql : binW P .eql t (.p (.str s)) (.p (.str s')) V = V (.bool (decide (s = s'))) := _root_.id rfl
theorem s_neq : binW P .neq t (.p (.str s)) (.p (.str s')) V = V (.bool (!decide (s = s'))) := _root_.id rfl
theorem s_lss : binW P .lss t (.p (.str s)) (.p (.str s')) V = V (.bool (lexLt s s')) := _root_.id rfl
theorem l_eql : binW P .eql t (.p (.bool b)) (.p (.bool b')) V = (boolT P t = true ∧ V (.bool (b == b'))) := _root_.id rfl
theorem l_neq : binW P .neq t (.p (.bool b)) (.p (.bool b')) V = (boolT P t = true ∧ V (.bool (!(b == b')))) := _root_.id rfl
theorem u_not : unW .not (.p (.bool b)) V = V (.bool (!b)) := _root_.id rfl
theorem u_neg : unW .neg (.p (.int kd m)) V = (inR kd (0 - m) ∧ V (.int kd (0 - m))) := _root_.id rfl

end
end Go.Gl
