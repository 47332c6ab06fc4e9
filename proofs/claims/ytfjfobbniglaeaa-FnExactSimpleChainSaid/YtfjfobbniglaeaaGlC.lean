/-
 A program logic over the walk's rules, joined: the rules by which a goal is worked out. Conditions: those that each lemma names.
-/
import Derived.Test.YtfjfobbniglaeaaGlB
import Derived.Below
import Derived.LaidMore
import Derived.OpenShut
import Derived.Lib.SmallJoins
import Derived.Laws.AppendOwn
set_option linter.unusedSimpArgs false
set_option linter.unusedVariables false
set_option linter.unusedSectionVars false
set_option linter.unusedSimpArgs false
set_option linter.unusedVariables false
namespace Go.Gl
open Go
variable [Amb]
/-! ### the checks of a whole body, once -/
def codeOk (nt : Nat) : Code → Bool
 | .region _ ops false => regOk nt ops
 | .region _ ops true => regOk nt ops && apartAll ops
 | .seq a b => codeOk nt a && codeOk nt b
 | .cond _ a b => codeOk nt a && codeOk nt b
 | .block _ c => codeOk nt c
 | .loop c => codeOk nt c
 | _ => true
section
variable {P : Program} {sg : FuncId → List Bool} {nt : Nat}
/-- What a piece of code comes to; the checks left out. -/
def wpv (P : Program) (sg : FuncId → List Bool) : Code → (Ex → St → Prop) → St → Prop
 | .skip, Q, S => Q .normal S
 | .region _ ops false, Q, S => opsW P sg ops S.n ops.toList 0 S fun S' => Q .normal (S'.nx (256 * ops.size))
 | .region _ ops true, Q, S => opsD P sg ops S.n ops.toList 0 S [] fun S' L => clearAll ops L ∧ Q .normal (S'.nx (256 * ops.size))
 | .seq a b, Q, S => wpv P sg a (fun ex S' => match ex with | .normal => wpv P sg b Q S' | ex => Q ex S') S
 | .cond c a b, Q, S => match opd S c with
  | .p (.bool t) => (t = true → wpv P sg a Q S) ∧ (t = false → wpv P sg b Q S)
  | _ => False
 | .block id c, Q, S => wpv P sg c (fun ex S' => match ex with | .exit j => if j = id then Q .normal S' else Q (.exit j) S' | ex => Q ex S') S
 | .loop c, Q, S => ∃ I : Nat → St → Prop, (∃ n, I n S) ∧ ∀ n S, I n S → wpv P sg c (fun ex S' => match ex with | .normal => ∃ m, m < n ∧ I m S' | ex => Q ex S') S
 | .exit id, Q, S => Q (.exit id) S
 | .ret, Q, S => Q .ret S
 | _, _, _ => False
theorem wp_mono : ∀ (c : Code) {Q Q' : Ex → St → Prop} {S : St}, (∀ ex S', Q ex S' → Q' ex S') → Gl.wp P sg nt c Q S → Gl.wp P sg nt c Q' S := by
 have opsM : ∀ {ops : Array Oper} {n0 : Nat} (os : List Oper) (i : Nat) (S : St) {K K' : St → Prop}, (∀ S, K S → K' S) → opsW P sg ops n0 os i S K → opsW P sg ops n0 os i S K' := by
  intro ops n0 os
  induction os with
  | nil => intro i S K K' h hk; exact h _ hk
  | cons o os ih =>
   intro i S K K' h hk
   simp only [opsW] at hk ⊢
   exact guardW_mono (fun hy => opW_mono hy fun r hr => ih _ _ h hr) (fun hn => ih _ _ h hn) hk
 have opsDM : ∀ {ops : Array Oper} {n0 : Nat} (os : List Oper) (i : Nat) (S : St) (L) {K K' : St → List (List (Nat × Blk) × List Nat) → Prop}, (∀ S L, K S L → K' S L) → opsD P sg ops n0 os i S L K → opsD P sg ops n0 os i S L K' := by
  intro ops n0 os
  induction os with
  | nil => intro i S L K K' h hk; exact h _ _ hk
  | cons o os ih =>
   intro i S L K K' h hk
   simp only [opsD] at hk ⊢
   exact guardW_mono (fun hy => opW_mono hy fun r hr => ih _ _ _ h hr) (fun hn => ih _ _ _ h hn) hk
 intro c
 induction c with
 | skip => intro Q Q' S h hw; exact h _ _ hw
 | exit id => intro Q Q' S h hw; exact h _ _ hw
 | ret => intro Q Q' S h hw; exact h _ _ hw
 | seq x y ihx ihy =>
  intro Q Q' S h hw
  refine ihx (fun ex S' hq => ?_) hw
  cases ex with
  | normal => exact ihy h hq
  | exit id => exact h _ _ hq
  | ret => exact h _ _ hq
 | cond c x y ihx ihy =>
  intro Q Q' S h hw
  simp only [Gl.wp] at hw ⊢
  split at hw
  ·rename_i t e; exact ⟨fun ht => ihx h (hw.1 ht), fun ht => ihy h (hw.2 ht)⟩
  ·exact hw.elim
 | block id c ih =>
  intro Q Q' S h hw
  refine ih (fun ex S' hq => ?_) hw
  cases ex with
  | normal => exact h _ _ hq
  | exit j =>
   simp only at hq ⊢
   split
   ·rename_i e; rw [if_pos e] at hq; exact h _ _ hq
   ·rename_i e; rw [if_neg e] at hq; exact h _ _ hq
  | ret => exact h _ _ hq
 | loop c ih =>
  intro Q Q' S h hw
  obtain ⟨I, hn, hs⟩ := hw
  refine ⟨I, hn, fun n S hI => ih (fun ex S' hq => ?_) (hs n S hI)⟩
  cases ex with
  | normal => exact hq
  | exit id => exact h _ _ hq
  | ret => exact h _ _ hq
 | region id ops d =>
  intro Q Q' S h hw
  cases d with
  | false => exact ⟨hw.1, opsM _ _ _ (fun S hq => h _ _ hq) hw.2⟩
  | true => exact ⟨hw.1, hw.2.1, opsDM _ _ _ _ (fun S L hq => ⟨hq.1, h _ _ hq.2⟩) hw.2.2⟩
 | rangeFunc => intro Q Q' S h hw; exact hw
 | scope => intro Q Q' S h hw; exact hw
 | label => intro Q Q' S h hw; exact hw
 | goto => intro Q Q' S h hw; exact hw
 | refuse => intro Q Q' S h hw; exact hw
theorem wp_of_wpv : ∀ (c : Code) {Q : Ex → St → Prop} {S : St}, codeOk nt c = true → wpv P sg c Q S → Gl.wp P sg nt c Q S := by
 intro c
 induction c with
 | skip => intro Q S _ hw; exact hw
 | exit id => intro Q S _ hw; exact hw
 | ret => intro Q S _ hw; exact hw
 | seq x y ihx ihy =>
  intro Q S h hw
  simp only [codeOk, Bool.and_eq_true] at h
  refine wp_mono x (fun ex S' hq => ?_) (ihx h.1 hw)
  cases ex with
  | normal => exact ihy h.2 hq
  | exit id => exact hq
  | ret => exact hq
 | cond c x y ihx ihy =>
  intro Q S h hw
  simp only [codeOk, Bool.and_eq_true] at h
  simp only [Gl.wp, wpv] at hw ⊢
  split at hw
  ·rename_i t e; simp only [e]; exact ⟨fun ht => ihx h.1 (hw.1 ht), fun ht => ihy h.2 (hw.2 ht)⟩
  ·exact hw.elim
 | block id c ih => intro Q S h hw; exact ih h hw
 | loop c ih =>
  intro Q S h hw
  obtain ⟨I, hn, hs⟩ := hw
  exact ⟨I, hn, fun n S hI => ih h (hs n S hI)⟩
 | region id ops d =>
  intro Q S h hw
  cases d with
  | false => exact ⟨h, hw⟩
  | true =>
   simp only [codeOk, Bool.and_eq_true] at h
   exact ⟨h.1, h.2, hw⟩
 | rangeFunc => intro Q S _ hw; exact hw
 | scope => intro Q S _ hw; exact hw
 | label => intro Q S _ hw; exact hw
 | goto => intro Q S _ hw; exact hw
 | refuse => intro Q S _ hw; exact hw
/-- The end of a body. -/
def FinE (as : List Arg) (ts : List Nat) (res : List PV) (ex : Ex) (S : St) : Prop :=
 match ex with
 | .exit _ => False
 | _ => Fin false S as [] (ts.map S.e) res
/-- A function's value contract by its body. -/
theorem Fun.of (hm : P.follows .mixedOrders = true) {f : FuncId} {args res : List PV} {fn : Func} {code : Code} {ts : List Nat}
  (hf : P.funcs[f]? = some fn) (hb : fn.body = some code) (hname : (fn.name == "runtime.NumGoroutine") = false) (hres : fn.results = ⟨ts.map .tmp⟩) (hargs : decide (args.length ≤ fn.ntmps) = true)
  (hck : codeOk fn.ntmps code = true) (hnr : noRoL res = true) (hro : resOk res = true)
  (hw : wpv P sg code (FinE (args.map .pv) ts res) (entry (args.map .pv))) : Fun P f args res :=
 CallT.of_wp hm hf hb hname hres (by rw [List.length_map]; exact of_decide_eq_true hargs) hnr hro rfl (wp_mono _ (fun ex S h => by cases ex with | exit id => exact h | normal => exact resW_tmp.symm ▸ h | ret => exact resW_tmp.symm ▸ h) (wp_of_wpv _ hck hw))
/-- The end of a body whose results may lie in memory. -/
def FinR (P : Program) (as : List Arg) (rs : List ResultVar) (res : List PV) (ex : Ex) (S : St) : Prop :=
 match ex with
 | .exit _ => False
 | _ => resW P S rs fun vs => Fin false S as [] vs res
theorem Fun.ofR (hm : P.follows .mixedOrders = true) {f : FuncId} {args res : List PV} {fn : Func} {code : Code} {rs : List ResultVar}
  (hf : P.funcs[f]? = some fn) (hb : fn.body = some code) (hname : (fn.name == "runtime.NumGoroutine") = false) (hres : fn.results = ⟨rs⟩) (hargs : decide (args.length ≤ fn.ntmps) = true)
  (hck : codeOk fn.ntmps code = true) (hnr : noRoL res = true) (hro : resOk res = true)
  (hw : wpv P sg code (FinR P (args.map .pv) rs res) (entry (args.map .pv))) : Fun P f args res :=
 CallT.of_wp hm hf hb hname hres (by rw [List.length_map]; exact of_decide_eq_true hargs) hnr hro rfl (wp_mono _ (fun ex S h => by cases ex with | exit id => exact h | normal => exact h | ret => exact h) (wp_of_wpv _ hck hw))
/-- What is fixed while one operation is worked out. -/
class Dat where
 P : Program
 sg : FuncId → List Bool
 ops : Array Oper
 n0 : Nat
 os : List Oper
 i : Nat
 S : St
def opsI [D : Dat] (K : St → Prop) : Prop := opsW D.P D.sg D.ops D.n0 D.os D.i D.S K
def opsJ [D : Dat] (L : List (List (Nat × Blk) × List Nat)) (K : St → List (List (Nat × Blk) × List Nat) → Prop) : Prop := opsD D.P D.sg D.ops D.n0 D.os D.i D.S L K
/-! ### the control of a body -/
variable {Q : Ex → St → Prop} {S : St}
def seqQ (P : Program) (sg : FuncId → List Bool) (b : Code) (Q : Ex → St → Prop) (ex : Ex) (S' : St) : Prop := match ex with | .normal => wpv P sg b Q S' | ex => Q ex S'
def blkQ (id : Nat) (Q : Ex → St → Prop) (ex : Ex) (S' : St) : Prop := match ex with | .exit j => if j = id then Q .normal S' else Q (.exit j) S' | ex => Q ex S'
def lpQ (I : Nat → St → Prop) (n : Nat) (Q : Ex → St → Prop) (ex : Ex) (S' : St) : Prop := match ex with | .normal => ∃ m, m < n ∧ I m S' | ex => Q ex S'
theorem v_seq {a b : Code} (h : wpv P sg a (seqQ P sg b Q) S) : wpv P sg (.seq a b) Q S := h
theorem v_skip (h : Q .normal S) : wpv P sg .skip Q S := h
theorem v_exit {id : Nat} (h : Q (.exit id) S) : wpv P sg (.exit id) Q S := h
theorem v_ret (h : Q .ret S) : wpv P sg .ret Q S := h
theorem v_block {id : Nat} {c : Code} (h : wpv P sg c (blkQ id Q) S) : wpv P sg (.block id c) Q S := h
theorem q_seq_n {b : Code} (h : wpv P sg b Q S) : seqQ P sg b Q .normal S := h
theorem q_seq_e {b : Code} {id : Nat} (h : Q (.exit id) S) : seqQ P sg b Q (.exit id) S := h
theorem q_seq_r {b : Code} (h : Q .ret S) : seqQ P sg b Q .ret S := h
theorem q_blk_n {id : Nat} (h : Q .normal S) : blkQ id Q .normal S := h
theorem q_blk_r {id : Nat} (h : Q .ret S) : blkQ id Q .ret S := h
theorem q_blk_s {id : Nat} (h : Q .normal S) : blkQ id Q (.exit id) S := by simp only [blkQ, if_true]; exact h
theorem q_blk_o {id j : Nat} (e : (j == id) = false) (h : Q (.exit j) S) : blkQ id Q (.exit j) S := by
 have : j ≠ id := by simpa using e
 simp only [blkQ, if_neg this]; exact h
theorem q_lp_e {I : Nat → St → Prop} {n id : Nat} (h : Q (.exit id) S) : lpQ I n Q (.exit id) S := h
theorem q_lp_r {I : Nat → St → Prop} {n : Nat} (h : Q .ret S) : lpQ I n Q .ret S := h
theorem q_lp_n {I : Nat → St → Prop} {n : Nat} (m : Nat) (hm : m < n) (h : I m S) : lpQ I n Q .normal S := ⟨m, hm, h⟩
theorem v_cond {c : Operand} {x y : Code} {t : Bool} (e : opd S c = .p (.bool t)) (h1 : t = true → wpv P sg x Q S) (h2 : t = false → wpv P sg y Q S) : wpv P sg (.cond c x y) Q S := by
 simp only [wpv, e]; exact ⟨h1, h2⟩
theorem v_loop {c : Code} (I : Nat → St → Prop) (n : Nat) (h : I n S) (hs : ∀ n S, I n S → wpv P sg c (lpQ I n Q) S) : wpv P sg (.loop c) Q S := ⟨I, ⟨n, h⟩, hs⟩
theorem v_region {id : Nat} {ops : Array Oper} {os : List Oper} {n : Nat} (e : ops.toList = os) (en : 256 * ops.size = n) (h : ∀ K : St → Prop, (∀ S', Q .normal (S'.nx n) → K S') → @opsI _ ⟨P, sg, ops, S.n, os, 0, S⟩ K) : wpv P sg (.region id ops false) Q S := by
 subst e; subst en; exact h _ fun S' hq => hq
theorem v_draws {id : Nat} {ops : Array Oper} {os : List Oper} {n : Nat} (e : ops.toList = os) (en : 256 * ops.size = n) (h : ∀ K : St → List (List (Nat × Blk) × List Nat) → Prop, (∀ S' L, clearAll ops L → Q .normal (S'.nx n) → K S' L) → @opsJ _ ⟨P, sg, ops, S.n, os, 0, S⟩ [] K) : wpv P sg (.region id ops true) Q S := by
 subst e; subst en; exact h _ fun S' L hc hq => ⟨hc, hq⟩
/-- A condition looked at. -/
def cdW (v : AV) (A B : Prop) : Prop :=
 match v with
 | .p (.bool t) => (t = true → A) ∧ (t = false → B)
 | _ => False
theorem cd_bool {t : Bool} {A B : Prop} : cdW (.p (.bool t)) A B = ((t = true → A) ∧ (t = false → B)) := _root_.id rfl
theorem cd_true {A B : Prop} : cdW (.p (.bool true)) A B = A := by simp [cdW]
theorem cd_false {A B : Prop} : cdW (.p (.bool false)) A B = B := by simp [cdW]
theorem v_if {c : Operand} {x y : Code} (h : ∀ A B : Prop, (wpv P sg x Q S → A) → (wpv P sg y Q S → B) → cdW (opd S c) A B) : wpv P sg (.cond c x y) Q S := by
 have := h _ _ id id
 simp only [wpv, cdW] at this ⊢
 exact this
/-- A result that is a plain value. -/
def plainP : PV → Bool
 | .sl .own _ | .sl .fr _ | .agg _ | .dl _ | .bx _ => false
 | _ => true
theorem fin_plain {as : List Arg} {t : Nat} {x : PV} (hx : plainP x = true) (h : S.e t = .p x) : Fin false S as [] [S.e t] [x] := by
 have e : ∀ K, K [] → fin false S.h as.length (S.e t) x K := fun K hK => by
  rw [h]
  cases x with
  | sl o xs => cases o with
   | ro => exact ⟨rfl, hK⟩
   | fr => simp [plainP] at hx
   | own => simp [plainP] at hx
  | agg xs => simp [plainP] at hx
  | dl xs => simp [plainP] at hx
  | bx xs => simp [plainP] at hx
  | _ => exact ⟨rfl, hK⟩
 refine e _ ⟨by simp, fun j _ => ?_⟩
 split
 ·rename_i h; simp at h
 ·trivial
theorem v_end {as : List Arg} {t : Nat} {x : PV} (hx : plainP x = true) (h : S.e t = .p x) : FinE as [t] [x] .ret S := fin_plain hx h
theorem v_end' {as : List Arg} {t : Nat} {x : PV} (hx : plainP x = true) (h : S.e t = .p x) : FinE as [t] [x] .normal S := fin_plain hx h
theorem v_end0 {as : List Arg} : FinE as [] [] .ret S := by
 refine ⟨by simp, fun j _ => ?_⟩
 split
 ·rename_i h; simp at h
 ·trivial
theorem v_end0' {as : List Arg} : FinE as [] [] .normal S := v_end0
theorem clearAll_quiet {ops : Array Oper} {L : List (List (Nat × Blk) × List Nat)} (h : (L.map (·.1)).all List.isEmpty = true) : clearAll ops L := by
 have key : ∀ i, (L.getD i ([], [])).1 = [] := fun i => by
  rw [List.getD_eq_getElem?_getD]
  cases hi : L[i]? with
  | none => rfl
  | some p =>
   have := List.all_eq_true.1 h p.1 (List.mem_map.2 ⟨p, List.mem_of_getElem? hi, rfl⟩)
   simpa using this
 intro j _ i _
 right
 unfold clear
 rw [key i, key j]
 simp
/-! ### the working out of a region -/
/-- What comes behind an operation. -/
def Nx [D : Dat] (d : Option Nat) (K : St → Prop) : R → Prop :=
 fun r => opsW D.P D.sg D.ops D.n0 D.os (D.i + 1) (D.S.app d r) K
def Dx [D : Dat] (d : Option Nat) (L : List (List (Nat × Blk) × List Nat)) (K : St → List (List (Nat × Blk) × List Nat) → Prop) : R → Prop :=
 fun r => opsD D.P D.sg D.ops D.n0 D.os (D.i + 1) (D.S.app d r) (L ++ [(r.ws, r.rd)]) K
def KV (K : R → Prop) (v : PV) : Prop := K ⟨.p v, [], []⟩
def KW (K : R → Prop) (v : AV) : Prop := K ⟨v, [], []⟩
def KA (k : Nat) (K : R → Prop) (v : AV) : Prop := arr k v K
variable {ops : Array Oper} {n0 i k : Nat} {os : List Oper} {d : Option Nat} {K : St → Prop} {KD : St → List (List (Nat × Blk) × List Nat) → Prop} {L : List (List (Nat × Blk) × List Nat)} {op : Op} {ty : TypeId} {ps : String} {af : Array Edge} {C : R → Prop}
/-- A guard looked at: the slot that it asks. -/
def gd (ops : Array Oper) (S : St) (j : Nat) : AV := match (ops[j]?).bind (·.dst) with | some d => S.e d | none => .p .any
theorem gdW_eq {S : St} {j : Nat} {want : Bool} {yes no : Prop} {o : Oper} (hg : o.guard = some (j, want)) : guardW ops S o yes no = gdW (gd ops S j) want yes no := by
 unfold guardW gd gdW
 simp only [hg]
 cases (ops[j]?).bind (·.dst) <;> rfl
/-- A guarded operation: the guard's value first. -/
def gI [D : Dat] (v : AV) (want : Bool) (d : Option Nat) (op : Op) (K : St → Prop) : Prop :=
 gdW v want (opW D.P D.sg (opd D.S) D.S.h (num D.n0 D.i) op (Nx d K)) (opsW D.P D.sg D.ops D.n0 D.os (D.i + 1) (D.S.puto d (.tup [])) K)
def gJ [D : Dat] (v : AV) (want : Bool) (d : Option Nat) (op : Op) (L : List (List (Nat × Blk) × List Nat)) (K : St → List (List (Nat × Blk) × List Nat) → Prop) : Prop :=
 gdW v want (opW D.P D.sg (opd D.S) D.S.h (num D.n0 D.i) op (Dx d L K)) (opsD D.P D.sg D.ops D.n0 D.os (D.i + 1) (D.S.puto d (.tup [])) (L ++ [([], [])]) K)
theorem r_nil : @opsI _ ⟨P, sg, ops, n0, [], i, S⟩ K = K S := _root_.id rfl
theorem r_cons : @opsI _ ⟨P, sg, ops, n0, ⟨d, op, ty, ps, af, none⟩ :: os, i, S⟩ K = opW P sg (opd S) S.h (num n0 i) op (@Nx _ ⟨P, sg, ops, n0, os, i, S⟩ d K) := _root_.id rfl
theorem r_guard {j : Nat} {want : Bool} : @opsI _ ⟨P, sg, ops, n0, ⟨d, op, ty, ps, af, some (j, want)⟩ :: os, i, S⟩ K = @gI _ ⟨P, sg, ops, n0, os, i, S⟩ (gd ops S j) want d op K :=
 gdW_eq (o := ⟨d, op, ty, ps, af, some (j, want)⟩) rfl
theorem r_nx {r : R} : @Nx _ ⟨P, sg, ops, n0, os, i, S⟩ d K r = @opsI _ ⟨P, sg, ops, n0, os, i + 1, S.app d r⟩ K := _root_.id rfl
theorem d_nil : @opsJ _ ⟨P, sg, ops, n0, [], i, S⟩ L KD = KD S L := _root_.id rfl
theorem d_cons : @opsJ _ ⟨P, sg, ops, n0, ⟨d, op, ty, ps, af, none⟩ :: os, i, S⟩ L KD = opW P sg (opd S) S.h (num n0 i) op (@Dx _ ⟨P, sg, ops, n0, os, i, S⟩ d L KD) := _root_.id rfl
theorem d_guard {j : Nat} {want : Bool} : @opsJ _ ⟨P, sg, ops, n0, ⟨d, op, ty, ps, af, some (j, want)⟩ :: os, i, S⟩ L KD = @gJ _ ⟨P, sg, ops, n0, os, i, S⟩ (gd ops S j) want d op L KD :=
 gdW_eq (o := ⟨d, op, ty, ps, af, some (j, want)⟩) rfl
theorem d_nx {v : AV} {ws : List (Nat × Blk)} {rd : List Nat} : @Dx _ ⟨P, sg, ops, n0, os, i, S⟩ d L KD ⟨v, ws, rd⟩ = @opsJ _ ⟨P, sg, ops, n0, os, i + 1, S.app d ⟨v, ws, rd⟩⟩ (L ++ [(ws, rd)]) KD := _root_.id rfl
theorem gW_bool {b want : Bool} {yes no : Prop} : gdW (.p (.bool b)) want yes no = ((b = want → yes) ∧ (b = !want → no)) := by
 cases b <;> cases want <;> simp [gdW]
theorem gI_un {want : Bool} : @gI _ ⟨P, sg, ops, n0, os, i, S⟩ (.tup []) want d op K = @opsI _ ⟨P, sg, ops, n0, os, i + 1, S.puto d (.tup [])⟩ K := by simp [gI, gdW, opsI]
theorem gJ_un {want : Bool} : @gJ _ ⟨P, sg, ops, n0, os, i, S⟩ (.tup []) want d op L KD = @opsJ _ ⟨P, sg, ops, n0, os, i + 1, S.puto d (.tup [])⟩ (L ++ [([], [])]) KD := by simp [gJ, gdW, opsJ]
theorem gI_tt : @gI _ ⟨P, sg, ops, n0, os, i, S⟩ (.p (.bool true)) true d op K = opW P sg (opd S) S.h (num n0 i) op (@Nx _ ⟨P, sg, ops, n0, os, i, S⟩ d K) := by simp [gI, gdW]
theorem gI_ff : @gI _ ⟨P, sg, ops, n0, os, i, S⟩ (.p (.bool false)) false d op K = opW P sg (opd S) S.h (num n0 i) op (@Nx _ ⟨P, sg, ops, n0, os, i, S⟩ d K) := by simp [gI, gdW]
theorem gI_tf : @gI _ ⟨P, sg, ops, n0, os, i, S⟩ (.p (.bool true)) false d op K = @opsI _ ⟨P, sg, ops, n0, os, i + 1, S.puto d (.tup [])⟩ K := by simp [gI, gdW, opsI]
theorem gI_ft : @gI _ ⟨P, sg, ops, n0, os, i, S⟩ (.p (.bool false)) true d op K = @opsI _ ⟨P, sg, ops, n0, os, i + 1, S.puto d (.tup [])⟩ K := by simp [gI, gdW, opsI]
/-- A guard that is not known: what lies behind it is left as it is till it is known. -/
class Arm where
 A : Prop
 B : Prop
def GB (b want : Bool) [D : Arm] : Prop := (b = want → D.A) ∧ (b = !want → D.B)
theorem gb_tt {A B : Prop} : @GB true true ⟨A, B⟩ = A := by simp [GB]
theorem gb_ff {A B : Prop} : @GB false false ⟨A, B⟩ = A := by simp [GB]
theorem gb_tf {A B : Prop} : @GB true false ⟨A, B⟩ = B := by simp [GB]
theorem gb_ft {A B : Prop} : @GB false true ⟨A, B⟩ = B := by simp [GB]
theorem v_gb1 {b : Bool} {A B : Prop} (h1 : b = true → A) (h2 : b = false → B) : @GB b true ⟨A, B⟩ := ⟨h1, h2⟩
theorem v_gb0 {b : Bool} {A B : Prop} (h1 : b = false → A) (h2 : b = true → B) : @GB b false ⟨A, B⟩ := ⟨h1, h2⟩
theorem gI_bool {b want : Bool} : @gI _ ⟨P, sg, ops, n0, os, i, S⟩ (.p (.bool b)) want d op K = @GB b want ⟨opW P sg (opd S) S.h (num n0 i) op (@Nx _ ⟨P, sg, ops, n0, os, i, S⟩ d K), @opsI _ ⟨P, sg, ops, n0, os, i + 1, S.puto d (.tup [])⟩ K⟩ := gW_bool
theorem gJ_tt : @gJ _ ⟨P, sg, ops, n0, os, i, S⟩ (.p (.bool true)) true d op L KD = opW P sg (opd S) S.h (num n0 i) op (@Dx _ ⟨P, sg, ops, n0, os, i, S⟩ d L KD) := by simp [gJ, gdW]
theorem gJ_ff : @gJ _ ⟨P, sg, ops, n0, os, i, S⟩ (.p (.bool false)) false d op L KD = opW P sg (opd S) S.h (num n0 i) op (@Dx _ ⟨P, sg, ops, n0, os, i, S⟩ d L KD) := by simp [gJ, gdW]
theorem gJ_tf : @gJ _ ⟨P, sg, ops, n0, os, i, S⟩ (.p (.bool true)) false d op L KD = @opsJ _ ⟨P, sg, ops, n0, os, i + 1, S.puto d (.tup [])⟩ (L ++ [([], [])]) KD := by simp [gJ, gdW, opsJ]
theorem gJ_ft : @gJ _ ⟨P, sg, ops, n0, os, i, S⟩ (.p (.bool false)) true d op L KD = @opsJ _ ⟨P, sg, ops, n0, os, i + 1, S.puto d (.tup [])⟩ (L ++ [([], [])]) KD := by simp [gJ, gdW, opsJ]
theorem gJ_bool {b want : Bool} : @gJ _ ⟨P, sg, ops, n0, os, i, S⟩ (.p (.bool b)) want d op L KD = @GB b want ⟨opW P sg (opd S) S.h (num n0 i) op (@Dx _ ⟨P, sg, ops, n0, os, i, S⟩ d L KD), @opsJ _ ⟨P, sg, ops, n0, os, i + 1, S.puto d (.tup [])⟩ (L ++ [([], [])]) KD⟩ := gW_bool
theorem r_kv {v : PV} : KV C v = C ⟨.p v, [], []⟩ := _root_.id rfl
theorem r_kw {v : AV} : KW C v = C ⟨v, [], []⟩ := _root_.id rfl
theorem r_ka {v : AV} : KA k C v = arr k v C := _root_.id rfl
variable {rd : List Nat}
theorem n_i64 {n : Int} : inR .i64 n = (-9223372036854775808 ≤ n ∧ n ≤ 9223372036854775807) := by
 simp only [inR]; rfl
theorem r_app {n : Nat} {v : AV} : S.app (some n) ⟨v, [], rd⟩ = S.put n v := _root_.id rfl
theorem r_app0 {v : AV} : S.app none ⟨v, [], rd⟩ = S := _root_.id rfl
theorem r_appw {n : Nat} {v : AV} {w : Nat × Blk} {ws : List (Nat × Blk)} : S.app (some n) ⟨v, w :: ws, rd⟩ = (S.put n v).hws (w :: ws) := _root_.id rfl
theorem r_appw0 {v : AV} {w : Nat × Blk} {ws : List (Nat × Blk)} : S.app none ⟨v, w :: ws, rd⟩ = S.hws (w :: ws) := _root_.id rfl
theorem r_puto {n : Nat} {v : AV} : S.puto (some n) v = S.put n v := _root_.id rfl
theorem e_entry {as : List Arg} {t : Nat} : (entry as).e t = (argAVs 0 as).getD t (.p .any) := _root_.id rfl
theorem h_entry {as : List Arg} : (entry as).h = argH as := _root_.id rfl
theorem n_entry {as : List Arg} : (entry as).n = as.length := _root_.id rfl
theorem e_put {n : Nat} {v : AV} {t : Nat} : (S.put n v).e t = if t = n then v else S.e t := _root_.id rfl
theorem e_hws {l : List (Nat × Blk)} : (S.hws l).e = S.e := _root_.id rfl
theorem e_nx {n : Nat} : (S.nx n).e = S.e := _root_.id rfl
theorem h_put {n : Nat} {v : AV} : (S.put n v).h = S.h := _root_.id rfl
theorem h_hws {l : List (Nat × Blk)} : (S.hws l).h = hwsH S.h l := _root_.id rfl
theorem h_nx {n : Nat} : (S.nx n).h = S.h := _root_.id rfl
theorem n_put {n : Nat} {v : AV} : (S.put n v).n = S.n := _root_.id rfl
theorem n_hws {l : List (Nat × Blk)} : (S.hws l).n = S.n := _root_.id rfl
theorem n_nx {n : Nat} : (S.nx n).n = S.n + n := _root_.id rfl
theorem o_tmp {t : Nat} : opd S (.tmp t) = S.e t := _root_.id rfl
theorem o_const {v : Value} : opd S (.const v) = .p (ofConst v) := _root_.id rfl
theorem o_func {f : FuncId} : opd S (.func f) = .p (.fn f [] []) := _root_.id rfl
theorem c_int {kd : IntKind} {n : Int} : ofConst (.int kd n) = .int kd n := _root_.id rfl
theorem c_bool {b : Bool} : ofConst (.bool b) = .bool b := _root_.id rfl
theorem c_str {s : ByteArray} : ofConst (.string s) = .str s.data.toList := _root_.id rfl
theorem c_nils : ofConst (.slice none 0 0) = .sl .own [] := _root_.id rfl
theorem c_nilf : ofConst .nilFunc = .nilf := _root_.id rfl
variable {ρ : Operand → AV} {h : Nat → Blk} {t t' t'' : TypeId} {x y z : Operand}
theorem isN_ff {op : Op} : isN P false false false op = false := by cases op <;> rfl
theorem w_opb {op : Op} (hs : wayE sg = false) (hn : wayN sg = false) (h3 : wayS sg = false) (h4 : wayZ sg = false) (h5 : wayM sg = false) : opW P sg ρ h k op C = opB P sg ρ h k op C := by simp [opW, hs, hn, h3, h4, h5, isN_ff]
theorem w_opn {op : Op} (hs : wayE sg = false) (hn : isN P (wayN sg) (wayS sg) (wayZ sg) op = true) : opW P sg ρ h k op C = opN P ρ h k op C := by simp [opW, hs, hn]
theorem w_opo {op : Op} (h5 : wayM sg = false) (hs : wayE sg = false) (hn : isN P (wayN sg) (wayS sg) (wayZ sg) op = false) : opW P sg ρ h k op C = opB P sg ρ h k op C := by simp [opW, hs, hn, h5]
theorem w_opm {op : Op} (h5 : wayM sg = true) (hs : wayE sg = false) (hm : isM P op = true) : opW P sg ρ h k op C = opN P ρ h k op C := by simp [opW, hs, h5, hm]
theorem w_opl {op : Op} (h5 : wayM sg = true) (hs : wayE sg = false) (hm : isM P op = false) (hn : isN P (wayN sg) (wayS sg) (wayZ sg) op = false) : opW P sg ρ h k op C = opB P sg ρ h k op C := by simp [opW, hs, hn, h5, hm]
theorem w_move : opB P sg ρ h k (.move x) C = arr k (ρ x) C := _root_.id rfl
theorem w_assign : opB P sg ρ h k (.assign x) C = arr k (ρ x) C := _root_.id rfl
theorem w_pick : opB P sg ρ h k (.pick x y z) C = pickW (ρ x) (ρ y) (ρ z) (KA k C) := _root_.id rfl
theorem w_bin {b : BinOp} : opB P sg ρ h k (.binOp b t x y t') C = binW P b t (ρ x) (ρ y) (KV C) := _root_.id rfl
theorem w_un {b : UnOp} : opB P sg ρ h k (.unOp b t x) C = unW b (ρ x) (KV C) := _root_.id rfl
theorem w_conv : opB P sg ρ h k (.convert t t' x) C = convW P t t' k h (ρ x) C := _root_.id rfl
theorem w_make : opB P sg ρ h k (.makeSlice t x y) C = makeW P t k (ρ x) (ρ y) C := _root_.id rfl
theorem w_addr : opB P sg ρ h k (.indexAddr t x y) C = indexAddrW P t (ρ x) (ρ y) (KW C) := _root_.id rfl
theorem w_index : opB P sg ρ h k (.index t x y) C = indexW P t (ρ x) (ρ y) (KW C) := _root_.id rfl
theorem w_load : opB P sg ρ h k (.load t x) C = loadW P t h (ρ x) C := _root_.id rfl
theorem w_store : opB P sg ρ h k (.store t x y) C = storeW P t h (ρ x) (ρ y) C := _root_.id rfl
theorem w_alloc : opB P sg ρ h k (.alloc t) C = allocW P t k C := _root_.id rfl
theorem w_box : opB P sg ρ h k (.box t x) C = boxW h k (ρ x) C := _root_.id rfl
theorem w_field {f : Nat} : opB P sg ρ h k (.field t x f) C = fieldW P t f (ρ x) (KA k C) := _root_.id rfl
theorem w_fieldAddr {f : Nat} : opB P sg ρ h k (.fieldAddr t x f) C = fieldAddrW P t f (ρ x) (KW C) := _root_.id rfl
/-- A call: its callee worked out. -/
def callG (P : Program) (sg : FuncId → List Bool) (h : Nat → Blk) (k : Nat) (v : AV) (vs : List AV) (C : R → Prop) : Prop :=
 match v with
 | .p (.fn g first caps) => callW P sg h k g (first.map .p ++ vs ++ caps.map .p) C
 | .fn g first caps => callW P sg h k g (first ++ vs ++ caps) C
 | _ => False
/-- The call itself: its contract is asked for. -/
def Pk (P : Program) (h : Nat → Blk) (k : Nat) (f : FuncId) (C : R → Prop) : List Arg → List Nat → List (Option (Nat × Option Nat)) → Prop :=
 fun as rd ms => lentOk ms rd ∧ ∃ tk outs res, CallT P tk f as outs res ∧ ∃ t, (t = false → tk = true → lentF h ms) ∧ C ⟨impAll k res, outWs h outs 0 ms ++ impWs t k res, lids ms ++ rd⟩
/-- A call whose arguments are all read. -/
def PkX (P : Program) (h : Nat → Blk) (k : Nat) (f : FuncId) (C : R → Prop) : List PV → List Nat → Prop :=
 fun xs rd => Pk P h k f C (xs.map .pv) rd (xs.map fun _ => none)
def puG (h : Nat → Blk) : List AV → (List PV → List Nat → Prop) → Prop
 | [], F => F [] []
 | v :: vs, F => pur h v fun x rd => puG h vs fun xs rd' => F (x :: xs) (rd ++ rd')
theorem pass_pu {h : Nat → Blk} : ∀ {vs : List AV} {F : List Arg → List Nat → List (Option (Nat × Option Nat)) → Prop}, pass h [] vs F = puG h vs fun xs rd => F (xs.map .pv) rd (xs.map fun _ => none)
 | [], _ => rfl
 | v :: vs, F => by
  simp only [pass, puG, List.tail_nil]
  congr 1; funext x rd
  rw [pass_pu]
  rfl
/-- One argument more. -/
def UA (F : List PV → List Nat → Prop) (x : PV) (rd : List Nat) : List PV → List Nat → Prop :=
 fun xs rd' => F (x :: xs) (rd ++ rd')
def UN (h : Nat → Blk) (vs : List AV) (F : List PV → List Nat → Prop) (x : PV) (rd : List Nat) : Prop := puG h vs (UA F x rd)
/-- A slice that is read: by its block. -/
def refG (b : Blk) (id off len : Nat) (F : PV → List Nat → Prop) : Prop :=
 match b with
 | .live _ c => off + len ≤ c.length ∧ F (.sl .ro ((c.drop off).take len)) [id]
 | .froz m c => off + len ≤ c.length ∧ F (.sl (.lent m) ((c.drop off).take len)) [id]
 | .deep _ cs rs => off + len ≤ cs.length ∧ F (.sl .ro (((cs.map (DC.rd rs)).drop off).take len)) [id]
 | _ => False
theorem w_call {f : Operand} {args : List Operand} {ts : Array TypeId} : opB P sg ρ h k (.call { callee := .value f, args := ⟨args⟩, argTypes := ts }) C = callG P sg h k (ρ f) (args.map ρ) C := by
 simp only [opB]; rfl
/-- A call: what is frozen by it first. -/
def FZ (P : Program) (sg : FuncId → List Bool) (h : Nat → Blk) (k : Nat) (g : FuncId) (vs : List AV) (C : R → Prop) (l : List Nat) : Prop := callV P sg (hwsH h (frzW h l)) k g vs fun r => C ⟨r.v, frzW h l ++ r.ws, l ++ r.rd⟩
def FZC (C : R → Prop) (ws : List (Nat × Blk)) (rd : List Nat) (r : R) : Prop := C ⟨r.v, ws ++ r.ws, rd ++ r.rd⟩
theorem fzc_eq {v : AV} {ws ws' : List (Nat × Blk)} {rd rd' : List Nat} : FZC C ws rd ⟨v, ws', rd'⟩ = C ⟨v, ws ++ ws', rd ++ rd'⟩ := _root_.id rfl
theorem fz_nil {g : FuncId} {vs : List AV} : FZ P sg h k g vs C [] = pass h (sg g) vs (Pk P h k g C) := _root_.id rfl
theorem fz_cons {g : FuncId} {vs : List AV} {i : Nat} {l : List Nat} : FZ P sg h k g vs C (i :: l) = pass (hwsH h (frzB (h i) i (frzW h l))) (sg g) vs (Pk P (hwsH h (frzB (h i) i (frzW h l))) k g (FZC C (frzB (h i) i (frzW h l)) (i :: l))) := _root_.id rfl
theorem fr_nil : frzW h [] = [] := _root_.id rfl
theorem fr_cons {i : Nat} {l : List Nat} : frzW h (i :: l) = frzB (h i) i (frzW h l) := _root_.id rfl
theorem fb_live {m : Bool} {c : List PV} {i : Nat} {ws : List (Nat × Blk)} : frzB (.live m c) i ws = (i, .froz m c) :: ws := _root_.id rfl
theorem fb_froz {m : Bool} {c : List PV} {i : Nat} {ws : List (Nat × Blk)} : frzB (.froz m c) i ws = ws := _root_.id rfl
theorem fR_nil {vs : List AV} : frzR [] vs = [] := by cases vs <;> rfl
theorem fR_nil2 {fs : List Bool} : frzR fs [] = [] := by cases fs with | nil => rfl | cons b fs => cases b <;> rfl
theorem fR_t {fs : List Bool} {i o l : Nat} {vs : List AV} : frzR (true :: fs) (.ref i o l :: vs) = i :: frzR fs vs := _root_.id rfl
theorem fR_tp {fs : List Bool} {x : PV} {vs : List AV} : frzR (true :: fs) (.p x :: vs) = frzR fs vs := _root_.id rfl
theorem fR_f {fs : List Bool} {v : AV} {vs : List AV} : frzR (false :: fs) (v :: vs) = frzR fs vs := by cases v <;> rfl
/-- A call in place, or another. -/
def IPS (b : List Bool) (P : Program) (h : Nat → Blk) (g : FuncId) (vs : List AV) (C : R → Prop) (F : Prop) : Prop := if b.isEmpty = true then F else inplW P h g vs C
theorem ips_nil {g : FuncId} {vs : List AV} {F : Prop} : IPS [] P h g vs C F = F := if_pos rfl
theorem ips_cons {x : Bool} {b : List Bool} {g : FuncId} {vs : List AV} {F : Prop} : IPS (x :: b) P h g vs C F = inplW P h g vs C := if_neg (by simp)
def inB (P : Program) (b : Blk) (g : FuncId) (id off len : Nat) (C : R → Prop) : Prop :=
 match b with
 | .live m c => off + len ≤ c.length ∧ ∃ f, InPl P g f ∧ ∃ l : List Int, (c.drop off).take len = l.map (PV.int .i64) ∧ C ⟨.p .any, [(id, .live m (c.take off ++ (f l).map (PV.int .i64) ++ c.drop (off + len)))], [id]⟩
 | _ => False
theorem ip_ref {g : FuncId} {id off len : Nat} : inplW P h g [.ref id off len] C = inB P (h id) g id off len C := by
 simp only [inplW, inB]; cases h id <;> rfl
/-- What it does is asked for. -/
def IPk (P : Program) (g : FuncId) (F : (List Int → List Int) → Prop) : Prop := ∃ f, InPl P g f ∧ F f
def IPL (m : Bool) (id off len : Nat) (L : List Int) (C : R → Prop) (f : List Int → List Int) : Prop := C ⟨.p .any, [(id, .live m (List.map (PV.int .i64) (L.take off ++ f ((L.drop off).take len) ++ L.drop (off + len))))], [id]⟩
theorem ipl_eq {m : Bool} {id off len : Nat} {L : List Int} {f : List Int → List Int} : IPL m id off len L C f = C ⟨.p .any, [(id, .live m (List.map (PV.int .i64) (L.take off ++ f ((L.drop off).take len) ++ L.drop (off + len))))], [id]⟩ := _root_.id rfl
theorem mapI_inj : ∀ {a b : List Int}, a.map (PV.int .i64) = b.map (PV.int .i64) → a = b
 | [], [], _ => rfl
 | [], _ :: _, h => by cases h
 | _ :: _, [], h => by cases h
 | x :: a, y :: b, h => by
  simp only [List.map_cons, List.cons.injEq] at h
  obtain ⟨h1, h2⟩ := h
  cases h1; rw [mapI_inj h2]
theorem in_live {g : FuncId} {m : Bool} {id off len : Nat} {L : List Int} : inB P (.live m (List.map (PV.int .i64) L)) g id off len C = (off + len ≤ L.length ∧ IPk P g (IPL m id off len L C)) := by
 apply propext
 simp only [inB, IPk, IPL, List.length_map, List.map_append, List.map_take, List.map_drop]
 constructor
 ·rintro ⟨h1, f, h2, l, h3, h4⟩
  rw [← List.map_drop, ← List.map_take] at h3
  rw [← mapI_inj h3] at h4
  exact ⟨h1, f, h2, h4⟩
 ·rintro ⟨h1, f, h2, h4⟩
  exact ⟨h1, f, h2, _, (by rw [List.map_take, List.map_drop]), h4⟩
theorem v_callI {g : FuncId} {f : List Int → List Int} {F : (List Int → List Int) → Prop} (h : InPl P g f) (k : F f) : IPk P g F := ⟨f, h, k⟩
theorem g_fn {g : FuncId} {vs : List AV} : callG P sg h k (.p (.fn g [] [])) vs C = IPS (sg (g + 12884901888)) P h g vs C (FZ P sg h k g vs C (frzR (sg (g + 8589934592)) vs)) := by
 simp only [callG, callW, List.map_nil, List.nil_append, List.append_nil]; rfl
theorem q_all {f : FuncId} {vs : List AV} : pass h [] vs (Pk P h k f C) = puG h vs (PkX P h k f C) := pass_pu
theorem q_nil {F : List PV → List Nat → Prop} : puG h [] F = F [] [] := _root_.id rfl
theorem q_p {x : PV} {vs : List AV} {F : List PV → List Nat → Prop} : puG h (.p x :: vs) F = puG h vs (UA F x.cell []) := _root_.id rfl
theorem q_ref {id off len : Nat} {vs : List AV} {F : List PV → List Nat → Prop} : puG h (.ref id off len :: vs) F = refG (h id) id off len (UN h vs F) := by
 simp only [puG, pur, pur1, refG]; cases h id <;> rfl
theorem q_ua {F : List PV → List Nat → Prop} {x : PV} {rd rd' : List Nat} {xs : List PV} : UA F x rd xs rd' = F (x :: xs) (rd ++ rd') := _root_.id rfl
theorem q_un {F : List PV → List Nat → Prop} {x : PV} {rd : List Nat} {vs : List AV} : UN h vs F x rd = puG h vs (UA F x rd) := _root_.id rfl
theorem q_live {m : Bool} {c : List PV} {id off len : Nat} {F : PV → List Nat → Prop} : refG (.live m c) id off len F = (off + len ≤ c.length ∧ F (.sl (.lent true) ((c.drop off).take len)) [id]) := _root_.id rfl
theorem q_froz {m : Bool} {c : List PV} {id off len : Nat} {F : PV → List Nat → Prop} : refG (.froz m c) id off len F = (off + len ≤ c.length ∧ F (.sl (.lent m) ((c.drop off).take len)) [id]) := _root_.id rfl
theorem v_call {f : FuncId} {xs res : List PV} {rd : List Nat} (hf : Fun P f xs res) (hc : C ⟨impAll k res, impWs false k res, rd⟩) : PkX P h k f C xs rd := by
 have hm : ∀ (l : List PV), lids (l.map fun _ => (none : Option (Nat × Option Nat))) = [] := fun l => by
  unfold lids; rw [List.filterMap_eq_nil_iff]; intro a ha; obtain ⟨_, _, rfl⟩ := List.mem_map.1 ha; rfl
 have ho : ∀ (l : List PV) (j : Nat), outWs h [] j (l.map fun _ => (none : Option (Nat × Option Nat))) = [] := fun l => by
  induction l with
  | nil => intro j; rfl
  | cons x l ih => intro j; exact ih (j + 1)
 refine ⟨⟨by rw [hm]; exact List.nodup_nil, by rw [hm]; simp⟩, false, [], res, hf, false, fun _ e => (by cases e), ?_⟩
 rw [hm, ho]; exact hc
theorem cell_int {kd : IntKind} {n : Int} : (PV.int kd n).cell = .int kd n := _root_.id rfl
theorem cell_bool {b : Bool} : (PV.bool b).cell = .bool b := _root_.id rfl
theorem cell_str {s : List UInt8} : (PV.str s).cell = .str s := _root_.id rfl
theorem cell_lent {m : Bool} {s : List PV} : (PV.sl (.lent m) s).cell = .sl (.lent m) s := by cases m <;> rfl
theorem cell_own {s : List PV} : (PV.sl .own s).cell = .sl (.lent false) [] := _root_.id rfl
theorem cell_agg {s : List PV} : (PV.agg s).cell = .agg s := _root_.id rfl
theorem cell_fn {f : FuncId} {a b : List PV} : (PV.fn f a b).cell = .fn f a b := _root_.id rfl
theorem cell_nilf : PV.nilf.cell = .nilf := _root_.id rfl
/-- A value that is no slice of the call's own: it stays as it is. -/
theorem a_int {kd : IntKind} {n : Int} : arr k (.p (.int kd n)) C = C ⟨.p (.int kd n), [], []⟩ := _root_.id rfl
theorem a_bool {b : Bool} : arr k (.p (.bool b)) C = C ⟨.p (.bool b), [], []⟩ := _root_.id rfl
theorem a_str {s : List UInt8} : arr k (.p (.str s)) C = C ⟨.p (.str s), [], []⟩ := _root_.id rfl
theorem a_lent {m : Bool} {s : List PV} : arr k (.p (.sl (.lent m) s)) C = C ⟨.p (.sl (.lent m) s), [], []⟩ := by cases m <;> rfl
theorem a_own {s : List PV} : arr k (.p (.sl .own s)) C = C ⟨.ref k 0 s.length, [(k, .live false s)], []⟩ := _root_.id rfl
theorem a_agg {s : List PV} : arr k (.p (.agg s)) C = C ⟨.p (.agg s), [], []⟩ := _root_.id rfl
theorem a_fn {f : FuncId} {a b : List PV} : arr k (.p (.fn f a b)) C = C ⟨.p (.fn f a b), [], []⟩ := _root_.id rfl
theorem a_nilf : arr k (.p .nilf) C = C ⟨.p .nilf, [], []⟩ := _root_.id rfl
theorem a_pc {s : List PV} : arr k (.p (.pc s)) C = C ⟨.p (.pc s), [], []⟩ := _root_.id rfl
theorem a_nl : arr k (.p .nl) C = C ⟨.p .nl, [], []⟩ := _root_.id rfl
theorem a_any : arr k (.p .any) C = C ⟨.p .any, [], []⟩ := _root_.id rfl
theorem a_ref {a b c : Nat} : arr k (.ref a b c) C = C ⟨.ref a b c, [], []⟩ := _root_.id rfl
theorem a_ptr {a b : Nat} : arr k (.ptr a b) C = C ⟨.ptr a b, [], []⟩ := _root_.id rfl
theorem a_aggA {s : List AV} : arr k (.agg s) C = C ⟨.agg s, [], []⟩ := _root_.id rfl
theorem a_tup {s : List AV} : arr k (.tup s) C = C ⟨.tup s, [], []⟩ := _root_.id rfl
theorem a_inn {i r o l : Nat} : arr k (.inn i r o l) C = C ⟨.inn i r o l, [], []⟩ := _root_.id rfl
theorem a_prs {i n : Nat} : arr k (.prs i n) C = C ⟨.prs i n, [], []⟩ := _root_.id rfl
theorem a_iptr {i r o : Nat} : arr k (.iptr i r o) C = C ⟨.iptr i r o, [], []⟩ := _root_.id rfl
theorem a_fnA {f : FuncId} {a b : List AV} : arr k (.fn f a b) C = C ⟨.fn f a b, [], []⟩ := _root_.id rfl
variable {A : AV → Prop} {V : PV → Prop} {kd kd' : IntKind} {m n : Int} {b b' : Bool} {s s' : List UInt8} {v v' : AV}
theorem p_bool {c : Bool} : pickW (.p (.bool b)) (.p (.bool b')) (.p (.bool c)) A = A (.p (.bool (bif b then b' else c))) := _root_.id rfl
theorem p_true : pickW (.p (.bool true)) v v' A = A v := by
 unfold pickW; simp only []
 split <;> rfl
theorem p_false : pickW (.p (.bool false)) v v' A = A v' := by
 unfold pickW; simp only []
 split <;> rfl
theorem b_add : binW P .add t (.p (.int kd m)) (.p (.int kd' n)) V = (kd = kd' ∧ inR kd (m + n) ∧ V (.int kd (m + n))) := _root_.id rfl
theorem b_sub : binW P .sub t (.p (.int kd m)) (.p (.int kd' n)) V = (kd = kd' ∧ inR kd (m - n) ∧ V (.int kd (m - n))) := _root_.id rfl
theorem b_mul : binW P .mul t (.p (.int kd m)) (.p (.int kd' n)) V = (kd = kd' ∧ inR kd (m * n) ∧ V (.int kd (m * n))) := _root_.id rfl
theorem b_quo : binW P .quo t (.p (.int kd m)) (.p (.int kd' n)) V = (kd = kd' ∧ n ≠ 0 ∧ inR kd (m.tdiv n) ∧ V (.int kd (m.tdiv n))) := _root_.id rfl
theorem b_rem : binW P .rem t (.p (.int kd m)) (.p (.int kd' n)) V = (kd = kd' ∧ n ≠ 0 ∧ V (.int kd (m.tmod n))) := _root_.id rfl
theorem b_shl : binW P .shl t (.p (.int kd m)) (.p (.int kd' n)) V = (0 ≤ n ∧ n < kd.bits ∧ inR kd (m * 2 ^ n.toNat) ∧ V (.int kd (m * 2 ^ n.toNat))) := _root_.id rfl
theorem b_shr : binW P .shr t (.p (.int kd m)) (.p (.int kd' n)) V = (0 ≤ n ∧ n < kd.bits ∧ V (.int kd (m.fdiv (2 ^ n.toNat)))) := _root_.id rfl
theorem b_and : binW P .and t (.p (.int kd m)) (.p (.int kd' n)) V = (kd = kd' ∧ 0 ≤ m ∧ 0 ≤ n ∧ inR kd m ∧ inR kd n ∧ V (.int kd ((m.toNat &&& n.toNat : Nat) : Int))) := _root_.id rfl
theorem b_eql : binW P .eql t (.p (.int kd m)) (.p (.int kd' n)) V = (kd = kd' ∧ V (.bool (decide (m = n)))) := _root_.id rfl
theorem b_neq : binW P .neq t (.p (.int kd m)) (.p (.int kd' n)) V = (kd = kd' ∧ V (.bool (!decide (m = n)))) := _root_.id rfl
theorem b_lss : binW P .lss t (.p (.int kd m)) (.p (.int kd' n)) V = (kd = kd' ∧ V (.bool (decide (m < n)))) := _root_.id rfl
theorem b_leq : binW P .leq t (.p (.int kd m)) (.p (.int kd' n)) V = (kd = kd' ∧ V (.bool (decide (m ≤ n)))) := _root_.id rfl
theorem b_gtr : binW P .gtr t (.p (.int kd m)) (.p (.int kd' n)) V = (kd = kd' ∧ V (.bool (decide (n < m)))) := _root_.id rfl
theorem b_geq : binW P .geq t (.p (.int kd m)) (.p (.int kd' n)) V = (kd = kd' ∧ V (.bool (decide (n ≤ m)))) := _root_.id rfl
theorem b_nile {xs : List PV} : binW P .eql t (.p .nl) (.p (.sl .own xs)) V = (slcT P t ∧ V (.bool true)) := _root_.id rfl
theorem b_niln {xs : List PV} : binW P .neq t (.p .nl) (.p (.sl .own xs)) V = (slcT P t ∧ V (.bool false)) := _root_.id rfl
theorem b_noe {xs ys : List PV} : binW P .eql t (.p (.sl .own ys)) (.p (.sl .own xs)) V = (slcT P t ∧ V (.bool true)) := _root_.id rfl
theorem b_non {xs ys : List PV} : binW P .neq t (.p (.sl .own ys)) (.p (.sl .own xs)) V = (slcT P t ∧ V (.bool false)) := _root_.id rfl
theorem b_nfe {xs ys : List PV} : binW P .eql t (.p (.sl .fr ys)) (.p (.sl .own xs)) V = (slcT P t ∧ 0 < ys.length ∧ V (.bool false)) := _root_.id rfl
theorem b_nfn {xs ys : List PV} : binW P .neq t (.p (.sl .fr ys)) (.p (.sl .own xs)) V = (slcT P t ∧ 0 < ys.length ∧ V (.bool true)) := _root_.id rfl
theorem b_nre {xs : List PV} {i j l : Nat} : binW P .eql t (.ref i j l) (.p (.sl .own xs)) V = (slcT P t ∧ 0 < l ∧ V (.bool false)) := _root_.id rfl
theorem b_nrn {xs : List PV} {i j l : Nat} : binW P .neq t (.ref i j l) (.p (.sl .own xs)) V = (slcT P t ∧ 0 < l ∧ V (.bool true)) := _root_.id rfl
theorem slc_t (h : (slT P t).isSome = true) : slcT P t = True := by
 refine eq_true ?_
 unfold slT at h
 split at h
 ·exact ⟨_, by assumption⟩
 ·cases h
theorem s_add : binW P .add t (.p (.str s)) (.p (.str s')) V = (s.length + s'.length ≤ 2 ^ 60 ∧ V (.str (s ++ s'))) := _root_.id rfl
theorem s_eql : binW P .eql t (.p (.str s)) (.p (.str s')) V = V (.bool (decide (s = s'))) := _root_.id rfl
theorem s_neq : binW P .neq t (.p (.str s)) (.p (.str s')) V = V (.bool (!decide (s = s'))) := _root_.id rfl
theorem s_lss : binW P .lss t (.p (.str s)) (.p (.str s')) V = V (.bool (lexLt s s')) := _root_.id rfl
theorem l_eql : binW P .eql t (.p (.bool b)) (.p (.bool b')) V = (boolT P t = true ∧ V (.bool (b == b'))) := _root_.id rfl
theorem l_neq : binW P .neq t (.p (.bool b)) (.p (.bool b')) V = (boolT P t = true ∧ V (.bool (!(b == b')))) := _root_.id rfl
theorem u_not : unW .not (.p (.bool b)) V = V (.bool (!b)) := _root_.id rfl
theorem u_neg : unW .neg (.p (.int kd m)) V = (inR kd (0 - m) ∧ V (.int kd (0 - m))) := _root_.id rfl
end
end Go.Gl
set_option linter.unusedSimpArgs false
set_option linter.unusedVariables false
namespace Go.Gl
open Go Go.RowKit
theorem Fun.calls1 [Amb] {P : Program} {f : FuncId} {args : List PV} {b : Bool} (hf : Fun P f args [.bool b]) (w : World) (ha : ∀ B o, Amb.tb B = some o → w.heap[B]? = some o) {vs : List Value} (hr : RepL w (fun _ => False) (fun B => w.heap.size ≤ B) args vs) :
  Calls P f ⟨vs⟩ w fun e w' => e = .returned (.bool b) ∧ Below w.heap.size w w' := by
 obtain ⟨_, _, _, _, h⟩ := hf
 have dead : ∀ j, argH (args.map .pv) j = .dead := fun j => by
  unfold argH
  rw [List.getElem?_map]
  cases args[j]? <;> rfl
 have hno : ∀ (ι : Nat → Loc) B, ¬ Held (argH (args.map .pv)) ι B := by
  rintro ι B ⟨id, ho⟩
  rw [dead] at ho; exact ho
 have hrep : ∀ (l : List PV) (vs : List Value) (k : Nat), RepL w (fun _ => False) (fun B => w.heap.size ≤ B) l vs → RepAL w (Held (argH (args.map .pv)) fun _ => ⟨0, 0, 0, 0, noInn⟩) (fun B => w.heap.size ≤ B) (fun _ => ⟨0, 0, 0, 0, noInn⟩) (argAVs k (l.map .pv)) vs := by
  intro l
  induction l with
  | nil => intro vs k h; simpa [argAVs, RepAL, RepL] using h
  | cons x l ih =>
   intro vs k h
   simp only [RepL] at h
   obtain ⟨v, vs', rfl, h1, h2⟩ := h
   simp only [List.map_cons, argAVs, Arg.av, RepAL, RepA]
   exact ⟨v, vs', rfl, RepP.tr (F := fun _ => False) (fun _ _ _ _ hv => ⟨hv, hno _ _⟩) (fun _ _ _ h => h) _ _ h1, ih _ _ h2⟩
 refine (h w (fun B => w.heap.size ≤ B) (fun _ => ⟨0, 0, 0, 0, noInn⟩) vs ⟨ha, fun B o _ hB => hno _ B hB⟩ (fun _ h => h) ⟨?_, ?_⟩ (hrep _ _ _ hr)).mono ?_
 ·intro id; rw [dead]; trivial
 ·intro id _ B ho; rw [dead] at ho; exact ho.elim
 ·rintro e w' ⟨v, ι', rfl, _, hk, _, hv⟩
  have hv : v = .bool b := by simpa [impAll, imp, imp1, RepA, RepP] using hv
  subst hv
  exact ⟨rfl, hk.os, hk.tape, hk.output, hk.size, fun k hk' => hk.block k hk' (hno _ _)⟩
/-- Where nothing is told of tables. -/
theorem Fun.calls {P : Program} {f : FuncId} {args : List PV} {b : Bool} (hf : @Fun noAmb P f args [.bool b]) (w : World) {vs : List Value} (hr : RepL w (fun _ => False) (fun B => w.heap.size ≤ B) args vs) :
  Calls P f ⟨vs⟩ w fun e w' => e = .returned (.bool b) ∧ Below w.heap.size w w' :=
 @Fun.calls1 noAmb P f args b hf w (fun _ _ h => by cases h) vs hr
/-! ### arguments -/
theorem rep_nil {w : World} {F G : Nat → Prop} : RepL w F G [] [] := by simp only [RepL]
theorem rep_cons {w : World} {F G : Nat → Prop} {x : PV} {xs : List PV} {v : Value} {vs : List Value} (h : RepP w F G x v) (hs : RepL w F G xs vs) : RepL w F G (x :: xs) (v :: vs) := by
 simp only [RepL]; exact ⟨v, vs, rfl, h, hs⟩
theorem rep_i {w : World} {F G : Nat → Prop} {k : IntKind} (n : Int) : RepP w F G (.int k n) (.int k n) := by simp only [RepP]
theorem rep_b {w : World} {F G : Nat → Prop} (b : Bool) : RepP w F G (.bool b) (.bool b) := by simp only [RepP]
theorem rep_s {w : World} {F G : Nat → Prop} (s : ByteArray) : RepP w F G (.str s.data.toList) (.string s) := by simp only [RepP]
/-- A slice of integers that came in: it is nil; or it leads to a row of 'cap' cells, the numbers 'zs', the first 'len' of which are its elements. -/
def IsRow (k : IntKind) (w : World) (a : Option Addr) (len cap : Nat) (zs : List Int) : Prop :=
 (a = none ∧ len = 0 ∧ cap = 0 ∧ zs = []) ∨
 ∃ x, a = some x ∧ len ≤ cap ∧ cap ≤ maxLen ∧ zs.length = cap ∧ (∀ i, i < zs.length → w.cell? (x.add i) = some (.int k (zs.getD i 0))) ∧ ∀ n ∈ zs, (Lit.int k n).wf = true
def ints (k : IntKind) (xs : List Int) : PV := .sl .ro (xs.map (.int k))
theorem IsRow.rep {k : IntKind} {w : World} {G : Nat → Prop} {a : Option Addr} {len cap : Nat} {zs : List Int} (h : IsRow k w a len cap zs) : RepP w (fun _ => False) G (ints k (zs.take len)) (.slice a len cap) := by
 simp only [ints, RepP]
 rcases h with ⟨rfl, rfl, rfl, rfl⟩ | ⟨x, rfl, hl, hm, hz, hc, _⟩
 ·exact ⟨none, 0, rfl, Nat.le_refl _, Nat.zero_le _, (by intro h; cases h), .inl rfl⟩
 ·have e : ((zs.take len).map (PV.int k)).length = len := by simp; omega
  refine ⟨some x, cap, by rw [e], by rw [e]; exact hl, hm, (by intro h; cases h), ?_⟩
  by_cases h0 : len = 0
  ·left; subst h0; rfl
  ·right
   obtain ⟨B, off, spot⟩ := x
   have h1 := hc 0 (by omega)
   have hs : spot = none := by simpa [Addr.add] using World.cell?_spot h1
   subst hs
   refine ⟨B, off, rfl, id, (by intro h; cases h), ?_⟩
   have key : ∀ (ys : List Int) (o : Nat), (∀ i (hi : i < ys.length), w.cell? ⟨B, o + i, none⟩ = some (.int k ys[i])) → RepC w (fun _ => False) G B o (ys.map (.int k)) := by
    intro ys
    induction ys with
    | nil => intro o _; simp only [List.map_nil, RepC]
    | cons y ys ih =>
     intro o hy
     simp only [List.map_cons, RepC, RepP]
     refine ⟨⟨_, hy 0 (by simp), rfl, rfl⟩, ih (o + 1) fun i hi => ?_⟩
     have := hy (i + 1) (by simpa using hi)
     rw [show o + 1 + i = o + (i + 1) by omega]
     simpa using this
   refine key _ off fun i hi => ?_
   have hi' : i < zs.length := by simp at hi; omega
   have := hc i hi'
   by_cases hi0 : i = 0
   ·subst hi0; simpa [Addr.add, hi'] using this
   ·simpa [Addr.add, hi', hi0] using this
end Go.Gl
set_option linter.unusedSimpArgs false
set_option linter.unusedVariables false
namespace Go.Gl
open Go
variable [Amb]
section
variable {P : Program} {sg : FuncId → List Bool} {h : Nat → Blk} {k : Nat} {ρ : Operand → AV} {C : R → Prop} {t t' : TypeId} {x y : Operand}
/-! ### what is in a block -/
def setB (h : Nat → Blk) (i : Nat) (b : Blk) (j : Nat) : Blk := if j = i then b else h j
theorem hw_nil : hwsH h [] = h := _root_.id rfl
theorem hw_cons {i : Nat} {b : Blk} {l : List (Nat × Blk)} : hwsH h ((i, b) :: l) = hwsH (setB h i b) l := _root_.id rfl
theorem setB_at {i j : Nat} {b : Blk} : setB h i b j = if j = i then b else h j := _root_.id rfl
theorem num_eq {S0 i : Nat} : num S0 i = S0 + 256 * i := _root_.id rfl
/-! ### a place in a list -/
def gtO {α : Type} (o : Option α) (K : α → Prop) : Prop := match o with | some x => K x | none => False
theorem gt_eq {α : Type} {xs : List α} {i : Int} {K : α → Prop} : gt xs i K = (0 ≤ i ∧ gtO xs[i.toNat]? K) := _root_.id rfl
theorem gtO_some {α : Type} {a : α} {K : α → Prop} : gtO (some a) K = K a := _root_.id rfl
theorem v_gt {l : List Int} {i : Nat} {f : Int → PV} {K : PV → Prop} (hi : i < l.length) (hk : K (f (l.getD i 0))) : gtO (Option.map f l[i]?) K := by
 rw [List.getElem?_eq_getElem hi]
 rw [List.getD_eq_getElem?_getD, List.getElem?_eq_getElem hi] at hk
 exact hk
theorem v_gt8 {l : List UInt8} {i : Nat} {K : UInt8 → Prop} (hi : i < l.length) (hk : K (l.getD i 0)) : gtO l[i]? K := by
 rw [List.getElem?_eq_getElem hi]
 rw [List.getD_eq_getElem?_getD, List.getElem?_eq_getElem hi] at hk
 exact hk
/-! ### loads -/
def KX (id : Nat) (C : R → Prop) (v : PV) : Prop := C ⟨.p v, [], [id]⟩
def KB (A : AV → Prop) (b : UInt8) : Prop := A (.p (.int .u8 b.toNat))
def KP (A : AV → Prop) (v : PV) : Prop := A (.p (.pc [v]))
def ldG (s : Option (Nat × Bool)) (h : Nat → Blk) (a : AV) (C : R → Prop) : Prop :=
 match s with
 | some (n, false) => n = 1 ∧ (match a with
  | .p (.pc (x :: _)) => C ⟨.p x, [], []⟩
  | .ptr id off => match h id with
   | .live _ c => gt c off fun x => C ⟨.p x, [], [id]⟩
   | .froz _ c => gt c off fun x => C ⟨.p x, [], [id]⟩
   | .deep _ cs rs => gt cs off fun x => C ⟨x.av id rs, [], [id]⟩
   | _ => False
  | .iptr id r off => match h id with
   | .deep _ _ rs => (match rs[r]? with
    | some (some c) => gt c off fun x => C ⟨.p x, [], [id]⟩
    | _ => False)
   | _ => False
  | _ => False)
 | some (n, true) => (match a with
  | .p (.pc xs) => n ≤ xs.length ∧ C ⟨.p (.agg (xs.take n)), [], []⟩
  | .ptr id off => match h id with
   | .live _ c => off + n ≤ c.length ∧ C ⟨.p (.agg ((c.drop off).take n)), [], [id]⟩
   | .froz _ c => off + n ≤ c.length ∧ C ⟨.p (.agg ((c.drop off).take n)), [], [id]⟩
   | .deep _ cs rs => off + n ≤ cs.length ∧ C ⟨.agg (((cs.drop off).take n).map (DC.av id rs)), [], [id]⟩
   | _ => False
  | _ => False)
 | none => False
def KD (id : Nat) (rs : List (Option (List PV))) (C : R → Prop) (x : DC) : Prop := C ⟨x.av id rs, [], [id]⟩
/-- A cell of a row. -/
def ldI (b : Blk) (id r off : Nat) (C : R → Prop) : Prop :=
 match b with
 | .deep _ _ rs => (match rs[r]? with
  | some (some c) => gt c off (KX id C)
  | _ => False)
 | _ => False
def ldB (b : Blk) (id : Nat) (off : Nat) (C : R → Prop) : Prop :=
 match b with
 | .live _ c => gt c off (KX id C)
 | .froz _ c => gt c off (KX id C)
 | .deep _ cs rs => gt cs off (KD id rs C)
 | _ => False
theorem m_load {a : AV} : loadW P t h a C = ldG (szT P t) h a C := _root_.id rfl
theorem m_ld_pc {v : PV} {vs : List PV} : ldG (some (1, false)) h (.p (.pc (v :: vs))) C = C ⟨.p v, [], []⟩ := by simp [ldG]
theorem m_ld_ptr {id off : Nat} : ldG (some (1, false)) h (.ptr id off) C = ldB (h id) id off C := by simp only [ldG, ldB, true_and]; rfl
theorem m_ld_iptr {id r off : Nat} : ldG (some (1, false)) h (.iptr id r off) C = ldI (h id) id r off C := by simp only [ldG, ldI, true_and]; rfl
theorem m_live {m : Bool} {c : List PV} {id off : Nat} : ldB (.live m c) id off C = gt c off (KX id C) := _root_.id rfl
theorem m_froz {m : Bool} {c : List PV} {id off : Nat} : ldB (.froz m c) id off C = gt c off (KX id C) := _root_.id rfl
theorem m_kx {id : Nat} {v : PV} : KX id C v = C ⟨.p v, [], [id]⟩ := _root_.id rfl
theorem m_agg_pc {n : Nat} {xs : List PV} : ldG (some (n, true)) h (.p (.pc xs)) C = (n ≤ xs.length ∧ C ⟨.p (.agg (xs.take n)), [], []⟩) := _root_.id rfl
variable {A : AV → Prop}
theorem m_addr_sl {kd : IntKind} {i : Int} {o : Fl} {xs : List PV} : indexAddrW P t (.p (.sl o xs)) (.p (.int kd i)) A = ((slT P t).isSome = true ∧ gt xs i (KP A)) := _root_.id rfl
theorem m_addr_ref {kd : IntKind} {i : Int} {id off len : Nat} : indexAddrW P t (.ref id off len) (.p (.int kd i)) A = ((slT P t).isSome = true ∧ 0 ≤ i ∧ i < len ∧ A (.ptr id (off + i.toNat))) := _root_.id rfl
theorem m_addr_inn {kd : IntKind} {i : Int} {id r off len : Nat} : indexAddrW P t (.inn id r off len) (.p (.int kd i)) A = ((slT P t).isSome = true ∧ 0 ≤ i ∧ i < len ∧ A (.iptr id r (off + i.toNat))) := _root_.id rfl
theorem m_kp {v : PV} : KP A v = A (.p (.pc [v])) := _root_.id rfl
theorem m_index {kd : IntKind} {i : Int} {s : List UInt8} : indexW P t (.p (.str s)) (.p (.int kd i)) A = (strT P t = true ∧ gt s i (KB A)) := _root_.id rfl
theorem m_kb {b : UInt8} : KB A b = A (.p (.int .u8 b.toNat)) := _root_.id rfl
/-! ### lengths -/
theorem w_len {ty : TypeId} : opB P sg ρ h k (.call { callee := .builtin .len, args := ⟨[x]⟩, argTypes := ⟨[ty]⟩ }) C = lenW P ty (ρ x) (KW C) := _root_.id rfl
theorem m_len_s {s : List UInt8} : lenW P t (.p (.str s)) A = (strT P t = true ∧ A (.p (.int .i64 s.length))) := _root_.id rfl
theorem m_len_sl {o : Fl} {xs : List PV} : lenW P t (.p (.sl o xs)) A = ((slT P t).isSome = true ∧ A (.p (.int .i64 xs.length))) := _root_.id rfl
theorem m_len_ref {id off len : Nat} : lenW P t (.ref id off len) A = ((slT P t).isSome = true ∧ A (.p (.int .i64 len))) := _root_.id rfl
theorem m_len_inn {id r off len : Nat} : lenW P t (.inn id r off len) A = ((slT P t).isSome = true ∧ A (.p (.int .i64 len))) := _root_.id rfl
/-! ### new slices -/
def BS (n k : Nat) (C : R → Prop) (xs : List PV) (ws : List (Nat × Blk)) (rd : List Nat) : Prop := C ⟨.ref k 0 n, ws ++ [(k, .live false xs)], rd⟩
def PU (F : List PV → List (Nat × Blk) → List Nat → Prop) (v : PV) (xs : List PV) (ws : List (Nat × Blk)) (rd : List Nat) : Prop := F (v :: xs) ws rd
theorem w_bs {n : Nat} {parts : Array (Nat × Operand)} (hs : (slT P t).isSome = true) : opB P sg ρ h k (.buildSlice t n parts) C = ((slT P t).isSome = true ∧ partsOk n parts = true ∧ n ≤ 1000000 ∧ pubs h (parts.toList.map fun p => ρ p.2) (BS n k C)) := by
 show buildSliceW P t n parts k ρ h C = _
 unfold buildSliceW; rw [if_neg (pairT_slT hs)]; rfl
def BP (n k : Nat) (C : R → Prop) (xs : List PV) : Prop := C ⟨.prs k n, [(k, .live false xs)], []⟩
def PR (x y : PV) (F : List PV → Prop) (xs : List PV) : Prop := F (x :: y :: xs)
theorem w_bsP {n : Nat} {parts : Array (Nat × Operand)} (hs : pairT P t = true) : opB P sg ρ h k (.buildSlice t n parts) C = (partsOk n parts = true ∧ 1 ≤ n ∧ n ≤ 1000000 ∧ prL (parts.toList.map fun p => ρ p.2) (BP n k C)) := by
 show buildSliceW P t n parts k ρ h C = _
 unfold buildSliceW; rw [if_pos hs]; rfl
theorem m_bp {n : Nat} {xs : List PV} : BP n k C xs = C ⟨.prs k n, [(k, .live false xs)], []⟩ := _root_.id rfl
theorem m_pr {x y : PV} {F : List PV → Prop} {xs : List PV} : PR x y F xs = F (x :: y :: xs) := _root_.id rfl
theorem pr_nil {F : List PV → Prop} : prL [] F = F [] := _root_.id rfl
theorem pr_cons {x y : PV} {vs : List AV} {F : List PV → Prop} : prL (.agg [.p x, .p y] :: vs) F = (x.cellOk = true ∧ y.cellOk = true ∧ prL vs (PR x y F)) := _root_.id rfl
theorem ck_fn {f : FuncId} {a b : List PV} : PV.cellOk (.fn f a b) = true := _root_.id rfl
theorem on_fn {f : FuncId} {a b : List PV} : AV.one1 (.p (.fn f a b)) = True := _root_.id rfl
theorem m_addr_prs {A : AV → Prop} {kd : IntKind} {i : Int} {id len : Nat} : indexAddrW P t (.prs id len) (.p (.int kd i)) A = (pairT P t = true ∧ 0 ≤ i ∧ i < len ∧ A (.ptr id (i.toNat * 2))) := _root_.id rfl
theorem m_len_prs {A : AV → Prop} {id len : Nat} : lenW P t (.prs id len) A = (pairT P t = true ∧ A (.p (.int .i64 len))) := _root_.id rfl
theorem p_ok {n : Nat} {parts : Array (Nat × Operand)} (h : partsOk n parts = true) : partsOk n parts = true := h
theorem m_pu_nil {F : List PV → List (Nat × Blk) → List Nat → Prop} : pubs h [] F = F [] [] [] := _root_.id rfl
theorem m_pu_p {F : List PV → List (Nat × Blk) → List Nat → Prop} {v : PV} {vs : List AV} : pubs h (.p v :: vs) F = (v.cell.cellOk = true ∧ pubs h vs (PU F v.cell)) := _root_.id rfl
theorem m_pu {F : List PV → List (Nat × Blk) → List Nat → Prop} {v : PV} {xs : List PV} {ws : List (Nat × Blk)} {rd : List Nat} : PU F v xs ws rd = F (v :: xs) ws rd := _root_.id rfl
theorem m_bs {n : Nat} {xs : List PV} {ws : List (Nat × Blk)} {rd : List Nat} : BS n k C xs ws rd = C ⟨.ref k 0 n, ws ++ [(k, .live false xs)], rd⟩ := _root_.id rfl
theorem ok_int {kd : IntKind} {n : Int} : (PV.int kd n).cellOk = true := _root_.id rfl
theorem ok_bool {b : Bool} : (PV.bool b).cellOk = true := _root_.id rfl
theorem ok_str {s : List UInt8} : (PV.str s).cellOk = true := _root_.id rfl
theorem ok_lent {m : Bool} {s : List PV} : (PV.sl (.lent m) s).cellOk = true := by cases m <;> rfl
/-! ### append -/
def AP (h : Nat → Blk) (k : Nat) (s : AV) (C : R → Prop) (ys : List PV) (rd : List Nat) : Prop :=
 match s with
 | .ref id off len => match h id with
  | .live m c => len + ys.length ≤ 1099511627776 ∧ off + len ≤ c.length ∧
    (if off + len = c.length then C ⟨.ref k 0 (len + ys.length), [(id, .dead), (k, .live m (c.drop off ++ ys))], id :: rd⟩
    else if off + len + ys.length ≤ c.length then C ⟨.ref k off (len + ys.length), [(id, .dead), (k, .live m (c.take (off + len) ++ ys ++ c.drop (off + len + ys.length)))], id :: rd⟩
    else C ⟨.ref k 0 (len + ys.length), [(id, .dead), (k, .live m ((c.drop off).take len ++ ys))], id :: rd⟩)
  | _ => False
 | .p (.sl .own []) => ys.length ≤ 1099511627776 ∧ C ⟨.ref k 0 ys.length, [(k, .live false ys)], rd⟩
 | .inn id r 0 len => (match h id with
  | .deep m cs rs => (match rs[r]? with
   | some (some c) => len = c.length ∧ id ∉ rd ∧ len + ys.length ≤ 1099511627776 ∧
     C ⟨.ref k 0 (len + ys.length), [(id, .deep m cs (rs.set r none)), (k, .live m (c ++ ys))], id :: rd⟩
   | _ => False)
  | _ => False)
 | _ => False
def apI (b : Blk) (id r len k : Nat) (C : R → Prop) (ys : List PV) (rd : List Nat) : Prop :=
 match b with
 | .deep m cs rs => (match rs[r]? with
  | some (some c) => len = c.length ∧ id ∉ rd ∧ len + ys.length ≤ 1099511627776 ∧
    C ⟨.ref k 0 (len + ys.length), [(id, .deep m cs (rs.set r none)), (k, .live m (c ++ ys))], id :: rd⟩
  | _ => False)
 | _ => False
def apB (b : Blk) (id off len k : Nat) (C : R → Prop) (ys : List PV) (rd : List Nat) : Prop :=
 match b with
 | .live m c => len + ys.length ≤ 1099511627776 ∧ off + len ≤ c.length ∧
    (if off + len = c.length then C ⟨.ref k 0 (len + ys.length), [(id, .dead), (k, .live m (c.drop off ++ ys))], id :: rd⟩
    else if off + len + ys.length ≤ c.length then C ⟨.ref k off (len + ys.length), [(id, .dead), (k, .live m (c.take (off + len) ++ ys ++ c.drop (off + len + ys.length)))], id :: rd⟩
    else C ⟨.ref k 0 (len + ys.length), [(id, .dead), (k, .live m ((c.drop off).take len ++ ys))], id :: rd⟩)
 | _ => False
def ctB (b : Blk) (id off len : Nat) (F : List PV → List Nat → Prop) : Prop :=
 match b with
 | .live _ c => off + len ≤ c.length ∧ F ((c.drop off).take len) [id]
 | .froz _ c => off + len ≤ c.length ∧ F ((c.drop off).take len) [id]
 | _ => False
def ctI (b : Blk) (id r off len : Nat) (F : List PV → List Nat → Prop) : Prop :=
 match b with
 | .deep _ _ rs => (match rs[r]? with
  | some (some c) => off + len ≤ c.length ∧ F ((c.drop off).take len) [id]
  | _ => False)
 | _ => False
/-- What is appended: by what it is. -/
def apX (h : Nat → Blk) (k : Nat) (s x : AV) (C : R → Prop) : Prop := if isDeep h x = true then appendD h k s x C else cont h x (AP h k s C)
def axB (b : Blk) (h : Nat → Blk) (k : Nat) (s : AV) (j off n : Nat) (C : R → Prop) : Prop :=
 match b with
 | .deep .. => appendD h k s (.ref j off n) C
 | b => ctB b j off n (AP h k s C)
theorem ax_p {s : AV} {v : PV} : apX h k s (.p v) C = cont h (.p v) (AP h k s C) := by simp [apX, isDeep]
theorem ax_ref {s : AV} {j off n : Nat} : apX h k s (.ref j off n) C = axB (h j) h k s j off n C := by
 cases e : h j <;> simp [apX, isDeep, axB, cont, ctB, e]
theorem ax_inn {s : AV} {j r off n : Nat} : apX h k s (.inn j r off n) C = ctI (h j) j r off n (AP h k s C) := by
 simp only [apX, isDeep, Bool.false_eq_true, if_false, cont, ctI]; cases h j <;> rfl
theorem ax_live {m : Bool} {c : List PV} {s : AV} {j off n : Nat} : axB (.live m c) h k s j off n C = ctB (.live m c) j off n (AP h k s C) := _root_.id rfl
theorem ax_froz {m : Bool} {c : List PV} {s : AV} {j off n : Nat} : axB (.froz m c) h k s j off n C = ctB (.froz m c) j off n (AP h k s C) := _root_.id rfl
theorem m_ap_inn {id r len : Nat} {ys : List PV} {rd : List Nat} : AP h k (.inn id r 0 len) C ys rd = apI (h id) id r len k C ys rd := by
 simp only [AP, apI]
theorem w_append : opB P sg ρ h k (.call { callee := .builtin .append, args := ⟨[x, y]⟩, argTypes := ⟨[t, t']⟩ }) C =
  ((slT P t).isSome = true ∧ ((slT P t').isSome = true ∨ strT P t' = true) ∧ apX h k (ρ x) (ρ y) C) := rfl
theorem m_ct_sl {o : Fl} {xs : List PV} {F : List PV → List Nat → Prop} : cont h (.p (.sl o xs)) F = F xs [] := _root_.id rfl
theorem m_ct_s {s : List UInt8} {F : List PV → List Nat → Prop} : cont h (.p (.str s)) F = F (s.map fun b => .int .u8 b.toNat) [] := _root_.id rfl
theorem m_ct_ref {id off len : Nat} {F : List PV → List Nat → Prop} : cont h (.ref id off len) F = ctB (h id) id off len F := by
 simp only [cont, ctB]; cases h id <;> rfl
theorem m_ct_inn {id r off len : Nat} {F : List PV → List Nat → Prop} : cont h (.inn id r off len) F = ctI (h id) id r off len F := by
 simp only [cont, ctI]; cases h id <;> rfl
theorem m_ct_live {m : Bool} {c : List PV} {id off len : Nat} {F : List PV → List Nat → Prop} : ctB (.live m c) id off len F = (off + len ≤ c.length ∧ F ((c.drop off).take len) [id]) := _root_.id rfl
theorem m_ct_froz {m : Bool} {c : List PV} {id off len : Nat} {F : List PV → List Nat → Prop} : ctB (.froz m c) id off len F = (off + len ≤ c.length ∧ F ((c.drop off).take len) [id]) := _root_.id rfl
theorem m_ap_nil {ys : List PV} {rd : List Nat} : AP h k (.p (.sl .own [])) C ys rd = (ys.length ≤ 1099511627776 ∧ C ⟨.ref k 0 ys.length, [(k, .live false ys)], rd⟩) := _root_.id rfl
theorem m_ap_ref {id off len : Nat} {ys : List PV} {rd : List Nat} : AP h k (.ref id off len) C ys rd = apB (h id) id off len k C ys rd := by
 simp only [AP, apB]
theorem m_ap_live {m : Bool} {c : List PV} {id off len : Nat} {ys : List PV} {rd : List Nat} : apB (.live m c) id off len k C ys rd = (len + ys.length ≤ 1099511627776 ∧ off + len ≤ c.length ∧
    (if off + len = c.length then C ⟨.ref k 0 (len + ys.length), [(id, .dead), (k, .live m (c.drop off ++ ys))], id :: rd⟩
    else if off + len + ys.length ≤ c.length then C ⟨.ref k off (len + ys.length), [(id, .dead), (k, .live m (c.take (off + len) ++ ys ++ c.drop (off + len + ys.length)))], id :: rd⟩
    else C ⟨.ref k 0 (len + ys.length), [(id, .dead), (k, .live m ((c.drop off).take len ++ ys))], id :: rd⟩)) := rfl
theorem take_all {α : Type} {l : List α} : l.take l.length = l := List.take_length
theorem take_map_all {α β : Type} {f : α → β} {l : List α} : (l.map f).take l.length = l.map f := by rw [List.take_of_length_le (by simp)]
end
end Go.Gl
set_option linter.unusedSimpArgs false
set_option linter.unusedVariables false
namespace Go.Gl
open Go
variable [Amb]
section
variable {S : St} {as : List Arg} {h : Nat → Blk} {k : Nat} {F : List (Nat × Nat × Pl) → Prop} {v : AV} {vs : List AV} {xs : List PV}
/-- The results' blocks so far, and what is behind. -/
def FK (h : Nat → Blk) (k : Nat) (vs : List AV) (xs : List PV) (F : List (Nat × Nat × Pl) → Prop) (L : List (Nat × Nat × Pl)) : Prop := fins false h k vs xs fun L' => F (L ++ L')
/-- The end: the blocks of the results are not twice the same. -/
def F0 (L : List (Nat × Nat × Pl)) : Prop := L.Pairwise Dj
theorem v_fin {ts : List Nat} {ex : Ex} (hx : ex = .ret ∨ ex = .normal) (hf : fins false S.h as.length (ts.map S.e) xs F0) : FinE as ts xs ex S := by
 have key : Fin false S as [] (ts.map S.e) xs := by
  unfold Fin
  refine Eq.mpr (congrArg (fins false S.h as.length (ts.map S.e) xs) (?_ : _ = F0)) hf
  funext L
  simp only [F0]
  apply propext
  constructor
  ·intro h; exact h.1
  ·intro h; refine ⟨h, fun j _ => ?_⟩
   split
   ·rename_i h; simp at h
   ·trivial
 rcases hx with rfl | rfl <;> exact key
theorem f_nil : fins false h k [] [] F = F [] := _root_.id rfl
theorem f_cons {x : PV} : fins false h k (v :: vs) (x :: xs) F = fin false h k v x (FK h (k + 16) vs xs F) := _root_.id rfl
/-- What came, with more in front. -/
def FL (L : List (Nat × Nat × Pl)) (F : List (Nat × Nat × Pl) → Prop) (L' : List (Nat × Nat × Pl)) : Prop := F (L ++ L')
theorem f_fkc {L : List (Nat × Nat × Pl)} : FK h k vs xs F L = fins false h k vs xs (FL L F) := _root_.id rfl
theorem f_fl {L L' : List (Nat × Nat × Pl)} : FL L F L' = F (L ++ L') := _root_.id rfl
theorem f_int {kd : IntKind} {n : Int} : fin false h k v (.int kd n) F = (v = .p (.int kd n) ∧ F []) := _root_.id rfl
theorem f_bool {b : Bool} : fin false h k v (.bool b) F = (v = .p (.bool b) ∧ F []) := _root_.id rfl
theorem f_str {s : List UInt8} : fin false h k v (.str s) F = (v = .p (.str s) ∧ F []) := _root_.id rfl
theorem f_ro {s : List PV} : fin false h k v (.sl (.lent true) s) F = (v = .p (.sl (.lent true) s) ∧ F []) := _root_.id rfl
def fiB (b : Blk) (k id off len : Nat) (ys : List PV) (F : List (Nat × Nat × Pl) → Prop) : Prop :=
 match b with
 | .live m c => off + len ≤ c.length ∧ (m = true → false = true) ∧ (c.drop off).take len = ys ∧ F [(k, id, .o off)]
 | _ => False
theorem f_own {id off len : Nat} {ys : List PV} : fin false h k (.ref id off len) (.sl .own ys) F = fiB (h id) k id off len ys F := by
 simp only [fin, fin1, fiB]; cases h id <;> rfl
theorem f_live {c : List PV} {id off len : Nat} {ys : List PV} : fiB (.live false c) k id off len ys F = (off + len ≤ c.length ∧ (c.drop off).take len = ys ∧ F [(k, id, .o off)]) := by
 simp [fiB]
theorem f_own0 {ys zs : List PV} : fin false h k (.p (.sl .own zs)) (.sl .own ys) F = (ys = [] ∧ F []) := _root_.id rfl
theorem f_0 : F0 [] := List.Pairwise.nil
theorem f_1 {p : Nat × Nat × Pl} : F0 [p] := by simp [F0]
end
end Go.Gl
set_option linter.unusedSimpArgs false
set_option linter.unusedVariables false
namespace Go.Gl
open Go
variable [Amb]
section
variable {S : St} {h : Nat → Blk} {C : R → Prop} {k : Nat} {P : Program} {t t' : TypeId}
/-! ### lists told by a map -/
theorem mp_ap {α β : Type} {f : α → β} {l l' : List α} : List.map f l ++ List.map f l' = List.map f (l ++ l') := List.map_append.symm
theorem mp_int {l : List Int} {kd : IntKind} {x : Int} {r : List PV} : List.map (PV.int kd) l ++ (PV.int kd x :: r) = List.map (PV.int kd) (l ++ [x]) ++ r := by simp
theorem mp_str {l : List (List UInt8)} {x : List UInt8} {r : List PV} : List.map PV.str l ++ (PV.str x :: r) = List.map PV.str (l ++ [x]) ++ r := by simp
theorem mp_bool {l : List Bool} {x : Bool} {r : List PV} : List.map PV.bool l ++ (PV.bool x :: r) = List.map PV.bool (l ++ [x]) ++ r := by simp
theorem tk_map {α β : Type} {f : α → β} {l : List α} {n : Nat} : (l.map f).take n = (l.take n).map f := List.map_take.symm
theorem dr_map {α β : Type} {f : α → β} {l : List α} {n : Nat} : (l.map f).drop n = (l.drop n).map f := List.map_drop.symm
/-! ### the elements of slices -/
def u8P (b : UInt8) : PV := .int .u8 b.toNat
def elI (m : Bool) (l : List Int) : PV := .sl (.lent m) (l.map (.int .i64))
def elS (m : Bool) (l : List (List UInt8)) : PV := .sl (.lent m) (l.map .str)
theorem nr_u8 {b : UInt8} : noRo (u8P b) = true := _root_.id rfl
theorem nr_frI {l : List Int} : noRo (elI false l) = true := noRoL_map (fun _ => rfl) l
theorem nr_frS {l : List (List UInt8)} : noRo (elS false l) = true := noRoL_map (fun _ => rfl) l
theorem v_gtm {α : Type} [Inhabited α] {l : List α} {i : Nat} {f : α → PV} {K : PV → Prop} (hi : i < l.length) (hk : K (f (l.getD i default))) : gtO (Option.map f l[i]?) K := by
 rw [List.getElem?_eq_getElem hi]
 rw [List.getD_eq_getElem?_getD, List.getElem?_eq_getElem hi] at hk
 exact hk
/-! ### two values are the same -/
theorem ref_eq {i o l l' : Nat} (h : l = l') : AV.ref i o l = AV.ref i o l' := by rw [h]
theorem live_eq {m : Bool} {α : Type} {f : α → PV} {l l' : List α} (h : l = l') : Blk.live m (l.map f) = Blk.live m (l'.map f) := by rw [h]
theorem froz_eq {m : Bool} {α : Type} {f : α → PV} {l l' : List α} (h : l = l') : Blk.froz m (l.map f) = Blk.froz m (l'.map f) := by rw [h]
theorem int_eq {kd : IntKind} {a b : Int} (h : a = b) : AV.p (.int kd a) = AV.p (.int kd b) := by rw [h]
theorem bool_eq {a b : Bool} (h : a = b) : AV.p (.bool a) = AV.p (.bool b) := by rw [h]
theorem str_eq {a b : List UInt8} (h : a = b) : AV.p (.str a) = AV.p (.str b) := by rw [h]
theorem sl_eq {o : Fl} {α : Type} {f : α → PV} {l l' : List α} (h : l = l') : AV.p (.sl o (l.map f)) = AV.p (.sl o (l'.map f)) := by rw [h]
theorem mp_eq {α : Type} {f : α → PV} {l l' : List α} (h : l = l') : l.map f = l'.map f := by rw [h]
theorem lv_eq {m : Bool} {l l' : List PV} (h : l = l') : Blk.live m l = Blk.live m l' := by rw [h]
end
attribute [go_sem ↓] w_opb r_nil r_cons r_guard r_nx d_nil d_cons d_guard d_nx w_move w_assign w_pick w_bin
attribute [go_sem ↓] w_un w_call w_load w_addr w_index e_put o_tmp o_const e_entry w_len w_bs w_append
attribute [go_sem] ips_nil ips_cons ip_ref in_live ipl_eq g_fn fz_nil fz_cons fzc_eq fr_nil fr_cons fb_live fb_froz fR_nil fR_nil2 fR_t fR_tp fR_f q_all q_nil q_p q_ref q_ua q_un q_live q_froz cell_int cell_bool cell_str
attribute [go_sem] cell_lent cell_own gI_tt gI_ff gI_tf gI_ft gI_bool gJ_tt gJ_ff gJ_tf gJ_ft
attribute [go_sem] gJ_bool gb_tt gb_ff gb_tf gb_ft gd r_kv r_kw r_ka a_int a_bool a_str a_lent a_own a_agg a_nl
attribute [go_sem] a_any a_ref a_ptr a_aggA a_tup a_fn a_nilf a_pc p_bool p_true p_false b_add
attribute [go_sem] b_sub b_mul b_quo b_rem b_shl b_shr b_and b_eql b_neq b_lss b_leq b_gtr
attribute [go_sem] slc_t b_nile b_niln b_noe b_non b_nfe b_nfn b_nre b_nrn
attribute [go_sem] b_geq s_add s_eql s_neq l_eql l_neq u_not u_neg e_hws e_nx h_put h_nx
attribute [go_sem] h_hws n_put n_nx n_hws o_func c_int c_bool c_str c_nils r_app r_app0 r_appw
attribute [go_sem] r_puto cd_bool cd_true cd_false true_and and_true List.getElem?_toArray List.getElem?_cons_zero List.getElem?_cons_succ Option.bind_some List.map_cons List.map_nil
attribute [go_sem] List.nil_append List.append_nil List.cons_append imp imp1 impAll impWs impW impW1 h_entry n_entry argAVs
attribute [go_sem] List.toList_toArray Arg.av List.getD_cons_zero List.getD_cons_succ Bool.not_true Bool.not_false ne_eq not_false_eq_true not_true_eq_false false_implies true_implies implies_true
attribute [go_sem] eq_self Bool.true_eq_false Bool.false_eq_true cond_true cond_false Bool.and_true Bool.and_false Bool.true_and Bool.false_and Int.cast_ofNat_Int Int.toNat_natCast Int.toNat_natCast_add_one
attribute [go_sem] Nat.add_assoc List.take_succ_cons List.take_zero List.take_nil List.getElem?_map decide_true decide_false List.size_toArray List.length_cons List.length_nil hw_nil hw_cons
attribute [go_sem] setB_at num_eq gt_eq gtO_some m_load m_ld_pc m_ld_ptr m_live m_froz m_kx m_agg_pc m_addr_sl
attribute [go_sem] a_prs w_bsP m_bp m_pr pr_nil pr_cons ck_fn on_fn m_addr_prs m_len_prs m_addr_ref m_kp m_index m_kb m_len_s m_len_sl m_len_ref m_pu_nil m_pu_p m_pu m_bs ok_int
attribute [go_sem] m_ld_iptr m_addr_inn m_len_inn ax_p ax_ref ax_inn ax_live ax_froz m_ap_inn m_ct_inn a_inn a_iptr
attribute [go_sem] ok_bool ok_str ok_lent m_ct_sl m_ct_s m_ct_ref m_ct_live m_ct_froz m_ap_nil m_ap_ref m_ap_live
attribute [go_sem] take_all take_map_all f_nil f_cons f_fkc f_fl f_int f_bool f_str f_ro f_own f_live
attribute [go_sem] f_own0 f_0 f_1 Option.isSome_some Int.ofNat_lt true_or or_true List.drop_zero List.length_map Nat.zero_add Nat.add_zero Nat.le_refl
attribute [go_sem] AV.p.injEq PV.int.injEq PV.bool.injEq PV.str.injEq
attribute [go_sem] mp_int mp_str mp_bool gI_un gJ_un
end Go.Gl
set_option linter.unusedSimpArgs false
set_option linter.unusedVariables false
namespace Go.Gl
open Go
variable [Amb]
section
variable {P : Program} {sg : FuncId → List Bool} {h : Nat → Blk} {k : Nat} {ρ : Operand → AV} {C : R → Prop} {t t' : TypeId} {x y : Operand} {A : AV → Prop}
/-! ### elements -/
theorem u8P_eq {b : UInt8} : u8P b = .int .u8 b.toNat := _root_.id rfl
theorem elI_eq {m : Bool} {l : List Int} : elI m l = .sl (.lent m) (l.map (.int .i64)) := _root_.id rfl
theorem elS_eq {m : Bool} {l : List (List UInt8)} : elS m l = .sl (.lent m) (l.map .str) := _root_.id rfl
theorem mp_u8 {l : List UInt8} {b : UInt8} {r : List PV} : List.map u8P l ++ (PV.int .u8 (b.toNat : Int) :: r) = List.map u8P (l ++ [b]) ++ r := by simp [u8P]
theorem mp_elI {m : Bool} {l : List (List Int)} {x : List Int} {r : List PV} : List.map (elI m) l ++ (PV.sl (.lent m) (List.map (PV.int .i64) x) :: r) = List.map (elI m) (l ++ [x]) ++ r := by simp [elI]
theorem mp_elS {m : Bool} {l : List (List (List UInt8))} {x : List (List UInt8)} {r : List PV} : List.map (elS m) l ++ (PV.sl (.lent m) (List.map PV.str x) :: r) = List.map (elS m) (l ++ [x]) ++ r := by simp [elS]
theorem mp_rep_int {n : Nat} {kd : IntKind} {z : Int} : List.replicate n (PV.int kd z) = List.map (PV.int kd) (List.replicate n z) := by simp
theorem mp_rep_bool {n : Nat} {z : Bool} : List.replicate n (PV.bool z) = List.map PV.bool (List.replicate n z) := by simp
theorem mp_rep_str {n : Nat} {z : List UInt8} : List.replicate n (PV.str z) = List.map PV.str (List.replicate n z) := by simp
theorem mp_rep_fr {n : Nat} : List.replicate n (PV.sl (.lent false) []) = List.map (elI false) (List.replicate n []) := by simp [elI]
theorem mp_set_int {l : List Int} {kd : IntKind} {i : Nat} {z : Int} : (List.map (PV.int kd) l).set i (PV.int kd z) = List.map (PV.int kd) (l.set i z) := List.map_set.symm
theorem mp_set_bool {l : List Bool} {i : Nat} {z : Bool} : (List.map PV.bool l).set i (PV.bool z) = List.map PV.bool (l.set i z) := List.map_set.symm
theorem mp_set_str {l : List (List UInt8)} {i : Nat} {z : List UInt8} : (List.map PV.str l).set i (PV.str z) = List.map PV.str (l.set i z) := List.map_set.symm
theorem mp_set_el {m : Bool} {l : List (List Int)} {i : Nat} {z : List Int} : (List.map (elI m) l).set i (PV.sl (.lent m) (List.map (PV.int .i64) z)) = List.map (elI m) (l.set i z) := by
 rw [← elI_eq, List.map_set]
theorem u8_app {l : List UInt8} {n : Int} (h0 : 0 ≤ n) (h1 : n < 256) : List.map u8P l ++ [PV.int .u8 n] = List.map u8P (l ++ [UInt8.ofNat n.toNat]) := by
 rw [List.map_append]; congr 1
 simp only [List.map_cons, List.map_nil, u8P, UInt8.toNat_ofNat']
 congr 2; omega
/-! ### slices of slices -/
def bdV (v : Option AV) (d : Int) (K : Int → Prop) : Prop :=
 match v with
 | none => K d
 | some (.p (.int _ i)) => K i
 | _ => False
theorem bnd_eq {x : Option Operand} {d : Nat} {K : Int → Prop} : bnd ρ x d K = bdV (x.map ρ) d K := by
 cases x with
 | none => rfl
 | some o =>
  simp only [bnd, bdV, Option.map_some]
  cases ρ o <;> try rfl
  rename_i v; cases v <;> rfl
def BL (lo : Option AV) (F : Int → Int → Prop) (h : Int) : Prop := bdV lo 0 (F h)
def SLs (s : List UInt8) (C : R → Prop) (h l : Int) : Prop := 0 ≤ l ∧ l ≤ h ∧ h ≤ s.length ∧ C ⟨.p (.str ((s.take h.toNat).drop l.toNat)), [], []⟩
def SLl (o : Fl) (xs : List PV) (C : R → Prop) (h l : Int) : Prop := 0 ≤ l ∧ l ≤ h ∧ h ≤ xs.length ∧ C ⟨.p (.sl o ((xs.take h.toNat).drop l.toNat)), [], []⟩
def SLr (id off len : Nat) (C : R → Prop) (h l : Int) : Prop := 0 ≤ l ∧ l ≤ h ∧ h ≤ len ∧ C ⟨.ref id (off + l.toNat) (h.toNat - l.toNat), [], []⟩
def SL3 (k : Nat) (C : R → Prop) (m h l : Int) : Prop := l = 0 ∧ h = 0 ∧ m = 0 ∧ C ⟨.ref k 0 0, [(k, .live false [])], []⟩
def BL3 (hi lo : Option AV) (F : Int → Int → Int → Prop) (m : Int) : Prop := bdV hi 0 (BL lo (F m))
theorem w_slice {lo hi mx : Option Operand} : opB P sg ρ h k (.slice t x lo hi mx) C = sliceW P t (ρ x) lo hi mx k ρ C := _root_.id rfl
theorem s_str {s : List UInt8} {lo hi : Option Operand} : sliceW P t (.p (.str s)) lo hi none k ρ C = (strT P t = true ∧ bdV (hi.map ρ) s.length (BL (lo.map ρ) (SLs s C))) := by
 simp only [sliceW, bnd_eq, true_and]; rfl
theorem s_sl {o : Fl} {xs : List PV} {lo hi : Option Operand} : sliceW P t (.p (.sl o xs)) lo hi none k ρ C = ((slT P t).isSome = true ∧ bdV (hi.map ρ) xs.length (BL (lo.map ρ) (SLl o xs C))) := by
 simp only [sliceW, bnd_eq]; rfl
theorem s_ref {id off len : Nat} {lo hi : Option Operand} : sliceW P t (.ref id off len) lo hi none k ρ C = ((slT P t).isSome = true ∧ bdV (hi.map ρ) len (BL (lo.map ρ) (SLr id off len C))) := by
 simp only [sliceW, bnd_eq]; rfl
theorem s_sl3 {o : Fl} {xs : List PV} {lo : Option Operand} {hi mx : Operand} : sliceW P t (.p (.sl o xs)) lo (some hi) (some mx) k ρ C = ((slT P t).isSome = true ∧ bdV (some (ρ mx)) 0 (BL3 (some (ρ hi)) (lo.map ρ) (SL3 k C))) := by
 simp only [sliceW, bnd_eq, ne_eq, reduceCtorEq, not_false_eq_true, true_and]; rfl
theorem s_ref3 {id off len : Nat} {lo : Option Operand} {hi mx : Operand} : sliceW P t (.ref id off len) lo (some hi) (some mx) k ρ C = ((slT P t).isSome = true ∧ bdV (some (ρ mx)) 0 (BL3 (some (ρ hi)) (lo.map ρ) (SL3 k C))) := by
 simp only [sliceW, bnd_eq, ne_eq, reduceCtorEq, not_false_eq_true, true_and]; rfl
theorem bd_none {d : Int} {K : Int → Prop} : bdV none d K = K d := _root_.id rfl
theorem bd_some {d : Int} {kd : IntKind} {i : Int} {K : Int → Prop} : bdV (some (.p (.int kd i))) d K = K i := _root_.id rfl
theorem bl_eq {lo : Option AV} {F : Int → Int → Prop} {i : Int} : BL lo F i = bdV lo 0 (F i) := _root_.id rfl
theorem bl3_eq {hi lo : Option AV} {F : Int → Int → Int → Prop} {i : Int} : BL3 hi lo F i = bdV hi 0 (BL lo (F i)) := _root_.id rfl
theorem sls_eq {s : List UInt8} {i j : Int} : SLs s C i j = (0 ≤ j ∧ j ≤ i ∧ i ≤ s.length ∧ C ⟨.p (.str ((s.take i.toNat).drop j.toNat)), [], []⟩) := _root_.id rfl
theorem sll_eq {o : Fl} {xs : List PV} {i j : Int} : SLl o xs C i j = (0 ≤ j ∧ j ≤ i ∧ i ≤ xs.length ∧ C ⟨.p (.sl o ((xs.take i.toNat).drop j.toNat)), [], []⟩) := _root_.id rfl
theorem slr_eq {id off len : Nat} {i j : Int} : SLr id off len C i j = (0 ≤ j ∧ j ≤ i ∧ i ≤ len ∧ C ⟨.ref id (off + j.toNat) (i.toNat - j.toNat), [], []⟩) := _root_.id rfl
theorem sl3_eq {m i j : Int} : SL3 k C m i j = (j = 0 ∧ i = 0 ∧ m = 0 ∧ C ⟨.ref k 0 0, [(k, .live false [])], []⟩) := _root_.id rfl
/-! ### stores -/
def stG (s : Option (Nat × Bool)) (h : Nat → Blk) (a v : AV) (C : R → Prop) : Prop :=
 match s with
 | some (n, _) => (match a with
  | .ptr id off => match h id with
   | .live m c => cellsW h v fun xs ws rd => xs.length = n ∧ off + n ≤ c.length ∧ id ∉ rd ∧
     C ⟨.p .any, ws ++ [(id, .live m (c.take off ++ xs ++ c.drop (off + n)))], id :: rd⟩
   | .deep m cs rs => mvsW h m id (agAVs v) rs fun xs rs ws rd => xs.length = n ∧ off + n ≤ cs.length ∧
     C ⟨.p .any, ws ++ [(id, .deep m (cs.take off ++ xs ++ cs.drop (off + n)) rs)], id :: rd⟩
   | _ => False
  | .iptr id r off => n = 1 ∧ rowW h id r off v C
  | _ => False)
 | none => False
def st1B (b : Blk) (id off : Nat) (v : PV) (C : R → Prop) : Prop :=
 match b with
 | .live m c => v.cell.cellOk = true ∧ off < c.length ∧ C ⟨.p .any, [(id, .live m (c.set off v.cell))], [id]⟩
 | .deep m cs rs => (v.cellOk = true ∨ v = .sl .own []) ∧ off < cs.length ∧ C ⟨.p .any, [(id, .deep m (cs.set off (.v v)) rs)], [id]⟩
 | _ => False
/-- A store of a slice: the slice is shared from here on, or moved. -/
def stRB (b b' : Blk) (id off id' off' len : Nat) (C : R → Prop) : Prop :=
 match b, b' with
 | .live m c, .live m' c' => off' + len ≤ c'.length ∧ off < c.length ∧ id ≠ id' ∧
   C ⟨.p .any, [(id', .froz m' c'), (id, .live m (c.set off (.sl (.lent m') ((c'.drop off').take len))))], [id, id']⟩
 | .live m c, .froz m' c' => off' + len ≤ c'.length ∧ off < c.length ∧ id ≠ id' ∧
   C ⟨.p .any, [(id, .live m (c.set off (.sl (.lent m') ((c'.drop off').take len))))], [id, id']⟩
 | .deep m cs rs, .live m' c' => (m' = true → m = true) ∧ off' = 0 ∧ len = c'.length ∧ off < cs.length ∧ id' ≠ id ∧
   C ⟨.p .any, [(id', .dead), (id, .deep m (cs.set off (.row rs.length)) (rs ++ [some c']))], [id, id']⟩
 | .deep m cs rs, .froz m' c' => off' + len ≤ c'.length ∧ off < cs.length ∧ id' ≠ id ∧
   C ⟨.p .any, [(id, .deep m (cs.set off (.v (.sl (.lent m') ((c'.drop off').take len)))) rs)], [id, id']⟩
 | _, _ => False
theorem w_store' {a v : AV} : storeW P t h a v C = stG (szT P t) h a v C := _root_.id rfl
theorem set_cut {α : Type} {c : List α} {off : Nat} {v : α} (ho : off < c.length) : c.take off ++ [v] ++ c.drop (off + 1) = c.set off v := by
 rw [List.set_eq_take_append_cons_drop, if_pos ho, List.append_assoc]; rfl
theorem st_1 {id off : Nat} {v : PV} (hv : ∀ xs, v ≠ .agg xs) : stG (some (1, false)) h (.ptr id off) (.p v) C = st1B (h id) id off v C := by
 simp only [stG, st1B]
 cases hb : h id with
 | live m c =>
  cases v with
  | agg xs => exact absurd rfl (hv xs)
  | _ =>
   simp only [cellsW, pub, List.length_cons, List.length_nil, Nat.zero_add, List.not_mem_nil, not_false_eq_true, true_and, List.nil_append]
   apply propext; constructor
   ·rintro ⟨h1, ho, hc⟩; rw [set_cut (by omega)] at hc; exact ⟨h1, by omega, hc⟩
   ·rintro ⟨h1, ho, hc⟩; rw [set_cut (by omega)]; exact ⟨h1, by omega, hc⟩
 | froz m c => rfl
 | deep m cs rs =>
   have ea : agAVs (.p v) = [.p v] := by
    cases v with
    | agg xs => exact absurd rfl (hv xs)
    | _ => rfl
   rw [ea]
   simp only [mvsW, mvW, List.length_cons, List.length_nil, Nat.zero_add, List.not_mem_nil, List.append_nil, List.nil_append, true_and]
   apply propext; constructor
   ·rintro (⟨h1, ho, hc⟩ | ⟨h1, ho, hc⟩)
    ·rw [set_cut (by omega)] at hc; exact ⟨.inl h1, by omega, hc⟩
    ·rw [set_cut (by omega)] at hc; exact ⟨.inr h1, by omega, hc⟩
   ·rintro ⟨h1 | h1, ho, hc⟩
    ·rw [set_cut (by omega)]; exact .inl ⟨h1, by omega, hc⟩
    ·rw [set_cut (by omega)]; exact .inr ⟨h1, by omega, hc⟩
 | _ => rfl
theorem st_int {id off : Nat} {kd : IntKind} {n : Int} : stG (some (1, false)) h (.ptr id off) (.p (.int kd n)) C = st1B (h id) id off (.int kd n) C := st_1 (by simp)
theorem st_bool {id off : Nat} {b : Bool} : stG (some (1, false)) h (.ptr id off) (.p (.bool b)) C = st1B (h id) id off (.bool b) C := st_1 (by simp)
theorem st_str {id off : Nat} {s : List UInt8} : stG (some (1, false)) h (.ptr id off) (.p (.str s)) C = st1B (h id) id off (.str s) C := st_1 (by simp)
theorem st_lent {m : Bool} {id off : Nat} {s : List PV} : stG (some (1, false)) h (.ptr id off) (.p (.sl (.lent m) s)) C = st1B (h id) id off (.sl (.lent m) s) C := st_1 (by simp)
theorem st_own {id off : Nat} {s : List PV} : stG (some (1, false)) h (.ptr id off) (.p (.sl .own s)) C = st1B (h id) id off (.sl .own s) C := st_1 (by simp)
theorem st_ref {id off id' off' len : Nat} : stG (some (1, false)) h (.ptr id off) (.ref id' off' len) C = stRB (h id) (h id') id off id' off' len C := by
 simp only [stG, stRB]
 cases hb : h id with
 | live m c =>
  simp only [cellsW, pub]
  cases hb' : h id' with
  | live m' c' =>
   simp only [List.length_cons, List.length_nil, Nat.zero_add, List.mem_singleton, true_and, List.cons_append, List.nil_append]
   apply propext; constructor
   ·rintro ⟨h1, ho, hi, hc⟩; rw [set_cut (by omega)] at hc; exact ⟨h1, by omega, hi, hc⟩
   ·rintro ⟨h1, ho, hi, hc⟩; rw [set_cut (by omega)]; exact ⟨h1, by omega, hi, hc⟩
  | froz m' c' =>
   simp only [List.length_cons, List.length_nil, Nat.zero_add, List.mem_singleton, true_and, List.cons_append, List.nil_append]
   apply propext; constructor
   ·rintro ⟨h1, ho, hi, hc⟩; rw [set_cut (by omega)] at hc; exact ⟨h1, by omega, hi, hc⟩
   ·rintro ⟨h1, ho, hi, hc⟩; rw [set_cut (by omega)]; exact ⟨h1, by omega, hi, hc⟩
  | deep m' cs rs => rfl
  | _ => rfl
 | froz m c => cases h id' <;> rfl
 | deep m cs rs =>
   simp only [agAVs, mvsW, mvW]
   cases hb' : h id' with
   | live m' c' =>
    simp only [List.length_cons, List.length_nil, Nat.zero_add, List.not_mem_nil, List.append_nil, List.cons_append, List.nil_append, true_and]
    apply propext; constructor
    ·rintro ⟨hi, h0, h1, h2, ho, hc⟩; rw [set_cut (by omega)] at hc; exact ⟨h0, h1, h2, by omega, hi, hc⟩
    ·rintro ⟨h0, h1, h2, ho, hi, hc⟩; rw [set_cut (by omega)]; exact ⟨hi, h0, h1, h2, by omega, hc⟩
   | froz m' c' =>
    simp only [List.length_cons, List.length_nil, Nat.zero_add, List.not_mem_nil, List.append_nil, List.cons_append, List.nil_append, true_and]
    apply propext; constructor
    ·rintro ⟨hi, h1, ho, hc⟩; rw [set_cut (by omega)] at hc; exact ⟨h1, by omega, hi, hc⟩
    ·rintro ⟨h1, ho, hi, hc⟩; rw [set_cut (by omega)]; exact ⟨hi, h1, by omega, hc⟩
   | deep m' cs' rs' => simp
   | _ => simp
 | _ => cases h id' <;> rfl
theorem st1_live {m : Bool} {c : List PV} {id off : Nat} {v : PV} : st1B (.live m c) id off v C = (v.cell.cellOk = true ∧ off < c.length ∧ C ⟨.p .any, [(id, .live m (c.set off v.cell))], [id]⟩) := _root_.id rfl
theorem st1_deep {m : Bool} {cs : List DC} {rs : List (Option (List PV))} {id off : Nat} {v : PV} : st1B (.deep m cs rs) id off v C = ((v.cellOk = true ∨ v = .sl .own []) ∧ off < cs.length ∧ C ⟨.p .any, [(id, .deep m (cs.set off (.v v)) rs)], [id]⟩) := _root_.id rfl
theorem str_deep {m : Bool} {cs : List DC} {rs : List (Option (List PV))} {c' : List PV} {id off id' off' len : Nat} : stRB (.deep m cs rs) (.live false c') id off id' off' len C = (off' = 0 ∧ len = c'.length ∧ off < cs.length ∧ id' ≠ id ∧
   C ⟨.p .any, [(id', .dead), (id, .deep m (cs.set off (.row rs.length)) (rs ++ [some c']))], [id, id']⟩) := by simp [stRB]
theorem str_deepT {cs : List DC} {rs : List (Option (List PV))} {c' : List PV} {id off id' off' len : Nat} : stRB (.deep true cs rs) (.live true c') id off id' off' len C = (off' = 0 ∧ len = c'.length ∧ off < cs.length ∧ id' ≠ id ∧
   C ⟨.p .any, [(id', .dead), (id, .deep true (cs.set off (.row rs.length)) (rs ++ [some c']))], [id, id']⟩) := by simp [stRB]
theorem str_deepf {m m' : Bool} {cs : List DC} {rs : List (Option (List PV))} {c' : List PV} {id off id' off' len : Nat} : stRB (.deep m cs rs) (.froz m' c') id off id' off' len C = (off' + len ≤ c'.length ∧ off < cs.length ∧ id' ≠ id ∧
   C ⟨.p .any, [(id, .deep m (cs.set off (.v (.sl (.lent m') ((c'.drop off').take len)))) rs)], [id, id']⟩) := _root_.id rfl
theorem str_live {m m' : Bool} {c c' : List PV} {id off id' off' len : Nat} : stRB (.live m c) (.live m' c') id off id' off' len C = (off' + len ≤ c'.length ∧ off < c.length ∧ id ≠ id' ∧
   C ⟨.p .any, [(id', .froz m' c'), (id, .live m (c.set off (.sl (.lent m') ((c'.drop off').take len))))], [id, id']⟩) := rfl
theorem str_froz {m m' : Bool} {c c' : List PV} {id off id' off' len : Nat} : stRB (.live m c) (.froz m' c') id off id' off' len C = (off' + len ≤ c'.length ∧ off < c.length ∧ id ≠ id' ∧
   C ⟨.p .any, [(id, .live m (c.set off (.sl (.lent m') ((c'.drop off').take len))))], [id, id']⟩) := rfl
theorem lent_f : Fl.lent false = .fr := _root_.id rfl
theorem lent_t : Fl.lent true = .ro := _root_.id rfl
/-! ### slices put into slices -/
def puB (b : Blk) (id off len : Nat) (K : PV → List (Nat × Blk) → List Nat → Prop) : Prop :=
 match b with
 | .live m c => off + len ≤ c.length ∧ K (.sl (.lent m) ((c.drop off).take len)) [(id, .froz m c)] [id]
 | .froz m c => off + len ≤ c.length ∧ K (.sl (.lent m) ((c.drop off).take len)) [] [id]
 | _ => False
/-- What is behind: the same slice twice is twice frozen. -/
def PUR (h : Nat → Blk) (vs : List AV) (F : List PV → List (Nat × Blk) → List Nat → Prop) (x : PV) (ws : List (Nat × Blk)) (rd : List Nat) : Prop :=
 pubs h vs fun xs ws' rd' => F (x :: xs) (ws ++ ws') (rd ++ rd')
def PUF (F : List PV → List (Nat × Blk) → List Nat → Prop) (x : PV) (ws : List (Nat × Blk)) (rd : List Nat) (xs : List PV) (ws' : List (Nat × Blk)) (rd' : List Nat) : Prop := F (x :: xs) (ws ++ ws') (rd ++ rd')
theorem pu_ref {id off len : Nat} {vs : List AV} {F : List PV → List (Nat × Blk) → List Nat → Prop} : pubs h (.ref id off len :: vs) F = puB (h id) id off len (PUR h vs F) := by
 simp only [pubs, pub, puB, PUR]; cases h id <;> rfl
theorem pu_live {m : Bool} {c : List PV} {id off len : Nat} {K : PV → List (Nat × Blk) → List Nat → Prop} : puB (.live m c) id off len K = (off + len ≤ c.length ∧ K (.sl (.lent m) ((c.drop off).take len)) [(id, .froz m c)] [id]) := _root_.id rfl
theorem pu_froz {m : Bool} {c : List PV} {id off len : Nat} {K : PV → List (Nat × Blk) → List Nat → Prop} : puB (.froz m c) id off len K = (off + len ≤ c.length ∧ K (.sl (.lent m) ((c.drop off).take len)) [] [id]) := _root_.id rfl
theorem pu_r {vs : List AV} {F : List PV → List (Nat × Blk) → List Nat → Prop} {v : PV} {ws : List (Nat × Blk)} {rd : List Nat} : PUR h vs F v ws rd = pubs h vs (PUF F v ws rd) := _root_.id rfl
theorem pu_f {F : List PV → List (Nat × Blk) → List Nat → Prop} {v : PV} {xs : List PV} {ws ws' : List (Nat × Blk)} {rd rd' : List Nat} : PUF F v ws rd xs ws' rd' = F (v :: xs) (ws ++ ws') (rd ++ rd') := _root_.id rfl
/-! ### new memory -/
def mkG (s : Option (Nat × PV)) (a : Int) (k : Nat) (C : R → Prop) : Prop :=
 match s with
 | some (_, z) => z.cellOk = true ∧ C ⟨.ref k 0 a.toNat, [(k, .live false (List.replicate a.toNat z))], []⟩
 | none => False
theorem mk_eq {kd kd' : IntKind} {a b : Int} : makeW P t k (.p (.int kd a)) (.p (.int kd' b)) C = (0 ≤ a ∧ a ≤ b ∧ b ≤ 1099511627776 ∧ mkG (slT P t) a k C) := _root_.id rfl
theorem mk_some {a : Int} {n : Nat} {z : PV} : mkG (some (n, z)) a k C = (z.cellOk = true ∧ C ⟨.ref k 0 a.toNat, [(k, .live false (List.replicate a.toNat z))], []⟩) := _root_.id rfl
def alG (s : Option (List PV)) (k : Nat) (C : R → Prop) : Prop :=
 match s with
 | some xs => xs ≠ [] ∧ xs.length ≤ 1000000 ∧ xs.all PV.cellOk = true ∧ C ⟨.ptr k 0, [(k, .live false xs)], []⟩
 | none => False
theorem al_eq : allocW P t k C = alG (zeroT P t) k C := _root_.id rfl
theorem al_some {xs : List PV} : alG (some xs) k C = (xs ≠ [] ∧ xs.length ≤ 1000000 ∧ xs.all PV.cellOk = true ∧ C ⟨.ptr k 0, [(k, .live false xs)], []⟩) := _root_.id rfl
/-! ### structs, tuples -/
def nthO (o : Option AV) (A : AV → Prop) : Prop := match o with | some x => A x | none => False
theorem nth_eq {xs : List AV} {i : Nat} : AV.nth xs i A = nthO xs[i]? A := _root_.id rfl
theorem nth_some {v : AV} : nthO (some v) A = A v := _root_.id rfl
def exG (v : AV) (i : Nat) (A : AV → Prop) : Prop := match v with | .tup xs => AV.nth xs i A | _ => False
theorem w_extract {i : Nat} : opB P sg ρ h k (.extract x i) C = exG (ρ x) i (KA k C) := _root_.id rfl
theorem ex_tup {xs : List AV} {i : Nat} : exG (.tup xs) i A = nthO xs[i]? A := _root_.id rfl
def fdG (s : Option (Nat × Nat × Bool)) (v : AV) (A : AV → Prop) : Prop :=
 match s with
 | some (off, 1, false) => (match v with
  | .p (.agg xs) => gt xs off fun x => A (.p x)
  | .agg xs => AV.nth xs off A
  | _ => False)
 | _ => False
def KF (A : AV → Prop) (v : PV) : Prop := A (.p v)
theorem fd_eq {f : Nat} {v : AV} : fieldW P t f v A = fdG (fldT P t f) v A := _root_.id rfl
theorem fd_p {off : Nat} {xs : List PV} : fdG (some (off, 1, false)) (.p (.agg xs)) A = gtO xs[off]? (KF A) := by
 simp only [fdG, gt, Int.toNat_natCast, Int.natCast_nonneg, true_and]; rfl
theorem fd_a {off : Nat} {xs : List AV} : fdG (some (off, 1, false)) (.agg xs) A = nthO xs[off]? A := _root_.id rfl
theorem kf_eq {v : PV} : KF A v = A (.p v) := _root_.id rfl
def faG (s : Option (Nat × Nat × Bool)) (a : AV) (A : AV → Prop) : Prop :=
 match s with
 | some (off, n, _) => n ≠ 0 ∧ (match a with
  | .p (.pc xs) => A (.p (.pc (xs.drop off)))
  | .ptr id o => A (.ptr id (o + off))
  | _ => False)
 | none => False
theorem fa_eq {f : Nat} {v : AV} : fieldAddrW P t f v A = faG (fldT P t f) v A := _root_.id rfl
theorem fa_pc {off n : Nat} {b : Bool} {xs : List PV} : faG (some (off, n, b)) (.p (.pc xs)) A = (n ≠ 0 ∧ A (.p (.pc (xs.drop off)))) := _root_.id rfl
theorem fa_ptr {off n id o : Nat} {b : Bool} : faG (some (off, n, b)) (.ptr id o) A = (n ≠ 0 ∧ A (.ptr id (o + off))) := _root_.id rfl
def bdG (pl : Option (List Nat)) (zs : Option (List PV)) (parts : List (Nat × AV)) (K : AV → Prop) : Prop :=
 match pl, zs with
 | some places, some zs => fillW places (zs.map .p) parts fun cs => K (.agg cs)
 | _, _ => False
def KG (K : AV → Prop) (cs : List AV) : Prop := K (.agg cs)
def fiG (pl : List Nat) (cells : List AV) (o : Option Nat) (v : AV) (rest : List (Nat × AV)) (K : List AV → Prop) : Prop :=
 match o with
 | some o => o < cells.length ∧ v.one1 ∧ fillW pl (cells.set o v) rest K
 | none => False
theorem w_build {parts : Array (Nat × Operand)} : opB P sg ρ h k (.build t parts) C = buildW P t (parts.toList.map fun p => (p.1, ρ p.2)) (KW C) := _root_.id rfl
theorem bd_eq {parts : List (Nat × AV)} : buildW P t parts A = bdG (placesT P t) (zeroT P t) parts A := _root_.id rfl
theorem bd_go {pl : List Nat} {zs : List PV} {parts : List (Nat × AV)} : bdG (some pl) (some zs) parts A = fillW pl (zs.map .p) parts (KG A) := _root_.id rfl
theorem fi_nil {pl : List Nat} {cells : List AV} {K : List AV → Prop} : fillW pl cells [] K = K cells := _root_.id rfl
theorem fi_cons {pl : List Nat} {cells : List AV} {i : Nat} {v : AV} {rest : List (Nat × AV)} {K : List AV → Prop} : fillW pl cells ((i, v) :: rest) K = fiG pl cells pl[i]? v rest K := _root_.id rfl
theorem fi_some {pl : List Nat} {cells : List AV} {o : Nat} {v : AV} {rest : List (Nat × AV)} {K : List AV → Prop} : fiG pl cells (some o) v rest K = (o < cells.length ∧ v.one1 ∧ fillW pl (cells.set o v) rest K) := _root_.id rfl
theorem kg_eq {cs : List AV} : KG A cs = A (.agg cs) := _root_.id rfl
theorem on_int {kd : IntKind} {n : Int} : AV.one1 (.p (.int kd n)) = True := _root_.id rfl
theorem on_bool {b : Bool} : AV.one1 (.p (.bool b)) = True := _root_.id rfl
theorem on_str {s : List UInt8} : AV.one1 (.p (.str s)) = True := _root_.id rfl
theorem on_sl {o : Fl} {s : List PV} : AV.one1 (.p (.sl o s)) = True := _root_.id rfl
theorem on_ref {i o l : Nat} : AV.one1 (.ref i o l) = True := _root_.id rfl
/-! ### conversions -/
def ciG (o : Option IntKind) (s : Bool) (n : Int) (C : R → Prop) : Prop :=
 match o with
 | some kd => s = true ∧ inR kd n ∧ C ⟨.p (.int kd n), [], []⟩
 | none => False
theorem w_conv' : opB P sg ρ h k (.convert t t' x) C = convW P t t' k h (ρ x) C := _root_.id rfl
theorem cv_int {kd : IntKind} {n : Int} : convW P t t' k h (.p (.int kd n)) C = ciG (intT P t') (P.underlying t).isSome n C := _root_.id rfl
theorem ci_some {kd : IntKind} {n : Int} : ciG (some kd) true n C = (inR kd n ∧ C ⟨.p (.int kd n), [], []⟩) := by simp [ciG]
def csG (b : Bool) (c : Bool) (d : Bool) (k : Nat) (s : List UInt8) (C : R → Prop) : Prop :=
 if b then C ⟨.p (.str s), [], []⟩ else c = true ∧ d = true ∧ s.length ≤ big ∧ SB = true ∧ C ⟨.ref k 0 s.length, [(k, .live false (s.map u8P))], []⟩
theorem cv_str {s : List UInt8} : convW P t t' k h (.p (.str s)) C = (strT P t = true ∧ csG (strT P t') (slT P t').isSome (u8T P t') k s C) := _root_.id rfl
theorem cs_t {c d : Bool} {s : List UInt8} : csG true c d k s C = C ⟨.p (.str s), [], []⟩ := _root_.id rfl
theorem cs_f {s : List UInt8} : csG false true true k s C = (s.length ≤ 1099511627776 ∧ SB = true ∧ C ⟨.ref k 0 s.length, [(k, .live false (s.map u8P))], []⟩) := by simp [csG, big]
def CV (C : R → Prop) (xs : List PV) (rd : List Nat) : Prop := ∃ s : List UInt8, xs = s.map (fun b => PV.int .u8 b.toNat) ∧ C ⟨.p (.str s), [], rd⟩
theorem cv_ref {id off len : Nat} : convW P t t' k h (.ref id off len) C = (strT P t' = true ∧ (slT P t).isSome = true ∧ u8T P t = true ∧ ctB (h id) id off len (CV C)) := by
 simp only [convW, cont, ctB]; cases h id <;> rfl
theorem cv_sl {o : Fl} {xs : List PV} : convW P t t' k h (.p (.sl o xs)) C = (strT P t' = true ∧ (slT P t).isSome = true ∧ u8T P t = true ∧ CV C xs []) := _root_.id rfl
theorem u8P_inj {s s' : List UInt8} (h : s.map u8P = s'.map u8P) : s = s' := by
 induction s generalizing s' with
 | nil => cases s' with
  | nil => rfl
  | cons _ _ => simp at h
 | cons a s ih => cases s' with
  | nil => simp at h
  | cons b s' =>
   simp only [List.map_cons, List.cons.injEq, u8P, PV.int.injEq, true_and] at h
   rw [ih h.2, UInt8.toNat_inj.1 (by omega : a.toNat = b.toNat)]
theorem cv_map {s : List UInt8} {rd : List Nat} : CV C (s.map u8P) rd = C ⟨.p (.str s), [], rd⟩ := by
 apply propext; constructor
 ·rintro ⟨s', e, hc⟩; rw [u8P_inj (s := s) (s' := s') e]; exact hc
 ·intro hc; exact ⟨s, rfl, hc⟩
theorem cv_nil {rd : List Nat} : CV C [] rd = C ⟨.p (.str []), [], rd⟩ := cv_map (s := [])
theorem cv_b1 {b : UInt8} {rd : List Nat} : CV C [.int .u8 (b.toNat : Int)] rd = C ⟨.p (.str [b]), [], rd⟩ := cv_map (s := [b])
theorem v_cv1 {n : Int} {rd : List Nat} (h0 : 0 ≤ n) (h1 : n < 256) (hc : C ⟨.p (.str [UInt8.ofNat n.toNat]), [], rd⟩) : CV C [.int .u8 n] rd :=
 ⟨_, by simp [UInt8.toNat_ofNat']; omega, hc⟩
theorem n_u8 {n : Int} : inR .u8 n = (0 ≤ n ∧ n ≤ 255) := by simp only [inR]; rfl
/-! ### greater, lesser -/
theorem w_max {ts : Array TypeId} : opB P sg ρ h k (.call { callee := .builtin .max, args := ⟨[x, y]⟩, argTypes := ts }) C = mmW true (ρ x) (ρ y) (KW C) := _root_.id rfl
theorem w_min {ts : Array TypeId} : opB P sg ρ h k (.call { callee := .builtin .min, args := ⟨[x, y]⟩, argTypes := ts }) C = mmW false (ρ x) (ρ y) (KW C) := _root_.id rfl
theorem mm_max {kd kd' : IntKind} {a b : Int} : mmW true (.p (.int kd a)) (.p (.int kd' b)) A = (kd = kd' ∧ A (.p (.int kd (max a b)))) := by
 simp only [mmW, if_true]
 rw [show (if a < b then b else a) = max a b by rw [Int.max_def]; split <;> split <;> omega]
theorem mm_min {kd kd' : IntKind} {a b : Int} : mmW false (.p (.int kd a)) (.p (.int kd' b)) A = (kd = kd' ∧ A (.p (.int kd (min a b)))) := by
 simp only [mmW, Bool.false_eq_true, if_false]
 rw [show (if b < a then b else a) = min a b by rw [Int.min_def]; split <;> split <;> omega]
/-! ### function values -/
theorem w_mf {f : FuncId} {first caps : Array Operand} : opB P sg ρ h k (.makeFunc (.func f) first caps) C = C ⟨.fn f (first.toList.map ρ) (caps.toList.map ρ), [], []⟩ := _root_.id rfl
theorem g_fnp {g : FuncId} {first caps : List PV} {vs : List AV} : callG P sg h k (.p (.fn g first caps)) vs C = IPS (sg (g + 12884901888)) P h g (first.map .p ++ vs ++ caps.map .p) C (FZ P sg h k g (first.map .p ++ vs ++ caps.map .p) C (frzR (sg (g + 8589934592)) (first.map .p ++ vs ++ caps.map .p))) := by
 simp only [callG, callW]; rfl
theorem g_fna {g : FuncId} {first caps vs : List AV} : callG P sg h k (.fn g first caps) vs C = IPS (sg (g + 12884901888)) P h g (first ++ vs ++ caps) C (FZ P sg h k g (first ++ vs ++ caps) C (frzR (sg (g + 8589934592)) (first ++ vs ++ caps))) := by
 simp only [callG, callW]; rfl
def PF2 (f : FuncId) (ys : List PV) (rd : List Nat) (K : PV → List Nat → Prop) (zs : List PV) (rd' : List Nat) : Prop := K (.fn f ys zs) (rd ++ rd')
def PF1 (h : Nat → Blk) (f : FuncId) (caps : List AV) (K : PV → List Nat → Prop) (ys : List PV) (rd : List Nat) : Prop := purs1 h caps (PF2 f ys rd K)
def PA1 (K : PV → List Nat → Prop) (ys : List PV) (rd : List Nat) : Prop := K (.agg ys) rd
def UP (h : Nat → Blk) (vs : List AV) (K : List PV → List Nat → Prop) (x : PV) (rd : List Nat) : Prop := purs1 h vs (UA K x rd)
theorem q_fn {f : FuncId} {first caps vs : List AV} {F : List PV → List Nat → Prop} : puG h (.fn f first caps :: vs) F = purs1 h first (PF1 h f caps (UN h vs F)) := _root_.id rfl
theorem q_agg {xs vs : List AV} {F : List PV → List Nat → Prop} : puG h (.agg xs :: vs) F = purs1 h xs (PA1 (UN h vs F)) := _root_.id rfl
theorem pf1_eq {f : FuncId} {caps : List AV} {K : PV → List Nat → Prop} {ys : List PV} {rd : List Nat} : PF1 h f caps K ys rd = purs1 h caps (PF2 f ys rd K) := _root_.id rfl
theorem pf2_eq {f : FuncId} {K : PV → List Nat → Prop} {ys zs : List PV} {rd rd' : List Nat} : PF2 f ys rd K zs rd' = K (.fn f ys zs) (rd ++ rd') := _root_.id rfl
theorem pa1_eq {K : PV → List Nat → Prop} {ys : List PV} {rd : List Nat} : PA1 K ys rd = K (.agg ys) rd := _root_.id rfl
theorem ps_nil {K : List PV → List Nat → Prop} : purs1 h [] K = K [] [] := _root_.id rfl
theorem ps_p {v : PV} {vs : List AV} {K : List PV → List Nat → Prop} : purs1 h (.p v :: vs) K = purs1 h vs (UA K v.cell []) := _root_.id rfl
theorem ps_ref {id off len : Nat} {vs : List AV} {K : List PV → List Nat → Prop} : purs1 h (.ref id off len :: vs) K = refG (h id) id off len (UP h vs K) := by
 simp only [purs1, pur1, refG]; cases h id <;> rfl
theorem up_eq {v : PV} {vs : List AV} {K : List PV → List Nat → Prop} {rd : List Nat} : UP h vs K v rd = purs1 h vs (UA K v rd) := _root_.id rfl
def ptG (b : Blk) (id off : Nat) (F : PV → List Nat → Prop) : Prop :=
 match b with
 | .live _ c => F (.pc (c.drop off)) [id]
 | .froz _ c => F (.pc (c.drop off)) [id]
 | .deep _ cs rs => F (.pc ((cs.map (DC.rd rs)).drop off)) [id]
 | _ => False
theorem q_ptr {id off : Nat} {vs : List AV} {F : List PV → List Nat → Prop} : puG h (.ptr id off :: vs) F = ptG (h id) id off (UN h vs F) := by
 simp only [puG, pur, pur1, ptG]; cases h id <;> rfl
theorem ps_ptr {id off : Nat} {vs : List AV} {K : List PV → List Nat → Prop} : purs1 h (.ptr id off :: vs) K = ptG (h id) id off (UP h vs K) := by
 simp only [purs1, pur1, ptG]; cases h id <;> rfl
theorem pt_live {m : Bool} {c : List PV} {id off : Nat} {F : PV → List Nat → Prop} : ptG (.live m c) id off F = F (.pc (c.drop off)) [id] := _root_.id rfl
theorem pt_froz {m : Bool} {c : List PV} {id off : Nat} {F : PV → List Nat → Prop} : ptG (.froz m c) id off F = F (.pc (c.drop off)) [id] := _root_.id rfl
def ncG (v : AV) (C : R → Prop) : Prop := match v with | .ptr id off => C ⟨.ptr id off, [], []⟩ | .p (.pc xs) => C ⟨.p (.pc xs), [], []⟩ | .p (.fn f a b) => C ⟨.p (.fn f a b), [], []⟩ | .fn f a b => C ⟨.fn f a b, [], []⟩ | _ => False
theorem pt_deep {m : Bool} {cs : List DC} {rs : List (Option (List PV))} {id off : Nat} {F : PV → List Nat → Prop} : ptG (.deep m cs rs) id off F = F (.pc ((cs.map (DC.rd rs)).drop off)) [id] := _root_.id rfl
theorem w_nc : opB P sg ρ h k (.nilCheck x) C = ncG (ρ x) C := _root_.id rfl
theorem nc_ptr {id off : Nat} : ncG (.ptr id off) C = C ⟨.ptr id off, [], []⟩ := _root_.id rfl
theorem nc_pc {xs : List PV} : ncG (.p (.pc xs)) C = C ⟨.p (.pc xs), [], []⟩ := _root_.id rfl
theorem nc_fn {f : FuncId} {a b : List PV} : ncG (.p (.fn f a b)) C = C ⟨.p (.fn f a b), [], []⟩ := _root_.id rfl
theorem nc_fna {f : FuncId} {a b : List AV} : ncG (.fn f a b) C = C ⟨.fn f a b, [], []⟩ := _root_.id rfl
/-! ### memory that is lent to a callee -/
def muB (b : Blk) (id len : Nat) (F : List PV → Prop) (FS : Nat → List PV → Prop) : Prop :=
 match b with
 | .live _ c => len = c.length ∧ F c
 | .deep _ cs rs => (∃ rows, cs = canon rows.length ∧ rs = rows.map some ∧ len = rows.length ∧ F [.dl rows]) ∨
   ∃ rows : List (List PV), 0 < rows.length ∧ cs = canonS rows.length ∧ rs = List.replicate rows.length none ++ rows.map some ∧ len = rows.length ∧ FS (rows.length + rows.length) [.dl rows]
 | _ => False
/-- What is behind a slice that is lent. -/
def MU (h : Nat → Blk) (sg : List Bool) (vs : List AV) (id : Nat) (K : List Arg → List Nat → List (Option (Nat × Option Nat)) → Prop) (c : List PV) : Prop :=
 pass h sg vs fun as rd ms => K (.mu false c :: as) rd (some (id, none) :: ms)
def MUI (h : Nat → Blk) (sg : List Bool) (vs : List AV) (id : Nat) (K : List Arg → List Nat → List (Option (Nat × Option Nat)) → Prop) (r : Nat) (c : List PV) : Prop :=
 pass h sg vs fun as rd ms => K (.mu false c :: as) rd (some (id, some r) :: ms)
def MF (id : Nat) (c : List PV) (K : List Arg → List Nat → List (Option (Nat × Option Nat)) → Prop) (as : List Arg) (rd : List Nat) (ms : List (Option (Nat × Option Nat))) : Prop := K (.mu false c :: as) rd (some (id, none) :: ms)
def PQ (F : List Arg → List Nat → List (Option (Nat × Option Nat)) → Prop) (xs : List PV) (rd : List Nat) : Prop := F (xs.map .pv) rd (xs.map fun _ => none)
theorem mu_ref {sg : List Bool} {id len : Nat} {vs : List AV} {K : List Arg → List Nat → List (Option (Nat × Option Nat)) → Prop} : pass h (true :: sg) (.ref id 0 len :: vs) K = muB (h id) id len (MU h sg vs id K) (MUI h sg vs id K) := by
 simp only [pass, muB, MU, MUI]; cases h id <;> rfl
theorem mu_live {m : Bool} {c : List PV} {id len : Nat} {F : List PV → Prop} {FS : Nat → List PV → Prop} : muB (.live m c) id len F FS = (len = c.length ∧ F c) := _root_.id rfl
theorem mu_nx {sg : List Bool} {id : Nat} {c : List PV} {vs : List AV} {K : List Arg → List Nat → List (Option (Nat × Option Nat)) → Prop} : MU h sg vs id K c = pass h sg vs (MF id c K) := _root_.id rfl
theorem mu_all {vs : List AV} {id : Nat} {c : List PV} {K : List Arg → List Nat → List (Option (Nat × Option Nat)) → Prop} : pass h [] vs (MF id c K) = puG h vs (PQ (MF id c K)) := pass_pu
theorem mu_pq {F : List Arg → List Nat → List (Option (Nat × Option Nat)) → Prop} {xs : List PV} {rd : List Nat} : PQ F xs rd = F (xs.map .pv) rd (xs.map fun _ => none) := _root_.id rfl
theorem mu_mf {id : Nat} {c : List PV} {K : List Arg → List Nat → List (Option (Nat × Option Nat)) → Prop} {as : List Arg} {rd : List Nat} {ms : List (Option (Nat × Option Nat))} : MF id c K as rd ms = K (.mu false c :: as) rd (some (id, none) :: ms) := _root_.id rfl
end
end Go.Gl
set_option linter.unusedSimpArgs false
set_option linter.unusedVariables false
namespace Go.Gl
open Go
variable [Amb]
section
variable {P : Program} {sg : FuncId → List Bool} {nt : Nat} {h : Nat → Blk} {k : Nat} {C : R → Prop} {S : St} {Q : Ex → St → Prop}
/-! ### calls that are lent memory -/
/-- A row that is told by its cells. -/
class NDl (c : List PV) : Prop where
 h : ∀ rows, c ≠ [.dl rows]
class NDf {α : Type} (f : α → PV) : Prop where
 h : ∀ a rows, f a ≠ .dl rows
instance {kd : IntKind} : NDf (PV.int kd) := ⟨by intro a rows h; cases h⟩
instance : NDf PV.bool := ⟨by intro a rows h; cases h⟩
instance : NDf PV.str := ⟨by intro a rows h; cases h⟩
instance : NDf u8P := ⟨by intro a rows h; cases h⟩
instance {m : Bool} : NDf (elI m) := ⟨by intro a rows h; cases h⟩
instance {m : Bool} : NDf (elS m) := ⟨by intro a rows h; cases h⟩
instance {α : Type} {f : α → PV} [a : NDf f] {l : List α} : NDl (l.map f) := ⟨by
 intro rows h
 cases l with
 | nil => cases h
 | cons x l => simp only [List.map_cons, List.cons.injEq] at h; exact a.h _ _ h.1⟩
instance : NDl [] := ⟨by intro rows h; cases h⟩
instance {x y : PV} {l : List PV} : NDl (x :: y :: l) := ⟨by intro rows h; cases h⟩
instance {kd : IntKind} {n : Int} : NDl [.int kd n] := ⟨by intro rows h; cases h⟩
instance {b : Bool} : NDl [.bool b] := ⟨by intro rows h; cases h⟩
instance {b : List UInt8} : NDl [.str b] := ⟨by intro rows h; cases h⟩
instance {o : Fl} {b : List PV} : NDl [.sl o b] := ⟨by intro rows h; cases h⟩
theorem mk_live {c : List PV} {m : Bool} [a : NDl c] : mkB m c = .live m c := by
 unfold mkB; split
 ·rename_i rows; exact absurd rfl (a.h rows)
 ·rfl
theorem lenC_live {c : List PV} [a : NDl c] : lenC c = c.length := by
 unfold lenC; split
 ·rename_i rows; exact absurd rfl (a.h rows)
 ·rfl
theorem ob_some {c c0 : List PV} {m : Bool} [a : NDl c] : outB none (some (some c)) (.live m c0) = .live m c := by
 unfold outB; split <;> first | rfl | skip
 all_goals first | (rename_i h _; cases h; exact absurd rfl (a.h _)) | (rename_i h; cases h; exact absurd rfl (a.h _)) | simp_all
theorem ob_none {b : Blk} : outB none (some none) b = .dead := by cases b <;> rfl
theorem fl_live {m : Bool} {c : List PV} : flg (.live m c) = m := _root_.id rfl
theorem fl_froz {m : Bool} {c : List PV} : flg (.froz m c) = false := _root_.id rfl
theorem fl_deep {m : Bool} {cs : List DC} {rs : List (Option (List PV))} : flg (.deep m cs rs) = m := _root_.id rfl
theorem v_callM {f : FuncId} {tk p : Bool} {c : List PV} {as : List Arg} {outs : List (Option (List PV))} {res : List PV} {rd : List Nat} {ms : List (Option (Nat × Option Nat))} {id : Nat} {r : Option Nat}
  (hf : CallT P tk f (.mu p c :: as) outs res) (hn : (ms.all Option.isNone) = true) (hid : id ∉ rd)
  (hc : C ⟨impAll k res, (id, outB r outs[0]? (h id)) :: impWs (tk && flg (h id)) k res, id :: rd⟩) : Pk P h k f C (.mu p c :: as) rd (some (id, r) :: ms) := by
 have e1' : lids (some (id, r) :: ms) = [id] := by
  have : ms.filterMap (fun m => m.map (·.1)) = [] := by
   rw [List.filterMap_eq_nil_iff]; intro a ha
   have := List.all_eq_true.1 hn a ha
   cases a with
   | none => rfl
   | some _ => simp at this
  simp [lids, List.filterMap_cons, this]
 have ho : ∀ (l : List (Option (Nat × Option Nat))) (j : Nat), (l.all Option.isNone) = true → outWs h outs j l = [] := fun l => by
  induction l with
  | nil => intro j _; rfl
  | cons x l ih =>
   intro j hj
   simp only [List.all_cons, Bool.and_eq_true] at hj
   cases x with
   | none => exact ih (j + 1) hj.2
   | some _ => simp at hj
 refine ⟨⟨by rw [e1']; simp, by rw [e1']; simpa using hid⟩, tk, outs, res, hf, tk && flg (h id), fun e1 e2 i hi => by rw [e1'] at hi; simp at hi; subst hi; subst e2; simpa using e1, ?_⟩
 rw [e1']
 simp only [outWs, ho ms 1 hn, List.cons_append, List.nil_append]
 exact hc
/-- The end of a body that was lent memory. -/
def FinM (tk : Bool) (as : List Arg) (outs : List (Option (List PV))) (ts : List Nat) (res : List PV) (ex : Ex) (S : St) : Prop :=
 match ex with
 | .exit _ => False
 | _ => Fin tk S as outs (ts.map S.e) res
theorem CallT.of (hm : P.follows .mixedOrders = true) {tk : Bool} {f : FuncId} {as : List Arg} {outs : List (Option (List PV))} {res : List PV} {fn : Func} {code : Code} {ts : List Nat}
  (hf : P.funcs[f]? = some fn) (hb : fn.body = some code) (hname : (fn.name == "runtime.NumGoroutine") = false) (hres : fn.results = ⟨ts.map .tmp⟩) (hargs : decide (as.length ≤ fn.ntmps) = true)
  (hck : codeOk fn.ntmps code = true) (hnr : noRoL res = true) (hro : resOk res = true) (houts : (outs.all fun o => o.all noRoL) = true)
  (hw : wpv P sg code (FinM tk as outs ts res) (entry as)) : CallT P tk f as outs res :=
 CallT.of_wp hm hf hb hname hres (of_decide_eq_true hargs) hnr hro houts (wp_mono _ (fun ex S h => by cases ex with | exit id => exact h | normal => exact resW_tmp.symm ▸ h | ret => exact resW_tmp.symm ▸ h) (wp_of_wpv _ hck hw))
/-- It is handed back what it was lent as its first argument, written over. -/
theorem v_finM {tk : Bool} {c c' : List PV} {as : List Arg} {ts : List Nat} {xs : List PV} {ex : Ex} {p : Bool} {os : List (Option (List PV))} (hx : ex = .ret ∨ ex = .normal)
  (ho : (os.all Option.isNone) = true) (hl : S.h 0 = mkB true c') (hf : fins tk S.h (as.length + 1) (ts.map S.e) xs fun L => L.Pairwise Dj ∧ 0 ∉ L.map fun q => q.2.1) :
  FinM tk (.mu p c :: as) (some c' :: os) ts xs ex S := by
 have key : Fin tk S (.mu p c :: as) (some c' :: os) (ts.map S.e) xs := by
  unfold Fin
  refine Eq.mp (congrArg (fins tk S.h (as.length + 1) (ts.map S.e) xs) ?_) hf
  funext L
  apply propext
  constructor
  ·rintro ⟨h1, h2⟩
   refine ⟨h1, fun j hj => ?_⟩
   cases j with
   | zero => exact ⟨hl, h2⟩
   | succ j =>
    simp only [List.getElem?_cons_succ]
    split
    ·rename_i c0 hc0
     have := List.all_eq_true.1 ho _ (List.mem_of_getElem? hc0)
     simp at this
    ·trivial
  ·rintro ⟨h1, h2⟩
   exact ⟨h1, (h2 0 (by simp)).2⟩
 rcases hx with rfl | rfl <;> exact key
/-- What it was lent as its first argument is gone. -/
theorem v_finX {tk : Bool} {c : List PV} {as : List Arg} {ts : List Nat} {xs : List PV} {ex : Ex} {p : Bool} {os : List (Option (List PV))} (hx : ex = .ret ∨ ex = .normal)
  (ho : (os.all Option.isNone) = true) (hf : fins tk S.h (as.length + 1) (ts.map S.e) xs F0) :
  FinM tk (.mu p c :: as) os ts xs ex S := by
 have key : Fin tk S (.mu p c :: as) os (ts.map S.e) xs := by
  unfold Fin
  refine Eq.mp (congrArg (fins tk S.h (as.length + 1) (ts.map S.e) xs) ?_) hf
  funext L
  simp only [F0]
  apply propext
  constructor
  ·intro h1
   refine ⟨h1, fun j hj => ?_⟩
   split
   ·rename_i c0 _ hc0
    have := List.all_eq_true.1 ho _ (List.mem_of_getElem? hc0)
    simp at this
   ·trivial
  ·exact fun h => h.1
 rcases hx with rfl | rfl <;> exact key
/-- The blocks of results are none of what was lent. -/
def F1 (L : List (Nat × Nat × Pl)) : Prop := L.Pairwise Dj ∧ 0 ∉ L.map fun q => q.2.1
theorem f1_nil : F1 [] := by simp [F1]
theorem f1_1 {k id : Nat} {pl : Pl} : F1 [(k, id, pl)] = (0 ≠ id) := by simp [F1]
/-! ### regions of any order -/
/-- The pairs that may change places, of which one writes. -/
def clrP (ops : Array Oper) (ws : List Bool) : List (Nat × Nat) :=
 (List.range ops.size).flatMap fun j => (List.range j).filterMap fun i =>
  if (ws.getD i false || ws.getD j false) && !behind ops ops.size i j then some (i, j) else none
def maskOk : List (List (Nat × Blk) × List Nat) → List Bool → Bool
 | [], [] => true
 | p :: L, w :: ws => (p.1.isEmpty || w) && maskOk L ws
 | _, _ => false
theorem maskOk_at : ∀ {L : List (List (Nat × Blk) × List Nat)} {ws : List Bool}, maskOk L ws = true → ∀ i, ws.getD i false = false → (L.getD i ([], [])).1 = []
 | [], [], _, i, _ => by simp
 | p :: L, w :: ws, h, 0, hi => by
  simp only [maskOk, Bool.and_eq_true, Bool.or_eq_true] at h
  simp only [List.getD_cons_zero] at hi ⊢
  rcases h.1 with h1 | h1
  ·simpa using h1
  ·rw [h1] at hi; cases hi
 | p :: L, w :: ws, h, i + 1, hi => by
  simp only [maskOk, Bool.and_eq_true] at h
  simp only [List.getD_cons_succ] at hi ⊢
  exact maskOk_at h.2 i hi
 | [], _ :: _, h, _, _ => by simp [maskOk] at h
 | _ :: _, [], h, _, _ => by simp [maskOk] at h
def nIn (i : Nat) : List Nat → Prop
 | [] => True
 | j :: l => i ≠ j ∧ nIn i l
def nInB (i : Nat) : List (Nat × Blk) → Prop
 | [] => True
 | (j, _) :: l => i ≠ j ∧ nInB i l
def cl1 : List (Nat × Blk) → List (Nat × Blk) → List Nat → Prop
 | [], _, _ => True
 | (i, _) :: ws, bs, rd => nIn i rd ∧ nInB i bs ∧ cl1 ws bs rd
theorem nIn_iff {i : Nat} : ∀ {l : List Nat}, nIn i l → i ∉ l
 | [], _ => by simp
 | j :: l, h => by simp only [nIn] at h; simp [h.1, nIn_iff h.2]
theorem nInB_iff {i : Nat} : ∀ {l : List (Nat × Blk)}, nInB i l → ∀ q ∈ l, i ≠ q.1
 | [], _ => by simp
 | (j, b) :: l, h => by
  simp only [nInB] at h
  intro q hq
  rcases List.mem_cons.1 hq with rfl | hq
  ·exact h.1
  ·exact nInB_iff h.2 q hq
theorem cl1_clear {a b : List (Nat × Blk) × List Nat} (h : cl1 a.1 b.1 b.2) : clear a b := by
 obtain ⟨ws, rd⟩ := a
 simp only at h
 intro p hp
 simp only at hp
 induction ws with
 | nil => simp at hp
 | cons w ws ih =>
  obtain ⟨i, bl⟩ := w
  simp only [cl1] at h
  rcases List.mem_cons.1 hp with rfl | hp
  ·exact ⟨nIn_iff h.1, nInB_iff h.2.1⟩
  ·exact ih h.2.2 hp
def clrG (a b : List (Nat × Blk) × List Nat) : Prop := cl1 a.1 b.1 b.2 ∧ cl1 b.1 a.1 a.2
def clrAll (L : List (List (Nat × Blk) × List Nat)) : List (Nat × Nat) → Prop
 | [] => True
 | (i, j) :: ps => clrG (L.getD i ([], [])) (L.getD j ([], [])) ∧ clrAll L ps
theorem clrAll_at {L : List (List (Nat × Blk) × List Nat)} : ∀ {ps : List (Nat × Nat)}, clrAll L ps → ∀ p ∈ ps, clrG (L.getD p.1 ([], [])) (L.getD p.2 ([], []))
 | [], _ => by simp
 | (i, j) :: ps, h => by
  simp only [clrAll] at h
  intro p hp
  rcases List.mem_cons.1 hp with rfl | hp
  ·exact h.1
  ·exact clrAll_at h.2 p hp
theorem clearAll_of {ops : Array Oper} {L : List (List (Nat × Blk) × List Nat)} (ws : List Bool) (ps : List (Nat × Nat)) (hw : maskOk L ws = true) (hp : clrP ops ws = ps)
  (h : clrAll L ps) : clearAll ops L := by
 intro j hj i hi
 by_cases hb : behind ops ops.size i j = true
 ·exact .inl hb
 right
 by_cases hw' : (ws.getD i false || ws.getD j false) = true
 ·have : (i, j) ∈ ps := by
   subst hp
   unfold clrP
   rw [List.mem_flatMap]
   refine ⟨j, List.mem_range.2 hj, ?_⟩
   rw [List.mem_filterMap]
   refine ⟨i, List.mem_range.2 hi, ?_⟩
   rw [if_pos]
   simp only [Bool.and_eq_true, Bool.not_eq_true']
   exact ⟨hw', by simpa using hb⟩
  have := clrAll_at h _ this
  exact ⟨cl1_clear this.1, cl1_clear this.2⟩
 ·simp only [Bool.or_eq_true, not_or, Bool.not_eq_true] at hw'
  unfold clear
  rw [maskOk_at hw i hw'.1, maskOk_at hw j hw'.2]
  simp
theorem ca_nil {L : List (List (Nat × Blk) × List Nat)} : clrAll L [] = True := _root_.id rfl
theorem ca_cons {L : List (List (Nat × Blk) × List Nat)} {i j : Nat} {ps : List (Nat × Nat)} : clrAll L ((i, j) :: ps) = (clrG (L.getD i ([], [])) (L.getD j ([], [])) ∧ clrAll L ps) := _root_.id rfl
theorem cg_nil {a b : List Nat} : clrG ([], a) ([], b) = True := by simp [clrG, cl1]
theorem cg_eq {a b : List (Nat × Blk) × List Nat} : clrG a b = (cl1 a.1 b.1 b.2 ∧ cl1 b.1 a.1 a.2) := _root_.id rfl
theorem c1_nil {bs : List (Nat × Blk)} {rd : List Nat} : cl1 [] bs rd = True := _root_.id rfl
theorem c1_cons {i : Nat} {b : Blk} {ws bs : List (Nat × Blk)} {rd : List Nat} : cl1 ((i, b) :: ws) bs rd = (nIn i rd ∧ nInB i bs ∧ cl1 ws bs rd) := _root_.id rfl
theorem ni_nil {i : Nat} : nIn i [] = True := _root_.id rfl
theorem ni_cons {i j : Nat} {l : List Nat} : nIn i (j :: l) = (i ≠ j ∧ nIn i l) := _root_.id rfl
theorem nb_nil {i : Nat} : nInB i [] = True := _root_.id rfl
theorem nb_cons {i j : Nat} {b : Blk} {l : List (Nat × Blk)} : nInB i ((j, b) :: l) = (i ≠ j ∧ nInB i l) := _root_.id rfl
/-! ### append where there is room -/
def apJ (m : Bool) (l j : List PV) (id k : Nat) (C : R → Prop) (ys : List PV) (rd : List Nat) : Prop := apB (.live m (l ++ j)) id 0 l.length k C ys rd
theorem ap_j {α : Type} {f : α → PV} {m : Bool} {l j : List α} {id : Nat} {ys : List PV} {rd : List Nat} : apB (.live m (List.map f (l ++ j))) id 0 l.length k C ys rd = apJ m (l.map f) (j.map f) id k C ys rd := by
 rw [apJ, List.map_append, List.length_map]
theorem v_apj {α : Type} {f : α → PV} {m : Bool} {l j : List α} {id : Nat} {ys : List PV} {rd : List Nat} (hl : l.length + ys.length ≤ 1099511627776)
  (hc : ∀ j' : List α, C ⟨.ref k 0 (l.length + ys.length), [(id, .dead), (k, .live m (l.map f ++ ys ++ j'.map f))], id :: rd⟩) : apJ m (l.map f) (j.map f) id k C ys rd := by
 unfold apJ apB
 simp only [List.length_map, List.length_append, Nat.zero_add]
 refine ⟨hl, by omega, ?_⟩
 split
 ·rename_i hj
  have : j = [] := List.eq_nil_of_length_eq_zero (by omega)
  subst this
  have := hc []
  simpa using this
 ·split
  ·rename_i hj
   have := hc (j.drop ys.length)
   have e1 : (l.map f ++ j.map f).take l.length = l.map f := by simp [List.take_append]
   have e2 : (l.map f ++ j.map f).drop (l.length + ys.length) = (j.drop ys.length).map f := by
    rw [List.drop_append, List.drop_eq_nil_of_le (by simp), List.nil_append, List.length_map, show l.length + ys.length - l.length = ys.length by omega, ← List.map_drop]
   rw [e1, e2]
   exact this
  ·have := hc []
   have e1 : (l.map f ++ j.map f).take l.length = l.map f := by simp [List.take_append]
   rw [List.drop_zero, e1]
   simpa using this
/-! ### a place in a list, told by a bound -/
theorem gt_of {α β : Type} {f : α → β} {l : List α} {i : Nat} {K : β → Prop} (d : α) : gtO (Option.map f l[i]?) K = (i < l.length ∧ K (f (l.getD i d))) := by
 by_cases hi : i < l.length
 ·rw [List.getElem?_eq_getElem hi, List.getD_eq_getElem?_getD, List.getElem?_eq_getElem hi]
  simp [gtO, hi]
 ·rw [List.getElem?_eq_none (by omega)]
  simp [gtO, hi]
theorem gt_int {f : Int → PV} {l : List Int} {i : Nat} {K : PV → Prop} : gtO (Option.map f l[i]?) K = (i < l.length ∧ K (f (l.getD i 0))) := gt_of 0
theorem gt_bool {f : Bool → PV} {l : List Bool} {i : Nat} {K : PV → Prop} : gtO (Option.map f l[i]?) K = (i < l.length ∧ K (f (l.getD i false))) := gt_of false
theorem gt_u8 {f : UInt8 → PV} {l : List UInt8} {i : Nat} {K : PV → Prop} : gtO (Option.map f l[i]?) K = (i < l.length ∧ K (f (l.getD i 0))) := gt_of 0
theorem gt_list {α : Type} {f : List α → PV} {l : List (List α)} {i : Nat} {K : PV → Prop} : gtO (Option.map f l[i]?) K = (i < l.length ∧ K (f (l.getD i []))) := gt_of []
theorem gt_b8 {l : List UInt8} {i : Nat} {K : UInt8 → Prop} : gtO l[i]? K = (i < l.length ∧ K (l.getD i 0)) := by
 have := gt_of (f := id) (l := l) (i := i) (K := K) 0
 rwa [Option.map_id] at this
/-! ### what a slot holds, told in one word -/
/-- A slice of the call's own: its length, the values of its block. -/
def OwnL {α : Type} (v : AV) (h : Nat → Blk) (n : Nat) (f : α → PV) (len : Nat) (l : List α) : Prop :=
 match v with
 | .ref id 0 len' => len' = len ∧ h id = .live false (l.map f) ∧ id < n
 | _ => False
def FroL {α : Type} (v : AV) (h : Nat → Blk) (n : Nat) (f : α → PV) (len : Nat) (l : List α) : Prop :=
 match v with
 | .ref id 0 len' => len' = len ∧ h id = .froz false (l.map f) ∧ id < n
 | _ => False
def NId (v v' : AV) : Prop :=
 match v, v' with
 | .ref i _ _, .ref j _ _ => i ≠ j
 | _, _ => False
def hbL {α : Type} (b : Blk) (f : α → PV) (l : List α) : Prop := b = .live false (l.map f)
def hbF {α : Type} (b : Blk) (f : α → PV) (l : List α) : Prop := b = .froz false (l.map f)
theorem OwnL.out {α : Type} {v : AV} {h : Nat → Blk} {n : Nat} {f : α → PV} {len : Nat} {l : List α} (ho : OwnL v h n f len l) : ∃ id, v = .ref id 0 len ∧ h id = .live false (l.map f) ∧ id < n := by
 unfold OwnL at ho
 split at ho
 ·rename_i id len' ; obtain ⟨rfl, h1, h2⟩ := ho; exact ⟨id, rfl, h1, h2⟩
 ·exact ho.elim
theorem FroL.out {α : Type} {v : AV} {h : Nat → Blk} {n : Nat} {f : α → PV} {len : Nat} {l : List α} (ho : FroL v h n f len l) : ∃ id, v = .ref id 0 len ∧ h id = .froz false (l.map f) ∧ id < n := by
 unfold FroL at ho
 split at ho
 ·rename_i id len' ; obtain ⟨rfl, h1, h2⟩ := ho; exact ⟨id, rfl, h1, h2⟩
 ·exact ho.elim
theorem NId.out {v v' : AV} {i o l i' o' l' : Nat} (h : NId v v') (e : v = .ref i o l) (e' : v' = .ref i' o' l') : i ≠ i' := by
 subst e; subst e'; exact h
theorem own_ref {α : Type} {h : Nat → Blk} {n id len' : Nat} {f : α → PV} {len : Nat} {l : List α} : OwnL (.ref id 0 len') h n f len l = (len' = len ∧ hbL (h id) f l ∧ id < n) := _root_.id rfl
theorem fro_ref {α : Type} {h : Nat → Blk} {n id len' : Nat} {f : α → PV} {len : Nat} {l : List α} : FroL (.ref id 0 len') h n f len l = (len' = len ∧ hbF (h id) f l ∧ id < n) := _root_.id rfl
theorem hbL_eq {α : Type} {f : α → PV} {c : List PV} {l : List α} : hbL (.live false c) f l = (c = l.map f) := by simp [hbL]
theorem hbF_eq {α : Type} {f : α → PV} {c : List PV} {l : List α} : hbF (.froz false c) f l = (c = l.map f) := by simp [hbF]
theorem nid_eq {i o l i' o' l' : Nat} : NId (.ref i o l) (.ref i' o' l') = (i ≠ i') := _root_.id rfl
/-! ### new memory alone -/
theorem nrL_int {kd : IntKind} {l : List Int} : noRoL (l.map (PV.int kd)) = true := noRoL_map (fun _ => rfl) l
theorem nrL_str {l : List (List UInt8)} : noRoL (l.map PV.str) = true := noRoL_map (fun _ => rfl) l
theorem nrL_bool {l : List Bool} : noRoL (l.map PV.bool) = true := noRoL_map (fun _ => rfl) l
theorem nrL_u8 {l : List UInt8} : noRoL (l.map u8P) = true := noRoL_map (fun _ => rfl) l
theorem nrL_frI {l : List (List Int)} : noRoL (l.map (elI false)) = true := noRoL_map (fun _ => nr_frI) l
theorem nrL_frS {l : List (List (List UInt8))} : noRoL (l.map (elS false)) = true := noRoL_map (fun _ => nr_frS) l
/-! ### results -/
theorem f_fr {F : List (Nat × Nat × Pl) → Prop} {tk : Bool} {ys xs : List PV} : fin tk h k (.p (.sl (.lent false) ys)) (.sl (.lent false) xs) F = (ys = xs ∧ F []) := _root_.id rfl
theorem f_fro {F : List (Nat × Nat × Pl) → Prop} {tk : Bool} {ys xs : List PV} : fin tk h k (.p (.sl .own ys)) (.sl (.lent false) xs) F = (xs = [] ∧ F []) := _root_.id rfl
def frB (b : Blk) (k id off len : Nat) (xs : List PV) (F : List (Nat × Nat × Pl) → Prop) : Prop :=
 match b with
 | .froz false c => off + len ≤ c.length ∧ (c.drop off).take len = xs ∧ F []
 | .live false c => off + len ≤ c.length ∧ (c.drop off).take len = xs ∧ F [(k, id, .n none)]
 | .deep false cs rs => off + len ≤ cs.length ∧ ((cs.drop off).take len).map (DC.fz rs) = xs ∧ F [(k, id, .n none)]
 | _ => False
theorem f_frr {F : List (Nat × Nat × Pl) → Prop} {tk : Bool} {id off len : Nat} {xs : List PV} : fin tk h k (.ref id off len) (.sl (.lent false) xs) F = frB (h id) k id off len xs F := by
 show fin tk h k (.ref id off len) (.sl .fr xs) F = _
 simp only [fin, fin1, frB]
 cases h id with
 | live m c => cases m <;> rfl
 | froz m c => cases m <;> rfl
 | deep m cs rs => cases m <;> rfl
 | _ => rfl
theorem fr_froz {F : List (Nat × Nat × Pl) → Prop} {k id off len : Nat} {c xs : List PV} : frB (.froz false c) k id off len xs F = (off + len ≤ c.length ∧ (c.drop off).take len = xs ∧ F []) := _root_.id rfl
theorem fr_live {F : List (Nat × Nat × Pl) → Prop} {k id off len : Nat} {c xs : List PV} : frB (.live false c) k id off len xs F = (off + len ≤ c.length ∧ (c.drop off).take len = xs ∧ F [(k, id, .n none)]) := _root_.id rfl
/-- A slice of the call's own that is not handed back alone: it may be shared. -/
theorem f_2 {p q : Nat × Nat × Pl} : F0 [p, q] = Dj p q := by simp [F0]
theorem f_3 {p q r : Nat × Nat × Pl} : F0 [p, q, r] = (Dj p q ∧ Dj p r ∧ Dj q r) := by simp [F0, and_assoc]
theorem dj_o {k k' i j : Nat} {o : Nat} {pl : Pl} : Dj (k, i, .o o) (k', j, pl) = (i ≠ j) := by simp [Dj, Pl.row]
theorem dj_o' {k k' i j : Nat} {o : Nat} {pl : Pl} : Dj (k, i, pl) (k', j, .o o) = (i ≠ j) := by simp [Dj, Pl.row]
theorem dj_d {k k' i j : Nat} {o : Nat} {s : List (Option Nat)} {pl : Pl} : Dj (k, i, .d o s) (k', j, pl) = (i ≠ j) := by simp [Dj, Pl.row]
theorem dj_d' {k k' i j : Nat} {o : Nat} {s : List (Option Nat)} {pl : Pl} : Dj (k, i, pl) (k', j, .d o s) = (i ≠ j) := by simp [Dj, Pl.row]
theorem dj_n {k k' i j : Nat} {pl : Pl} : Dj (k, i, .n none) (k', j, pl) = (i ≠ j) := by simp [Dj, Pl.row]
theorem dj_n' {k k' i j : Nat} {pl : Pl} : Dj (k, i, pl) (k', j, .n none) = (i ≠ j) := by simp [Dj, Pl.row]
theorem dj_ii {k k' i j r r' : Nat} {o o' : Nat} : Dj (k, i, .i r o) (k', j, .i r' o') = (i ≠ j ∨ r ≠ r') := by simp [Dj, Pl.row]
theorem dj_nn {k k' i j r r' : Nat} : Dj (k, i, .n (some r)) (k', j, .n (some r')) = (i ≠ j ∨ r ≠ r') := by simp [Dj, Pl.row]
def FLx (h : Nat → Blk) (k : Nat) (vs : List AV) (xs : List PV) (F : List (Nat × Nat × Pl) → Prop) (L : List (Nat × Nat × Pl)) : Prop := finL false h k vs xs (FL L F)
theorem fa_agg {F : List (Nat × Nat × Pl) → Prop} {vs : List AV} {xs : List PV} : fin false h k (.agg vs) (.agg xs) F = finL false h (k + 1) vs xs F := _root_.id rfl
theorem fa_aggp {F : List (Nat × Nat × Pl) → Prop} {ys xs : List PV} : fin false h k (.p (.agg ys)) (.agg xs) F = finL false h (k + 1) (ys.map .p) xs F := _root_.id rfl
theorem fL_nil {F : List (Nat × Nat × Pl) → Prop} : finL false h k [] [] F = F [] := _root_.id rfl
theorem fL_cons {F : List (Nat × Nat × Pl) → Prop} {v : AV} {vs : List AV} {x : PV} {xs : List PV} : finL false h k (v :: vs) (x :: xs) F = fin1 false h k v x (FLx h (k + 1) vs xs F) := _root_.id rfl
theorem fLx_eq {F : List (Nat × Nat × Pl) → Prop} {vs : List AV} {xs : List PV} {L : List (Nat × Nat × Pl)} : FLx h k vs xs F L = finL false h k vs xs (FL L F) := _root_.id rfl
theorem f1_int {F : List (Nat × Nat × Pl) → Prop} {v : AV} {kd : IntKind} {n : Int} : fin1 false h k v (.int kd n) F = (v = .p (.int kd n) ∧ F []) := _root_.id rfl
theorem f1_bool {F : List (Nat × Nat × Pl) → Prop} {v : AV} {b : Bool} : fin1 false h k v (.bool b) F = (v = .p (.bool b) ∧ F []) := _root_.id rfl
theorem f1_str {F : List (Nat × Nat × Pl) → Prop} {v : AV} {s : List UInt8} : fin1 false h k v (.str s) F = (v = .p (.str s) ∧ F []) := _root_.id rfl
theorem f1_ro {F : List (Nat × Nat × Pl) → Prop} {v : AV} {s : List PV} : fin1 false h k v (.sl (.lent true) s) F = (v = .p (.sl (.lent true) s) ∧ F []) := _root_.id rfl
theorem f1_own {F : List (Nat × Nat × Pl) → Prop} {id off len : Nat} {ys : List PV} : fin1 false h k (.ref id off len) (.sl .own ys) F = fiB (h id) k id off len ys F := by
 simp only [fin1, fiB]; cases h id <;> rfl
theorem f1_own0 {F : List (Nat × Nat × Pl) → Prop} {ys zs : List PV} : fin1 false h k (.p (.sl .own zs)) (.sl .own ys) F = (ys = [] ∧ F []) := _root_.id rfl
theorem f1_fr {F : List (Nat × Nat × Pl) → Prop} {ys xs : List PV} : fin1 false h k (.p (.sl (.lent false) ys)) (.sl (.lent false) xs) F = (ys = xs ∧ F []) := _root_.id rfl
theorem f1_fro {F : List (Nat × Nat × Pl) → Prop} {ys xs : List PV} : fin1 false h k (.p (.sl .own ys)) (.sl (.lent false) xs) F = (xs = [] ∧ F []) := _root_.id rfl
theorem f1_frr {F : List (Nat × Nat × Pl) → Prop} {id off len : Nat} {xs : List PV} : fin1 false h k (.ref id off len) (.sl (.lent false) xs) F = frB (h id) k id off len xs F := by
 show fin1 false h k (.ref id off len) (.sl .fr xs) F = _
 simp only [fin1, frB]
 cases h id with
 | live m c => cases m <;> rfl
 | froz m c => cases m <;> rfl
 | deep m cs rs => cases m <;> rfl
 | _ => rfl
theorem is_nil {n : Nat} : imps n [] = [] := _root_.id rfl
theorem is_cons {n : Nat} {x : PV} {xs : List PV} : imps n (x :: xs) = imp n x :: imps (n + 16) xs := _root_.id rfl
theorem iL_nil {n : Nat} : impL n [] = [] := _root_.id rfl
theorem iL_cons {n : Nat} {x : PV} {xs : List PV} : impL n (x :: xs) = imp1 n x :: impL (n + 1) xs := _root_.id rfl
theorem iW_nil {n : Nat} {m : Bool} : impWL m n [] = [] := _root_.id rfl
theorem iW_cons {n : Nat} {m : Bool} {x : PV} {xs : List PV} : impWL m n (x :: xs) = impW1 m n x ++ impWL m (n + 1) xs := _root_.id rfl
end
attribute [go_sem] sbt
attribute [go_sem ↓] w_slice w_extract w_conv' w_build w_max w_min w_mf w_nc w_make w_store w_alloc w_box w_field w_fieldAddr
attribute [go_sem] mp_ap mp_u8 mp_elI mp_elS mp_rep_int mp_rep_bool mp_rep_str mp_rep_fr mp_set_int mp_set_bool mp_set_str mp_set_el u8P_eq elI_eq elS_eq
attribute [go_sem] s_str s_sl s_ref s_sl3 s_ref3 bd_none bd_some bl_eq bl3_eq sls_eq sll_eq slr_eq sl3_eq w_store' st_int st_bool st_str st_lent st_own st_ref st1_live str_live str_froz st1_deep str_deep str_deepT str_deepf pt_deep
attribute [go_sem] pu_ref pu_live pu_froz pu_r pu_f mk_eq mk_some al_eq al_some nth_eq nth_some ex_tup fd_eq fd_p fd_a kf_eq fa_eq fa_pc fa_ptr bd_eq bd_go fi_nil fi_cons fi_some kg_eq on_int on_bool on_str on_sl on_ref
attribute [go_sem] cv_int ci_some cv_str cs_t cs_f cv_ref cv_sl cv_map cv_nil cv_b1 mm_max mm_min g_fnp g_fna q_fn q_agg pf1_eq pf2_eq pa1_eq ps_nil ps_p ps_ref ps_ptr up_eq q_ptr pt_live pt_froz nc_ptr nc_pc nc_fn nc_fna
attribute [go_sem] mu_ref mu_live mu_nx mu_all mu_pq mu_mf ob_some ob_none ca_nil ca_cons cg_nil cg_eq c1_nil c1_cons ni_nil ni_cons nb_nil nb_cons f_fr f_fro f_frr fr_froz fr_live mk_live lenC_live f_2 f_3 fa_agg fa_aggp fL_nil fL_cons fLx_eq f1_int f1_bool f1_str f1_ro f1_own f1_own0 f1_fr f1_fro f1_frr is_nil is_cons iL_nil iL_cons iW_nil iW_cons
attribute [go_sem] Option.map_some Option.map_none List.set_cons_zero List.set_cons_succ Option.isNone_none List.all_cons List.all_nil List.append_assoc Nat.sub_zero List.drop_zero Int.toNat_zero cell_fn cell_nilf cell_agg
attribute [go_sem] gt_int gt_bool gt_u8 gt_list gt_b8
attribute [go_sem] dj_o dj_o' dj_d dj_d' dj_n dj_n' dj_ii dj_nn
attribute [go_sem] fl_live fl_froz fl_deep own_ref fro_ref hbL_eq hbF_eq nid_eq
attribute [go_sem high] ap_j
end Go.Gl
set_option linter.unusedSimpArgs false
set_option linter.unusedVariables false
namespace Go.Gl
open Go
variable [Amb]
theorem nrA_int {kd : IntKind} {n : Int} : noRo (.int kd n) = true := _root_.id rfl
theorem nrA_nl : noRo .nl = true := _root_.id rfl
theorem nrA_bool {b : Bool} : noRo (.bool b) = true := _root_.id rfl
theorem nrA_str {s : List UInt8} : noRo (.str s) = true := _root_.id rfl
theorem nrA_own {xs : List PV} : noRo (.sl .own xs) = noRoL xs := _root_.id rfl
theorem nrA_lent {xs : List PV} : noRo (.sl (.lent false) xs) = noRoL xs := _root_.id rfl
theorem nrA_agg {xs : List PV} : noRo (.agg xs) = noRoL xs := _root_.id rfl
/-! ### results, worked out by their shape -/
class Imp1 (k : Nat) (x : PV) (v : outParam AV) (ws : outParam (List (Nat × Blk))) : Prop where
 h : imp1 k x = v ∧ impW1 false k x = ws
instance {k : Nat} {kd : IntKind} {n : Int} : Imp1 k (.int kd n) (.p (.int kd n)) [] := ⟨rfl, rfl⟩
instance {k : Nat} : Imp1 k .nl (.p .nl) [] := ⟨rfl, rfl⟩
instance {k : Nat} {b : Bool} : Imp1 k (.bool b) (.p (.bool b)) [] := ⟨rfl, rfl⟩
instance {k : Nat} {s : List UInt8} : Imp1 k (.str s) (.p (.str s)) [] := ⟨rfl, rfl⟩
instance {m : Bool} {k : Nat} {s : List PV} : Imp1 k (.sl (.lent m) s) (.p (.sl (.lent m) s)) [] := ⟨by cases m <;> rfl, by cases m <;> rfl⟩
instance {α : Type} {k : Nat} {f : α → PV} {s : List α} : Imp1 k (.sl .own (s.map f)) (.ref k 0 s.length) [(k, .live false (s.map f))] := ⟨by simp [imp1], rfl⟩
instance {k : Nat} {f : FuncId} {a b : List PV} : Imp1 k (.fn f a b) (.p (.fn f a b)) [] := ⟨rfl, rfl⟩
class ImpLs (k : Nat) (xs : List PV) (vs : outParam (List AV)) (ws : outParam (List (Nat × Blk))) : Prop where
 h : impL k xs = vs ∧ impWL false k xs = ws
instance {k : Nat} : ImpLs k [] [] [] := ⟨rfl, rfl⟩
instance {k : Nat} {x : PV} {v : AV} {xs : List PV} {vs : List AV} {ws : List (Nat × Blk)} [a : Imp1 k x v []] [b : ImpLs (k + 1) xs vs ws] : ImpLs k (x :: xs) (v :: vs) ws :=
 ⟨by rw [impL, a.h.1, b.h.1], by rw [impWL, a.h.2, b.h.2]; rfl⟩
instance {k : Nat} {x : PV} {v : AV} {w : Nat × Blk} {xs : List PV} {vs : List AV} {ws : List (Nat × Blk)} [a : Imp1 k x v [w]] [b : ImpLs (k + 1) xs vs ws] : ImpLs k (x :: xs) (v :: vs) (w :: ws) :=
 ⟨by rw [impL, a.h.1, b.h.1], by rw [impWL, a.h.2, b.h.2]; rfl⟩
class ImpO (k : Nat) (x : PV) (v : outParam AV) (ws : outParam (List (Nat × Blk))) : Prop where
 h : imp k x = v ∧ impW false k x = ws
instance {k : Nat} {kd : IntKind} {n : Int} : ImpO k (.int kd n) (.p (.int kd n)) [] := ⟨rfl, rfl⟩
instance {k : Nat} : ImpO k .nl (.p .nl) [] := ⟨rfl, rfl⟩
instance {k : Nat} {b : Bool} : ImpO k (.bool b) (.p (.bool b)) [] := ⟨rfl, rfl⟩
instance {k : Nat} {s : List UInt8} : ImpO k (.str s) (.p (.str s)) [] := ⟨rfl, rfl⟩
instance {m : Bool} {k : Nat} {s : List PV} : ImpO k (.sl (.lent m) s) (.p (.sl (.lent m) s)) [] := ⟨by cases m <;> rfl, by cases m <;> rfl⟩
instance {α : Type} {k : Nat} {f : α → PV} {s : List α} : ImpO k (.sl .own (s.map f)) (.ref k 0 s.length) [(k, .live false (s.map f))] := ⟨by simp [imp, imp1], rfl⟩
instance {k : Nat} {f : FuncId} {a b : List PV} : ImpO k (.fn f a b) (.p (.fn f a b)) [] := ⟨rfl, rfl⟩
instance {k : Nat} {xs : List PV} {vs : List AV} {ws : List (Nat × Blk)} [a : ImpLs (k + 1) xs vs ws] : ImpO k (.agg xs) (.agg vs) ws := ⟨by rw [imp, a.h.1], by rw [impW, a.h.2]⟩
class ImpS (k : Nat) (xs : List PV) (vs : outParam (List AV)) (ws : outParam (List (Nat × Blk))) : Prop where
 h : imps k xs = vs ∧ impWs false k xs = ws
instance {k : Nat} : ImpS k [] [] [] := ⟨rfl, rfl⟩
instance {k : Nat} {x : PV} {v : AV} {xs : List PV} {vs : List AV} {ws : List (Nat × Blk)} [a : ImpO k x v []] [b : ImpS (k + 16) xs vs ws] : ImpS k (x :: xs) (v :: vs) ws :=
 ⟨by rw [imps, a.h.1, b.h.1], by rw [impWs, a.h.2, b.h.2]; rfl⟩
instance {k : Nat} {x : PV} {v : AV} {w : Nat × Blk} {xs : List PV} {vs : List AV} {ws : List (Nat × Blk)} [a : ImpO k x v [w]] [b : ImpS (k + 16) xs vs ws] : ImpS k (x :: xs) (v :: vs) (w :: ws) :=
 ⟨by rw [imps, a.h.1, b.h.1], by rw [impWs, a.h.2, b.h.2]; rfl⟩
instance {k : Nat} {x : PV} {v : AV} {w w2 : Nat × Blk} {xs : List PV} {vs : List AV} {ws : List (Nat × Blk)} [a : ImpO k x v [w, w2]] [b : ImpS (k + 16) xs vs ws] : ImpS k (x :: xs) (v :: vs) (w :: w2 :: ws) :=
 ⟨by rw [imps, a.h.1, b.h.1], by rw [impWs, a.h.2, b.h.2]; rfl⟩
instance {k : Nat} {x : PV} {v : AV} {w w2 w3 : Nat × Blk} {xs : List PV} {vs : List AV} {ws : List (Nat × Blk)} [a : ImpO k x v [w, w2, w3]] [b : ImpS (k + 16) xs vs ws] : ImpS k (x :: xs) (v :: vs) (w :: w2 :: w3 :: ws) :=
 ⟨by rw [imps, a.h.1, b.h.1], by rw [impWs, a.h.2, b.h.2]; rfl⟩
class ImpA (k : Nat) (xs : List PV) (v : outParam AV) (ws : outParam (List (Nat × Blk))) : Prop where
 h : impAll k xs = v ∧ impWs false k xs = ws
instance {k : Nat} : ImpA k [] (.tup []) [] := ⟨rfl, rfl⟩
instance {k : Nat} {x : PV} {v : AV} {ws : List (Nat × Blk)} [a : ImpO k x v ws] : ImpA k [x] v ws := ⟨by rw [impAll, a.h.1], by rw [impWs, a.h.2, impWs, List.append_nil]⟩
instance {k : Nat} {x y : PV} {xs : List PV} {vs : List AV} {ws : List (Nat × Blk)} [a : ImpS k (x :: y :: xs) vs ws] : ImpA k (x :: y :: xs) (.tup vs) ws := ⟨by rw [impAll, a.h.1]; intro z h; simp at h, a.h.2⟩
section
variable {S : St} {P : Program} {h : Nat → Blk} {C : R → Prop}
theorem v_callE {k : Nat} {f : FuncId} {xs res : List PV} {rd : List Nat} {v : AV} {ws : List (Nat × Blk)} (hf : Fun P f xs res) [a : ImpA k res v ws] (hc : C ⟨v, ws, rd⟩) : PkX P h k f C xs rd :=
 v_call hf (by rw [a.h.1, a.h.2]; exact hc)
theorem v_callN {k : Nat} {p : Bool} {f : FuncId} {c c' : List PV} {as : List Arg} {os : List (Option (List PV))} {res : List PV} {rd : List Nat} {ms : List (Option (Nat × Option Nat))} {id : Nat} {v : AV} {ws : List (Nat × Blk)}
  (hf : CallT P false f (.mu p c :: as) (some c' :: os) res) [a : ImpA k res v ws] (hn : (ms.all Option.isNone) = true) (hid : id ∉ rd)
  (hc : C ⟨v, (id, outB none (some (some c')) (h id)) :: ws, id :: rd⟩) : Pk P h k f C (.mu p c :: as) rd (some (id, none) :: ms) := by
 refine v_callM hf hn hid ?_
 rw [Bool.false_and, a.h.1, a.h.2, List.getElem?_cons_zero]
 exact hc
/-- What it is lent is gone behind the call. -/
theorem v_callX {k : Nat} {p : Bool} {f : FuncId} {c : List PV} {as : List Arg} {os : List (Option (List PV))} {res : List PV} {rd : List Nat} {ms : List (Option (Nat × Option Nat))} {id : Nat} {v : AV} {ws : List (Nat × Blk)}
  (hf : CallT P false f (.mu p c :: as) (none :: os) res) [a : ImpA k res v ws] (hn : (ms.all Option.isNone) = true) (hid : id ∉ rd)
  (hc : C ⟨v, (id, .dead) :: ws, id :: rd⟩) : Pk P h k f C (.mu p c :: as) rd (some (id, none) :: ms) := by
 refine v_callM hf hn hid ?_
 rw [Bool.false_and, a.h.1, a.h.2, List.getElem?_cons_zero]
 exact hc
theorem q_maps {caps : List PV} {F : List PV → List Nat → Prop} : puG h (List.map AV.p caps) F = F (caps.map PV.cell) [] := by
 induction caps generalizing F with
 | nil => rfl
 | cons c caps ih => simp only [List.map_cons, q_p, ih, q_ua, List.nil_append]
theorem ah_mu {p : Bool} {c : List PV} {as : List Arg} : argH (.mu p c :: as) 0 = mkB true c := _root_.id rfl
theorem ah_pv {x : PV} {as : List Arg} : argH (.pv x :: as) 0 = .dead := _root_.id rfl
theorem ah_s {a : Arg} {as : List Arg} {j : Nat} : argH (a :: as) (j + 1) = argH as j := by simp [argH]
theorem v_finN {tk : Bool} {c c' : List PV} {as : List Arg} {ts : List Nat} {xs : List PV} {ex : Ex} {p : Bool} {os : List (Option (List PV))} (hx : ex = .ret ∨ ex = .normal)
  (ho : (os.all Option.isNone) = true) (hl : S.h 0 = mkB true c') (hf : fins tk S.h (as.length + 1) (ts.map S.e) xs F1) :
  FinM tk (.mu p c :: as) (some c' :: os) ts xs ex S := v_finM hx ho hl hf
theorem live_t {c c' : List PV} (h : c = c') : Blk.live true c = Blk.live true c' := by rw [h]
end
attribute [go_sem] q_maps tk_map dr_map r_appw0 ah_mu ah_pv ah_s f1_nil f1_1
end Go.Gl
set_option linter.unusedSimpArgs false
set_option linter.unusedVariables false
namespace Go.Gl
open Go Go.RowKit Go.ChangeShapes
section
variable {H : Type} {enc : TypeId × Value → H} {P : Program} {w : World} {base : Nat} {sp : Nat → Bool} {held : Bool} {G : Nat → Prop}
theorem cells_1 {a : Addr} {c : List Value} (h : w.cells? base a 1 = some c) : ∃ v, c = [v] ∧ w.cell? a = some v := by
 have e0 : a.add 0 = a := by simp [Addr.add]
 unfold World.cells? at h
 split at h
 ·simp only [List.range_succ, List.range_zero, List.nil_append, List.mapM_cons, List.mapM_nil, e0] at h
  cases hcc : w.cell? a with
  | none => simp [hcc] at h
  | some c => simp [hcc] at h; exact ⟨c, h.symm, rfl⟩
 ·cases h
theorem open_rows {t e : TypeId} {fuel : Nat} {cs : List Value} {x : DataW H × List MemPlace} {α : Type} (f : α → PV) (ht : P.underlying t = some (.slice e)) (hc : P.cellsOf e = 1)
  (hel : ∀ n v y, DataW.trod enc P w base sp held n e [v] = some y → ∃ a : α, v.oneCell' = true ∧ RepP w (fun _ => False) G (f a) v)
  (h : DataW.trod enc P w base sp held fuel t cs = some x) : ∃ (v : Value) (L : List α), cs = [v] ∧ RepP w (fun _ => False) G (.sl .ro (L.map f)) v := by
 rcases DataW.trod_slice ht h with ⟨rfl, _⟩ | ⟨a, len, cap, elems, rest, n, _, rfl, rfl, hb, hl, hm, hlen, hes, _, _⟩
 ·refine ⟨_, [], rfl, ?_⟩
  simp only [List.map_nil, RepP]
  exact ⟨none, 0, rfl, Nat.le_refl _, Nat.zero_le _, (by intro h; cases h), Or.inl trivial⟩
 ·have key : ∀ i, i < len → ∃ v, w.cell? (a.add i) = some v ∧ ∃ a : α, v.oneCell' = true ∧ RepP w (fun _ => False) G (f a) v := by
   intro i hi
   have hE := hes i hi
   rw [hc, Nat.mul_one, List.getElem?_eq_getElem (by omega)] at hE
   simp only [Option.bind_eq_some_iff] at hE
   obtain ⟨c1, hc1, hy1⟩ := hE
   obtain ⟨v, rfl, hv⟩ := cells_1 hc1
   exact ⟨v, hv, hel _ _ _ hy1⟩
  have key2 : ∃ L : List α, L.length = len ∧ ∀ i (hi : i < L.length), ∃ v, w.cell? (a.add i) = some v ∧ v.oneCell' = true ∧ RepP w (fun _ => False) G (f L[i]) v := by
   have : ∀ m, m ≤ len → ∃ L : List α, L.length = m ∧ ∀ i (hi : i < L.length), ∃ v, w.cell? (a.add i) = some v ∧ v.oneCell' = true ∧ RepP w (fun _ => False) G (f L[i]) v := by
    intro m
    induction m with
    | zero => intro _; exact ⟨[], rfl, fun i hi => by simp at hi⟩
    | succ m ih =>
     intro hle
     obtain ⟨L, hL, hL2⟩ := ih (by omega)
     obtain ⟨v, hv, b, h1, h2⟩ := key m (by omega)
     refine ⟨L ++ [b], by simp [hL], fun i hi => ?_⟩
     by_cases him : i < L.length
     ·obtain ⟨v', q1, q2, q3⟩ := hL2 i him
      exact ⟨v', q1, q2, by rw [List.getElem_append_left him]; exact q3⟩
     ·have : i = m := by simp at hi; omega
      subst this
      refine ⟨v, hv, h1, ?_⟩
      rw [List.getElem_append_right (by omega)]
      simpa [hL] using h2
   exact this len (Nat.le_refl _)
  obtain ⟨L, hL, hL2⟩ := key2
  refine ⟨_, L, rfl, ?_⟩
  simp only [RepP, List.length_map]
  refine ⟨some a, cap, by rw [hL], by omega, hm, (by intro h; cases h), ?_⟩
  by_cases h0 : len = 0
  ·left; have : L = [] := List.eq_nil_of_length_eq_zero (by omega)
   subst this; rfl
  ·right
   obtain ⟨B, off, spot⟩ := a
   obtain ⟨v, hv, _, _⟩ := hL2 0 (by omega)
   have hs : spot = none := by simpa [Addr.add] using World.cell?_spot hv
   subst hs
   refine ⟨B, off, rfl, id, (by intro h; cases h), ?_⟩
   have main : ∀ (M : List α) (o : Nat), (∀ i (hi : i < M.length), ∃ v, w.cell? ⟨B, o + i, none⟩ = some v ∧ v.oneCell' = true ∧ RepP w (fun _ => False) G (f M[i]) v) → RepC w (fun _ => False) G B o (M.map f) := by
    intro M
    induction M with
    | nil => intro o _; simp only [List.map_nil, RepC]
    | cons y M ih =>
     intro o hy
     simp only [List.map_cons, RepC]
     refine ⟨by have := hy 0 (by simp); rw [List.getElem_cons_zero] at this; simpa using this, ih (o + 1) fun i hi => ?_⟩
     have := hy (i + 1) (by simpa using hi)
     rw [show o + 1 + i = o + (i + 1) by omega]
     simpa using this
   refine main L off fun i hi => ?_
   have := hL2 i hi
   by_cases hi0 : i = 0
   ·subst hi0; simpa [Addr.add] using this
   ·simpa [Addr.add, hi0] using this
theorem ints_row {t e : TypeId} {k : IntKind} {fuel : Nat} {v : Value} {x : DataW H × List MemPlace} (ht : P.underlying t = some (.slice e)) (he : P.underlying e = some (.int k)) (hc : P.cellsOf e = 1)
  (h : DataW.trod enc P w base (fun _ => true) held fuel t [v] = some x) : ∃ zs : List Int, v.oneCell' = true ∧ RepP w (fun _ => False) G (ints k zs) v := by
 rcases open_ints ht he hc h with ⟨hcs, _⟩ | ⟨a, l, c, zs, hcs, _, hl, hm, hz, _, hcell, hwz⟩
 ·simp only [List.cons.injEq, and_true] at hcs
  subst hcs
  exact ⟨[], rfl, (IsRow.rep (zs := []) (.inl ⟨rfl, rfl, rfl, rfl⟩) : RepP w _ G (ints k _) _)⟩
 ·simp only [List.cons.injEq, and_true] at hcs
  subst hcs
  exact ⟨zs.take l, rfl, IsRow.rep (.inr ⟨_, rfl, hl, hm, by simpa using hz, hcell, hwz⟩)⟩
theorem open_intss {t e i : TypeId} {fuel : Nat} {cs : List Value} {x : DataW H × List MemPlace} (ht : P.underlying t = some (.slice e)) (hc : P.cellsOf e = 1)
  (he : P.underlying e = some (.slice i)) (hi : P.underlying i = some (.int .i64)) (hci : P.cellsOf i = 1)
  (h : DataW.trod enc P w base (fun _ => true) held fuel t cs = some x) : ∃ (v : Value) (L : List (List Int)), cs = [v] ∧ RepP w (fun _ => False) G (.sl .ro (L.map (elI true))) v :=
 open_rows (elI true) ht hc (fun n v y hy => by
  obtain ⟨zs, h1, h2⟩ := ints_row (G := G) he hi hci hy
  exact ⟨zs, h1, h2⟩) h
theorem rep_lensC {G : Nat → Prop} {B : Nat} : ∀ {L : List (List Int)} {off : Nat}, RepC w (fun _ => False) G B off (L.map (elI true)) → ∀ l ∈ L, l.length ≤ 9223372036854775807
 | [], _, _ => by simp
 | x :: L, off, h => by
  have hm : maxLen = 9223372036854775807 := rfl
  simp only [List.map_cons, RepC] at h
  obtain ⟨⟨v', _, _, h4⟩, h5⟩ := h
  intro l hl
  rcases List.mem_cons.1 hl with rfl | hl
  ·simp only [elI, RepP, List.length_map] at h4
   obtain ⟨_, _, _, q1, q2, _⟩ := h4
   omega
  ·exact rep_lensC h5 l hl
/-- The lengths of what came in. -/
theorem rep_lens {G : Nat → Prop} {L : List (List Int)} {v : Value} (h : RepP w (fun _ => False) G (.sl .ro (L.map (elI true))) v) : L.length ≤ 9223372036854775807 ∧ ∀ l ∈ L, l.length ≤ 9223372036854775807 := by
 simp only [RepP, List.length_map] at h
 obtain ⟨a, cap, _, h1, h2, _, h3⟩ := h
 have hm : maxLen = 9223372036854775807 := rfl
 refine ⟨by omega, ?_⟩
 rcases h3 with h3 | ⟨B, off, _, _, _, h3⟩
 ·intro l hl
  have : L = [] := List.map_eq_nil_iff.1 h3
  subst this; simp at hl
 ·exact rep_lensC h3
end
end Go.Gl
set_option linter.unusedSimpArgs false
set_option linter.unusedVariables false
namespace Go.Gl
open Go
variable [Amb]
section
variable {P : Program} {sg : FuncId → List Bool} {h : Nat → Blk} {k : Nat} {C : R → Prop} {A : AV → Prop}
/-! ### a struct loaded -/
def ldA (b : Blk) (id off n : Nat) (C : R → Prop) : Prop :=
 match b with
 | .live _ c => off + n ≤ c.length ∧ C ⟨.p (.agg ((c.drop off).take n)), [], [id]⟩
 | .froz _ c => off + n ≤ c.length ∧ C ⟨.p (.agg ((c.drop off).take n)), [], [id]⟩
 | .deep _ cs rs => off + n ≤ cs.length ∧ C ⟨.agg (((cs.drop off).take n).map (DC.av id rs)), [], [id]⟩
 | _ => False
theorem ld_aptr {n id off : Nat} : ldG (some (n, true)) h (.ptr id off) C = ldA (h id) id off n C := by
 simp only [ldG, ldA] <;> cases h id <;> rfl
theorem ld_alive {m : Bool} {c : List PV} {id off n : Nat} : ldA (.live m c) id off n C = (off + n ≤ c.length ∧ C ⟨.p (.agg ((c.drop off).take n)), [], [id]⟩) := _root_.id rfl
theorem ld_afroz {m : Bool} {c : List PV} {id off n : Nat} : ldA (.froz m c) id off n C = (off + n ≤ c.length ∧ C ⟨.p (.agg ((c.drop off).take n)), [], [id]⟩) := _root_.id rfl
/-! ### a box: a variable whose address is taken -/
def BX (k : Nat) (C : R → Prop) (xs : List PV) (ws : List (Nat × Blk)) (rd : List Nat) : Prop := xs ≠ [] ∧ xs.length ≤ 1000000 ∧ C ⟨.ptr k 0, ws ++ [(k, .live false xs)], rd⟩
theorem bx_eq {v : AV} : boxW h k v C = cellsW h v (BX k C) := _root_.id rfl
theorem bx_go {xs : List PV} {ws : List (Nat × Blk)} {rd : List Nat} : BX k C xs ws rd = (xs ≠ [] ∧ xs.length ≤ 1000000 ∧ C ⟨.ptr k 0, ws ++ [(k, .live false xs)], rd⟩) := _root_.id rfl
variable {K : List PV → List (Nat × Blk) → List Nat → Prop}
theorem cw_agg {xs : List PV} : cellsW h (.p (.agg xs)) K = (xs.all (fun x => x.cell.cellOk) = true ∧ K (xs.map PV.cell) [] []) := _root_.id rfl
theorem cw_aggA {vs : List AV} : cellsW h (.agg vs) K = pubs h vs K := _root_.id rfl
theorem cw_int {kd : IntKind} {n : Int} : cellsW h (.p (.int kd n)) K = K [.int kd n] [] [] := by simp [cellsW, pub, PV.cell, PV.cellOk]
theorem cw_bool {b : Bool} : cellsW h (.p (.bool b)) K = K [.bool b] [] [] := by simp [cellsW, pub, PV.cell, PV.cellOk]
theorem cw_str {s : List UInt8} : cellsW h (.p (.str s)) K = K [.str s] [] [] := by simp [cellsW, pub, PV.cell, PV.cellOk]
theorem cw_lent {m : Bool} {s : List PV} : cellsW h (.p (.sl (.lent m) s)) K = K [.sl (.lent m) s] [] [] := by cases m <;> simp [cellsW, pub, PV.cell, PV.cellOk, Fl.lent]
theorem cw_own {s : List PV} : cellsW h (.p (.sl .own s)) K = K [.sl (.lent false) []] [] [] := by simp [cellsW, pub, PV.cell, PV.cellOk, Fl.lent]
def CW1 (K : List PV → List (Nat × Blk) → List Nat → Prop) (x : PV) (ws : List (Nat × Blk)) (rd : List Nat) : Prop := K [x] ws rd
theorem cw_ref {id off len : Nat} : cellsW h (.ref id off len) K = puB (h id) id off len (CW1 K) := by
 simp only [cellsW, pub, puB, CW1]; cases h id <;> rfl
theorem cw1_eq {x : PV} {ws : List (Nat × Blk)} {rd : List Nat} : CW1 K x ws rd = K [x] ws rd := _root_.id rfl
/-! ### a struct stored -/
def ST (h : Nat → Blk) (n id off : Nat) (m : Bool) (c : List PV) (C : R → Prop) (xs : List PV) (ws : List (Nat × Blk)) (rd : List Nat) : Prop :=
 xs.length = n ∧ off + n ≤ c.length ∧ id ∉ rd ∧ C ⟨.p .any, ws ++ [(id, .live m (c.take off ++ xs ++ c.drop (off + n)))], id :: rd⟩
def STD (m : Bool) (n id off : Nat) (cs : List DC) (C : R → Prop) (xs : List DC) (rs : List (Option (List PV))) (ws : List (Nat × Blk)) (rd : List Nat) : Prop :=
 xs.length = n ∧ off + n ≤ cs.length ∧ C ⟨.p .any, ws ++ [(id, .deep m (cs.take off ++ xs ++ cs.drop (off + n)) rs)], id :: rd⟩
def stA (b : Blk) (h : Nat → Blk) (n id off : Nat) (v : AV) (C : R → Prop) : Prop :=
 match b with
 | .live m c => cellsW h v (ST h n id off m c C)
 | .deep m cs rs => mvsW h m id (agAVs v) rs (STD m n id off cs C)
 | _ => False
theorem st_agg {n id off : Nat} {v : AV} : stG (some (n, true)) h (.ptr id off) v C = stA (h id) h n id off v C := by
 simp only [stG, stA]; rfl
theorem sta_live {n id off : Nat} {m : Bool} {c : List PV} {v : AV} : stA (.live m c) h n id off v C = cellsW h v (ST h n id off m c C) := _root_.id rfl
theorem st_eq {n id off : Nat} {m : Bool} {c xs : List PV} {ws : List (Nat × Blk)} {rd : List Nat} : ST h n id off m c C xs ws rd = (xs.length = n ∧ off + n ≤ c.length ∧ id ∉ rd ∧ C ⟨.p .any, ws ++ [(id, .live m (c.take off ++ xs ++ c.drop (off + n)))], id :: rd⟩) := _root_.id rfl
theorem pu_pc {xs : List PV} {vs : List AV} {F : List PV → List Nat → Prop} : puG h (.p (.pc xs) :: vs) F = puG h vs (UA F (.pc xs) []) := _root_.id rfl
end
attribute [go_sem] ld_aptr ld_alive ld_afroz bx_eq bx_go cw_agg cw_aggA cw_int cw_bool cw_str cw_lent cw_own cw_ref cw1_eq st_agg sta_live st_eq List.not_mem_nil List.mem_cons or_false List.all_cons List.all_nil List.take_succ_cons List.drop_succ_cons List.take_zero
end Go.Gl
set_option linter.unusedSimpArgs false
set_option linter.unusedVariables false
namespace Go.Gl
open Go
variable [Amb]
section
variable {P : Program} {sg : FuncId → List Bool} {h : Nat → Blk} {k : Nat} {ρ : Operand → AV} {C : R → Prop} {S : St} {x y : Operand} {t t' : TypeId} {kd kd' : IntKind} {m n : Int} {V : PV → Prop}
theorem w_opx {op : Op} (hs : wayE sg = true) (hx : isX op = true) : opW P sg ρ h k op C = opE P ρ h op C := by simp [opW, hs, hx]
theorem w_opy {op : Op} (hs : wayE sg = true) (hn : wayN sg = false) (h3 : wayS sg = false) (h4 : wayZ sg = false) (h5 : wayM sg = false) (hx : isX op = false) : opW P sg ρ h k op C = opB P sg ρ h k op C := by simp [opW, hx, hn, h3, h4, h5, isN_ff]
theorem x_bin {b : BinOp} : opE P ρ h (.binOp b t x y t') C = binX b (ρ x) (ρ y) (KV C) := _root_.id rfl
theorem xb_add : binX .add (.p (.int kd m)) (.p (.int kd' n)) V = (kd = kd' ∧ V (.int kd (kd.wrap (m + n)))) := _root_.id rfl
theorem xb_sub : binX .sub (.p (.int kd m)) (.p (.int kd' n)) V = (kd = kd' ∧ V (.int kd (kd.wrap (m - n)))) := _root_.id rfl
theorem xb_mul : binX .mul (.p (.int kd m)) (.p (.int kd' n)) V = (kd = kd' ∧ V (.int kd (kd.wrap (m * n)))) := _root_.id rfl
def SLx (c id off : Nat) (C : R → Prop) (h l : Int) : Prop := 0 ≤ l ∧ l ≤ h ∧ off + h.toNat ≤ c ∧ C ⟨.ref id (off + l.toNat) (h.toNat - l.toNat), [], [id]⟩
def SLy (len id : Nat) (C : R → Prop) (m h l : Int) : Prop := 0 ≤ l ∧ l ≤ h ∧ h ≤ m ∧ m ≤ len ∧ C ⟨.p .any, [], [id]⟩
def sxB (b : Blk) (s : Bool) (id off len : Nat) (lo hi mx : Option AV) (C : R → Prop) : Prop :=
 match b with
 | .live _ c => s = true ∧ off + len ≤ c.length ∧ (match mx with
  | none => bdV hi len (BL lo (SLx c.length id off C))
  | some _ => hi ≠ none ∧ bdV mx 0 (BL3 hi lo (SLy len id C)))
 | _ => False
theorem x_slice {lo hi mx : Option Operand} : opE P ρ h (.slice t x lo hi mx) C = sliceX P t (ρ x) lo hi mx h ρ C := _root_.id rfl
theorem sx_ref {id off len : Nat} {lo hi mx : Option Operand} : sliceX P t (.ref id off len) lo hi mx h ρ C = sxB (h id) (slT P t).isSome id off len (lo.map ρ) (hi.map ρ) (mx.map ρ) C := by
 simp only [sliceX, sxB, bnd_eq]
 cases h id with
 | live m c =>
  cases mx with
  | none => rfl
  | some o =>
   simp only [Option.map_some]
   have : (hi ≠ none) = (Option.map ρ hi ≠ none) := by cases hi <;> simp
   rw [this]; rfl
 | froz m c => rfl
 | deep m cs rs => rfl
 | _ => rfl
theorem sx_live {mm : Bool} {c : List PV} {s : Bool} {id off len : Nat} {lo hi : Option AV} : sxB (.live mm c) s id off len lo hi none C = (s = true ∧ off + len ≤ c.length ∧ bdV hi len (BL lo (SLx c.length id off C))) := _root_.id rfl
theorem sx_live3 {mm : Bool} {c : List PV} {s : Bool} {id off len : Nat} {lo : Option AV} {hi mx : AV} : sxB (.live mm c) s id off len lo (some hi) (some mx) C = (s = true ∧ off + len ≤ c.length ∧ bdV (some mx) 0 (BL3 (some hi) lo (SLy len id C))) := by
 simp [sxB]
theorem slx_eq {c id off : Nat} {i j : Int} : SLx c id off C i j = (0 ≤ j ∧ j ≤ i ∧ off + i.toNat ≤ c ∧ C ⟨.ref id (off + j.toNat) (i.toNat - j.toNat), [], [id]⟩) := _root_.id rfl
theorem sly_eq {len id : Nat} {l i j : Int} : SLy len id C l i j = (0 ≤ j ∧ j ≤ i ∧ i ≤ l ∧ l ≤ len ∧ C ⟨.p .any, [], [id]⟩) := _root_.id rfl
def clB (s : Option (Nat × PV)) (b : Blk) (id off len : Nat) (C : R → Prop) : Prop :=
 match s, b with
 | some (_, z), .live m c => off + len ≤ c.length ∧ z.cellOk = true ∧ C ⟨.p .any, [(id, .live m (c.take off ++ List.replicate len z ++ c.drop (off + len)))], [id]⟩
 | some (_, z), .deep m cs rs => z = .sl .fr [] ∧ off + len ≤ cs.length ∧ C ⟨.p .any, [(id, .deep m (cs.take off ++ List.replicate len (.v (.sl .own [])) ++ cs.drop (off + len)) rs)], [id]⟩
 | _, _ => False
theorem x_clear : opE P ρ h (.call { callee := .builtin .clear, args := ⟨[x]⟩, argTypes := ⟨[t]⟩ }) C = clearW P t h (ρ x) C := _root_.id rfl
theorem w_cap : opB P sg ρ h k (.call { callee := .builtin .cap, args := ⟨[x]⟩, argTypes := ⟨[t]⟩ }) C = capW P t (ρ x) (KW C) := _root_.id rfl
theorem cap_nil {A : AV → Prop} : capW P t (.p (.sl .own [])) A = ((slT P t).isSome = true ∧ A (.p (.int .i64 0))) := _root_.id rfl
theorem w_clear : opB P sg ρ h k (.call { callee := .builtin .clear, args := ⟨[x]⟩, argTypes := ⟨[t]⟩ }) C = clearW P t h (ρ x) C := _root_.id rfl
theorem cl_ref {id off len : Nat} : clearW P t h (.ref id off len) C = clB (slT P t) (h id) id off len C := by
 simp only [clearW, clB]
 cases slT P t with
 | none => rfl
 | some p => cases h id <;> rfl
theorem cl_live {q : Nat} {z : PV} {mm : Bool} {c : List PV} {id off len : Nat} : clB (some (q, z)) (.live mm c) id off len C = (off + len ≤ c.length ∧ z.cellOk = true ∧ C ⟨.p .any, [(id, .live mm (c.take off ++ List.replicate len z ++ c.drop (off + len)))], [id]⟩) := _root_.id rfl
theorem ix_slice {lo hi mx : Option Operand} : isX (.slice t x lo hi mx) = true := _root_.id rfl
theorem ix_add : isX (.binOp .add t x y t') = true := _root_.id rfl
theorem ix_sub : isX (.binOp .sub t x y t') = true := _root_.id rfl
theorem ix_mul : isX (.binOp .mul t x y t') = true := _root_.id rfl
theorem xb_and : binX .and (.p (.int kd m)) (.p (.int kd' n)) V = (kd = kd' ∧ V (.int kd (andI kd m n))) := _root_.id rfl
theorem xb_xor : binX .xor (.p (.int kd m)) (.p (.int kd' n)) V = (kd = kd' ∧ V (.int kd (xorI kd m n))) := _root_.id rfl
theorem ix_and : isX (.binOp .and t x y t') = true := _root_.id rfl
theorem ix_xor : isX (.binOp .xor t x y t') = true := _root_.id rfl
theorem ix_shr : isX (.binOp .shr t x y t') = false := _root_.id rfl
theorem ix_box : isX (.box t x) = false := _root_.id rfl
theorem ix_alloc : isX (.alloc t) = false := _root_.id rfl
theorem ix_fa {i : Nat} : isX (.fieldAddr t x i) = false := _root_.id rfl
theorem ix_fd {i : Nat} : isX (.field t x i) = false := _root_.id rfl
theorem ix_build {ps : Array (Nat × Operand)} : isX (.build t ps) = false := _root_.id rfl
theorem ix_nc : isX (.nilCheck x) = false := _root_.id rfl
theorem ix_mf {g : Fn} {a b : Array Operand} : isX (.makeFunc g a b) = false := _root_.id rfl
theorem ix_clear : isX (.call { callee := .builtin .clear, args := ⟨[x]⟩, argTypes := ⟨[t]⟩ }) = true := _root_.id rfl
theorem ix_eql : isX (.binOp .eql t x y t') = false := _root_.id rfl
theorem ix_neq : isX (.binOp .neq t x y t') = false := _root_.id rfl
theorem ix_lss : isX (.binOp .lss t x y t') = false := _root_.id rfl
theorem ix_leq : isX (.binOp .leq t x y t') = false := _root_.id rfl
theorem ix_gtr : isX (.binOp .gtr t x y t') = false := _root_.id rfl
theorem ix_geq : isX (.binOp .geq t x y t') = false := _root_.id rfl
theorem ix_quo : isX (.binOp .quo t x y t') = false := _root_.id rfl
theorem ix_rem : isX (.binOp .rem t x y t') = false := _root_.id rfl
theorem ix_un {b : UnOp} : isX (.unOp b t x) = false := _root_.id rfl
theorem ix_move : isX (.move x) = isZ x := _root_.id rfl
theorem x_mv : opE P ρ h (.move x) C = nlW (ρ x) C := _root_.id rfl
theorem x_as : opE P ρ h (.assign x) C = nlW (ρ x) C := _root_.id rfl
theorem nl_own {xs : List PV} : nlW (.p (.sl .own xs)) C = C ⟨.p .nl, [], []⟩ := _root_.id rfl
theorem ix_assign : isX (.assign x) = isZ x := _root_.id rfl
theorem ix_pick {z : Operand} : isX (.pick x y z) = false := _root_.id rfl
theorem ix_conv : isX (.convert t t' x) = false := _root_.id rfl
theorem ix_make : isX (.makeSlice t x y) = false := _root_.id rfl
theorem ix_bs {n : Nat} {ps : Array (Nat × Operand)} : isX (.buildSlice t n ps) = false := _root_.id rfl
theorem ix_addr : isX (.indexAddr t x y) = false := _root_.id rfl
theorem ix_index : isX (.index t x y) = false := _root_.id rfl
theorem ix_load : isX (.load t x) = false := _root_.id rfl
theorem ix_store : isX (.store t x y) = false := _root_.id rfl
theorem ix_extract {i : Nat} : isX (.extract x i) = false := _root_.id rfl
theorem ix_len : isX (.call { callee := .builtin .len, args := ⟨[x]⟩, argTypes := ⟨[t]⟩ }) = false := _root_.id rfl
theorem ix_append : isX (.call { callee := .builtin .append, args := ⟨[x, y]⟩, argTypes := ⟨[t, t']⟩ }) = false := _root_.id rfl
theorem ix_call {f : Operand} {args : List Operand} {ts : Array TypeId} : isX (.call { callee := .value f, args := ⟨args⟩, argTypes := ts }) = false := _root_.id rfl
theorem nq1 {a b : Nat} : (a = a + (b + 1)) = False := eq_false (by omega)
theorem nq2 {a b : Nat} : (a + (b + 1) = a) = False := eq_false (by omega)
/-! ### memory that is lent and handed back -/
/-- A slice of the call's own, in memory that may be lent. -/
def OwnM {α : Type} (v : AV) (h : Nat → Blk) (n : Nat) (f : α → PV) (len : Nat) (l : List α) : Prop :=
 match v with
 | .ref id 0 len' => len' = len ∧ (∃ m, h id = .live m (l.map f)) ∧ id < n
 | _ => False
def hbM {α : Type} (b : Blk) (f : α → PV) (l : List α) : Prop := ∃ m, b = .live m (l.map f)
theorem OwnM.out {α : Type} {v : AV} {h : Nat → Blk} {n : Nat} {f : α → PV} {len : Nat} {l : List α} (ho : OwnM v h n f len l) : ∃ id m, v = .ref id 0 len ∧ h id = .live m (l.map f) ∧ id < n := by
 unfold OwnM at ho
 split at ho
 ·rename_i id len'; obtain ⟨rfl, ⟨m, h1⟩, h2⟩ := ho; exact ⟨id, m, rfl, h1, h2⟩
 ·exact ho.elim
theorem ownm_ref {α : Type} {h : Nat → Blk} {n id len' : Nat} {f : α → PV} {len : Nat} {l : List α} : OwnM (.ref id 0 len') h n f len l = (len' = len ∧ hbM (h id) f l ∧ id < n) := _root_.id rfl
theorem hbM_eq {α : Type} {f : α → PV} {mm : Bool} {c : List PV} {l : List α} : hbM (.live mm c) f l = (c = l.map f) := by simp [hbM]
def fiT (b : Blk) (off len : Nat) (ys : List PV) : Prop :=
 match b with
 | .live _ c => off + len ≤ c.length ∧ (c.drop off).take len = ys
 | _ => False
theorem ft_own {id off len : Nat} {ys : List PV} : fins true h k [.ref id off len] [.sl .own ys] F0 = fiT (h id) off len ys := by
 simp only [fins, fin, fin1, fiT]
 cases h id with
 | live m c => simp [F0]
 | froz m c => rfl
 | deep m cs rs => rfl
 | _ => rfl
theorem fiT_live {mm : Bool} {c : List PV} {off len : Nat} {ys : List PV} : fiT (.live mm c) off len ys = (off + len ≤ c.length ∧ (c.drop off).take len = ys) := _root_.id rfl
theorem v_callT {α : Type} {g : α → PV} {l : List α} {f : FuncId} {c : List PV} {as : List Arg} {os : List (Option (List PV))} {rd : List Nat} {ms : List (Option (Nat × Option Nat))} {id : Nat}
  (hf : CallT P true f (.mu false c :: as) (none :: os) [.sl .own (l.map g)]) (hn : (ms.all Option.isNone) = true) (hid : id ∉ rd)
  (hc : C ⟨.ref k 0 l.length, [(id, .dead), (k, .live (flg (h id)) (l.map g))], id :: rd⟩) : Pk P h k f C (.mu false c :: as) rd (some (id, none) :: ms) := by
 refine v_callM hf hn hid ?_
 simp only [List.getElem?_cons_zero]
 have : impAll k [.sl .own (l.map g)] = .ref k 0 l.length := by simp [impAll, imp, imp1]
 rw [this, Bool.true_and]
 exact hc
theorem v_finT {c : List PV} {as : List Arg} {ts : List Nat} {xs : List PV} {ex : Ex} {p : Bool} {os : List (Option (List PV))} (hx : ex = .ret ∨ ex = .normal)
  (ho : (os.all Option.isNone) = true) (hf : fins true S.h (as.length + 1) (ts.map S.e) xs F0) : FinM true (.mu p c :: as) os ts xs ex S := v_finX hx ho hf
/-! ### a result that lies in memory -/
def FC (S : St) (as : List Arg) (res : List PV) (r : R) : Prop := fins false S.h as.length [r.v] res F0
theorem v_finC {as : List Arg} {t ty : Nat} {xs : List PV} {ex : Ex} (hx : ex = .ret ∨ ex = .normal) (hf : loadW P ty S.h (S.e t) (FC S as xs)) : FinR P as [.cell t ty] xs ex S := by
 have key : resW P S [.cell t ty] fun vs => Fin false S as [] vs xs := by
  simp only [resW]
  have e : FC S as xs = fun r => Fin false S as [] [r.v] xs := by
   funext r
   unfold FC Fin
   refine congrArg (fins false S.h as.length [r.v] xs) ?_
   funext L
   simp only [F0]
   apply propext
   constructor
   ·intro h; refine ⟨h, fun j _ => ?_⟩
    split
    ·rename_i h; simp at h
    ·trivial
   ·intro h; exact h.1
  rw [← e]; exact hf
 rcases hx with rfl | rfl <;> exact key
theorem fc_eq {as : List Arg} {res : List PV} {r : R} : FC S as res r = fins false S.h as.length [r.v] res F0 := _root_.id rfl
end
attribute [go_sem ↓] w_opx w_opy x_bin x_slice x_clear w_clear w_cap x_mv x_as
attribute [go_sem] nl_own
attribute [go_sem] xb_add xb_sub xb_mul sx_ref sx_live sx_live3 slx_eq sly_eq cap_nil cl_ref cl_live ix_slice ix_add ix_sub ix_mul ix_clear ix_eql ix_neq ix_lss ix_leq ix_gtr ix_geq ix_quo ix_rem ix_un ix_move ix_assign ix_pick ix_conv ix_make ix_bs ix_addr ix_index ix_load ix_store ix_extract ix_len ix_append ix_call
attribute [go_sem] fc_eq nq1 nq2 ownm_ref hbM_eq ft_own fiT_live
end Go.Gl
set_option linter.unusedSimpArgs false
set_option linter.unusedVariables false
namespace Go.Gl
open Go Go.RowKit Go.ChangeShapes Go.Joins Go.WideShapes Go.Deep
section
variable {H : Type} {enc : TypeId × Value → H} {P : Program} {w : World} {base : Nat} {held : Bool} {G : Nat → Prop}
def sessR (a b : List Int) (c : List (List Int)) : PV := .agg [.sl (.lent true) (a.map (.int .i64)), .sl (.lent true) (b.map (.int .i64)), .sl (.lent true) (c.map (elI true))]
theorem open_sess {t s ss i : TypeId} {r : Reach} {b0 : Nat} {f0 f1 f2 : Field} {v : Value} {d : DataW H} {p : List MemPlace} (hs : P.underlying t = some (.struct #[f0, f1, f2])) (hone : oneCellFields P #[f0, f1, f2] = true) (hC : P.cellsOf t = 3)
  (e0 : f0.type = s) (e1 : f1.type = s) (e2 : f2.type = ss) (hts : P.underlying s = some (.slice i)) (hti : P.underlying i = some (.int .i64)) (hci : P.cellsOf i = 1) (htss : P.underlying ss = some (.slice s)) (hcs : P.cellsOf s = 1)
  (hv : Value.okWide P w r b0 t v) (h : DataW.Trod enc P w base (fun _ => true) held t v d p) : ∃ (a b : List Int) (c : List (List Int)), RepP w (fun _ => False) G (sessR a b c) v := by
 obtain ⟨v0, v1, v2, y0, y1, y2, n, rfl, _, _, h0, h1, h2⟩ := open_agg3 hs hone hC hv h
 rw [e0] at h0
 rw [e1] at h1
 rw [e2] at h2
 obtain ⟨a, _, ha⟩ := ints_row (G := G) hts hti hci h0
 obtain ⟨b, _, hb⟩ := ints_row (G := G) hts hti hci h1
 obtain ⟨v, c, hcv, hc⟩ := open_intss (G := G) htss hcs hts hti hci h2
 simp only [List.cons.injEq, and_true] at hcv
 subst hcv
 refine ⟨a, b, c, ?_⟩
 show RepP w (fun _ => False) G (.agg [_, _, _]) _
 simp only [RepP, RepL]
 exact ⟨[v0, v1, v2], rfl, v0, [v1, v2], rfl, ha, v1, [v2], rfl, hb, v2, [], rfl, hc, rfl⟩
theorem row_len {l : List Int} {v : Value} (h : RepP w (fun _ => False) G (.sl (.lent true) (l.map (.int .i64))) v) : l.length ≤ 9223372036854775807 := by
 simp only [RepP, List.length_map] at h
 obtain ⟨a, cap, _, h1, h2, _⟩ := h
 have hm : maxLen = 9223372036854775807 := rfl
 omega
theorem sess_lens {a b : List Int} {c : List (List Int)} {v : Value} (h : RepP w (fun _ => False) G (sessR a b c) v) :
  a.length ≤ 9223372036854775807 ∧ b.length ≤ 9223372036854775807 ∧ c.length ≤ 9223372036854775807 ∧ ∀ l ∈ c, l.length ≤ 9223372036854775807 := by
 have h : RepP w (fun _ => False) G (.agg [.sl (.lent true) (a.map (.int .i64)), .sl (.lent true) (b.map (.int .i64)), .sl (.lent true) (c.map (elI true))]) v := h
 rw [RepP] at h
 obtain ⟨cs, _, h⟩ := h
 simp only [RepL] at h
 obtain ⟨v0, _, _, h0, v1, _, _, h1, v2, _, _, h2, _⟩ := h
 exact ⟨row_len h0, row_len h1, rep_lens h2⟩
end
end Go.Gl
set_option linter.unusedSimpArgs false
set_option linter.unusedVariables false
namespace Go.Gl
open Go
variable [Amb]
section
variable {P : Program} {sg : FuncId → List Bool} {h : Nat → Blk} {k : Nat} {ρ : Operand → AV} {C : R → Prop} {t t' : TypeId} {x y : Operand} {A : AV → Prop}
variable {α : Type} {f : α → PV} {m : Bool} {L L' : List (List α)}
/-- A slice of slices whose rows are its own, told by lists. -/
def dk (f : α → PV) (m : Bool) (L : List (List α)) : Blk := .deep m (canon L.length) (L.map fun l => some (l.map f))
theorem canon_get {n i : Nat} : (canon n)[i]? = if i < n then some (.row i) else none := by
 simp only [canon, List.getElem?_map]
 by_cases hi : i < n
 ·rw [if_pos hi, List.getElem?_range hi]; rfl
 ·rw [if_neg hi, List.getElem?_eq_none (by simp; omega)]; rfl
theorem canon_len {n : Nat} : (canon n).length = n := by simp [canon]
theorem canon_take {n j : Nat} (hj : j ≤ n) : (canon n).take j = canon j := by
 apply List.ext_getElem?; intro i
 rw [List.getElem?_take, canon_get, canon_get]
 by_cases hi : i < j
 ·rw [if_pos hi, if_pos hi, if_pos (by omega)]
 ·rw [if_neg hi, if_neg hi]
theorem canon_app {n j : Nat} : canon n ++ (canon j).map (DC.up n) = canon (n + j) := by
 apply List.ext_getElem?; intro i
 by_cases hi : i < n
 ·rw [List.getElem?_append_left (by simpa [canon_len] using hi), canon_get, canon_get, if_pos hi, if_pos (by omega)]
 ·rw [List.getElem?_append_right (by simp [canon_len]; omega), List.getElem?_map, canon_get, canon_get, canon_len]
  by_cases hj : i < n + j
  ·rw [if_pos (by omega), if_pos hj]; simp only [Option.map_some, DC.up]; congr 2; omega
  ·rw [if_neg (by omega), if_neg hj]; rfl
theorem canon_noSelf {n : Nat} : (canon n).all DC.noSelf = true := by
 rw [List.all_eq_true]; intro x hx; simp only [canon, List.mem_map] at hx; obtain ⟨_, _, rfl⟩ := hx; rfl
theorem row_get {i : Nat} (hi : i < L.length) : (L.map fun l => some (l.map f))[i]? = some (some ((L.getD i []).map f)) := by
 rw [List.getElem?_map, List.getD_eq_getElem?_getD, List.getElem?_eq_getElem hi]; rfl
theorem dk_1 {l : List α} : Blk.deep m [.row 0] [some (List.map f l)] = dk f m [l] := _root_.id rfl
theorem dk_2 {l l2 : List α} : Blk.deep m [.row 0, .row 1] [some (List.map f l), some (List.map f l2)] = dk f m [l, l2] := _root_.id rfl
theorem dk_mk : mkB m [.dl (L.map (List.map f))] = dk f m L := by
 simp only [mkB, dk, List.length_map, List.map_map]; rfl
theorem lenC_dl {rows : List (List PV)} : lenC [.dl rows] = rows.length := _root_.id rfl
/-! ### loads -/
theorem ld_dk {id off : Nat} : ldB (dk f m L) id off C = (off < L.length ∧ C ⟨.inn id off 0 (L.getD off []).length, [], [id]⟩) := by
 simp only [ldB, dk, gt, Int.toNat_natCast, canon_get, Int.natCast_nonneg, true_and, KD]
 by_cases ho : off < L.length
 ·rw [if_pos ho]
  simp only [DC.av, row_get ho, List.length_map, ho, true_and]
 ·rw [if_neg ho]; simp [ho]
theorem li_dk {id r off : Nat} : ldI (dk f m L) id r off C = (r < L.length ∧ gt ((L.getD r []).map f) off (KX id C)) := by
 simp only [ldI, dk]
 by_cases hr : r < L.length
 ·rw [row_get hr]; simp only [hr, true_and]
 ·rw [List.getElem?_eq_none (by simp; omega)]; simp [hr]
theorem cti_dk {id r off len : Nat} {F : List PV → List Nat → Prop} : ctI (dk f m L) id r off len F = (r < L.length ∧ off + len ≤ (L.getD r []).length ∧ F ((((L.getD r []).map f).drop off).take len) [id]) := by
 simp only [ctI, dk]
 by_cases hr : r < L.length
 ·rw [row_get hr]; simp only [hr, true_and, List.length_map]
 ·rw [List.getElem?_eq_none (by simp; omega)]; simp [hr]
/-! ### read by a callee -/
theorem rd_dk {β : Type} {g : List α → PV} (hg : ∀ l, g l = .sl .ro (l.map f)) : (canon L.length).map (DC.rd (L.map fun l => some (l.map f))) = L.map g := by
 apply List.ext_getElem?; intro i
 rw [List.getElem?_map, canon_get]
 by_cases hi : i < L.length
 ·rw [if_pos hi]
  simp only [Option.map_some, DC.rd, row_get hi]
  rw [List.getElem?_map, List.getElem?_eq_getElem hi, List.getD_eq_getElem?_getD, List.getElem?_eq_getElem hi]
  simp [hg]
 ·rw [if_neg hi, List.getElem?_eq_none (by simp; omega)]; rfl
theorem q_dkI {L : List (List Int)} {id off len : Nat} {F : PV → List Nat → Prop} : refG (dk (PV.int .i64) m L) id off len F = (off + len ≤ L.length ∧ F (.sl (.lent true) ((L.drop off).take len |>.map (elI true))) [id]) := by
 simp only [refG, dk, canon_len]
 rw [rd_dk (β := Int) (g := elI true) (fun _ => rfl), ← List.map_drop, ← List.map_take]; rfl
theorem q_dkS {L : List (List (List UInt8))} {id off len : Nat} {F : PV → List Nat → Prop} : refG (dk PV.str m L) id off len F = (off + len ≤ L.length ∧ F (.sl (.lent true) ((L.drop off).take len |>.map (elS true))) [id]) := by
 simp only [refG, dk, canon_len]
 rw [rd_dk (β := Int) (g := elS true) (fun _ => rfl), ← List.map_drop, ← List.map_take]; rfl
/-- A row, read. -/
def inG (b : Blk) (id r off len : Nat) (F : PV → List Nat → Prop) : Prop :=
 match b with
 | .deep _ _ rs => (match rs[r]? with
  | some (some c) => off + len ≤ c.length ∧ F (.sl .ro ((c.drop off).take len)) [id]
  | _ => False)
 | _ => False
theorem q_inn {id r off len : Nat} {vs : List AV} {F : List PV → List Nat → Prop} : puG h (.inn id r off len :: vs) F = inG (h id) id r off len (UN h vs F) := by
 simp only [puG, pur, pur1, inG]; cases h id <;> rfl
theorem ps_inn {id r off len : Nat} {vs : List AV} {K : List PV → List Nat → Prop} : purs1 h (.inn id r off len :: vs) K = inG (h id) id r off len (UP h vs K) := by
 simp only [purs1, pur1, inG]; cases h id <;> rfl
theorem in_dk {id r off len : Nat} {F : PV → List Nat → Prop} : inG (dk f m L) id r off len F = (r < L.length ∧ off + len ≤ (L.getD r []).length ∧ F (.sl (.lent true) ((((L.getD r []).map f).drop off).take len)) [id]) := by
 simp only [inG, dk]
 by_cases hr : r < L.length
 ·rw [row_get hr]; simp only [hr, true_and, List.length_map]; rfl
 ·rw [List.getElem?_eq_none (by simp; omega)]; simp [hr]
/-! ### lent to a callee -/
theorem mu_dk {id len : Nat} {F : List PV → Prop} {FS : Nat → List PV → Prop} : muB (dk f m L) id len F FS = (len = L.length ∧ F [.dl (L.map (List.map f))]) := by
 simp only [muB, dk]
 apply propext; constructor
 ·rintro (⟨rows, h1, h2, h3, h4⟩ | ⟨rows, h0, h1, h2, h3, h4⟩)
  rotate_left
  ·have e : (L.map fun l => some (l.map f))[0]? = some none := by rw [h2, List.getElem?_append_left (by simpa using h0), List.getElem?_replicate, if_pos h0]
   rw [List.getElem?_map] at e
   cases hL : L[0]? <;> rw [hL] at e <;> cases e
  have : rows = L.map (List.map f) := by
   have := congrArg (List.map (fun o : Option (List PV) => o.getD [])) h2
   simpa [Function.comp_def] using this.symm
  subst this
  exact ⟨by simpa using h3, h4⟩
 ·rintro ⟨h1, h2⟩
  exact .inl ⟨_, by simp, by simp, by simpa using h1, h2⟩
/-- A row, lent. -/
def muI (b : Blk) (r len : Nat) (F : List PV → Prop) : Prop :=
 match b with
 | .deep _ _ rs => (match rs[r]? with
  | some (some c) => len = c.length ∧ F c
  | _ => False)
 | _ => False
def MFI (id r : Nat) (c : List PV) (K : List Arg → List Nat → List (Option (Nat × Option Nat)) → Prop) (as : List Arg) (rd : List Nat) (ms : List (Option (Nat × Option Nat))) : Prop := K (.mu false c :: as) rd (some (id, some r) :: ms)
theorem mu_inn {sg : List Bool} {id r len : Nat} {vs : List AV} {K : List Arg → List Nat → List (Option (Nat × Option Nat)) → Prop} : pass h (true :: sg) (.inn id r 0 len :: vs) K = muI (h id) r len (MUI h sg vs id K r) := by
 simp only [pass, muI, MUI]; cases h id <;> rfl
theorem mui_nx {sg : List Bool} {id r : Nat} {c : List PV} {vs : List AV} {K : List Arg → List Nat → List (Option (Nat × Option Nat)) → Prop} : MUI h sg vs id K r c = pass h sg vs (MFI id r c K) := _root_.id rfl
theorem mui_all {vs : List AV} {id r : Nat} {c : List PV} {K : List Arg → List Nat → List (Option (Nat × Option Nat)) → Prop} : pass h [] vs (MFI id r c K) = puG h vs (PQ (MFI id r c K)) := pass_pu
theorem mui_mf {id r : Nat} {c : List PV} {K : List Arg → List Nat → List (Option (Nat × Option Nat)) → Prop} {as : List Arg} {rd : List Nat} {ms : List (Option (Nat × Option Nat))} : MFI id r c K as rd ms = K (.mu false c :: as) rd (some (id, some r) :: ms) := _root_.id rfl
theorem mui_dk {r len : Nat} {F : List PV → Prop} : muI (dk f m L) r len F = (r < L.length ∧ len = (L.getD r []).length ∧ F ((L.getD r []).map f)) := by
 simp only [muI, dk]
 by_cases hr : r < L.length
 ·rw [row_get hr]; simp only [hr, true_and, List.length_map]
 ·rw [List.getElem?_eq_none (by simp; omega)]; simp [hr]
theorem ob_dk : outB none (some (some [.dl (L'.map (List.map f))])) (dk f m L) = if L'.length = L.length then dk f m L' else .dead := by
 simp only [outB, dk, List.length_map, List.map_map, Function.comp_def]
theorem ob_dki {r : Nat} {l : List α} [NDl (l.map f)] (hr : r < L.length) (hl : l.length = (L.getD r []).length) : outB (some r) (some (some (l.map f))) (dk f m L) = dk f m (L.set r l) := by
 have hn := (inferInstance : NDl (l.map f))
 have e1 : ((L.map fun l => some (l.map f)).getD r none).map List.length = some (l.map f).length := by
  rw [List.getD_eq_getElem?_getD, row_get hr]; simp [hl]
 have e2 : (L.map fun l => some (l.map f)).set r (some (l.map f)) = (L.set r l).map fun l => some (l.map f) := List.map_set.symm
 rw [dk, outB_row (by simpa using hr) hn.h, if_pos e1, e2, dk, List.length_set]
/-! ### new slices -/
def BSD (n k : Nat) (C : R → Prop) (xs : List DC) (rs : List (Option (List PV))) (ws : List (Nat × Blk)) (rd : List Nat) : Prop := xs.all DC.noSelf = true ∧ C ⟨.ref k 0 n, ws ++ [(k, .deep false xs rs)], rd⟩
theorem w_bsD {n : Nat} {parts : Array (Nat × Operand)} : opN P ρ h k (.buildSlice t n parts) C = ((slT P t).isSome = true ∧ partsOk n parts = true ∧ n ≤ 1000000 ∧ mvsW h false k (parts.toList.map fun p => ρ p.2) [] (BSD n k C)) := _root_.id rfl
theorem w_mkD {a b : Operand} : opN P ρ h k (.makeSlice t a b) C = makeD P t k (ρ a) (ρ b) C := _root_.id rfl
theorem mkD_eq {kd kd' : IntKind} {a b : Int} : makeD P t k (.p (.int kd a)) (.p (.int kd' b)) C = (0 ≤ a ∧ a ≤ b ∧ b ≤ 1099511627776 ∧ nestT P t = true ∧ C ⟨.ref k 0 a.toNat, [(k, .deep false (List.replicate a.toNat (.v (.sl .own []))) [])], []⟩) := _root_.id rfl
def nstG (s : Option (Nat × PV)) : Bool := match s with | some (_, .sl .fr []) => true | _ => false
theorem nst_eq : nestT P t = nstG (slT P t) := _root_.id rfl
theorem nst_t {n : Nat} : nstG (some (n, .sl (.lent false) [])) = true := _root_.id rfl
theorem nst_i {n : Nat} {kd : IntKind} {z : Int} : nstG (some (n, .int kd z)) = false := _root_.id rfl
theorem nst_b {n : Nat} {z : Bool} : nstG (some (n, .bool z)) = false := _root_.id rfl
theorem nst_s {n : Nat} {z : List UInt8} : nstG (some (n, .str z)) = false := _root_.id rfl
variable {zz : Bool}
theorem n_bs {n : Nat} {parts : Array (Nat × Operand)} {s : Bool} : isN P true s zz (.buildSlice t n parts) = nestT P t := by simp [isN]
theorem n_mk {a b : Operand} {s : Bool} : isN P true s zz (.makeSlice t a b) = nestT P t := by simp [isN]
theorem n_al {n : Bool} : isN P n true zz (.alloc t) = aggT P t := by simp [isN]
theorem n_bx {n : Bool} : isN P n true zz (.box t x) = aggT P t := by simp [isN]
variable {n s : Bool}
theorem n_ff1 {i : Nat} {parts : Array (Nat × Operand)} : isN P false s zz (.buildSlice t i parts) = false := by simp [isN]
theorem n_ff2 {a b : Operand} : isN P false s zz (.makeSlice t a b) = false := by simp [isN]
theorem n_ff3 : isN P n false zz (.alloc t) = false := by simp [isN]
theorem n_ff4 : isN P n false zz (.box t x) = false := by simp [isN]
theorem n_o1 {b : BinOp} : isN P n s zz (.binOp b t x y t') = false := _root_.id rfl
theorem n_o2 {b : UnOp} : isN P n s zz (.unOp b t x) = false := _root_.id rfl
theorem n_o3 : isN P n s zz (.move x) = (zz && isZ x) := _root_.id rfl
theorem z_tmp {i : Nat} : isZ (.tmp i) = false := _root_.id rfl
theorem z_fn {i : Nat} : isZ (.func i) = false := _root_.id rfl
theorem z_i {kd : IntKind} {i : Int} : isZ (.const (.int kd i)) = false := _root_.id rfl
theorem z_b {b : Bool} : isZ (.const (.bool b)) = false := _root_.id rfl
theorem z_s {b : ByteArray} : isZ (.const (.string b)) = false := _root_.id rfl
theorem z_n : isZ (.const (.slice none 0 0)) = true := _root_.id rfl
theorem z_nf : isZ (.const .nilFunc) = false := _root_.id rfl
theorem z_ag {a : Array Value} : isZ (.const (.agg a)) = false := _root_.id rfl
theorem w_mvD : opN P ρ h k (.move x) C = arrD k (ρ x) C := _root_.id rfl
theorem w_asD : opN P ρ h k (.assign x) C = arrD k (ρ x) C := _root_.id rfl
theorem ar_nil : arrD k (.p (.sl .own [])) C = C ⟨.ref k 0 0, [(k, .deep false [] [])], []⟩ := by simp [arrD]
theorem n_o4 : isN P n s zz (.assign x) = (zz && isZ x) := _root_.id rfl
theorem n_o5 {z : Operand} : isN P n s zz (.pick x y z) = false := _root_.id rfl
theorem n_o6 : isN P n s zz (.convert t t' x) = false := _root_.id rfl
theorem n_o7 : isN P n s zz (.indexAddr t x y) = false := _root_.id rfl
theorem n_o8 : isN P n s zz (.index t x y) = false := _root_.id rfl
theorem n_o9 : isN P n s zz (.load t x) = false := _root_.id rfl
theorem n_o10 : isN P n s zz (.store t x y) = false := _root_.id rfl
theorem n_o11 {i : Nat} : isN P n s zz (.extract x i) = false := _root_.id rfl
theorem n_o12 {c : Call} : isN P n s zz (.call c) = false := _root_.id rfl
theorem n_o13 {lo hi mx : Option Operand} : isN P n s zz (.slice t x lo hi mx) = false := _root_.id rfl
theorem n_o14 {i : Nat} : isN P n s zz (.field t x i) = false := _root_.id rfl
theorem n_o15 {i : Nat} : isN P n s zz (.fieldAddr t x i) = false := _root_.id rfl
theorem n_o16 {parts : Array (Nat × Operand)} : isN P n false zz (.build t parts) = false := by simp [isN]
theorem n_o17 : isN P n s zz (.nilCheck x) = false := _root_.id rfl
theorem n_o18 {f : Fn} {a b : Array Operand} : isN P n s zz (.makeFunc f a b) = false := _root_.id rfl
theorem mm_o1 {b : BinOp} : isM P (.binOp b t x y t') = false := _root_.id rfl
theorem mm_o2 {b : UnOp} : isM P (.unOp b t x) = false := _root_.id rfl
theorem mm_o3 : isM P (.move x) = false := _root_.id rfl
theorem mm_o4 : isM P (.assign x) = false := _root_.id rfl
theorem mm_o5 {z : Operand} : isM P (.pick x y z) = false := _root_.id rfl
theorem mm_o6 : isM P (.convert t t' x) = false := _root_.id rfl
theorem mm_o7 : isM P (.indexAddr t x y) = false := _root_.id rfl
theorem mm_o8 : isM P (.index t x y) = false := _root_.id rfl
theorem mm_o9 : isM P (.load t x) = false := _root_.id rfl
theorem mm_o10 : isM P (.store t x y) = false := _root_.id rfl
theorem mm_o11 {i : Nat} : isM P (.extract x i) = false := _root_.id rfl
theorem mm_o12 {c : Call} : isM P (.call c) = false := _root_.id rfl
theorem mm_o13 {lo hi mx : Option Operand} : isM P (.slice t x lo hi mx) = false := _root_.id rfl
theorem mm_o14 {i : Nat} : isM P (.field t x i) = false := _root_.id rfl
theorem mm_o15 {i : Nat} : isM P (.fieldAddr t x i) = false := _root_.id rfl
theorem mm_o16 {parts : Array (Nat × Operand)} : isM P (.build t parts) = false := _root_.id rfl
theorem mm_o17 : isM P (.nilCheck x) = false := _root_.id rfl
theorem mm_o18 {f : Fn} {a b : Array Operand} : isM P (.makeFunc f a b) = false := _root_.id rfl
theorem mm_bs {n : Nat} {parts : Array (Nat × Operand)} : isM P (.buildSlice t n parts) = nest2T P t := _root_.id rfl
theorem mm_mk {a b : Operand} : isM P (.makeSlice t a b) = nest2T P t := _root_.id rfl
theorem mm_al : isM P (.alloc t) = false := _root_.id rfl
theorem mm_bx : isM P (.box t x) = false := _root_.id rfl
/-- Values moved, one behind the other. -/
def MVK (F : List DC → List (Option (List PV)) → List (Nat × Blk) → List Nat → Prop) (x : DC) (ws : List (Nat × Blk)) (rd : List Nat) (xs : List DC) (rs : List (Option (List PV))) (ws' : List (Nat × Blk)) (rd' : List Nat) : Prop := F (x :: xs) rs (ws ++ ws') (rd ++ rd')
def MVN (mt : Bool) (h : Nat → Blk) (id : Nat) (vs : List AV) (F : List DC → List (Option (List PV)) → List (Nat × Blk) → List Nat → Prop) (x : DC) (rs : List (Option (List PV))) (ws : List (Nat × Blk)) (rd : List Nat) : Prop := mvsW (hwsH h ws) mt id vs rs (MVK F x ws rd)
/-- A block set. -/
def hu (h : Nat → Blk) (j : Nat) (b : Blk) : Nat → Blk := fun i => if i = j then b else h i
theorem hu_eq {j i : Nat} {b : Blk} : hu h j b i = if i = j then b else h i := _root_.id rfl
theorem mvs_nil {mt : Bool} {id : Nat} {rs : List (Option (List PV))} {F : List DC → List (Option (List PV)) → List (Nat × Blk) → List Nat → Prop} : mvsW h mt id [] rs F = F [] rs [] [] := _root_.id rfl
theorem mvs_cons {mt : Bool} {id : Nat} {v : AV} {vs : List AV} {rs : List (Option (List PV))} {F : List DC → List (Option (List PV)) → List (Nat × Blk) → List Nat → Prop} : mvsW h mt id (v :: vs) rs F = mvW h mt id v rs (MVN mt h id vs F) := _root_.id rfl
theorem mvn_eq {mt : Bool} {id : Nat} {vs : List AV} {F : List DC → List (Option (List PV)) → List (Nat × Blk) → List Nat → Prop} {x : DC} {rs : List (Option (List PV))} {rd : List Nat} : MVN mt h id vs F x rs [] rd = mvsW h mt id vs rs (MVK F x [] rd) := _root_.id rfl
theorem mvn_1 {mt : Bool} {id : Nat} {vs : List AV} {F : List DC → List (Option (List PV)) → List (Nat × Blk) → List Nat → Prop} {x : DC} {rs : List (Option (List PV))} {rd : List Nat} {j : Nat} {b : Blk} : MVN mt h id vs F x rs [(j, b)] rd = mvsW (hu h j b) mt id vs rs (MVK F x [(j, b)] rd) := _root_.id rfl
theorem mvk_1 {F : List DC → List (Option (List PV)) → List (Nat × Blk) → List Nat → Prop} {x : DC} {xs : List DC} {rs : List (Option (List PV))} {i : Nat} {b : Blk} {ws' : List (Nat × Blk)} {rd' : List Nat} : MVK F x [(i, b)] [i] xs rs ws' rd' = F (x :: xs) rs ((i, b) :: ws') (i :: rd') := _root_.id rfl
theorem mvk_0 {F : List DC → List (Option (List PV)) → List (Nat × Blk) → List Nat → Prop} {x : DC} {xs : List DC} {rs : List (Option (List PV))} {ws' : List (Nat × Blk)} {rd' : List Nat} : MVK F x [] [] xs rs ws' rd' = F (x :: xs) rs ws' rd' := _root_.id rfl
theorem mvk_n {F : List DC → List (Option (List PV)) → List (Nat × Blk) → List Nat → Prop} {x : DC} {xs : List DC} {rs : List (Option (List PV))} {i : Nat} {ws' : List (Nat × Blk)} {rd' : List Nat} : MVK F x [] [i] xs rs ws' rd' = F (x :: xs) rs ws' (i :: rd') := _root_.id rfl
/-- A row moved. -/
def mvR (o : Option (Option (List PV))) (j r len : Nat) (cs' : List DC) (rs' rs : List (Option (List PV))) (K : DC → List (Option (List PV)) → List (Nat × Blk) → List Nat → Prop) : Prop :=
 match o with
 | some (some c) => len = c.length ∧ K (.row rs.length) (rs ++ [some c]) [(j, .deep false cs' (rs'.set r none))] [j]
 | _ => False
def mvJ (b : Blk) (j r len : Nat) (rs : List (Option (List PV))) (K : DC → List (Option (List PV)) → List (Nat × Blk) → List Nat → Prop) : Prop :=
 match b with
 | .deep false cs' rs' => mvR rs'[r]? j r len cs' rs' rs K
 | _ => False
theorem mv_inn {mt : Bool} {id j r len : Nat} {rs : List (Option (List PV))} {K : DC → List (Option (List PV)) → List (Nat × Blk) → List Nat → Prop} (hn : (j = id) = False) : mvW h mt id (.inn j r 0 len) rs K = mvJ (h j) j r len rs K := by
 simp only [mvW, mvJ, hn, if_false, true_and]
 cases hb : h j with
 | deep m cs' rs' => cases m <;> rfl
 | _ => rfl
theorem mvJ_deep {j r len : Nat} {cs' : List DC} {rs' rs : List (Option (List PV))} {K : DC → List (Option (List PV)) → List (Nat × Blk) → List Nat → Prop} : mvJ (.deep false cs' rs') j r len rs K = mvR rs'[r]? j r len cs' rs' rs K := _root_.id rfl
theorem mvR_eq {c : List PV} {j r len : Nat} {cs' : List DC} {rs' rs : List (Option (List PV))} {K : DC → List (Option (List PV)) → List (Nat × Blk) → List Nat → Prop} : mvR (some (some c)) j r len cs' rs' rs K = (len = c.length ∧ K (.row rs.length) (rs ++ [some c]) [(j, .deep false cs' (rs'.set r none))] [j]) := _root_.id rfl
def mvB (mt : Bool) (b : Blk) (id j off len : Nat) (rs : List (Option (List PV))) (K : DC → List (Option (List PV)) → List (Nat × Blk) → List Nat → Prop) : Prop :=
 match b with
 | .live m c => (m = true → mt = true) ∧ j ≠ id ∧ off = 0 ∧ len = c.length ∧ K (.row rs.length) (rs ++ [some c]) [(j, .dead)] [j]
 | .froz m c => j ≠ id ∧ off + len ≤ c.length ∧ K (.v (.sl (.lent m) ((c.drop off).take len))) rs [] [j]
 | _ => False
theorem mv_ref {mt : Bool} {id j off len : Nat} {rs : List (Option (List PV))} {K : DC → List (Option (List PV)) → List (Nat × Blk) → List Nat → Prop} : mvW h mt id (.ref j off len) rs K = mvB mt (h j) id j off len rs K := by
 simp only [mvW, mvB]
 cases h j with
 | live m c => simp only [and_left_comm]
 | froz m c => rfl
 | deep m cs rs => simp
 | _ => simp
theorem mvB_live {mt : Bool} {c : List PV} {id j off len : Nat} {rs : List (Option (List PV))} {K : DC → List (Option (List PV)) → List (Nat × Blk) → List Nat → Prop} : mvB mt (.live false c) id j off len rs K = (j ≠ id ∧ off = 0 ∧ len = c.length ∧ K (.row rs.length) (rs ++ [some c]) [(j, .dead)] [j]) := by simp [mvB]
theorem mvB_liveT {c : List PV} {id j off len : Nat} {rs : List (Option (List PV))} {K : DC → List (Option (List PV)) → List (Nat × Blk) → List Nat → Prop} : mvB true (.live true c) id j off len rs K = (j ≠ id ∧ off = 0 ∧ len = c.length ∧ K (.row rs.length) (rs ++ [some c]) [(j, .dead)] [j]) := by simp [mvB]
theorem mvB_froz {mt : Bool} {c : List PV} {id j off len : Nat} {rs : List (Option (List PV))} {K : DC → List (Option (List PV)) → List (Nat × Blk) → List Nat → Prop} : mvB mt (.froz m c) id j off len rs K = (j ≠ id ∧ off + len ≤ c.length ∧ K (.v (.sl (.lent m) ((c.drop off).take len))) rs [] [j]) := _root_.id rfl
theorem mv_int {mt : Bool} {id : Nat} {kd : IntKind} {n : Int} {rs : List (Option (List PV))} {K : DC → List (Option (List PV)) → List (Nat × Blk) → List Nat → Prop} : mvW h mt id (.p (.int kd n)) rs K = K (.v (.int kd n)) rs [] [] := by simp [mvW, PV.cellOk]
theorem mv_bool {mt : Bool} {id : Nat} {n : Bool} {rs : List (Option (List PV))} {K : DC → List (Option (List PV)) → List (Nat × Blk) → List Nat → Prop} : mvW h mt id (.p (.bool n)) rs K = K (.v (.bool n)) rs [] [] := by simp [mvW, PV.cellOk]
theorem mv_str {mt : Bool} {id : Nat} {n : List UInt8} {rs : List (Option (List PV))} {K : DC → List (Option (List PV)) → List (Nat × Blk) → List Nat → Prop} : mvW h mt id (.p (.str n)) rs K = K (.v (.str n)) rs [] [] := by simp [mvW, PV.cellOk]
theorem mv_lent {mt : Bool} {id : Nat} {n : List PV} {rs : List (Option (List PV))} {K : DC → List (Option (List PV)) → List (Nat × Blk) → List Nat → Prop} : mvW h mt id (.p (.sl (.lent m) n)) rs K = K (.v (.sl (.lent m) n)) rs [] [] := by cases m <;> simp [mvW, PV.cellOk, Fl.lent]
theorem mv_own {mt : Bool} {id : Nat} {rs : List (Option (List PV))} {K : DC → List (Option (List PV)) → List (Nat × Blk) → List Nat → Prop} : mvW h mt id (.p (.sl .own [])) rs K = K (.v (.sl .own [])) rs [] [] := by simp [mvW, PV.cellOk]
theorem bsd_eq {n : Nat} {xs : List DC} {rs : List (Option (List PV))} {ws : List (Nat × Blk)} {rd : List Nat} : BSD n k C xs rs ws rd = (xs.all DC.noSelf = true ∧ C ⟨.ref k 0 n, ws ++ [(k, .deep false xs rs)], rd⟩) := _root_.id rfl
theorem ns_row {r : Nat} : DC.noSelf (.row r) = true := _root_.id rfl
theorem ns_v {v : PV} : DC.noSelf (.v v) = true := _root_.id rfl
/-! ### append -/
def adB (b b' : Blk) (id len j n k : Nat) (C : R → Prop) : Prop :=
 match b, b' with
 | .deep m cs rs, .deep false cs' rs' => n = cs'.length ∧ cs'.all DC.noSelf = true ∧ id ≠ j ∧ len = cs.length ∧ cs.all DC.noSelf = true ∧ len + n ≤ 1099511627776 ∧
   C ⟨.ref k 0 (len + n), [(j, .dead), (id, .dead), (k, .deep m (cs ++ cs'.map (DC.up rs.length)) (rs ++ rs'))], [id, j]⟩
 | _, _ => False
def ad0 (b' : Blk) (j n k : Nat) (C : R → Prop) : Prop :=
 match b' with
 | .deep false cs' rs' => n = cs'.length ∧ cs'.all DC.noSelf = true ∧ n ≤ 1099511627776 ∧ C ⟨.ref k 0 n, [(j, .dead), (k, .deep false cs' rs')], [j]⟩
 | _ => False
theorem ax_dk {s : AV} {j off n : Nat} : axB (dk f m L) h k s j off n C = appendD h k s (.ref j off n) C := _root_.id rfl
theorem ax_deep {cs : List DC} {rs : List (Option (List PV))} {s : AV} {j off n : Nat} : axB (.deep m cs rs) h k s j off n C = appendD h k s (.ref j off n) C := _root_.id rfl
theorem ad_ref {id len j n : Nat} : appendD h k (.ref id 0 len) (.ref j 0 n) C = adB (h id) (h j) id len j n k C := by
 simp only [appendD, adB]
 cases h j with
 | deep m' cs' rs' =>
  cases m' with
  | true => cases h id <;> rfl
  | false => cases h id <;> simp
 | _ => cases h id <;> rfl
theorem ad_nil {j n : Nat} : appendD h k (.p (.sl .own [])) (.ref j 0 n) C = ad0 (h j) j n k C := by
 simp only [appendD, ad0]
 cases h j with
 | deep m' cs' rs' => cases m' <;> rfl
 | _ => rfl
theorem ad_dk {id len j n : Nat} : adB (dk f m L) (dk f false L') id len j n k C = (n = L'.length ∧ id ≠ j ∧ len = L.length ∧ len + n ≤ 1099511627776 ∧
  C ⟨.ref k 0 (len + n), [(j, .dead), (id, .dead), (k, dk f m (L ++ L'))], [id, j]⟩) := by
 simp only [adB, dk, canon_len, canon_noSelf, List.length_map, true_and]
 rw [canon_app, ← List.map_append, List.length_append]
theorem ad_e {id len j n : Nat} : adB (.deep m [] []) (dk f false L') id len j n k C = (n = L'.length ∧ id ≠ j ∧ len = 0 ∧ n ≤ 1099511627776 ∧
  C ⟨.ref k 0 n, [(j, .dead), (id, .dead), (k, dk f m L')], [id, j]⟩) := by
 simp only [adB, dk, canon_len, canon_noSelf, List.length_nil, List.all_nil, true_and, List.nil_append]
 have e : (canon L'.length).map (DC.up 0) = canon L'.length := by
  have := canon_app (n := 0) (j := L'.length); simpa [canon] using this
 rw [e]
 apply propext; constructor
 ·rintro ⟨h1, h2, h3, h4, h5⟩; subst h3; simp only [Nat.zero_add] at h4 h5; exact ⟨h1, h2, rfl, h4, h5⟩
 ·rintro ⟨h1, h2, h3, h4, h5⟩; subst h3; simp only [Nat.zero_add]; exact ⟨h1, h2, trivial, h4, h5⟩
theorem a0_dk {j n : Nat} : ad0 (dk f false L') j n k C = (n = L'.length ∧ n ≤ 1099511627776 ∧ C ⟨.ref k 0 n, [(j, .dead), (k, dk f false L')], [j]⟩) := by
 simp only [ad0, dk, canon_len, canon_noSelf, true_and]
/-! ### made first, filled then -/
/-- The first rows are there, the rest is nil. -/
def dkz (f : α → PV) (m : Bool) (L : List (List α)) (z : Nat) : Blk := .deep m (canon L.length ++ List.replicate z (.v (.sl .own []))) (L.map fun l => some (l.map f))
theorem dkz_0 : dkz f m L 0 = dk f m L := by simp [dkz, dk]
theorem dkz_nil {n : Nat} : Blk.deep m (List.replicate n (.v (.sl .own []))) [] = dkz f m [] n := by simp [dkz, canon]
theorem v_stz {z id off id' len : Nat} {l : List α} (ho : off = L.length) (hz : 0 < z) (hl : len = l.length) (hi : id' ≠ id) (hc : C ⟨.p .any, [(id', .dead), (id, dkz f false (L ++ [l]) (z - 1))], [id, id']⟩) :
  stRB (dkz f false L z) (.live false (l.map f)) id off id' 0 len C := by
 obtain ⟨z, rfl⟩ : ∃ y, z = y + 1 := ⟨z - 1, by omega⟩
 subst ho
 simp only [stRB, dkz, List.length_map, true_and, List.length_append, canon_len, List.length_replicate]
 refine ⟨fun h => h, hl, by omega, hi, ?_⟩
 have e1 : (canon L.length ++ List.replicate (z + 1) (DC.v (.sl .own []))).set L.length (.row L.length) = canon (L.length + 1) ++ List.replicate z (DC.v (.sl .own [])) := by
  rw [List.set_append_right _ _ (by simp [canon_len]), canon_len, Nat.sub_self, List.replicate_succ, List.set_cons_zero]
  have : canon (L.length + 1) = canon L.length ++ [.row L.length] := by simp [canon, List.range_succ]
  rw [this, List.append_assoc]; rfl
 rw [e1]
 simpa [dkz] using hc
/-- A row was lent and written over. -/
def dkU (f : α → PV) (m : Bool) (L : List (List α)) (r : Nat) (l : List α) : Blk := outB (some r) (some (some (l.map f))) (dk f m L)
theorem ob_dku {r : Nat} {l : List α} : outB (some r) (some (some (l.map f))) (dk f m L) = dkU f m L r l := _root_.id rfl
theorem dkU_eq {r : Nat} {l : List α} [NDl (l.map f)] (hr : r < L.length) (hl : l.length = (L.getD r []).length) : dkU f m L r l = dk f m (L.set r l) := ob_dki hr hl
theorem v_callR {k : Nat} {f : FuncId} {c c' : List PV} {as : List Arg} {os : List (Option (List PV))} {res : List PV} {rd : List Nat} {ms : List (Option (Nat × Option Nat))} {id r : Nat} {v : AV} {ws : List (Nat × Blk)}
  (hf : CallT P false f (.mu false c :: as) (some c' :: os) res) [a : ImpA k res v ws] (hn : (ms.all Option.isNone) = true) (hid : id ∉ rd)
  (hc : C ⟨v, (id, outB (some r) (some (some c')) (h id)) :: ws, id :: rd⟩) : Pk P h k f C (.mu false c :: as) rd (some (id, some r) :: ms) := by
 refine v_callM hf hn hid ?_
 rw [Bool.false_and, a.h.1, a.h.2, List.getElem?_cons_zero]
 exact hc
/-! ### results -/
def fdB (b : Blk) (tk : Bool) (k id off len : Nat) (rows : List (List PV)) (F : List (Nat × Nat × Pl) → Prop) : Prop :=
 match b with
 | .deep m cs rs => off + len ≤ cs.length ∧ (m = true → tk = true) ∧ ∃ sel, selD rs ((cs.drop off).take len) = some (sel, rows) ∧ (sel.filterMap _root_.id).Nodup ∧ F [(k, id, .d off sel)]
 | _ => False
variable {F : List (Nat × Nat × Pl) → Prop}
theorem f_dl {tk : Bool} {id off len : Nat} {rows : List (List PV)} : fin tk h k (.ref id off len) (.dl rows) F = fdB (h id) tk k id off len rows F := by
 simp only [fin, fin1, fdB]; cases h id <;> rfl
theorem f1_dl {tk : Bool} {id off len : Nat} {rows : List (List PV)} : fin1 tk h k (.ref id off len) (.dl rows) F = fdB (h id) tk k id off len rows F := by
 simp only [fin1, fdB]; cases h id <;> rfl
theorem f_dl0 {tk : Bool} {ys : List PV} {rows : List (List PV)} : fin tk h k (.p (.sl .own ys)) (.dl rows) F = (rows = [] ∧ F []) := _root_.id rfl
theorem f1_dl0 {tk : Bool} {ys : List PV} {rows : List (List PV)} : fin1 tk h k (.p (.sl .own ys)) (.dl rows) F = (rows = [] ∧ F []) := _root_.id rfl
theorem selD_rows {rs : List (Option (List PV))} : ∀ {l : List Nat} {cs : List (List PV)}, (∀ i, i < l.length → ∃ r, l[i]? = some r ∧ rs[r]? = some (cs[i]?)) → cs.length = l.length → selD rs (l.map .row) = some (l.map some, cs)
 | [], cs, _, hl => by
  have : cs = [] := List.eq_nil_of_length_eq_zero (by simpa using hl)
  subst this; rfl
 | r :: l, cs, hh, hl => by
  cases cs with
  | nil => simp at hl
  | cons c cs =>
   obtain ⟨r', e1, e2⟩ := hh 0 (by simp)
   simp only [List.getElem?_cons_zero, Option.some.injEq] at e1 e2
   subst e1
   have ih := selD_rows (l := l) (cs := cs) (fun i hi => by
    obtain ⟨r', e1, e2⟩ := hh (i + 1) (by simp; omega)
    exact ⟨r', by simpa using e1, by simpa using e2⟩) (by simpa using hl)
   simp only [List.map_cons, selD, e2, ih]
theorem fd_dk {tk : Bool} {id len : Nat} {rows : List (List PV)} : fdB (dk f m L) tk k id 0 len rows F = (len ≤ L.length ∧ (m = true → tk = true) ∧ (L.take len).map (List.map f) = rows ∧ F [(k, id, .d 0 ((List.range len).map some))]) := by
 simp only [fdB, dk, canon_len, Nat.zero_add, List.drop_zero]
 by_cases hl : len ≤ L.length
 ·simp only [hl, true_and]
  have e : selD (L.map fun l => some (l.map f)) ((canon L.length).take len) = some ((List.range len).map some, (L.take len).map (List.map f)) := by
   rw [canon_take hl]
   refine selD_rows (fun i hi => ?_) (by simp; omega)
   simp only [List.length_range] at hi
   refine ⟨i, List.getElem?_range hi, ?_⟩
   rw [row_get (by omega), List.getElem?_map, List.getElem?_take, if_pos hi, List.getD_eq_getElem?_getD, List.getElem?_eq_getElem (show i < L.length by omega)]
   rfl
  rw [e]
  have hd : (((List.range len).map some).filterMap (_root_.id : Option Nat → Option Nat)).Nodup := by
   rw [List.filterMap_map]; simpa [Function.comp_def] using List.nodup_range
  apply propext; constructor
  ·rintro ⟨h1, sel, h2, h3, h4⟩
   simp only [Option.some.injEq, Prod.mk.injEq] at h2
   obtain ⟨rfl, rfl⟩ := h2
   exact ⟨h1, rfl, h4⟩
  ·rintro ⟨h1, rfl, h4⟩
   exact ⟨h1, _, rfl, hd, h4⟩
 ·simp only [hl, false_and]
theorem fd_e {tk : Bool} {id len : Nat} {rows : List (List PV)} : fdB (.deep m [] []) tk k id 0 len rows F = (len = 0 ∧ (m = true → tk = true) ∧ rows = [] ∧ F [(k, id, .d 0 [])]) := by
 simp only [fdB, List.length_nil, Nat.zero_add, List.drop_nil, List.take_nil, selD]
 apply propext; constructor
 ·rintro ⟨h0, h1, sel, h2, h3, h4⟩
  simp only [Option.some.injEq, Prod.mk.injEq] at h2
  obtain ⟨rfl, rfl⟩ := h2
  exact ⟨by omega, h1, rfl, h4⟩
 ·rintro ⟨h0, h1, rfl, h4⟩
  exact ⟨by omega, h1, [], rfl, by simp, h4⟩
/-! ### what comes back from a call -/
instance dkO {k : Nat} {L : List (List α)} : ImpO k (.dl (L.map (List.map f))) (.ref k 0 L.length) [(k, dk f false L)] := ⟨by simp [imp, imp1], by simp [impW, impW1, dk, Function.comp_def]⟩
instance dk1 {k : Nat} {L : List (List α)} : Imp1 k (.dl (L.map (List.map f))) (.ref k 0 L.length) [(k, dk f false L)] := ⟨by simp [imp1], by simp [impW1, dk, Function.comp_def]⟩
theorem nr_dl {rows : List (List PV)} : noRo (.dl rows) = noRoLL rows := _root_.id rfl
theorem nrLL {L : List (List α)} (hf : ∀ a, noRo (f a) = true) : noRoLL (L.map (List.map f)) = true := by
 induction L with
 | nil => rfl
 | cons l L ih => simp only [List.map_cons, noRoLL, noRoL_map hf, ih, Bool.and_self]
theorem nrLLI {L : List (List Int)} {kd : IntKind} : noRoLL (L.map (List.map (PV.int kd))) = true := nrLL fun _ => rfl
theorem nrLLS {L : List (List (List UInt8))} : noRoLL (L.map (List.map PV.str)) = true := nrLL fun _ => rfl
theorem nrLdl {L : List (List Int)} {kd : IntKind} {xs : List PV} : noRoL (.dl (L.map (List.map (PV.int kd))) :: xs) = noRoL xs := by
 simp only [noRoL, noRo, nrLLI, Bool.true_and]
/-! ### in a loop -/
/-- A slice of slices of the call's own: its length, its rows. -/
def DwnL (v : AV) (h : Nat → Blk) (n : Nat) (f : α → PV) (len : Nat) (L : List (List α)) : Prop :=
 match v with
 | .ref id 0 len' => len' = len ∧ h id = dk f false L ∧ id < n
 | _ => False
def hbD (b : Blk) (f : α → PV) (L : List (List α)) : Prop := b = dk f false L
theorem DwnL.out {v : AV} {h : Nat → Blk} {n : Nat} {len : Nat} (ho : DwnL v h n f len L) : ∃ id, v = .ref id 0 len ∧ h id = dk f false L ∧ id < n := by
 unfold DwnL at ho
 split at ho
 ·rename_i id len' ; obtain ⟨rfl, h1, h2⟩ := ho; exact ⟨id, rfl, h1, h2⟩
 ·exact ho.elim
theorem dwn_ref {h : Nat → Blk} {n id len' : Nat} {len : Nat} : DwnL (.ref id 0 len') h n f len L = (len' = len ∧ hbD (h id) f L ∧ id < n) := _root_.id rfl
theorem hbD_eq : hbD (dk f false L') f L = (dk f false L' = dk f false L) := _root_.id rfl
/-- The same, the rest of it still nil. -/
def DznL (v : AV) (h : Nat → Blk) (n : Nat) (f : α → PV) (len : Nat) (L : List (List α)) (z : Nat) : Prop :=
 match v with
 | .ref id 0 len' => len' = len ∧ h id = dkz f false L z ∧ id < n
 | _ => False
def hbZ (b : Blk) (f : α → PV) (L : List (List α)) (z : Nat) : Prop := b = dkz f false L z
theorem DznL.out {v : AV} {h : Nat → Blk} {n : Nat} {len z : Nat} (ho : DznL v h n f len L z) : ∃ id, v = .ref id 0 len ∧ h id = dkz f false L z ∧ id < n := by
 unfold DznL at ho
 split at ho
 ·rename_i id len' ; obtain ⟨rfl, h1, h2⟩ := ho; exact ⟨id, rfl, h1, h2⟩
 ·exact ho.elim
theorem dzn_ref {h : Nat → Blk} {n id len' z : Nat} {len : Nat} : DznL (.ref id 0 len') h n f len L z = (len' = len ∧ hbZ (h id) f L z ∧ id < n) := _root_.id rfl
theorem hbZ_eq {z z' : Nat} : hbZ (dkz f false L' z') f L z = (dkz f false L' z' = dkz f false L z) := _root_.id rfl
theorem hbZ_e {z z' : Nat} : hbZ (.deep false (List.replicate z' (.v (.sl .own []))) []) f ([] : List (List α)) z = (z' = z) := by
 rw [dkz_nil (f := f)]
 apply propext; constructor
 ·intro h
  simp only [hbZ, dkz, Blk.deep.injEq, true_and, and_true] at h
  have := congrArg List.length h
  simpa [canon] using this
 ·rintro rfl; rfl
theorem dkz_eq {z z' : Nat} (h : L = L') (hz : z = z') : dkz f m L z = dkz f m L' z' := by rw [h, hz]
theorem hbD_deep {xs : List DC} {rs : List (Option (List PV))} : hbD (.deep false xs rs) f L = (Blk.deep false xs rs = dk f false L) := _root_.id rfl
theorem hbD_e : hbD (.deep false [] []) f ([] : List (List α)) := _root_.id rfl
theorem dk_eq (h : L = L') : dk f m L = dk f m L' := by rw [h]
end
theorem fl_dk {α : Type} {f : α → PV} {m : Bool} {L : List (List α)} : flg (dk f m L) = m := _root_.id rfl
attribute [go_sem] fl_dk dk_1 dk_2 dk_mk lenC_dl ld_dk li_dk cti_dk q_dkI q_dkS q_inn ps_inn in_dk mu_dk mu_inn mui_nx mui_all mui_mf mui_dk ob_dk
attribute [go_sem ↓] w_opn w_opo w_opm w_opl w_bsD w_mkD w_mvD w_asD
attribute [go_sem] mm_o1 mm_o2 mm_o3 mm_o4 mm_o5 mm_o6 mm_o7 mm_o8 mm_o9 mm_o10 mm_o11 mm_o12 mm_o13 mm_o14 mm_o15 mm_o16 mm_o17 mm_o18 mm_bs mm_mk mm_al mm_bx
attribute [go_sem] mkD_eq nst_eq nst_t nst_i nst_b nst_s n_bs n_mk n_al n_bx n_ff1 n_ff2 n_ff3 n_ff4 n_o1 n_o2 n_o3 n_o4 n_o5 n_o6 n_o7 n_o8 n_o9 n_o10 n_o11 n_o12 n_o13 n_o14 n_o15 n_o16 n_o17 n_o18 z_tmp z_fn z_i z_b z_s z_n z_nf z_ag ar_nil
attribute [go_sem] mvs_nil mvs_cons mvn_eq mvn_1 hu_eq mvk_1 mvk_0 mvk_n mv_inn mvJ_deep mvR_eq mv_ref mvB_live mvB_liveT mvB_froz mv_int mv_bool mv_str mv_lent mv_own bsd_eq ns_row ns_v
attribute [go_sem] ax_dk ax_deep ad_ref ad_nil ad_dk ad_e a0_dk ob_dku dzn_ref hbZ_eq hbZ_e f_dl f1_dl f_dl0 f1_dl0 fd_dk fd_e nr_dl nrLLI nrLLS nrLdl dwn_ref hbD_eq hbD_e hbD_deep
attribute [go_sem high] dk_1
attribute [go_sem] List.length_range
end Go.Gl
set_option linter.unusedSimpArgs false
set_option linter.unusedVariables false
namespace Go.Gl
open Go
variable [Amb]
/-- A result that lies in no memory, as the model's value. -/
def plV : PV → Option Value
 | .int k n => some (.int k n)
 | .bool b => some (.bool b)
 | .str s => some (.string ⟨s.toArray⟩)
 | _ => none
theorem Fun.of_plain [NoQ] {P : Program} {f : FuncId} {args : List PV} {x : PV} {v : Value} {fn : Func} (hf : P.funcs[f]? = some fn) (hb : fn.body.isSome = true) (hn : (fn.name == "runtime.NumGoroutine") = false) (hx : plV x = some v)
  (h : ∀ (w : World) (F G : Nat → Prop) (vs : List Value), (∀ B o, Amb.tb B = some o → w.heap[B]? = some o) → RepL w F G args vs → Calls P f ⟨vs⟩ w fun e w' => e = .returned v ∧ Go.RowKit.Below w.heap.size w w') : Fun P f args [x] := by
 have dead : ∀ j, argH (args.map .pv) j = .dead := by
  intro j
  unfold argH
  rw [List.getElem?_map]
  cases args[j]? <;> rfl
 have hno : ∀ (ι : Nat → Loc) B, ¬ Held (argH (args.map .pv)) ι B := by
  rintro ι B ⟨id, ho⟩
  rw [dead] at ho; exact ho
 have hrep : ∀ (w : World) (F G : Nat → Prop) (ι : Nat → Loc) (l : List PV) (vs : List Value) (k : Nat), RepAL w F G ι (argAVs k (l.map .pv)) vs → RepL w F G l vs := by
  intro w F G ι l
  induction l with
  | nil => intro vs k h; simpa [argAVs, RepAL, RepL] using h
  | cons x l ih =>
   intro vs k h
   simp only [List.map_cons, argAVs, Arg.av, RepAL, RepA] at h
   obtain ⟨v, vs', rfl, h1, h2⟩ := h
   simp only [RepL]
   exact ⟨v, vs', rfl, h1, ih _ _ h2⟩
 have hr : noRoL [x] = true ∧ resOk [x] = true ∧ impAll (args.map Arg.pv).length [x] = .p x ∧ impWs false (args.map Arg.pv).length [x] = [] ∧ ∀ w F G, RepP w F G x v := by
  cases x with
  | int k n => simp only [plV, Option.some.injEq] at hx; subst hx; exact ⟨rfl, rfl, rfl, rfl, fun _ _ _ => by simp only [RepP]⟩
  | bool b => simp only [plV, Option.some.injEq] at hx; subst hx; exact ⟨rfl, rfl, rfl, rfl, fun _ _ _ => by simp only [RepP]⟩
  | str s => simp only [plV, Option.some.injEq] at hx; subst hx; exact ⟨rfl, rfl, rfl, rfl, fun _ _ _ => by simp only [RepP]⟩
  | _ => simp [plV] at hx
 obtain ⟨h1, h2, h3, h4, h5⟩ := hr
 refine ⟨⟨fn, hf, hb, hn⟩, h1, h2, rfl, ?_⟩
 intro w G ι vs hamb hG ok hrp
 have hpost : ∀ j, postH false (args.map .pv) [] [x] j = .dead := by
  intro j
  unfold postH
  rw [h4]
  show outH (args.map .pv) [] j = .dead
  unfold outH
  rw [List.getElem?_map]
  cases args[j]? <;> rfl
 have hno2 : ∀ (ι : Nat → Loc) B, ¬ Held (postH false (args.map .pv) [] [x]) ι B := by
  rintro ι B ⟨id, ho⟩
  rw [hpost] at ho; exact ho
 refine (h w _ G vs hamb.ok (hrep w _ G ι args vs 0 hrp)).mono ?_
 rintro e w' ⟨rfl, hw⟩
 refine ⟨v, ι, rfl, fun _ _ => LocEq.refl _, ⟨hw.os, hw.tape, hw.output, hw.size, fun k hk _ => hw.block k hk, fun q => by rw [NoQ.no] at q; cases q⟩, ⟨fun id => by rw [hpost]; trivial, fun id _ B ho => by rw [hpost] at ho; exact ho.elim⟩, ?_⟩
 rw [h3]
 exact h5 _ _ _
/-- A plain value as the model's. -/
def pvV (x : PV) : Value := (plV x).getD undef
theorem pvV_rep {w : World} {F G : Nat → Prop} {x : PV} (h : (plV x).isSome = true) : RepP w F G x (pvV x) ∧ (pvV x).oneCell' = true := by
 cases x with
 | int k n => exact ⟨by simp only [pvV, plV, Option.getD_some, RepP], rfl⟩
 | bool b => exact ⟨by simp only [pvV, plV, Option.getD_some, RepP], rfl⟩
 | str s => exact ⟨by simp only [pvV, plV, Option.getD_some, RepP], rfl⟩
 | _ => simp [plV] at h
/-- A new row, handed back. -/
theorem Fun.of_row [NoQ] {P : Program} {f : FuncId} {args xs : List PV} {fn : Func} (e : TypeId) (hf : P.funcs[f]? = some fn) (hb : fn.body.isSome = true) (hn : (fn.name == "runtime.NumGoroutine") = false) (hnr : noRoL xs = true) (hx : ∀ x ∈ xs, (plV x).isSome = true)
  (h : ∀ (w : World) (F G : Nat → Prop) (vs : List Value), (∀ B o, Amb.tb B = some o → w.heap[B]? = some o) → RepL w F G args vs → Calls P f ⟨vs⟩ w fun ex w' => ∃ v, ex = .returned v ∧ w'.ownsRow w.heap.size e 1 v xs.length (xs.map pvV) ∧ Go.RowKit.Below w.heap.size w w') : Fun P f args [.sl .own xs] := by
 have hrep : ∀ (w : World) (F G : Nat → Prop) (ι : Nat → Loc) (l : List PV) (vs : List Value) (k : Nat), RepAL w F G ι (argAVs k (l.map .pv)) vs → RepL w F G l vs := by
  intro w F G ι l
  induction l with
  | nil => intro vs k h; simpa [argAVs, RepAL, RepL] using h
  | cons x l ih =>
   intro vs k h
   simp only [List.map_cons, argAVs, Arg.av, RepAL, RepA] at h
   obtain ⟨v, vs', rfl, h1, h2⟩ := h
   simp only [RepL]
   exact ⟨v, vs', rfl, h1, ih _ _ h2⟩
 refine ⟨⟨fn, hf, hb, hn⟩, by simp only [noRoL, noRo, hnr, Bool.and_true], rfl, rfl, ?_⟩
 intro w G ι vs hamb hG ok hrp
 have hpost : ∀ j, postH false (args.map .pv) [] [.sl .own xs] j = if j = (args.map Arg.pv).length then .live false xs else .dead := by
  intro j
  show (if j = (args.map Arg.pv).length then Blk.live false xs else outH (args.map .pv) [] j) = _
  have : outH (args.map .pv) [] j = .dead := by
   unfold outH
   rw [List.getElem?_map]
   cases args[j]? <;> rfl
  rw [this]
 refine (h w _ G vs hamb.ok (hrep w _ G ι args vs 0 hrp)).mono ?_
 rintro ex w' ⟨v, rfl, ⟨hlen, ho⟩, hw⟩
 have hio : impAll (args.map Arg.pv).length [.sl .own xs] = .ref (args.map Arg.pv).length 0 xs.length := by simp [impAll, imp, imp1]
 have keep : Keep w w' (argM (args.map .pv) ι) := ⟨hw.os, hw.tape, hw.output, hw.size, fun k hk _ => hw.block k hk, fun q => by rw [NoQ.no] at q; cases q⟩
 have own1 : ∀ (l : Loc) id B, owns (postH false (args.map .pv) [] [.sl .own xs] id) (if id = (args.map Arg.pv).length then l else ι id) B → id = (args.map Arg.pv).length := by
  intro l id B ho
  rw [hpost] at ho
  split at ho
  ·assumption
  ·exact ho.elim
 have fin : ∀ (l : Loc), (okB w' (Held (postH false (args.map .pv) [] [.sl .own xs]) fun j => if j = (args.map Arg.pv).length then l else ι j) G (Org w.heap.size (argM (args.map .pv) ι) G) (.live false xs) l) →
   RepA w' (Held (postH false (args.map .pv) [] [.sl .own xs]) fun j => if j = (args.map Arg.pv).length then l else ι j) G (fun j => if j = (args.map Arg.pv).length then l else ι j) (.ref (args.map Arg.pv).length 0 xs.length) v →
   ∃ v1 ι', Ending.returned v = .returned v1 ∧ (∀ j, j < (args.map Arg.pv).length → LocEq (ι j) (ι' j)) ∧ Keep w w' (argM (args.map .pv) ι) ∧
    HeapOk w' w.heap.size (argM (args.map .pv) ι) G (postH false (args.map .pv) [] [.sl .own xs]) ι' ∧ RepA w' (Held (postH false (args.map .pv) [] [.sl .own xs]) ι') G ι' (impAll (args.map Arg.pv).length [.sl .own xs]) v1 := by
  intro l h1 h2
  refine ⟨v, fun j => if j = (args.map Arg.pv).length then l else ι j, rfl, fun j hj => LocEq.of_eq (if_neg (by omega)), keep, ⟨fun id => ?_, fun id id' B ho ho' => ?_⟩, by rw [hio]; exact h2⟩
  ·by_cases e : id = (args.map Arg.pv).length
   ·rw [hpost, if_pos e, if_pos e]; exact h1
   ·rw [hpost, if_neg e]; trivial
  ·rw [own1 l id B ho, own1 l id' B ho']
 rcases ho with ⟨rfl, h0⟩ | ⟨g, cap, cur, rfl, hg, hcell, hle, hmax, hsz, htake⟩
 ·refine fin ⟨0, 0, 0, 0, noInn⟩ ⟨by simp [h0], Nat.zero_le _, .inl rfl⟩ ?_
  simp only [RepA]
  exact ⟨none, 0, by rw [h0], by omega, by simp, by simp, .inl rfl⟩
 ·have hsz' : cur.size = cap := by simpa using hsz
  refine fin ⟨g, 0, cap, 0, noInn⟩ ⟨hle, hmax, .inr ⟨⟨cur, e, 0, 0, hcell, by simp; omega, .inl (Nat.le_refl _)⟩, ?_, .inl ⟨hg, hG g hg⟩⟩⟩ ?_
  ·rw [RepC_iff]
   intro j x hj
   have hlt := (List.getElem?_eq_some_iff.1 hj).1
   have hmem := List.mem_of_getElem? hj
   have h3 : cur[j]? = some (pvV x) := by
    have h4 : (cur.toList.take (xs.length * 1))[j]? = (xs.map pvV)[j]? := by rw [htake]
    rw [List.getElem?_take, if_pos (by omega), List.getElem?_map, hj] at h4
    simpa using h4
   refine ⟨pvV x, ?_, (pvV_rep (w := w') (F := fun _ => False) (G := G) (hx x hmem)).2, (pvV_rep (hx x hmem)).1⟩
   rw [cell?_eq0]
   simp only [Nat.zero_add, hcell]
   exact h3
  ·simp only [RepA]
   exact ⟨_, cap, rfl, hle, by simp, by simpa using hmax, .inr (by simp)⟩
theorem repP_str {w : World} {F G : Nat → Prop} {s : List UInt8} {v : Value} (h : RepP w F G (.str s) v) : v = .string ⟨s.toArray⟩ := by simpa only [RepP] using h
theorem repP_i {w : World} {F G : Nat → Prop} {k : IntKind} {n : Int} {v : Value} (h : RepP w F G (.int k n) v) : v = .int k n := by simpa only [RepP] using h
/-- A slice of strings, as the shelf's contracts ask for it. -/
theorem rep_strs {w : World} {F G : Nat → Prop} {o : Fl} {l : List (List UInt8)} {v : Value} (h : RepP w F G (.sl o (l.map .str)) v) (hl : l ≠ []) :
  ∃ B off cap, v = .slice (some ⟨B, off, none⟩) l.length cap ∧ l.length ≤ cap ∧ cap ≤ maxLen ∧ B < w.heap.size ∧ ∀ (j : Nat) (x : ByteArray), (l.map fun s => (⟨s.toArray⟩ : ByteArray))[j]? = some x → w.cell? ⟨B, off + j, none⟩ = some (.string x) := by
 simp only [RepP] at h
 obtain ⟨a, cap, rfl, h1, h2, _, h3⟩ := h
 rcases h3 with h3 | ⟨B, off, rfl, _, _, hc⟩
 ·simp at h3; exact absurd h3 hl
 ·rw [RepC_iff] at hc
  have hcell : ∀ (j : Nat) (x : ByteArray), (l.map fun s => (⟨s.toArray⟩ : ByteArray))[j]? = some x → w.cell? ⟨B, off + j, none⟩ = some (.string x) := by
   intro j x hj
   rw [List.getElem?_map, Option.map_eq_some_iff] at hj
   obtain ⟨s, hs, rfl⟩ := hj
   obtain ⟨u, hu, _, hr⟩ := hc j (.str s) (by rw [List.getElem?_map, hs]; rfl)
   rw [repP_str hr] at hu
   exact hu
  refine ⟨B, off, cap, by simp, by simpa using h1, h2, ?_, hcell⟩
  cases l with
  | nil => exact absurd rfl hl
  | cons s l =>
   have := hcell 0 ⟨s.toArray⟩ rfl
   rw [cell?_eq0] at this
   split at this
   ·rename_i c _ _ hb; exact (Array.getElem?_eq_some_iff.1 hb).1
   ·cases this
theorem repP_nil {w : World} {F G : Nat → Prop} {o : Fl} {v : Value} (h : RepP w F G (.sl o []) v) : ∃ a cap, v = .slice a 0 cap := by
 simp only [RepP] at h
 obtain ⟨a, cap, rfl, _⟩ := h
 exact ⟨a, cap, rfl⟩
/-! ### arguments ahead of one that is lent -/
section
variable {P : Program} {sg : FuncId → List Bool} {h : Nat → Blk} {k : Nat} {C : R → Prop} {S : St}
def PAF (x : PV) (rd : List Nat) (K : List Arg → List Nat → List (Option (Nat × Option Nat)) → Prop) (as : List Arg) (rd' : List Nat) (ms : List (Option (Nat × Option Nat))) : Prop := K (.pv x :: as) (rd ++ rd') (none :: ms)
def PAP (h : Nat → Blk) (fs : List Bool) (vs : List AV) (K : List Arg → List Nat → List (Option (Nat × Option Nat)) → Prop) (x : PV) (rd : List Nat) : Prop := pass h fs vs (PAF x rd K)
theorem pa_p {fs : List Bool} {x : PV} {vs : List AV} {K : List Arg → List Nat → List (Option (Nat × Option Nat)) → Prop} : pass h (false :: fs) (.p x :: vs) K = pass h fs vs (PAF x.cell [] K) := _root_.id rfl
theorem pa_ref {fs : List Bool} {id o l : Nat} {vs : List AV} {K : List Arg → List Nat → List (Option (Nat × Option Nat)) → Prop} : pass h (false :: fs) (.ref id o l :: vs) K = refG (h id) id o l (PAP h fs vs K) := by
 simp only [pass, pur, pur1, refG, List.tail_cons]; cases h id <;> rfl
theorem pa_inn {fs : List Bool} {id r o l : Nat} {vs : List AV} {K : List Arg → List Nat → List (Option (Nat × Option Nat)) → Prop} : pass h (false :: fs) (.inn id r o l :: vs) K = inG (h id) id r o l (PAP h fs vs K) := by
 simp only [pass, pur, pur1, inG, List.tail_cons]; cases h id <;> rfl
theorem pap_eq {fs : List Bool} {vs : List AV} {K : List Arg → List Nat → List (Option (Nat × Option Nat)) → Prop} {x : PV} {rd : List Nat} : PAP h fs vs K x rd = pass h fs vs (PAF x rd K) := _root_.id rfl
theorem paf_eq {x : PV} {rd rd' : List Nat} {K : List Arg → List Nat → List (Option (Nat × Option Nat)) → Prop} {as : List Arg} {ms : List (Option (Nat × Option Nat))} : PAF x rd K as rd' ms = K (.pv x :: as) (rd ++ rd') (none :: ms) := _root_.id rfl
/-- What it is lent as its second or third argument is handed back as its result. -/
theorem v_callT2 {α : Type} {g : α → PV} {l : List α} {f : FuncId} {c : List PV} {a : PV} {rd : List Nat} {id : Nat}
  (hf : CallT P true f [.pv a, .mu false c] [none, none] [.sl .own (l.map g)]) (hid : id ∉ rd)
  (hc : C ⟨.ref k 0 l.length, [(id, .dead), (k, .live (flg (h id)) (l.map g))], id :: rd⟩) : Pk P h k f C [.pv a, .mu false c] rd [none, some (id, none)] := by
 refine ⟨⟨by simp [lids], by simpa [lids] using hid⟩, true, _, _, hf, flg (h id), fun e1 _ i hi => (by simp [lids] at hi; subst hi; exact e1), ?_⟩
 have e1 : impAll k [.sl .own (l.map g)] = .ref k 0 l.length := by simp [impAll, imp, imp1]
 have e2 : outB none (some none) (h id) = .dead := ob_none
 rw [e1]
 simpa [outWs, lids, impWs, impW, impW1, e2] using hc
theorem v_callT3 {α : Type} {g : α → PV} {l : List α} {f : FuncId} {c : List PV} {a b : PV} {rd : List Nat} {id : Nat}
  (hf : CallT P true f [.pv a, .pv b, .mu false c] [none, none, none] [.sl .own (l.map g)]) (hid : id ∉ rd)
  (hc : C ⟨.ref k 0 l.length, [(id, .dead), (k, .live (flg (h id)) (l.map g))], id :: rd⟩) : Pk P h k f C [.pv a, .pv b, .mu false c] rd [none, none, some (id, none)] := by
 refine ⟨⟨by simp [lids], by simpa [lids] using hid⟩, true, _, _, hf, flg (h id), fun e1 _ i hi => (by simp [lids] at hi; subst hi; exact e1), ?_⟩
 have e1 : impAll k [.sl .own (l.map g)] = .ref k 0 l.length := by simp [impAll, imp, imp1]
 have e2 : outB none (some none) (h id) = .dead := ob_none
 rw [e1]
 simpa [outWs, lids, impWs, impW, impW1, e2] using hc
theorem v_callT4 {α : Type} {g : α → PV} {l : List α} {f : FuncId} {c : List PV} {a b b' : PV} {rd : List Nat} {id : Nat}
  (hf : CallT P true f [.pv a, .pv b, .pv b', .mu false c] [none, none, none, none] [.sl .own (l.map g)]) (hid : id ∉ rd)
  (hc : C ⟨.ref k 0 l.length, [(id, .dead), (k, .live (flg (h id)) (l.map g))], id :: rd⟩) : Pk P h k f C [.pv a, .pv b, .pv b', .mu false c] rd [none, none, none, some (id, none)] := by
 refine ⟨⟨by simp [lids], by simpa [lids] using hid⟩, true, _, _, hf, flg (h id), fun e1 _ i hi => (by simp [lids] at hi; subst hi; exact e1), ?_⟩
 have e1 : impAll k [.sl .own (l.map g)] = .ref k 0 l.length := by simp [impAll, imp, imp1]
 have e2 : outB none (some none) (h id) = .dead := ob_none
 rw [e1]
 simpa [outWs, lids, impWs, impW, impW1, e2] using hc
/-- The nil slice, handed on as such. -/
def PNL (K : List Arg → List Nat → List (Option (Nat × Option Nat)) → Prop) (as : List Arg) (rd : List Nat) (ms : List (Option (Nat × Option Nat))) : Prop := K (.pv (.sl .own []) :: as) rd (none :: ms)
theorem pn_nil {sg : List Bool} {vs : List AV} {K : List Arg → List Nat → List (Option (Nat × Option Nat)) → Prop} : pass h (true :: sg) (.p (.sl .own []) :: vs) K = pass h sg vs (PNL K) := by simp only [pass]; rfl
theorem pn_all {vs : List AV} {K : List Arg → List Nat → List (Option (Nat × Option Nat)) → Prop} : pass h [] vs (PNL K) = puG h vs (PQ (PNL K)) := pass_pu
theorem pn_eq {K : List Arg → List Nat → List (Option (Nat × Option Nat)) → Prop} {as : List Arg} {rd : List Nat} {ms : List (Option (Nat × Option Nat))} : PNL K as rd ms = K (.pv (.sl .own []) :: as) rd (none :: ms) := _root_.id rfl
theorem v_callE2 {f : FuncId} {a b : PV} {res : List PV} {rd : List Nat} {v : AV} {ws : List (Nat × Blk)} (hf : Fun P f [a, b] res) [i : ImpA k res v ws] (hc : C ⟨v, ws, rd⟩) : Pk P h k f C [.pv a, .pv b] rd [none, none] := v_callE (xs := [a, b]) hf hc
/-- Rows that were put in order: told from the number of rows on. -/
def dks {α : Type} (f : α → PV) (m : Bool) (L : List (List α)) : Blk := .deep m (canonS L.length) (List.replicate L.length none ++ L.map fun l => some (l.map f))
theorem mu_dks {α : Type} {f : α → PV} {m : Bool} {L : List (List α)} {id len : Nat} {F : List PV → Prop} {FS : Nat → List PV → Prop} (h0 : 0 < L.length) (hl : len = L.length) (hF : FS (L.length + L.length) [.dl (L.map (List.map f))]) : muB (dks f m L) id len F FS := by
 simp only [muB, dks]
 exact .inr ⟨L.map (List.map f), by simpa using h0, by simp, by simp, by simpa using hl, by simpa using hF⟩
theorem mu_dks' {α : Type} {f : α → PV} {m : Bool} {L : List (List α)} {id len : Nat} {F : List PV → Prop} {FS : Nat → List PV → Prop} (h0 : 0 < L.length) : muB (dks f m L) id len F FS = (len = L.length ∧ FS (L.length + L.length) [.dl (L.map (List.map f))]) := by
 apply propext; constructor
 ·simp only [muB, dks]
  rintro (⟨rows, h1, h2, h3, h4⟩ | ⟨rows, h5, h1, h2, h3, h4⟩)
  ·exfalso
   have e : (List.replicate L.length none ++ L.map fun l => some (l.map f))[0]? = (rows.map some)[0]? := by rw [h2]
   rw [List.getElem?_append_left (by simpa using h0), List.getElem?_replicate, if_pos h0, List.getElem?_map] at e
   cases hL : rows[0]? <;> rw [hL] at e <;> cases e
  ·have e := congrArg List.length h1
   simp only [canonS, List.length_map, List.length_range] at e
   rw [← e] at h2 h4
   have h6 := List.append_cancel_left h2
   have : rows = L.map (List.map f) := by
    have := congrArg (List.map (fun o : Option (List PV) => o.getD [])) h6
    simpa [Function.comp_def] using this.symm
   subst this
   exact ⟨by rw [h3]; simp, h4⟩
 ·rintro ⟨h1, h2⟩; exact mu_dks h0 h1 h2
theorem ob_dks {α : Type} {f : α → PV} {m : Bool} {L : List (List α)} : outB (some (L.length + L.length)) (some none) (dks f m L) = .dead := outB_shift (by simp)
theorem fl_dks {α : Type} {f : α → PV} {m : Bool} {L : List (List α)} : flg (dks f m L) = m := _root_.id rfl
def srB (P : Program) (b : Blk) (f g : FuncId) (id len : Nat) (C : R → Prop) : Prop :=
 match b with
 | .deep m cs rs => ∃ L : List (List Int), 0 < L.length ∧ L.length ≤ 1048576 ∧ (∀ l ∈ L, l.length ≤ 1048576) ∧ cs = canon L.length ∧ rs = (L.map fun l => some (l.map (PV.int .i64))) ∧ len = L.length ∧
   ∃ srt, SrtD P f g srt ∧ C ⟨.p .any, [(id, .deep m (canonS L.length) (List.replicate L.length none ++ (srt L).map fun l => some (l.map (PV.int .i64))))], [id]⟩
 | _ => False
theorem sr_ref {P : Program} {f g : FuncId} {id len : Nat} {C : R → Prop} {h : Nat → Blk} : inplW P h f [.ref id 0 len, .p (.fn g [] [])] C = srB P (h id) f g id len C := by
 simp only [inplW, srB]; cases h id <;> rfl
def SRk (P : Program) (f g : FuncId) (F : (List (List Int) → List (List Int)) → Prop) : Prop := ∃ srt, SrtD P f g srt ∧ F srt
def SRL (m : Bool) (id : Nat) (L : List (List Int)) (C : R → Prop) (srt : List (List Int) → List (List Int)) : Prop := C ⟨.p .any, [(id, .deep m (canonS L.length) (List.replicate L.length none ++ (srt L).map fun l => some (l.map (PV.int .i64))))], [id]⟩
theorem srl_eq {m : Bool} {id : Nat} {L : List (List Int)} {C : R → Prop} {srt : List (List Int) → List (List Int)} (hl : (srt L).length = L.length) : SRL m id L C srt = C ⟨.p .any, [(id, dks (PV.int .i64) m (srt L))], [id]⟩ := by rw [SRL, dks, hl]
theorem sr_dk {P : Program} {f g : FuncId} {m : Bool} {id len : Nat} {L : List (List Int)} {C : R → Prop} (h0 : 0 < L.length) : srB P (dk (PV.int .i64) m L) f g id len C = (L.length ≤ 1048576 ∧ (∀ l ∈ L, l.length ≤ 1048576) ∧ len = L.length ∧ SRk P f g (SRL m id L C)) := by
 apply propext
 simp only [srB, dk, SRk, SRL]
 constructor
 ·rintro ⟨M, h1, h2, h3, h4, h5, h6, srt, h7, h8⟩
  have : ∀ {A B : List (List Int)}, (A.map fun l => some (l.map (PV.int .i64))) = (B.map fun l => some (l.map (PV.int .i64))) → A = B := by
   intro A
   induction A with
   | nil => intro B h; cases B with
    | nil => rfl
    | cons _ _ => cases h
   | cons a A ih => intro B h; cases B with
    | nil => cases h
    | cons b B =>
     simp only [List.map_cons, List.cons.injEq, Option.some.injEq] at h
     rw [mapI_inj h.1, ih h.2]
  obtain rfl := this h5
  exact ⟨h2, h3, h6, srt, h7, h8⟩
 ·rintro ⟨h2, h3, h6, srt, h7, h8⟩
  exact ⟨L, h0, h2, h3, rfl, rfl, h6, srt, h7, h8⟩
theorem v_callS {P : Program} {f g : FuncId} {srt : List (List Int) → List (List Int)} {F : (List (List Int) → List (List Int)) → Prop} (h : SrtD P f g srt) (k : F srt) : SRk P f g F := ⟨srt, h, k⟩
attribute [go_sem] mu_dks' ob_dks fl_dks sr_ref sr_dk srl_eq
/-- Rows that were put in order, lent and handed back as rows. -/
theorem v_callTs {α : Type} {g : α → PV} {L : List (List α)} {f : FuncId} {c : List PV} {as : List Arg} {os : List (Option (List PV))} {rd : List Nat} {ms : List (Option (Nat × Option Nat))} {id r : Nat}
  (hf : CallT P true f (.mu false c :: as) (none :: os) [.dl (L.map (List.map g))]) (hn : (ms.all Option.isNone) = true) (hid : id ∉ rd)
  (hc : C ⟨.ref k 0 L.length, [(id, outB (some r) (some none) (h id)), (k, dk g (flg (h id)) L)], id :: rd⟩) : Pk P h k f C (.mu false c :: as) rd (some (id, some r) :: ms) := by
 refine v_callM hf hn hid ?_
 simp only [List.getElem?_cons_zero]
 have e1 : impAll k [.dl (L.map (List.map g))] = .ref k 0 L.length := by simp [impAll, imp, imp1]
 have e2 : impWs (true && flg (h id)) k [.dl (L.map (List.map g))] = [(k, dk g (flg (h id)) L)] := by simp [impWs, impW, impW1, dk]
 rw [e1, e2]
 exact hc
/-- Rows lent, handed back as rows. -/
theorem v_callTd {α : Type} {g : α → PV} {L : List (List α)} {f : FuncId} {c : List PV} {as : List Arg} {os : List (Option (List PV))} {rd : List Nat} {ms : List (Option (Nat × Option Nat))} {id : Nat}
  (hf : CallT P true f (.mu false c :: as) (none :: os) [.dl (L.map (List.map g))]) (hn : (ms.all Option.isNone) = true) (hid : id ∉ rd)
  (hc : C ⟨.ref k 0 L.length, [(id, .dead), (k, dk g (flg (h id)) L)], id :: rd⟩) : Pk P h k f C (.mu false c :: as) rd (some (id, none) :: ms) := by
 refine v_callM hf hn hid ?_
 simp only [List.getElem?_cons_zero]
 have e1 : impAll k [.dl (L.map (List.map g))] = .ref k 0 L.length := by simp [impAll, imp, imp1]
 have e2 : impWs (true && flg (h id)) k [.dl (L.map (List.map g))] = [(k, dk g (flg (h id)) L)] := by simp [impWs, impW, impW1, dk]
 rw [e1, e2]
 exact hc
/-- All that was lent is gone, or lies in the results. -/
theorem v_finO {tk : Bool} {as : List Arg} {ts : List Nat} {xs : List PV} {ex : Ex} {os : List (Option (List PV))} (hx : ex = .ret ∨ ex = .normal)
  (ho : (os.all Option.isNone) = true) (hf : fins tk S.h as.length (ts.map S.e) xs F0) : FinM tk as os ts xs ex S := by
 have key : Fin tk S as os (ts.map S.e) xs := by
  unfold Fin
  refine Eq.mp (congrArg (fins tk S.h as.length (ts.map S.e) xs) ?_) hf
  funext L
  simp only [F0]
  apply propext
  constructor
  ·intro h1
   refine ⟨h1, fun j hj => ?_⟩
   split
   ·rename_i c0 _ hc0
    have := List.all_eq_true.1 ho _ (List.mem_of_getElem? hc0)
    simp at this
   ·trivial
  ·exact fun h => h.1
 rcases hx with rfl | rfl <;> exact key
/-! ### a row, held in a slot -/
/-- A row of the slice in another slot. -/
def InnL (v w : AV) (r len : Nat) : Prop :=
 match v, w with
 | .inn id r' 0 len', .ref id' _ _ => id = id' ∧ r' = r ∧ len' = len
 | _, _ => False
theorem InnL.out {v w : AV} {r len i o l : Nat} (hv : InnL v w r len) (e : w = .ref i o l) : v = .inn i r 0 len := by
 subst e
 unfold InnL at hv
 split at hv
 ·rename_i e; cases e; obtain ⟨rfl, rfl, rfl⟩ := hv; rfl
 ·exact hv.elim
theorem inn_eq {id id' r r' len len' o l : Nat} : InnL (.inn id r' 0 len') (.ref id' o l) r len = (id = id' ∧ r' = r ∧ len' = len) := _root_.id rfl
/-! ### rows that change places -/
variable {α : Type} {f : α → PV} {m : Bool} {L : List (List α)} {cs : List Nat}
/-- A slice of slices whose cells name rows: which ones. -/
def dq (f : α → PV) (m : Bool) (cs : List Nat) (L : List (List α)) : Blk := .deep m (cs.map .row) (L.map fun l => some (l.map f))
theorem dk_dq : dk f m L = dq f m (List.range L.length) L := _root_.id rfl
theorem ld_dq {id off : Nat} : ldB (dq f m cs L) id off C = (off < cs.length ∧ C ⟨DC.av id (L.map fun l => some (l.map f)) (.row (cs.getD off 0)), [], [id]⟩) := by
 simp only [ldB, dq, gt, Int.toNat_natCast, Int.natCast_nonneg, true_and, KD, List.getElem?_map]
 by_cases ho : off < cs.length
 ·rw [List.getElem?_eq_getElem ho, List.getD_eq_getElem?_getD, List.getElem?_eq_getElem ho]
  simp [ho]
 ·rw [List.getElem?_eq_none (by omega)]; simp [ho]
theorem av_row {id r : Nat} (hr : r < L.length) : DC.av id (L.map fun l => some (l.map f)) (.row r) = .inn id r 0 (L.getD r []).length := by
 simp only [DC.av, row_get hr, List.length_map]
theorem in_dq {id r off len : Nat} {F : PV → List Nat → Prop} : inG (dq f m cs L) id r off len F = (r < L.length ∧ off + len ≤ (L.getD r []).length ∧ F (.sl (.lent true) ((((L.getD r []).map f).drop off).take len)) [id]) := by
 simp only [inG, dq]
 by_cases hr : r < L.length
 ·rw [row_get hr]; simp only [hr, true_and, List.length_map]; rfl
 ·rw [List.getElem?_eq_none (by simp; omega)]; simp [hr]
/-- A store of one of the block's own rows. -/
def stQ (b : Blk) (id off j r len : Nat) (C : R → Prop) : Prop :=
 match b with
 | .deep m cs rs => j = id ∧ off < cs.length ∧ (match rs[r]? with
  | some (some c) => len = c.length ∧ C ⟨.p .any, [(id, .deep m (cs.set off (.row r)) rs)], [id]⟩
  | _ => False)
 | _ => False
theorem v_stq {id off j r len : Nat} (hq : stQ (h id) id off j r len C) : stG (some (1, false)) h (.ptr id off) (.inn j r 0 len) C := by
 unfold stQ at hq
 simp only [stG]
 split at hq
 ·rename_i m cs rs hb
  obtain ⟨rfl, ho, hq⟩ := hq
  rw [hb]
  simp only [agAVs, mvsW, mvW, if_true, true_and]
  split at hq
  ·rename_i c hr
   rw [hr]
   obtain ⟨h1, h2⟩ := hq
   refine ⟨h1, (by first | rfl | omega | (simp; done) | (simp; omega)), (by first | rfl | omega | (simp; done) | (simp; omega)), ?_⟩
   have e := set_cut (v := DC.row r) ho
   simpa only [List.nil_append, List.append_nil, e] using h2
  ·exact hq.elim
 ·exact hq.elim
theorem stq_dq {id off j r len : Nat} : stQ (dq f m cs L) id off j r len C = (j = id ∧ off < cs.length ∧ r < L.length ∧ len = (L.getD r []).length ∧ C ⟨.p .any, [(id, dq f m (cs.set off r) L)], [id]⟩) := by
 simp only [stQ, dq, List.length_map]
 by_cases hr : r < L.length
 ·rw [row_get hr]
  simp only [hr, true_and, List.length_map, List.map_set]
 ·rw [List.getElem?_eq_none (by simp; omega)]; simp [hr]
/-- The rows that are left behind. -/
def dqc (f : α → PV) (m : Bool) (cs : List Nat) (z : Nat) (L : List (List α)) : Blk := .deep m (cs.map .row ++ List.replicate z (.v (.sl .own []))) (L.map fun l => some (l.map f))
theorem cl_dq {q id off len : Nat} : clB (some (q, .sl (.lent false) [])) (dq f m cs L) id off len C = (off + len ≤ cs.length ∧ C ⟨.p .any, [(id, .deep m ((cs.map .row).take off ++ List.replicate len (.v (.sl .own [])) ++ (cs.map .row).drop (off + len)) (L.map fun l => some (l.map f)))], [id]⟩) := by
 simp only [clB, dq, List.length_map, Fl.lent, cond_false, true_and]
theorem dqc_eq {off len : Nat} (he : off + len = cs.length) : Blk.deep m ((cs.map .row).take off ++ List.replicate len (.v (.sl .own [])) ++ (cs.map .row).drop (off + len)) (L.map fun l => some (l.map f)) = dqc f m (cs.take off) len L := by
 rw [List.drop_of_length_le (by simp; omega), List.append_nil, ← List.map_take]; rfl
theorem fd_dqc {F : List (Nat × Nat × Pl) → Prop} {tk : Bool} {id z : Nat} {rows : List (List PV)} (hm : m = true → tk = true) (hc : ∀ r ∈ cs, r < L.length) (hn : cs.Nodup) (hr : rows = (cs.map fun r => (L.getD r []).map f)) (hF : F [(k, id, .d 0 (cs.map some))]) : fdB (dqc f m cs z L) tk k id 0 cs.length rows F := by
 simp only [fdB, dqc, Nat.zero_add, List.drop_zero, List.length_append, List.length_map, List.length_replicate]
 refine ⟨by omega, hm, cs.map some, ?_, ?_, hF⟩
 ·rw [List.take_append_of_le_length (by simp), List.take_of_length_le (by simp)]
  subst hr
  refine selD_rows (fun i hi => ⟨cs[i], List.getElem?_eq_getElem hi, ?_⟩) (by simp)
  rw [row_get (hc _ (List.getElem_mem hi)), List.getElem?_map, List.getElem?_eq_getElem hi]; rfl
 ·rw [List.filterMap_map]
  simpa [Function.comp_def] using hn
end
/-- Rows lent, handed back. -/
def FT (_ : List (Nat × Nat × Pl)) : Prop := True
theorem ft_dl {h : Nat → Blk} {k id off len : Nat} {rows : List (List PV)} : fins true h k [.ref id off len] [.dl rows] F0 = fdB (h id) true k id off len rows FT := by
 simp only [fins, fin, fin1, fdB]
 cases h id with
 | deep m cs rs => simp [F0, FT]
 | _ => rfl
theorem ft_eq {L : List (Nat × Nat × Pl)} : FT L = True := _root_.id rfl
theorem fl_dq {α : Type} {f : α → PV} {m : Bool} {cs : List Nat} {L : List (List α)} : flg (dq f m cs L) = m := _root_.id rfl
attribute [go_sem] pn_nil pn_all pn_eq ft_dl ft_eq fl_dq pa_p pa_ref pa_inn pap_eq paf_eq inn_eq ld_dq in_dq stq_dq cl_dq
end Go.Gl
set_option linter.unusedSimpArgs false
set_option linter.unusedVariables false
namespace Go.Gl
open Go
variable [Amb]
/-- A goal and what it comes to. -/
class Stp (A : Prop) (B : outParam Prop) : Prop where
 h : B → A
theorem stp {A B : Prop} [s : Stp A B] (h : B) : A := s.h h
class FinX (ex : Ex) : Prop where
 h : ex = .ret ∨ ex = .normal
instance : FinX .ret := ⟨.inl rfl⟩
instance : FinX .normal := ⟨.inr rfl⟩
section
variable {P : Program} {sg : FuncId → List Bool} {Q : Ex → St → Prop} {S : St}
instance {a b : Code} : Stp (wpv P sg (.seq a b) Q S) (wpv P sg a (seqQ P sg b Q) S) := ⟨v_seq⟩
instance : Stp (wpv P sg .skip Q S) (Q .normal S) := ⟨v_skip⟩
instance {id : Nat} : Stp (wpv P sg (.exit id) Q S) (Q (.exit id) S) := ⟨v_exit⟩
instance : Stp (wpv P sg .ret Q S) (Q .ret S) := ⟨v_ret⟩
instance {id : Nat} {c : Code} : Stp (wpv P sg (.block id c) Q S) (wpv P sg c (blkQ id Q) S) := ⟨v_block⟩
instance {b : Code} : Stp (seqQ P sg b Q .normal S) (wpv P sg b Q S) := ⟨q_seq_n⟩
instance {b : Code} {id : Nat} : Stp (seqQ P sg b Q (.exit id) S) (Q (.exit id) S) := ⟨q_seq_e⟩
instance {b : Code} : Stp (seqQ P sg b Q .ret S) (Q .ret S) := ⟨q_seq_r⟩
instance {id : Nat} : Stp (blkQ id Q .normal S) (Q .normal S) := ⟨q_blk_n⟩
instance {id : Nat} : Stp (blkQ id Q .ret S) (Q .ret S) := ⟨q_blk_r⟩
instance {id : Nat} : Stp (blkQ id Q (.exit id) S) (Q .normal S) := ⟨q_blk_s⟩
instance {I : Nat → St → Prop} {n id : Nat} : Stp (lpQ I n Q (.exit id) S) (Q (.exit id) S) := ⟨q_lp_e⟩
instance {I : Nat → St → Prop} {n : Nat} : Stp (lpQ I n Q .ret S) (Q .ret S) := ⟨q_lp_r⟩
instance {i o l l' : Nat} : Stp (AV.ref i o l = AV.ref i o l') (l = l') := ⟨ref_eq⟩
instance {m : Bool} {α : Type} {f : α → PV} {l l' : List α} : Stp (Blk.live m (l.map f) = Blk.live m (l'.map f)) (l = l') := ⟨live_eq⟩
instance {kd : IntKind} {a b : Int} : Stp (AV.p (.int kd a) = AV.p (.int kd b)) (a = b) := ⟨int_eq⟩
instance {a b : Bool} : Stp (AV.p (.bool a) = AV.p (.bool b)) (a = b) := ⟨bool_eq⟩
instance {a b : List UInt8} : Stp (AV.p (.str a) = AV.p (.str b)) (a = b) := ⟨str_eq⟩
instance {o : Fl} {α : Type} {f : α → PV} {l l' : List α} : Stp (AV.p (.sl o (l.map f)) = AV.p (.sl o (l'.map f))) (l = l') := ⟨sl_eq⟩
instance {α : Type} {f : α → PV} {l l' : List α} : Stp (l.map f = l'.map f) (l = l') := ⟨mp_eq⟩
instance {α : Type} {f : α → PV} {m : Bool} {L L' : List (List α)} : Stp (dk f m L = dk f m L') (L = L') := ⟨dk_eq⟩
theorem v_fin1 {as : List Arg} {xs : List PV} {ts : List Nat} {ex : Ex} [x : FinX ex] (hf : fins false S.h as.length (ts.map S.e) xs F0) : FinE as ts xs ex S := v_fin x.h hf
theorem v_finC1 {as : List Arg} {t ty : Nat} {xs : List PV} {ex : Ex} [x : FinX ex] (hf : loadW P ty S.h (S.e t) (FC S as xs)) : FinR P as [.cell t ty] xs ex S := v_finC x.h hf
theorem v_finO1 {tk : Bool} {as : List Arg} {ts : List Nat} {xs : List PV} {ex : Ex} {os : List (Option (List PV))} [x : FinX ex] (ho : (os.all Option.isNone) = true) (hf : fins tk S.h as.length (ts.map S.e) xs F0) : FinM tk as os ts xs ex S := v_finO x.h ho hf
theorem v_finN1 {tk : Bool} {c c' : List PV} {as : List Arg} {ts : List Nat} {xs : List PV} {ex : Ex} {p : Bool} {os : List (Option (List PV))} [x : FinX ex] (ho : (os.all Option.isNone) = true) (hl : S.h 0 = mkB true c') (hf : fins tk S.h (as.length + 1) (ts.map S.e) xs F1) : FinM tk (.mu p c :: as) (some c' :: os) ts xs ex S := v_finN x.h ho hl hf
theorem v_finT1 {c : List PV} {as : List Arg} {ts : List Nat} {xs : List PV} {ex : Ex} {p : Bool} {os : List (Option (List PV))} [x : FinX ex] (ho : (os.all Option.isNone) = true) (hf : fins true S.h (as.length + 1) (ts.map S.e) xs F0) : FinM true (.mu p c :: as) os ts xs ex S := v_finT x.h ho hf
end
/-- What a branch is told, in plain words. -/
theorem hcs : (∀ (p : Prop) [Decidable p], (decide p = true) = p) ∧ (∀ (p : Prop) [Decidable p], (decide p = false) = ¬ p) ∧ (∀ a b : Bool, ((a && b) = true) = (a = true ∧ b = true)) ∧ (∀ a b : Bool, ((a || b) = true) = (a = true ∨ b = true)) ∧
  (∀ a b : Bool, ((a && b) = false) = (a = false ∨ b = false)) ∧ (∀ a b : Bool, ((a || b) = false) = (a = false ∧ b = false)) ∧ (∀ a : Bool, ((!a) = true) = (a = false)) ∧ (∀ a : Bool, ((!a) = false) = (a = true)) ∧ (∀ a b : Int, (¬ a < b) = (b ≤ a)) ∧ (∀ a b : Int, (¬ a ≤ b) = (b < a)) :=
 ⟨fun p _ => by simp, fun p _ => by simp, fun a b => by simp, fun a b => by simp, fun a b => by cases a <;> simp, fun a b => by simp, fun a => by simp, fun a => by simp, fun a b => by simp, fun a b => by simp⟩
/-- Lengths. -/
theorem lnA : (∀ (α : Type) (a b : List α), (a ++ b).length = a.length + b.length) ∧ (∀ (α : Type) (x : α) (l : List α), (x :: l).length = l.length + 1) ∧ (∀ α : Type, ([] : List α).length = 0) ∧ (∀ (α : Type) (l : List α) (i : Nat) (x : α), (l.set i x).length = l.length) ∧
  (∀ (α : Type) (l : List α) (i : Nat), (l.take i).length = min i l.length) ∧ (∀ (α : Type) (l : List α) (i : Nat), (l.drop i).length = l.length - i) ∧ (∀ (α β : Type) (f : α → β) (l : List α), (l.map f).length = l.length) ∧ (∀ (α : Type) (n : Nat) (x : α), (List.replicate n x).length = n) :=
 ⟨fun _ _ _ => by simp, fun _ _ _ => by simp, fun _ => by simp, fun _ _ _ _ => by simp, fun _ _ _ => by simp, fun _ _ _ => by simp, fun _ _ _ _ => by simp, fun _ _ _ => by simp⟩
theorem nrs : noRoLL [] = true ∧ noRoL [] = true ∧ (∀ x xs, noRoL (x :: xs) = (noRo x && noRoL xs)) := ⟨rfl, rfl, fun _ _ => rfl⟩
attribute [go_sem] nrs Option.all_some Option.all_none Bool.and_self nrA_int nrA_nl nrA_bool nrA_str nrA_own nrA_lent nrA_agg nrL_int nrL_str nrL_bool nrL_u8 nrL_frI nrL_frS nr_dl nrLLI nrLLS
end Go.Gl
set_option linter.unusedSimpArgs false
set_option linter.unusedVariables false
namespace Go.Gl
open Go
variable [Amb]
section
variable {P : Program} {sg : FuncId → List Bool} {h : Nat → Blk} {k : Nat} {ρ : Operand → AV} {C : R → Prop} {t t' : TypeId} {x y : Operand}
variable {m : Bool} {cs : List DC} {rs : List (Option (List PV))}
def bldN : List (Nat × Operand) → Option (List Nat) → Bool := fun ps q => decide (ps.length < (q.getD []).length)
theorem n_bld {n zz : Bool} {parts : Array (Nat × Operand)} : isN P n true zz (.build t parts) = bldN parts.toList (placesT P t) := by simp [isN, bldN]
theorem bn_c {p : Nat × Operand} {ps : List (Nat × Operand)} {y : Nat} {ys : List Nat} : bldN (p :: ps) (some (y :: ys)) = bldN ps (some ys) := by simp [bldN]
theorem bn_0 {y : Nat} {ys : List Nat} : bldN [] (some (y :: ys)) = true := by simp [bldN]
theorem bn_n {ps : List (Nat × Operand)} : bldN ps (some []) = false := by simp [bldN]
def agG (s : Option (Nat × Bool)) : Bool := match s with | some (_, true) => true | _ => false
theorem ag_eq : aggT P t = agG (szT P t) := _root_.id rfl
theorem ag_t {n : Nat} : agG (some (n, true)) = true := _root_.id rfl
theorem ag_f {n : Nat} : agG (some (n, false)) = false := _root_.id rfl
theorem w_alD : opN P ρ h k (.alloc t) C = allocD P t k C := _root_.id rfl
theorem w_bxD : opN P ρ h k (.box t x) C = boxD h k (ρ x) C := _root_.id rfl
theorem w_blN {parts : Array (Nat × Operand)} : opN P ρ h k (.build t parts) C = buildN P t (parts.toList.map fun p => (p.1, ρ p.2)) k C := _root_.id rfl
def alD (s : Option (List PV)) (k : Nat) (C : R → Prop) : Prop :=
 match s with
 | some xs => xs ≠ [] ∧ xs.length ≤ 1000000 ∧ xs.all isNilP = true ∧ C ⟨.ptr k 0, [(k, .deep false (xs.map fun _ => .v (.sl .own [])) [])], []⟩
 | none => False
theorem aD_eq : allocD P t k C = alD (zeroT P t) k C := _root_.id rfl
theorem aD_2 : alD (some [.sl (.lent false) [], .sl (.lent false) []]) k C = C ⟨.ptr k 0, [(k, .deep false [.v (.sl .own []), .v (.sl .own [])] [])], []⟩ := by simp [alD, isNilP, Fl.lent]
theorem aD_3 : alD (some [.sl (.lent false) [], .sl (.lent false) [], .sl (.lent false) []]) k C = C ⟨.ptr k 0, [(k, .deep false [.v (.sl .own []), .v (.sl .own []), .v (.sl .own [])] [])], []⟩ := by simp [alD, isNilP, Fl.lent]
def nilsG (p : Option (List Nat)) (z : Option (List PV)) : Option (List Nat × Nat) :=
 match p, z with
 | some places, some zs => if zs.all isNilP = true then some (places, zs.length) else none
 | _, _ => none
def blG (s : Option (List Nat × Nat)) (parts : List (Nat × AV)) (k : Nat) (K : R → Prop) : Prop :=
 match s with
 | some (places, n) => n ≤ 64 ∧ fillW places ((List.range n).map fun i => .ref (k + i) 0 0) parts fun cs => K ⟨.agg cs, nilWs k n, []⟩
 | none => False
theorem bl_N {parts : List (Nat × AV)} : buildN P t parts k C = blG (nilsG (placesT P t) (zeroT P t)) parts k C := _root_.id rfl
theorem ng_2 {pl : List Nat} : nilsG (some pl) (some [.sl (.lent false) [], .sl (.lent false) []]) = some (pl, 2) := by simp [nilsG, isNilP, Fl.lent]
theorem ng_3 {pl : List Nat} : nilsG (some pl) (some [.sl (.lent false) [], .sl (.lent false) [], .sl (.lent false) []]) = some (pl, 3) := by simp [nilsG, isNilP, Fl.lent]
def FN (ws : List (Nat × Blk)) (C : R → Prop) (cs : List AV) : Prop := C ⟨.agg cs, ws, []⟩
theorem fn_eq {ws : List (Nat × Blk)} {cs : List AV} : FN ws C cs = C ⟨.agg cs, ws, []⟩ := _root_.id rfl
theorem bg_2 {pl : List Nat} {parts : List (Nat × AV)} : blG (some (pl, 2)) parts k C = fillW pl [.ref k 0 0, .ref (k + 1) 0 0] parts (FN [(k, .live false []), (k + 1, .live false [])] C) := by
 simp [blG, nilWs, List.range_succ, FN]; rfl
theorem bg_3 {pl : List Nat} {parts : List (Nat × AV)} : blG (some (pl, 3)) parts k C = fillW pl [.ref k 0 0, .ref (k + 1) 0 0, .ref (k + 2) 0 0] parts (FN [(k, .live false []), (k + 1, .live false []), (k + 2, .live false [])] C) := by
 simp [blG, nilWs, List.range_succ, FN]; rfl
/-! ### loads and stores -/
theorem ld_adeep {id off n : Nat} : ldA (.deep m cs rs) id off n C = (off + n ≤ cs.length ∧ C ⟨.agg (((cs.drop off).take n).map (DC.av id rs)), [], [id]⟩) := _root_.id rfl
theorem sta_deep {n id off : Nat} {v : AV} : stA (.deep m cs rs) h n id off v C = mvsW h m id (agAVs v) rs (STD m n id off cs C) := _root_.id rfl
theorem std_eq {n id off : Nat} {xs : List DC} {ws : List (Nat × Blk)} {rd : List Nat} : STD m n id off cs C xs rs ws rd = (xs.length = n ∧ off + n ≤ cs.length ∧ C ⟨.p .any, ws ++ [(id, .deep m (cs.take off ++ xs ++ cs.drop (off + n)) rs)], id :: rd⟩) := _root_.id rfl
theorem aga_agg {vs : List AV} : agAVs (.agg vs) = vs := _root_.id rfl
theorem aga_p {xs : List PV} : agAVs (.p (.agg xs)) = xs.map .p := _root_.id rfl
def avO (id r : Nat) : Option (Option (List PV)) → AV
 | some (some c) => .inn id r 0 c.length
 | _ => .p .any
theorem av_v {id : Nat} {v : PV} : DC.av id rs (.v v) = .p v := _root_.id rfl
theorem av_r {id r : Nat} : DC.av id rs (.row r) = avO id r rs[r]? := by
 simp only [DC.av, avO]
 cases rs[r]? with
 | none => rfl
 | some o => cases o <;> rfl
theorem avO_eq {id r : Nat} {c : List PV} : avO id r (some (some c)) = .inn id r 0 c.length := _root_.id rfl
theorem m_deep {id off : Nat} : ldB (.deep m cs rs) id off C = gt cs off (fun x => C ⟨x.av id rs, [], [id]⟩) := _root_.id rfl
theorem gt_c0 {α : Type} {a : α} {l : List α} {K : α → Prop} : gt (a :: l) 0 K = K a := by simp [gt]
theorem gt_c1 {α : Type} {a b : α} {l : List α} {K : α → Prop} : gt (a :: b :: l) 1 K = K b := by simp [gt]
theorem gt_c2 {α : Type} {a b c : α} {l : List α} {K : α → Prop} : gt (a :: b :: c :: l) 2 K = K c := by simp [gt]
/-! ### append -/
def apO (o : Option (Option (List PV))) (id r len k : Nat) (m : Bool) (cs : List DC) (rs : List (Option (List PV))) (C : R → Prop) (ys : List PV) (rd : List Nat) : Prop :=
 match o with
 | some (some c) => len = c.length ∧ id ∉ rd ∧ len + ys.length ≤ 1099511627776 ∧ C ⟨.ref k 0 (len + ys.length), [(id, .deep m cs (rs.set r none)), (k, .live m (c ++ ys))], id :: rd⟩
 | _ => False
theorem api_deep {id r len : Nat} {ys : List PV} {rd : List Nat} : apI (.deep m cs rs) id r len k C ys rd = apO rs[r]? id r len k m cs rs C ys rd := _root_.id rfl
theorem apO_eq {id r len : Nat} {c ys : List PV} {rd : List Nat} : apO (some (some c)) id r len k m cs rs C ys rd = (len = c.length ∧ id ∉ rd ∧ len + ys.length ≤ 1099511627776 ∧ C ⟨.ref k 0 (len + ys.length), [(id, .deep m cs (rs.set r none)), (k, .live m (c ++ ys))], id :: rd⟩) := _root_.id rfl
/-! ### rows found again -/
variable {α : Type} {l : List α} {a b : α} {i j : Nat}
theorem g_new : (l ++ [a])[l.length]? = some a := by simp
theorem g_old (hi : i < l.length) : (l ++ [a])[i]? = l[i]? := List.getElem?_append_left hi
theorem g_set (hn : (i = j) = False) : (l.set i a)[j]? = l[j]? := by rw [List.getElem?_set_ne (fun e => by rw [hn] at e; exact e)]
theorem g_oldS (hi : i < l.length) : (l.set j b ++ [a])[i]? = (l.set j b)[i]? := List.getElem?_append_left (by simpa using hi)
theorem g_newS (hn : (l.set i b).length = j) : (l.set i b ++ [a])[j]? = some a := by subst hn; simp
/-! ### results -/
variable {F : List (Nat × Nat × Pl) → Prop}
def fiI (o : Option (Option (List PV))) (k id r len : Nat) (ys : List PV) (F : List (Nat × Nat × Pl) → Prop) : Prop :=
 match o with
 | some (some c) => len ≤ c.length ∧ c.take len = ys ∧ F [(k, id, .n (some r))]
 | _ => False
def fiJ (b : Blk) (k id r len : Nat) (ys : List PV) (F : List (Nat × Nat × Pl) → Prop) : Prop :=
 match b with
 | .deep false _ rs => fiI rs[r]? k id r len ys F
 | _ => False
theorem f1_fri {id r len : Nat} {xs : List PV} : fin1 false h k (.inn id r 0 len) (.sl (.lent false) xs) F = fiJ (h id) k id r len xs F := by
 show fin1 false h k (.inn id r 0 len) (.sl .fr xs) F = _
 simp only [fin1, fiJ]
 cases h id with
 | deep m cs rs =>
  cases m
  ·simp only [fiI]; cases rs[r]? with
   | none => rfl
   | some o => cases o <;> simp
  ·rfl
 | _ => rfl
theorem fij_deep {id r len : Nat} {xs : List PV} : fiJ (.deep false cs rs) k id r len xs F = fiI rs[r]? k id r len xs F := _root_.id rfl
theorem fii_eq {id r len : Nat} {c xs : List PV} : fiI (some (some c)) k id r len xs F = (len ≤ c.length ∧ c.take len = xs ∧ F [(k, id, .n (some r))]) := _root_.id rfl
def fiN (b : Blk) (tk : Bool) (k id r len : Nat) (ys : List PV) (F : List (Nat × Nat × Pl) → Prop) : Prop :=
 match b with
 | .deep m _ rs => (match rs[r]? with
  | some (some c) => len ≤ c.length ∧ (m = true → tk = true) ∧ c.take len = ys ∧ F [(k, id, .i r 0)]
  | _ => False)
 | _ => False
theorem f1_inn {tk : Bool} {id r len : Nat} {xs : List PV} : fin1 tk h k (.inn id r 0 len) (.sl .own xs) F = fiN (h id) tk k id r len xs F := by
 simp only [fin1, fiN, Nat.zero_add, List.drop_zero]
 cases h id with
 | deep m cs rs => simp only []; cases rs[r]? with
  | none => rfl
  | some o => cases o <;> rfl
 | _ => rfl
theorem f_inn {tk : Bool} {id r len : Nat} {xs : List PV} : fin tk h k (.inn id r 0 len) (.sl .own xs) F = fiN (h id) tk k id r len xs F := f1_inn
theorem fiN_dk {α : Type} {f : α → PV} {L : List (List α)} {tk : Bool} {id r len : Nat} {xs : List PV} : fiN (dk f false L) tk k id r len xs F = (r < L.length ∧ len ≤ (L.getD r []).length ∧ ((L.getD r []).map f).take len = xs ∧ F [(k, id, .i r 0)]) := by
 simp only [fiN, dk]
 by_cases hr : r < L.length
 ·rw [row_get hr]; simp [hr]
 ·rw [List.getElem?_eq_none (by simp; omega)]; simp [hr]
def FR (S : St) (as : List Arg) (res : List PV) (vs : List AV) : Prop := fins false S.h as.length vs res F0
theorem v_finR1 {as : List Arg} {rs : List ResultVar} {xs : List PV} {ex : Ex} {S : St} [x : FinX ex] (hf : resW P S rs (FR S as xs)) : FinR P as rs xs ex S := by
 have key : resW P S rs fun vs => Fin false S as [] vs xs := by
  have e : FR S as xs = fun vs => Fin false S as [] vs xs := by
   funext vs
   unfold FR Fin
   refine congrArg (fins false S.h as.length vs xs) ?_
   funext L
   simp only [F0]
   apply propext
   constructor
   ·intro h; refine ⟨h, fun j _ => ?_⟩
    split
    ·rename_i h; simp at h
    ·trivial
   ·intro h; exact h.1
  rw [← e]; exact hf
 rcases x.h with rfl | rfl <;> exact key
theorem fr_eq {S : St} {as : List Arg} {res : List PV} {vs : List AV} : FR S as res vs = fins false S.h as.length vs res F0 := _root_.id rfl
def RWK (K : List AV → Prop) (v : AV) (vs : List AV) : Prop := K (v :: vs)
def RWC (P : Program) (S : St) (rs : List ResultVar) (K : List AV → Prop) (r : R) : Prop := resW P S rs (RWK K r.v)
theorem rw_nil {S : St} {K : List AV → Prop} : resW P S [] K = K [] := _root_.id rfl
theorem rw_tmp {S : St} {t : Nat} {rs : List ResultVar} {K : List AV → Prop} : resW P S (.tmp t :: rs) K = resW P S rs (RWK K (S.e t)) := _root_.id rfl
theorem rw_cell {S : St} {t ty : Nat} {rs : List ResultVar} {K : List AV → Prop} : resW P S (.cell t ty :: rs) K = loadW P ty S.h (S.e t) (RWC P S rs K) := _root_.id rfl
theorem rwk_eq {K : List AV → Prop} {v : AV} {vs : List AV} : RWK K v vs = K (v :: vs) := _root_.id rfl
theorem rwc_eq {S : St} {rs : List ResultVar} {K : List AV → Prop} {r : R} : RWC P S rs K r = resW P S rs (RWK K r.v) := _root_.id rfl
/-! ### a struct of two slices in a loop -/
def D2B (b : Blk) (p q : List PV) : Prop := ∃ r0 r1 rs, b = .deep false [.row r0, .row r1] rs ∧ r0 ≠ r1 ∧ rs[r0]? = some (some p) ∧ rs[r1]? = some (some q)
def Dst2 (v : AV) (h : Nat → Blk) (n : Nat) (p q : List PV) : Prop :=
 match v with
 | .ptr id 0 => D2B (h id) p q ∧ id < n
 | _ => False
theorem Dst2.out {v : AV} {n : Nat} {p q : List PV} (hd : Dst2 v h n p q) : ∃ id r0 r1 rs, v = .ptr id 0 ∧ h id = .deep false [.row r0, .row r1] rs ∧ id < n ∧ (r0 = r1) = False ∧ (r1 = r0) = False ∧ rs[r0]? = some (some p) ∧ rs[r1]? = some (some q) ∧ r0 < rs.length ∧ r1 < rs.length ∧
  (r0 = rs.length) = False ∧ (r1 = rs.length) = False ∧ (rs.length = r0) = False ∧ (rs.length = r1) = False := by
 unfold Dst2 at hd
 split at hd
 ·obtain ⟨⟨r0, r1, rs, h1, h2, h3, h4⟩, h5⟩ := hd
  have l0 := (List.getElem?_eq_some_iff.1 h3).1
  have l1 := (List.getElem?_eq_some_iff.1 h4).1
  exact ⟨_, r0, r1, rs, rfl, h1, h5, eq_false h2, eq_false (Ne.symm h2), h3, h4, l0, l1, eq_false (by omega), eq_false (by omega), eq_false (by omega), eq_false (by omega)⟩
 ·exact hd.elim
theorem d2_ptr {id n : Nat} {p q : List PV} : Dst2 (.ptr id 0) h n p q = (D2B (h id) p q ∧ id < n) := _root_.id rfl
theorem d2_eq {p q : List PV} {r0 r1 : Nat} : D2B (.deep false [.row r0, .row r1] rs) p q = (r0 ≠ r1 ∧ rs[r0]? = some (some p) ∧ rs[r1]? = some (some q)) := by
 apply propext; constructor
 ·rintro ⟨a, b, rs', e, h⟩; cases e; exact h
 ·exact fun h => ⟨r0, r1, rs, rfl, h⟩
/-- A pointer's block, as a slice of it. -/
def asR : AV → AV
 | .ptr id _ => .ref id 0 0
 | .mp id => .ref id 0 0
 | .prs id _ => .ref id 0 0
 | v => v
theorem asR_ptr {id o : Nat} : asR (.ptr id o) = .ref id 0 0 := _root_.id rfl
theorem asR_eq {v : AV} {id o : Nat} (e : v = .ptr id o) : asR v = .ref id 0 0 := by subst e; rfl
/-- A pointer to a block of which all is told. -/
def PtrL (v : AV) (h : Nat → Blk) (n : Nat) (b : Blk) : Prop :=
 match v with
 | .ptr id 0 => h id = b ∧ id < n
 | _ => False
theorem PtrL.out {v : AV} {n : Nat} {b : Blk} (hd : PtrL v h n b) : ∃ id, v = .ptr id 0 ∧ h id = b ∧ id < n := by
 unfold PtrL at hd
 split at hd
 ·exact ⟨_, rfl, hd⟩
 ·exact hd.elim
theorem pl_ptr {id n : Nat} {b : Blk} : PtrL (.ptr id 0) h n b = (h id = b ∧ id < n) := _root_.id rfl
/-- A slice of elements of two cells. -/
def PrsL (v : AV) (h : Nat → Blk) (n len : Nat) (xs : List PV) : Prop :=
 match v with
 | .prs id l => l = len ∧ h id = .live false xs ∧ id < n
 | _ => False
theorem PrsL.out {v : AV} {n len : Nat} {xs : List PV} (hd : PrsL v h n len xs) : ∃ id, v = .prs id len ∧ h id = .live false xs ∧ id < n := by
 unfold PrsL at hd
 split at hd
 ·obtain ⟨rfl, h1, h2⟩ := hd; exact ⟨_, rfl, h1, h2⟩
 ·exact hd.elim
theorem pl_prs {id n l len : Nat} {xs : List PV} : PrsL (.prs id l) h n len xs = (l = len ∧ h id = .live false xs ∧ id < n) := _root_.id rfl
theorem asR_prs {id o : Nat} : asR (.prs id o) = .ref id 0 0 := _root_.id rfl
theorem asR_ep {v : AV} {id o : Nat} (e : v = .prs id o) : asR v = .ref id 0 0 := by subst e; rfl
theorem some_eq {a b : List PV} (e : a = b) : (some (some a)) = some (some b) := by rw [e]
end
attribute [go_sem ↓] w_alD w_bxD w_blN
attribute [go_sem] pl_prs asR_prs
attribute [go_sem] ag_eq ag_t ag_f n_bld bn_c bn_0 bn_n aD_eq aD_2 aD_3 bl_N ng_2 ng_3 bg_2 bg_3 fn_eq ld_adeep sta_deep std_eq aga_agg aga_p av_v av_r avO_eq m_deep gt_c0 gt_c1 gt_c2 api_deep apO_eq g_new g_old g_set g_oldS g_newS f1_fri fij_deep fii_eq f1_inn f_inn fiN_dk d2_ptr d2_eq asR_ptr pl_ptr fr_eq rw_nil rw_tmp rw_cell rwk_eq rwc_eq
end Go.Gl
set_option linter.unusedSimpArgs false
set_option linter.unusedVariables false
namespace Go.Gl
open Go
variable [Amb]
section
variable {P : Program} {sg : FuncId → List Bool} {h : Nat → Blk} {k : Nat} {ρ : Operand → AV} {C : R → Prop} {t : TypeId} {x y z : Operand}
variable {m : Bool} {kt : TypeId} {es : List (PV × PV)} {q q' w : PV} {id : Nat} {v : AV}
theorem w_mkm {r : Option Operand} : opB P sg ρ h k (.makeMap t r) C = makeMapW P t r k C := _root_.id rfl
theorem w_lk {c : Bool} : opB P sg ρ h k (.lookup t x y c) C = lookupW P t h (ρ x) (ρ y) c C := _root_.id rfl
theorem w_mup : opB P sg ρ h k (.mapUpdate t x y z) C = updateW P t h (ρ x) (ρ y) (ρ z) C := _root_.id rfl
theorem w_ins : opB P sg ρ h k (.insert t x y z) C = updateW P t h (ρ x) (ρ y) (ρ z) C := _root_.id rfl
theorem n_mkm {n s zz : Bool} {r : Option Operand} : isN P n s zz (.makeMap t r) = false := _root_.id rfl
theorem n_lk {n s zz c : Bool} : isN P n s zz (.lookup t x y c) = false := _root_.id rfl
theorem n_mup {n s zz : Bool} : isN P n s zz (.mapUpdate t x y z) = false := _root_.id rfl
theorem n_ins {n s zz : Bool} : isN P n s zz (.insert t x y z) = false := _root_.id rfl
theorem ix_mkm {r : Option Operand} : isX (.makeMap t r) = false := _root_.id rfl
theorem ix_lk {c : Bool} : isX (.lookup t x y c) = false := _root_.id rfl
theorem ix_mup : isX (.mapUpdate t x y z) = false := _root_.id rfl
theorem ix_ins : isX (.insert t x y z) = false := _root_.id rfl
theorem ar_mp : arr k (.mp id) C = C ⟨.mp id, [], []⟩ := _root_.id rfl
def mmG (P : Program) (s : Option (TypeId × PV)) (k : Nat) (C : R → Prop) : Prop :=
 match s with
 | some (kt, _) => C ⟨.mp k, [(k, .map false (kOf P kt) [])], []⟩
 | none => False
theorem mkm_eq : makeMapW P t none k C = mmG P (mapT P t) k C := by
 simp only [makeMapW, mmG, true_and]; cases mapT P t <;> rfl
theorem mkm_go : mmG P (some (kt, w)) k C = C ⟨.mp k, [(k, .map false (kOf P kt) [])], []⟩ := _root_.id rfl
def lkG (P : Program) (s : Option (TypeId × PV)) (q : Option PV) (b : Blk) (id : Nat) (c : Bool) (C : R → Prop) : Prop :=
 match s, q, b with
 | some (kt, z), some q, .map _ kt' es => kt' = kOf P kt ∧ Maps.Keyed P kt ∧ keyP q = true ∧ kOf P kt (kV q) ∧ C ⟨lkV z c (mget es q), [], [id]⟩
 | _, _, _ => False
theorem lk_eq {c : Bool} : lookupW P t h (.mp id) v c C = lkG P (mapT P t) (asK v) (h id) id c C := by
 unfold lookupW lkG
 cases mapT P t with
 | none => rfl
 | some s => obtain ⟨_, _⟩ := s; cases asK v with
  | none => rfl
  | some q => simp only []; cases h id <;> rfl
theorem lk_go {c : Bool} : lkG P (some (kt, w)) (some q) (.map m (kOf P kt) es) id c C = (Maps.Keyed P kt ∧ keyP q = true ∧ kOf P kt (kV q) ∧ C ⟨lkV w c (mget es q), [], [id]⟩) := by simp only [lkG, true_and]
def UPK (id : Nat) (m : Bool) (kt : Value → Prop) (es : List (PV × PV)) (q : PV) (C : R → Prop) (x : PV) (ws : List (Nat × Blk)) (rd : List Nat) : Prop := id ∉ rd ∧ C ⟨.p .any, ws ++ [(id, .map m kt ((q, x) :: es))], id :: rd⟩
def upG (P : Program) (s : Option (TypeId × PV)) (q : Option PV) (b : Blk) (h : Nat → Blk) (id : Nat) (v : AV) (C : R → Prop) : Prop :=
 match s, q, b with
 | some (kt, _), some q, .map m kt' es => kt' = kOf P kt ∧ Maps.Keyed P kt ∧ keyP q = true ∧ kOf P kt (kV q) ∧ pub h v (UPK id m kt' es q C)
 | _, _, _ => False
theorem mup_eq {u : AV} : updateW P t h (.mp id) u v C = upG P (mapT P t) (asK u) (h id) h id v C := by
 unfold updateW upG
 cases mapT P t with
 | none => rfl
 | some s => obtain ⟨_, _⟩ := s; cases asK u with
  | none => rfl
  | some q => simp only []; cases h id <;> rfl
theorem up_go : upG P (some (kt, w)) (some q) (.map m (kOf P kt) es) h id v C = (Maps.Keyed P kt ∧ keyP q = true ∧ kOf P kt (kV q) ∧ pub h v (UPK id m (kOf P kt) es q C)) := by simp only [upG, true_and]
theorem upk_eq {kq : Value → Prop} {x : PV} {ws : List (Nat × Blk)} {rd : List Nat} : UPK id m kq es q C x ws rd = (id ∉ rd ∧ C ⟨.p .any, ws ++ [(id, .map m kq ((q, x) :: es))], id :: rd⟩) := _root_.id rfl
variable {K : PV → List (Nat × Blk) → List Nat → Prop}
theorem pb_int {kd : IntKind} {n : Int} : pub h (.p (.int kd n)) K = K (.int kd n) [] [] := by simp [pub, PV.cell, PV.cellOk]
theorem pb_bool {b : Bool} : pub h (.p (.bool b)) K = K (.bool b) [] [] := by simp [pub, PV.cell, PV.cellOk]
theorem pb_lent {b : Bool} {s : List PV} : pub h (.p (.sl (.lent b) s)) K = K (.sl (.lent b) s) [] [] := by cases b <;> simp [pub, PV.cell, PV.cellOk, Fl.lent]
theorem pb_ref {off len : Nat} : pub h (.ref id off len) K = puB (h id) id off len K := by
 simp only [pub, puB]; cases h id <;> rfl
theorem ak_p : asK (.p q) = some q := _root_.id rfl
theorem ak_2 {a b : PV} : asK (.agg [.p a, .p b]) = some (.agg [a, b]) := _root_.id rfl
theorem ak_4 {a b c d : PV} : asK (.agg [.p a, .p b, .p c, .p d]) = some (.agg [a, b, c, d]) := _root_.id rfl
theorem kp_int {kd : IntKind} {n : Int} : keyP (.int kd n) = true := _root_.id rfl
theorem kp_str {s : List UInt8} : keyP (.str s) = true := _root_.id rfl
theorem kp_2 {kd kd' : IntKind} {a b : Int} : keyP (.agg [.int kd a, .int kd' b]) = true := _root_.id rfl
theorem kp_4 {kd : IntKind} {a b c d : Int} : keyP (.agg [.int kd a, .int kd b, .int kd c, .int kd d]) = true := _root_.id rfl
theorem lkv_t : lkV w true (some q) = .tup [.p q, .p (.bool true)] := _root_.id rfl
theorem lkv_n : lkV w true none = .tup [.p w, .p (.bool false)] := _root_.id rfl
theorem lkv_1 : lkV w false (some q) = .p q := _root_.id rfl
theorem lkv_0 : lkV w false none = .p w := _root_.id rfl
theorem mg_nil : mget [] q = none := _root_.id rfl
theorem mg_cons : mget ((q, w) :: es) q' = open Classical in if kV q = kV q' then some w else mget es q' := _root_.id rfl
theorem kv_int {kd : IntKind} {a b : Int} : (kV (.int kd a) = kV (.int kd b)) = (a = b) := by simp [kV, kV1]
theorem kv_2 {kd kd' : IntKind} {a b c d : Int} : (kV (.agg [.int kd a, .int kd' b]) = kV (.agg [.int kd c, .int kd' d])) = (a = c ∧ b = d) := by simp [kV, kV1]
/-- A map of the call's own. -/
def MapL (v : AV) (h : Nat → Blk) (n : Nat) (kt : Value → Prop) (es : List (PV × PV)) : Prop :=
 match v with
 | .mp id => h id = .map false kt es ∧ id < n
 | _ => False
theorem MapL.out {v : AV} {n : Nat} {kq : Value → Prop} (hd : MapL v h n kq es) : ∃ id, v = .mp id ∧ h id = .map false kq es ∧ id < n := by
 unfold MapL at hd
 split at hd
 ·exact ⟨_, rfl, hd⟩
 ·exact hd.elim
theorem ml_mp {n : Nat} {kq : Value → Prop} : MapL (.mp id) h n kq es = (h id = .map false kq es ∧ id < n) := _root_.id rfl
theorem asR_mp : asR (.mp id) = .ref id 0 0 := _root_.id rfl
theorem asR_em {v : AV} (e : v = .mp id) : asR v = .ref id 0 0 := by subst e; rfl
theorem map_eq {kq : Value → Prop} {es es' : List (PV × PV)} (e : es = es') : Blk.map m kq es = Blk.map m kq es' := by rw [e]
end
attribute [go_sem ↓] w_mkm w_lk w_mup w_ins
attribute [go_sem] ar_mp n_mkm n_lk n_mup n_ins ix_mkm ix_lk ix_mup ix_ins mkm_eq mkm_go lk_eq lk_go mup_eq up_go upk_eq pb_int pb_bool pb_lent pb_ref ak_p ak_2 ak_4 kp_int kp_str kp_2 kp_4 lkv_t lkv_n lkv_1 lkv_0 mg_nil ml_mp asR_mp
end Go.Gl
set_option linter.unusedSimpArgs false
set_option linter.unusedVariables false
namespace Go.Gl
open Go
/-- A place in a row of bytes, and a number. -/
structure Cu where
 i : Nat
 h : Int
/-- The cells of such a reader. -/
def curC (b : List UInt8) (s : Cu) : List PV := [.sl (.lent false) (b.map u8P), .int .i64 s.i, .int .i64 s.h]
instance {b : List UInt8} {s : Cu} : NDl (curC b s) := ⟨by intro rows h; cases h⟩
instance {k : Nat} {xs : List PV} : Imp1 k (.bx xs) (.ptr k 0) [(k, .live false xs)] := ⟨rfl, rfl⟩
instance {k : Nat} {xs : List PV} : ImpO k (.bx xs) (.ptr k 0) [(k, .live false xs)] := ⟨rfl, rfl⟩
theorem nrA_bx {xs : List PV} : noRo (.bx xs) = noRoL xs := _root_.id rfl
theorem nr_cur {b : List UInt8} {s : Cu} : noRoL (curC b s) = true := by
 simp only [curC, noRoL, noRo, nrA_lent, Bool.and_true]
 exact noRoL_map (fun _ => rfl) b
section
variable [Amb]
variable {P : Program} {sg : FuncId → List Bool} {h : Nat → Blk} {k : Nat} {C : R → Prop} {S : St} {b : List UInt8} {s : Cu} {m : Bool} {id : Nat}
theorem ld_cur0 : ldB (.live m (curC b s)) id 0 C = C ⟨.p (.sl (.lent false) (b.map u8P)), [], [id]⟩ := by simp [ldB, gt, curC, KX]
theorem ld_cur1 : ldB (.live m (curC b s)) id 1 C = C ⟨.p (.int .i64 s.i), [], [id]⟩ := by simp [ldB, gt, curC, KX]
theorem ld_cur2 : ldB (.live m (curC b s)) id 2 C = C ⟨.p (.int .i64 s.h), [], [id]⟩ := by simp [ldB, gt, curC, KX]
theorem st_cur1 {n : Int} : st1B (.live m (curC b s)) id 1 (.int .i64 n) C = C ⟨.p .any, [(id, .live m [.sl (.lent false) (b.map u8P), .int .i64 n, .int .i64 s.h])], [id]⟩ := by
 simp [st1B, curC, PV.cell, PV.cellOk]
theorem st_cur2 {n : Int} : st1B (.live m (curC b s)) id 2 (.int .i64 n) C = C ⟨.p .any, [(id, .live m (curC b ⟨s.i, n⟩))], [id]⟩ := by
 simp [st1B, curC, PV.cell, PV.cellOk]
theorem cur_eq {n : Nat} {x : Int} : [PV.sl (.lent false) (b.map u8P), .int .i64 (n : Int), .int .i64 x] = curC b ⟨n, x⟩ := _root_.id rfl
def muPB (b : Blk) (F : List PV → Prop) : Prop := match b with | .live _ c => F c | _ => False
def MUP (h : Nat → Blk) (fs : List Bool) (vs : List AV) (id : Nat) (K : List Arg → List Nat → List (Option (Nat × Option Nat)) → Prop) (c : List PV) : Prop :=
 pass h fs vs fun as rd ms => K (.mu true c :: as) rd (some (id, none) :: ms)
def MFP (id : Nat) (c : List PV) (K : List Arg → List Nat → List (Option (Nat × Option Nat)) → Prop) (as : List Arg) (rd : List Nat) (ms : List (Option (Nat × Option Nat))) : Prop := K (.mu true c :: as) rd (some (id, none) :: ms)
theorem mup_ptr {fs : List Bool} {vs : List AV} {K : List Arg → List Nat → List (Option (Nat × Option Nat)) → Prop} : pass h (true :: fs) (.ptr id 0 :: vs) K = muPB (h id) (MUP h fs vs id K) := by
 simp only [pass, muPB, MUP]; cases h id <;> rfl
theorem mup_live {c : List PV} {F : List PV → Prop} : muPB (.live m c) F = F c := _root_.id rfl
theorem mup_nx {fs : List Bool} {c : List PV} {vs : List AV} {K : List Arg → List Nat → List (Option (Nat × Option Nat)) → Prop} : MUP h fs vs id K c = pass h fs vs (MFP id c K) := _root_.id rfl
theorem mup_all {vs : List AV} {c : List PV} {K : List Arg → List Nat → List (Option (Nat × Option Nat)) → Prop} : pass h [] vs (MFP id c K) = puG h vs (PQ (MFP id c K)) := pass_pu
theorem mup_mf {c : List PV} {K : List Arg → List Nat → List (Option (Nat × Option Nat)) → Prop} {as : List Arg} {rd : List Nat} {ms : List (Option (Nat × Option Nat))} : MFP id c K as rd ms = K (.mu true c :: as) rd (some (id, none) :: ms) := _root_.id rfl
def fpB (b : Blk) (tk : Bool) (xs : List PV) : Prop := match b with | .live m c => (m = true → tk = true) ∧ c = xs | _ => False
theorem fp_bx {tk : Bool} {xs : List PV} : fins tk h k [.ptr id 0] [.bx xs] F0 = fpB (h id) tk xs := by
 simp only [fins, fin, fin1, fpB]
 cases h id with
 | live m c => simp [F0]
 | _ => rfl
theorem fpB_eq {tk : Bool} {c xs : List PV} : fpB (.live m c) tk xs = ((m = true → tk = true) ∧ c = xs) := _root_.id rfl
theorem ff_tk {tk : Bool} : (false = true → tk = true) = True := by simp
end
/-- A reader that a slot leads to. -/
theorem ptr_eq {i o o' : Nat} : (AV.ptr i o = AV.ptr i o') = (o = o') := by simp
attribute [go_sem] nrA_bx nr_cur ld_cur0 ld_cur1 ld_cur2 st_cur1 st_cur2 cur_eq mup_ptr mup_live mup_nx mup_all mup_mf fp_bx fpB_eq ff_tk
attribute [go_sem] xb_and xb_xor ix_and ix_xor ix_shr ix_box ix_alloc ix_fa ix_fd ix_build ix_nc ix_mf
/-! ### the frame of a law over a row of bytes -/
/-- As 'calls', where every block may be taken for memory that nobody writes. -/
theorem Fun.callsT1 [Amb] {P : Program} {f : FuncId} {args : List PV} {b : Bool} (hf : Fun P f args [.bool b]) (w : World) (ha : ∀ B o, Amb.tb B = some o → w.heap[B]? = some o) {vs : List Value} (hr : RepL w (fun _ => False) (fun _ => True) args vs) :
  Calls P f ⟨vs⟩ w fun e w' => e = .returned (.bool b) ∧ Go.RowKit.Below w.heap.size w w' := by
 obtain ⟨_, _, _, _, h⟩ := hf
 have dead : ∀ j, argH (args.map .pv) j = .dead := fun j => by
  unfold argH
  rw [List.getElem?_map]
  cases args[j]? <;> rfl
 have hno : ∀ (ι : Nat → Loc) B, ¬ Held (argH (args.map .pv)) ι B := by
  rintro ι B ⟨id, ho⟩
  rw [dead] at ho; exact ho
 have hrep : ∀ (l : List PV) (vs : List Value) (k : Nat), RepL w (fun _ => False) (fun _ => True) l vs → RepAL w (Held (argH (args.map .pv)) fun _ => ⟨0, 0, 0, 0, noInn⟩) (fun _ => True) (fun _ => ⟨0, 0, 0, 0, noInn⟩) (argAVs k (l.map .pv)) vs := by
  intro l
  induction l with
  | nil => intro vs k h; simpa [argAVs, RepAL, RepL] using h
  | cons x l ih =>
   intro vs k h
   simp only [RepL] at h
   obtain ⟨v, vs', rfl, h1, h2⟩ := h
   simp only [List.map_cons, argAVs, Arg.av, RepAL, RepA]
   exact ⟨v, vs', rfl, RepP.tr (F := fun _ => False) (fun _ _ _ _ hv => ⟨hv, hno _ _⟩) (fun _ _ _ h => h) _ _ h1, ih _ _ h2⟩
 refine (h w (fun _ => True) (fun _ => ⟨0, 0, 0, 0, noInn⟩) vs ⟨ha, fun B o _ hB => hno _ B hB⟩ (fun _ _ => trivial) ⟨?_, ?_⟩ (hrep _ _ _ hr)).mono ?_
 ·intro id; rw [dead]; trivial
 ·intro id _ B ho; rw [dead] at ho; exact ho.elim
 ·rintro e w' ⟨v, ι', rfl, _, hk, _, hv⟩
  have hv : v = .bool b := by simpa [impAll, imp, imp1, RepA, RepP] using hv
  subst hv
  exact ⟨rfl, hk.os, hk.tape, hk.output, hk.size, fun k hk' => hk.block k hk' (hno _ _)⟩
theorem Fun.callsT {P : Program} {f : FuncId} {args : List PV} {b : Bool} (hf : @Fun noAmb P f args [.bool b]) (w : World) {vs : List Value} (hr : RepL w (fun _ => False) (fun _ => True) args vs) :
  Calls P f ⟨vs⟩ w fun e w' => e = .returned (.bool b) ∧ Go.RowKit.Below w.heap.size w w' :=
 @Fun.callsT1 noAmb P f args b hf w (fun _ _ h => by cases h) vs hr
/-- A row of bytes that came in. -/
theorem IsRow.repB {w : World} {a : Option Addr} {len cap : Nat} {zs : List Int} (h : IsRow .u8 w a len cap zs) :
  RepP w (fun _ => False) (fun _ => True) (.sl (.lent false) (((zs.take len).map fun n => UInt8.ofNat n.toNat).map u8P)) (.slice a len cap) := by
 have e : ((zs.take len).map fun n => UInt8.ofNat n.toNat).map u8P = (zs.take len).map (PV.int .u8) := by
  rw [List.map_map]
  refine List.map_congr_left fun n hn => ?_
  have hw : ∀ n ∈ zs, (Lit.int .u8 n).wf = true := by
   rcases h with ⟨_, _, _, rfl⟩ | ⟨_, _, _, _, _, _, hw⟩
   ·intro n hn; cases hn
   ·exact hw
  have := hw n (List.mem_of_mem_take hn)
  have h2 : 0 ≤ n ∧ n ≤ 255 := by simpa [Lit.wf, IntKind.min, IntKind.max, IntKind.signed, IntKind.bits] using this
  simp only [Function.comp, u8P]
  congr 1
  rw [UInt8.toNat_ofNat']
  omega
 rw [e]
 have h3 := IsRow.rep (G := fun _ => True) h
 simp only [ints, RepP] at h3 ⊢
 obtain ⟨a', c', h4, h5, h6, h7, h8⟩ := h3
 refine ⟨a', c', h4, h5, h6, (by intro e; cases e), ?_⟩
 rcases h8 with h8 | ⟨B, off, h9, h10, _, h11⟩
 ·exact .inl h8
 ·exact .inr ⟨B, off, h9, h10, fun _ => trivial, h11⟩
end Go.Gl
