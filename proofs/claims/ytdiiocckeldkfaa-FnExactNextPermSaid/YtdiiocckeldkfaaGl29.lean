/-
  A program logic over the walk's rules: rules by which a goal is worked out, fourth part: calls that are lent memory, regions of any order, results. Conditions: those that each lemma names.
-/
import Derived.Test.YtdiiocckeldkfaaGl28
set_option linter.unusedSimpArgs false
set_option linter.unusedVariables false
namespace Go.Gl
open Go

section
variable {P : Program} {sg : FuncId → List Bool} {nt : Nat} {h : Nat → Blk} {k : Nat} {C : R → Prop} {S : St} {Q : Ex → St → Prop}

/-! ### calls that are lent memory -/

theorem ob_some {c c0 : List PV} {m : Bool} : outB (some (some c)) (.live m c0) = .live m c := _root_.id rfl
theorem ob_none {b : Blk} : outB (some none) b = .dead := _root_.id rfl
theorem v_callM {f : FuncId} {tk : Bool} {c : List PV} {as : List Arg} {outs : List (Option (List PV))} {res : List PV} {rd : List Nat} {ms : List (Option Nat)} {id : Nat}
    (hf : CallT P tk f (.mu false c :: as) outs res) (hn : (ms.all Option.isNone) = true) (hid : id ∉ rd)
    (hc : C ⟨impAll k res, (id, outB outs[0]? (h id)) :: impWs tk k res, id :: rd⟩) : Pk P h k f C (.mu false c :: as) rd (some id :: ms) := by
  have e1 : (some id :: ms).filterMap (fun x => x) = [id] := by
    have : ms.filterMap (fun x => x) = [] := by
      rw [List.filterMap_eq_nil_iff]; intro a ha
      have := List.all_eq_true.1 hn a ha
      cases a with
      | none => rfl
      | some _ => simp at this
    simp [List.filterMap_cons, this]
  have e1' : (some id :: ms).filterMap _root_.id = [id] := e1
  have ho : ∀ (l : List (Option Nat)) (j : Nat), (l.all Option.isNone) = true → outWs h outs j l = [] := fun l => by
    induction l with
    | nil => intro j _; rfl
    | cons x l ih =>
      intro j hj
      simp only [List.all_cons, Bool.and_eq_true] at hj
      cases x with
      | none => exact ih (j + 1) hj.2
      | some _ => simp at hj
  refine ⟨⟨by rw [e1']; simp, by rw [e1']; simpa using hid⟩, tk, outs, res, hf, ?_⟩
  rw [e1']
  simp only [outWs, ho ms 1 hn, List.cons_append, List.nil_append]
  exact hc

/-- The end of a body that was lent memory. -/
def FinM (tk : Bool) (as : List Arg) (outs : List (Option (List PV))) (ts : List Nat) (res : List PV) (ex : Ex) (S : St) : Prop :=
  match ex with
  | .exit _ => False
  | _ => Fin tk S as outs (ts.map S.e) res
theorem CallT.of (hm : P.follows .mixedOrders = true) {tk : Bool} {f : FuncId} {as : List Arg} {outs : List (Option (List PV))} {res : List PV} {fn : Func} {code : Code} {ts : List Nat}
    (hf : P.funcs[f]? = some fn) (hb : fn.body = some code) (hname : (fn.name == "runtime.NumGoroutine") = false) (hres : fn.results = ⟨ts.map .tmp⟩) (hargs : decide (as.length ≤ fn.ntmps) = true)
    (hck : codeOk fn.ntmps code = true) (hnr : noRoL res = true) (hro : resOk res = true) (houts : (outs.all fun o => o.all noRoL) = true)
    (hw : wpv P sg code (FinM tk as outs ts res) (entry as)) : CallT P tk f as outs res :=
  CallT.of_wp hm hf hb hname hres (of_decide_eq_true hargs) hnr hro houts (wp_of_wpv _ hck hw)
/-- It is handed back what it was lent as its first argument, written over. -/
theorem v_finM {tk : Bool} {c c' : List PV} {as : List Arg} {ts : List Nat} {xs : List PV} {ex : Ex} {p : Bool} {os : List (Option (List PV))} (hx : ex = .ret ∨ ex = .normal)
    (ho : (os.all Option.isNone) = true) (hl : S.h 0 = .live true c') (hf : fins tk S.h (as.length + 1) (ts.map S.e) xs fun L => (L.map fun q => q.2.1).Nodup ∧ 0 ∉ L.map fun q => q.2.1) :
    FinM tk (.mu p c :: as) (some c' :: os) ts xs ex S := by
  have key : Fin tk S (.mu p c :: as) (some c' :: os) (ts.map S.e) xs := by
    unfold Fin
    refine Eq.mp (congrArg (fins tk S.h (as.length + 1) (ts.map S.e) xs) ?_) hf
    funext L
    apply propext
    constructor
    · rintro ⟨h1, h2⟩
      refine ⟨h1, fun j hj => ?_⟩
      cases j with
      | zero => exact ⟨hl, h2⟩
      | succ j =>
        simp only [List.getElem?_cons_succ]
        split
        · rename_i c0 hc0
          have := List.all_eq_true.1 ho _ (List.mem_of_getElem? hc0)
          simp at this
        · trivial
    · rintro ⟨h1, h2⟩
      exact ⟨h1, (h2 0 (by simp)).2⟩
  rcases hx with rfl | rfl <;> exact key
/-- What it was lent as its first argument is gone. -/
theorem v_finX {tk : Bool} {c : List PV} {as : List Arg} {ts : List Nat} {xs : List PV} {ex : Ex} {p : Bool} {os : List (Option (List PV))} (hx : ex = .ret ∨ ex = .normal)
    (ho : (os.all Option.isNone) = true) (hf : fins tk S.h (as.length + 1) (ts.map S.e) xs F0) :
    FinM tk (.mu p c :: as) os ts xs ex S := by
  have key : Fin tk S (.mu p c :: as) os (ts.map S.e) xs := by
    unfold Fin
    refine Eq.mp (congrArg (fins tk S.h (as.length + 1) (ts.map S.e) xs) ?_) hf
    funext L
    simp only [F0]
    apply propext
    constructor
    · intro h1
      refine ⟨h1, fun j hj => ?_⟩
      split
      · rename_i c0 _ hc0
        have := List.all_eq_true.1 ho _ (List.mem_of_getElem? hc0)
        simp at this
      · trivial
    · exact fun h => h.1
  rcases hx with rfl | rfl <;> exact key
/-- The blocks of results are none of what was lent. -/
def F1 (L : List (Nat × Nat × Nat)) : Prop := (L.map fun q => q.2.1).Nodup ∧ 0 ∉ L.map fun q => q.2.1
theorem f1_nil : F1 [] := by simp [F1]
theorem f1_1 {k id off : Nat} : F1 [(k, id, off)] = (0 ≠ id) := by simp [F1]

/-! ### regions of any order -/

/-- The pairs that may change places, of which one writes. -/
def clrP (ops : Array Oper) (ws : List Bool) : List (Nat × Nat) :=
  (List.range ops.size).flatMap fun j => (List.range j).filterMap fun i =>
    if (ws.getD i false || ws.getD j false) && !behind ops ops.size i j then some (i, j) else none
def maskOk : List (List (Nat × Blk) × List Nat) → List Bool → Bool
  | [], [] => true
  | p :: L, w :: ws => (p.1.isEmpty || w) && maskOk L ws
  | _, _ => false
theorem maskOk_at : ∀ {L : List (List (Nat × Blk) × List Nat)} {ws : List Bool}, maskOk L ws = true → ∀ i, ws.getD i false = false → (L.getD i ([], [])).1 = []
  | [], [], _, i, _ => by simp
  | p :: L, w :: ws, h, 0, hi => by
    simp only [maskOk, Bool.and_eq_true, Bool.or_eq_true] at h
    simp only [List.getD_cons_zero] at hi ⊢
    rcases h.1 with h1 | h1
    · simpa using h1
    · rw [h1] at hi; cases hi
  | p :: L, w :: ws, h, i + 1, hi => by
    simp only [maskOk, Bool.and_eq_true] at h
    simp only [List.getD_cons_succ] at hi ⊢
    exact maskOk_at h.2 i hi
  | [], _ :: _, h, _, _ => by simp [maskOk] at h
  | _ :: _, [], h, _, _ => by simp [maskOk] at h
def nIn (i : Nat) : List Nat → Prop
  | [] => True
  | j :: l => i ≠ j ∧ nIn i l
def nInB (i : Nat) : List (Nat × Blk) → Prop
  | [] => True
  | (j, _) :: l => i ≠ j ∧ nInB i l
def cl1 : List (Nat × Blk) → List (Nat × Blk) → List Nat → Prop
  | [], _, _ => True
  | (i, _) :: ws, bs, rd => nIn i rd ∧ nInB i bs ∧ cl1 ws bs rd
theorem nIn_iff {i : Nat} : ∀ {l : List Nat}, nIn i l → i ∉ l
  | [], _ => by simp
  | j :: l, h => by simp only [nIn] at h; simp [h.1, nIn_iff h.2]
theorem nInB_iff {i : Nat} : ∀ {l : List (Nat × Blk)}, nInB i l → ∀ q ∈ l, i ≠ q.1
  | [], _ => by simp
  | (j, b) :: l, h => by
    simp only [nInB] at h
    intro q hq
    rcases List.mem_cons.1 hq with rfl | hq
    · exact h.1
    · exact nInB_iff h.2 q hq
theorem cl1_clear {a b : List (Nat × Blk) × List Nat} (h : cl1 a.1 b.1 b.2) : clear a b := by
  obtain ⟨ws, rd⟩ := a
  simp only at h
  intro p hp
  simp only at hp
  induction ws with
  | nil => simp at hp
  | cons w ws ih =>
    obtain ⟨i, bl⟩ := w
    simp only [cl1] at h
    rcases List.mem_cons.1 hp with rfl | hp
    · exact ⟨nIn_iff h.1, nInB_iff h.2.1⟩
    · exact ih h.2.2 hp
def clrG (a b : List (Nat × Blk) × List Nat) : Prop := cl1 a.1 b.1 b.2 ∧ cl1 b.1 a.1 a.2
def clrAll (L : List (List (Nat × Blk) × List Nat)) : List (Nat × Nat) → Prop
  | [] => True
  | (i, j) :: ps => clrG (L.getD i ([], [])) (L.getD j ([], [])) ∧ clrAll L ps
theorem clrAll_at {L : List (List (Nat × Blk) × List Nat)} : ∀ {ps : List (Nat × Nat)}, clrAll L ps → ∀ p ∈ ps, clrG (L.getD p.1 ([], [])) (L.getD p.2 ([], []))
  | [], _ => by simp
  | (i, j) :: ps, h => by
    simp only [clrAll] at h
    intro p hp
    rcases List.mem_cons.1 hp with rfl | hp
    · exact h.1
    · exact clrAll_at h.2 p hp
theorem clearAll_of {ops : Array Oper} {L : List (List (Nat × Blk) × List Nat)} (ws : List Bool) (ps : List (Nat × Nat)) (hw : maskOk L ws = true) (hp : clrP ops ws = ps)
    (h : clrAll L ps) : clearAll ops L := by
  intro j hj i hi
  by_cases hb : behind ops ops.size i j = true
  · exact .inl hb
  right
  by_cases hw' : (ws.getD i false || ws.getD j false) = true
  · have : (i, j) ∈ ps := by
      subst hp
      unfold clrP
      rw [List.mem_flatMap]
      refine ⟨j, List.mem_range.2 hj, ?_⟩
      rw [List.mem_filterMap]
      refine ⟨i, List.mem_range.2 hi, ?_⟩
      rw [if_pos]
      simp only [Bool.and_eq_true, Bool.not_eq_true']
      exact ⟨hw', by simpa using hb⟩
    have := clrAll_at h _ this
    exact ⟨cl1_clear this.1, cl1_clear this.2⟩
  · simp only [Bool.or_eq_true, not_or, Bool.not_eq_true] at hw'
    unfold clear
    rw [maskOk_at hw i hw'.1, maskOk_at hw j hw'.2]
    simp
theorem ca_nil {L : List (List (Nat × Blk) × List Nat)} : clrAll L [] = True := _root_.id rfl
theorem ca_cons {L : List (List (Nat × Blk) × List Nat)} {i j : Nat} {ps : List (Nat × Nat)} : clrAll L ((i, j) :: ps) = (clrG (L.getD i ([], [])) (L.getD j ([], [])) ∧ clrAll L ps) := _root_.id rfl
theorem cg_nil {a b : List Nat} : clrG ([], a) ([], b) = True := by simp [clrG, cl1]
theorem cg_eq {a b : List (Nat × Blk) × List Nat} : clrG a b = (cl1 a.1 b.1 b.2 ∧ cl1 b.1 a.1 a.2) := _root_.id rfl
theorem c1_nil {bs : List (Nat × Blk)} {rd : List Nat} : cl1 [] bs rd = True := _root_.id rfl
theorem c1_cons {i : Nat} {b : Blk} {ws bs : List (Nat × Blk)} {rd : List Nat} : cl1 ((i, b) :: ws) bs rd = (nIn i rd ∧ nInB i bs ∧ cl1 ws bs rd) := _root_.id rfl
theorem ni_nil {i : Nat} : nIn i [] = True := _root_.id rfl
theorem ni_cons {i j : Nat} {l : List Nat} : nIn i (j :: l) = (i ≠ j ∧ nIn i l) := _root_.id rfl
theorem nb_nil {i : Nat} : nInB i [] = True := _root_.id rfl
theorem nb_cons {i j : Nat} {b : Blk} {l : List (Nat × Blk)} : nInB i ((j, b) :: l) = (i ≠ j ∧ nInB i l) := _root_.id rfl

/-! ### append where there is room -/

def apJ (m : Bool) (l j : List PV) (id k : Nat) (C : R → Prop) (ys : List PV) (rd : List Nat) : Prop := apB (.live m (l ++ j)) id 0 l.length k C ys rd
theorem ap_j {α : Type} {f : α → PV} {m : Bool} {l j : List α} {id : Nat} {ys : List PV} {rd : List Nat} : apB (.live m (List.map f (l ++ j))) id 0 l.length k C ys rd = apJ m (l.map f) (j.map f) id k C ys rd := by
  rw [apJ, List.map_append, List.length_map]
theorem v_apj {α : Type} {f : α → PV} {m : Bool} {l j : List α} {id : Nat} {ys : List PV} {rd : List Nat} (hl : l.length + ys.length ≤ 1099511627776)
    (hc : ∀ j' : List α, C ⟨.ref k 0 (l.length + ys.length), [(id, .dead), (k, .live m (l.map f ++ ys ++ j'.map f))], id :: rd⟩) : apJ m (l.map f) (j.map f) id k C ys rd := by
  unfold apJ apB
  simp only [List.length_map, List.length_append, Nat.zero_add]
  refine ⟨hl, by omega, ?_⟩
  split
  · rename_i hj
    have : j = [] := List.eq_nil_of_length_eq_zero (by omega)
    subst this
    have := hc []
    simpa using this
  · split
    · rename_i hj
      have := hc (j.drop ys.length)
      have e1 : (l.map f ++ j.map f).take l.length = l.map f := by simp [List.take_append]
      have e2 : (l.map f ++ j.map f).drop (l.length + ys.length) = (j.drop ys.length).map f := by
        rw [List.drop_append, List.drop_eq_nil_of_le (by simp), List.nil_append, List.length_map, show l.length + ys.length - l.length = ys.length by omega, ← List.map_drop]
      rw [e1, e2]
      exact this
    · have := hc []
      have e1 : (l.map f ++ j.map f).take l.length = l.map f := by simp [List.take_append]
      rw [List.drop_zero, e1]
      simpa using this

/-! ### a place in a list, told by a bound -/

theorem gt_of {α β : Type} {f : α → β} {l : List α} {i : Nat} {K : β → Prop} (d : α) : gtO (Option.map f l[i]?) K = (i < l.length ∧ K (f (l.getD i d))) := by
  by_cases hi : i < l.length
  · rw [List.getElem?_eq_getElem hi, List.getD_eq_getElem?_getD, List.getElem?_eq_getElem hi]
    simp [gtO, hi]
  · rw [List.getElem?_eq_none (by omega)]
    simp [gtO, hi]
theorem gt_int {f : Int → PV} {l : List Int} {i : Nat} {K : PV → Prop} : gtO (Option.map f l[i]?) K = (i < l.length ∧ K (f (l.getD i 0))) := gt_of 0
theorem gt_bool {f : Bool → PV} {l : List Bool} {i : Nat} {K : PV → Prop} : gtO (Option.map f l[i]?) K = (i < l.length ∧ K (f (l.getD i false))) := gt_of false
theorem gt_u8 {f : UInt8 → PV} {l : List UInt8} {i : Nat} {K : PV → Prop} : gtO (Option.map f l[i]?) K = (i < l.length ∧ K (f (l.getD i 0))) := gt_of 0
theorem gt_list {α : Type} {f : List α → PV} {l : List (List α)} {i : Nat} {K : PV → Prop} : gtO (Option.map f l[i]?) K = (i < l.length ∧ K (f (l.getD i []))) := gt_of []
theorem gt_b8 {l : List UInt8} {i : Nat} {K : UInt8 → Prop} : gtO l[i]? K = (i < l.length ∧ K (l.getD i 0)) := by
  have := gt_of (f := id) (l := l) (i := i) (K := K) 0
  rwa [Option.map_id] at this

/-! ### what a slot holds, told in one word -/

/-- A slice of the call's own: its length, the values of its block. -/
def OwnL {α : Type} (v : AV) (h : Nat → Blk) (n : Nat) (f : α → PV) (len : Nat) (l : List α) : Prop :=
  match v with
  | .ref id 0 len' => len' = len ∧ h id = .live false (l.map f) ∧ id < n
  | _ => False
def FroL {α : Type} (v : AV) (h : Nat → Blk) (n : Nat) (f : α → PV) (len : Nat) (l : List α) : Prop :=
  match v with
  | .ref id 0 len' => len' = len ∧ h id = .froz false (l.map f) ∧ id < n
  | _ => False
def NId (v v' : AV) : Prop :=
  match v, v' with
  | .ref i _ _, .ref j _ _ => i ≠ j
  | _, _ => False
def hbL {α : Type} (b : Blk) (f : α → PV) (l : List α) : Prop := b = .live false (l.map f)
def hbF {α : Type} (b : Blk) (f : α → PV) (l : List α) : Prop := b = .froz false (l.map f)
theorem OwnL.out {α : Type} {v : AV} {h : Nat → Blk} {n : Nat} {f : α → PV} {len : Nat} {l : List α} (ho : OwnL v h n f len l) : ∃ id, v = .ref id 0 len ∧ h id = .live false (l.map f) ∧ id < n := by
  unfold OwnL at ho
  split at ho
  · rename_i id len' ; obtain ⟨rfl, h1, h2⟩ := ho; exact ⟨id, rfl, h1, h2⟩
  · exact ho.elim
theorem FroL.out {α : Type} {v : AV} {h : Nat → Blk} {n : Nat} {f : α → PV} {len : Nat} {l : List α} (ho : FroL v h n f len l) : ∃ id, v = .ref id 0 len ∧ h id = .froz false (l.map f) ∧ id < n := by
  unfold FroL at ho
  split at ho
  · rename_i id len' ; obtain ⟨rfl, h1, h2⟩ := ho; exact ⟨id, rfl, h1, h2⟩
  · exact ho.elim
theorem NId.out {v v' : AV} {i o l i' o' l' : Nat} (h : NId v v') (e : v = .ref i o l) (e' : v' = .ref i' o' l') : i ≠ i' := by
  subst e; subst e'; exact h
theorem own_ref {α : Type} {h : Nat → Blk} {n id len' : Nat} {f : α → PV} {len : Nat} {l : List α} : OwnL (.ref id 0 len') h n f len l = (len' = len ∧ hbL (h id) f l ∧ id < n) := _root_.id rfl
theorem fro_ref {α : Type} {h : Nat → Blk} {n id len' : Nat} {f : α → PV} {len : Nat} {l : List α} : FroL (.ref id 0 len') h n f len l = (len' = len ∧ hbF (h id) f l ∧ id < n) := _root_.id rfl
theorem hbL_eq {α : Type} {f : α → PV} {c : List PV} {l : List α} : hbL (.live false c) f l = (c = l.map f) := by simp [hbL]
theorem hbF_eq {α : Type} {f : α → PV} {c : List PV} {l : List α} : hbF (.froz false c) f l = (c = l.map f) := by simp [hbF]
theorem nid_eq {i o l i' o' l' : Nat} : NId (.ref i o l) (.ref i' o' l') = (i ≠ i') := _root_.id rfl

/-! ### new memory alone -/

theorem nrL_int {kd : IntKind} {l : List Int} : noRoL (l.map (PV.int kd)) = true := noRoL_map (fun _ => rfl) l
theorem nrL_str {l : List (List UInt8)} : noRoL (l.map PV.str) = true := noRoL_map (fun _ => rfl) l
theorem nrL_bool {l : List Bool} : noRoL (l.map PV.bool) = true := noRoL_map (fun _ => rfl) l
theorem nrL_u8 {l : List UInt8} : noRoL (l.map u8P) = true := noRoL_map (fun _ => rfl) l
theorem nrL_frI {l : List (List Int)} : noRoL (l.map (elI false)) = true := noRoL_map (fun _ => nr_frI) l
theorem nrL_frS {l : List (List (List UInt8))} : noRoL (l.map (elS false)) = true := noRoL_map (fun _ => nr_frS) l

/-! ### results -/

theorem f_fr {F : List (Nat × Nat × Nat) → Prop} {tk : Bool} {ys xs : List PV} : fin tk h k (.p (.sl (.lent false) ys)) (.sl (.lent false) xs) F = (ys = xs ∧ F []) := _root_.id rfl
theorem f_fro {F : List (Nat × Nat × Nat) → Prop} {tk : Bool} {ys xs : List PV} : fin tk h k (.p (.sl .own ys)) (.sl (.lent false) xs) F = (xs = [] ∧ F []) := _root_.id rfl
def frB (b : Blk) (off len : Nat) (xs : List PV) (F : List (Nat × Nat × Nat) → Prop) : Prop :=
  match b with
  | .froz false c => off + len ≤ c.length ∧ (c.drop off).take len = xs ∧ F []
  | _ => False
theorem f_frr {F : List (Nat × Nat × Nat) → Prop} {tk : Bool} {id off len : Nat} {xs : List PV} : fin tk h k (.ref id off len) (.sl (.lent false) xs) F = frB (h id) off len xs F := by
  show fin tk h k (.ref id off len) (.sl .fr xs) F = _
  simp only [fin, fin1, frB]
  cases h id with
  | live m c => rfl
  | froz m c => cases m <;> rfl
  | dead => rfl
theorem fr_froz {F : List (Nat × Nat × Nat) → Prop} {off len : Nat} {c xs : List PV} : frB (.froz false c) off len xs F = (off + len ≤ c.length ∧ (c.drop off).take len = xs ∧ F []) := _root_.id rfl
/-- A slice of the call's own that is not handed back alone: it may be shared. -/
theorem f_2 {p q : Nat × Nat × Nat} : F0 [p, q] = (p.2.1 ≠ q.2.1) := by simp [F0]
theorem f_3 {p q r : Nat × Nat × Nat} : F0 [p, q, r] = (p.2.1 ≠ q.2.1 ∧ p.2.1 ≠ r.2.1 ∧ q.2.1 ≠ r.2.1) := by simp [F0, and_assoc]
def FLx (h : Nat → Blk) (k : Nat) (vs : List AV) (xs : List PV) (F : List (Nat × Nat × Nat) → Prop) (L : List (Nat × Nat × Nat)) : Prop := finL false h k vs xs (FL L F)
theorem fa_agg {F : List (Nat × Nat × Nat) → Prop} {vs : List AV} {xs : List PV} : fin false h k (.agg vs) (.agg xs) F = finL false h (k + 1) vs xs F := _root_.id rfl
theorem fa_aggp {F : List (Nat × Nat × Nat) → Prop} {ys xs : List PV} : fin false h k (.p (.agg ys)) (.agg xs) F = finL false h (k + 1) (ys.map .p) xs F := _root_.id rfl
theorem fL_nil {F : List (Nat × Nat × Nat) → Prop} : finL false h k [] [] F = F [] := _root_.id rfl
theorem fL_cons {F : List (Nat × Nat × Nat) → Prop} {v : AV} {vs : List AV} {x : PV} {xs : List PV} : finL false h k (v :: vs) (x :: xs) F = fin1 false h k v x (FLx h (k + 1) vs xs F) := _root_.id rfl
theorem fLx_eq {F : List (Nat × Nat × Nat) → Prop} {vs : List AV} {xs : List PV} {L : List (Nat × Nat × Nat)} : FLx h k vs xs F L = finL false h k vs xs (FL L F) := _root_.id rfl
theorem f1_int {F : List (Nat × Nat × Nat) → Prop} {v : AV} {kd : IntKind} {n : Int} : fin1 false h k v (.int kd n) F = (v = .p (.int kd n) ∧ F []) := _root_.id rfl
theorem f1_bool {F : List (Nat × Nat × Nat) → Prop} {v : AV} {b : Bool} : fin1 false h k v (.bool b) F = (v = .p (.bool b) ∧ F []) := _root_.id rfl
theorem f1_str {F : List (Nat × Nat × Nat) → Prop} {v : AV} {s : List UInt8} : fin1 false h k v (.str s) F = (v = .p (.str s) ∧ F []) := _root_.id rfl
theorem f1_ro {F : List (Nat × Nat × Nat) → Prop} {v : AV} {s : List PV} : fin1 false h k v (.sl (.lent true) s) F = (v = .p (.sl (.lent true) s) ∧ F []) := _root_.id rfl
theorem f1_own {F : List (Nat × Nat × Nat) → Prop} {id off len : Nat} {ys : List PV} : fin1 false h k (.ref id off len) (.sl .own ys) F = fiB (h id) k id off len ys F := by
  simp only [fin1, fiB]; cases h id <;> rfl
theorem f1_own0 {F : List (Nat × Nat × Nat) → Prop} {ys zs : List PV} : fin1 false h k (.p (.sl .own zs)) (.sl .own ys) F = (ys = [] ∧ F []) := _root_.id rfl
theorem f1_fr {F : List (Nat × Nat × Nat) → Prop} {ys xs : List PV} : fin1 false h k (.p (.sl (.lent false) ys)) (.sl (.lent false) xs) F = (ys = xs ∧ F []) := _root_.id rfl
theorem f1_fro {F : List (Nat × Nat × Nat) → Prop} {ys xs : List PV} : fin1 false h k (.p (.sl .own ys)) (.sl (.lent false) xs) F = (xs = [] ∧ F []) := _root_.id rfl
theorem f1_frr {F : List (Nat × Nat × Nat) → Prop} {id off len : Nat} {xs : List PV} : fin1 false h k (.ref id off len) (.sl (.lent false) xs) F = frB (h id) off len xs F := by
  show fin1 false h k (.ref id off len) (.sl .fr xs) F = _
  simp only [fin1, frB]
  cases h id with
  | live m c => rfl
  | froz m c => cases m <;> rfl
  | dead => rfl
theorem is_nil {n : Nat} : imps n [] = [] := _root_.id rfl
theorem is_cons {n : Nat} {x : PV} {xs : List PV} : imps n (x :: xs) = imp n x :: imps (n + 16) xs := _root_.id rfl
theorem iL_nil {n : Nat} : impL n [] = [] := _root_.id rfl
theorem iL_cons {n : Nat} {x : PV} {xs : List PV} : impL n (x :: xs) = imp1 n x :: impL (n + 1) xs := _root_.id rfl
theorem iW_nil {n : Nat} {m : Bool} : impWL m n [] = [] := _root_.id rfl
theorem iW_cons {n : Nat} {m : Bool} {x : PV} {xs : List PV} : impWL m n (x :: xs) = impW1 m n x ++ impWL m (n + 1) xs := _root_.id rfl

end
attribute [go_sem ↓] w_slice w_extract w_conv' w_build w_max w_min w_mf w_nc w_make w_store w_alloc w_box w_field w_fieldAddr
attribute [go_sem] mp_ap mp_u8 mp_elI mp_elS mp_rep_int mp_rep_bool mp_rep_str mp_rep_fr mp_set_int mp_set_bool mp_set_str mp_set_el u8P_eq elI_eq elS_eq
attribute [go_sem] s_str s_sl s_ref s_sl3 s_ref3 bd_none bd_some bl_eq bl3_eq sls_eq sll_eq slr_eq sl3_eq w_store' st_int st_bool st_str st_lent st_own st_ref st1_live str_live str_froz
attribute [go_sem] pu_ref pu_live pu_froz pu_r pu_f mk_eq mk_some al_eq al_some nth_eq nth_some ex_tup fd_eq fd_p fd_a kf_eq fa_eq fa_pc fa_ptr bd_eq bd_go fi_nil fi_cons fi_some kg_eq on_int on_bool on_str on_sl on_ref
attribute [go_sem] cv_int ci_some cv_str cs_t cs_f cv_ref cv_sl cv_map cv_nil cv_b1 mm_max mm_min g_fnp g_fna q_fn q_agg pf1_eq pf2_eq pa1_eq ps_nil ps_p ps_ref up_eq q_ptr pt_live pt_froz nc_ptr nc_pc nc_fn nc_fna
attribute [go_sem] mu_ref mu_live mu_nx mu_all mu_pq mu_mf ob_some ob_none ca_nil ca_cons cg_nil cg_eq c1_nil c1_cons ni_nil ni_cons nb_nil nb_cons f_fr f_fro f_frr fr_froz f_2 f_3 fa_agg fa_aggp fL_nil fL_cons fLx_eq f1_int f1_bool f1_str f1_ro f1_own f1_own0 f1_fr f1_fro f1_frr is_nil is_cons iL_nil iL_cons iW_nil iW_cons
attribute [go_sem] Option.map_some Option.map_none List.set_cons_zero List.set_cons_succ Option.isNone_none List.all_cons List.all_nil List.append_assoc Nat.sub_zero List.drop_zero Int.toNat_zero cell_fn cell_nilf cell_agg
attribute [go_sem] gt_int gt_bool gt_u8 gt_list gt_b8
attribute [go_sem] own_ref fro_ref hbL_eq hbF_eq nid_eq
attribute [go_sem high] ap_j
end Go.Gl
