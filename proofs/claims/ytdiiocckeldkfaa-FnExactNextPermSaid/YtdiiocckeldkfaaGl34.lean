/-
  A program logic over the walk's rules: rules by which a goal is worked out, seventh part: the wider ways, memory that is handed back. Conditions: those that each lemma names.
-/
import Derived.Test.YtdiiocckeldkfaaGl32
set_option linter.unusedSimpArgs false
set_option linter.unusedVariables false
namespace Go.Gl
open Go

section
variable {P : Program} {sg : FuncId → List Bool} {h : Nat → Blk} {k : Nat} {ρ : Operand → AV} {C : R → Prop} {S : St} {x y : Operand} {t t' : TypeId} {kd kd' : IntKind} {m n : Int} {V : PV → Prop}

theorem w_opx {op : Op} (hs : wayE sg = true) (hx : isX op = true) : opW P sg ρ h k op C = opE P ρ h op C := by simp [opW, hs, hx]
theorem w_opy {op : Op} (hs : wayE sg = true) (hx : isX op = false) : opW P sg ρ h k op C = opB P sg ρ h k op C := by simp [opW, hs, hx]
theorem x_bin {b : BinOp} : opE P ρ h (.binOp b t x y t') C = binX b (ρ x) (ρ y) (KV C) := _root_.id rfl
theorem xb_add : binX .add (.p (.int kd m)) (.p (.int kd' n)) V = (kd = kd' ∧ V (.int kd (kd.wrap (m + n)))) := _root_.id rfl
theorem xb_sub : binX .sub (.p (.int kd m)) (.p (.int kd' n)) V = (kd = kd' ∧ V (.int kd (kd.wrap (m - n)))) := _root_.id rfl
theorem xb_mul : binX .mul (.p (.int kd m)) (.p (.int kd' n)) V = (kd = kd' ∧ V (.int kd (kd.wrap (m * n)))) := _root_.id rfl
def SLx (c id off : Nat) (C : R → Prop) (h l : Int) : Prop := 0 ≤ l ∧ l ≤ h ∧ off + h.toNat ≤ c ∧ C ⟨.ref id (off + l.toNat) (h.toNat - l.toNat), [], [id]⟩
def SLy (len id : Nat) (C : R → Prop) (m h l : Int) : Prop := 0 ≤ l ∧ l ≤ h ∧ h ≤ m ∧ m ≤ len ∧ C ⟨.p .any, [], [id]⟩
def sxB (b : Blk) (s : Bool) (id off len : Nat) (lo hi mx : Option AV) (C : R → Prop) : Prop :=
  match b with
  | .live _ c => s = true ∧ off + len ≤ c.length ∧ (match mx with
    | none => bdV hi len (BL lo (SLx c.length id off C))
    | some _ => hi ≠ none ∧ bdV mx 0 (BL3 hi lo (SLy len id C)))
  | _ => False
theorem x_slice {lo hi mx : Option Operand} : opE P ρ h (.slice t x lo hi mx) C = sliceX P t (ρ x) lo hi mx h ρ C := _root_.id rfl
theorem sx_ref {id off len : Nat} {lo hi mx : Option Operand} : sliceX P t (.ref id off len) lo hi mx h ρ C = sxB (h id) (slT P t).isSome id off len (lo.map ρ) (hi.map ρ) (mx.map ρ) C := by
  simp only [sliceX, sxB, bnd_eq]
  cases h id with
  | live m c =>
    cases mx with
    | none => rfl
    | some o =>
      simp only [Option.map_some]
      have : (hi ≠ none) = (Option.map ρ hi ≠ none) := by cases hi <;> simp
      rw [this]; rfl
  | froz m c => rfl
  | dead => rfl
theorem sx_live {mm : Bool} {c : List PV} {s : Bool} {id off len : Nat} {lo hi : Option AV} : sxB (.live mm c) s id off len lo hi none C = (s = true ∧ off + len ≤ c.length ∧ bdV hi len (BL lo (SLx c.length id off C))) := _root_.id rfl
theorem sx_live3 {mm : Bool} {c : List PV} {s : Bool} {id off len : Nat} {lo : Option AV} {hi mx : AV} : sxB (.live mm c) s id off len lo (some hi) (some mx) C = (s = true ∧ off + len ≤ c.length ∧ bdV (some mx) 0 (BL3 (some hi) lo (SLy len id C))) := by
  simp [sxB]
theorem slx_eq {c id off : Nat} {i j : Int} : SLx c id off C i j = (0 ≤ j ∧ j ≤ i ∧ off + i.toNat ≤ c ∧ C ⟨.ref id (off + j.toNat) (i.toNat - j.toNat), [], [id]⟩) := _root_.id rfl
theorem sly_eq {len id : Nat} {l i j : Int} : SLy len id C l i j = (0 ≤ j ∧ j ≤ i ∧ i ≤ l ∧ l ≤ len ∧ C ⟨.p .any, [], [id]⟩) := _root_.id rfl
def clB (s : Option (Nat × PV)) (b : Blk) (id off len : Nat) (C : R → Prop) : Prop :=
  match s, b with
  | some (_, z), .live m c => off + len ≤ c.length ∧ z.cellOk = true ∧ C ⟨.p .any, [(id, .live m (c.take off ++ List.replicate len z ++ c.drop (off + len)))], [id]⟩
  | _, _ => False
theorem x_clear : opE P ρ h (.call { callee := .builtin .clear, args := ⟨[x]⟩, argTypes := ⟨[t]⟩ }) C = clearW P t h (ρ x) C := _root_.id rfl
theorem cl_ref {id off len : Nat} : clearW P t h (.ref id off len) C = clB (slT P t) (h id) id off len C := by
  simp only [clearW, clB]
  cases slT P t with
  | none => rfl
  | some p => cases h id <;> rfl
theorem cl_live {q : Nat} {z : PV} {mm : Bool} {c : List PV} {id off len : Nat} : clB (some (q, z)) (.live mm c) id off len C = (off + len ≤ c.length ∧ z.cellOk = true ∧ C ⟨.p .any, [(id, .live mm (c.take off ++ List.replicate len z ++ c.drop (off + len)))], [id]⟩) := _root_.id rfl
theorem ix_slice {lo hi mx : Option Operand} : isX (.slice t x lo hi mx) = true := _root_.id rfl
theorem ix_add : isX (.binOp .add t x y t') = true := _root_.id rfl
theorem ix_sub : isX (.binOp .sub t x y t') = true := _root_.id rfl
theorem ix_mul : isX (.binOp .mul t x y t') = true := _root_.id rfl
theorem ix_clear : isX (.call { callee := .builtin .clear, args := ⟨[x]⟩, argTypes := ⟨[t]⟩ }) = true := _root_.id rfl
theorem ix_eql : isX (.binOp .eql t x y t') = false := _root_.id rfl
theorem ix_neq : isX (.binOp .neq t x y t') = false := _root_.id rfl
theorem ix_lss : isX (.binOp .lss t x y t') = false := _root_.id rfl
theorem ix_leq : isX (.binOp .leq t x y t') = false := _root_.id rfl
theorem ix_gtr : isX (.binOp .gtr t x y t') = false := _root_.id rfl
theorem ix_geq : isX (.binOp .geq t x y t') = false := _root_.id rfl
theorem ix_quo : isX (.binOp .quo t x y t') = false := _root_.id rfl
theorem ix_rem : isX (.binOp .rem t x y t') = false := _root_.id rfl
theorem ix_un {b : UnOp} : isX (.unOp b t x) = false := _root_.id rfl
theorem ix_move : isX (.move x) = false := _root_.id rfl
theorem ix_assign : isX (.assign x) = false := _root_.id rfl
theorem ix_pick {z : Operand} : isX (.pick x y z) = false := _root_.id rfl
theorem ix_conv : isX (.convert t t' x) = false := _root_.id rfl
theorem ix_make : isX (.makeSlice t x y) = false := _root_.id rfl
theorem ix_bs {n : Nat} {ps : Array (Nat × Operand)} : isX (.buildSlice t n ps) = false := _root_.id rfl
theorem ix_addr : isX (.indexAddr t x y) = false := _root_.id rfl
theorem ix_index : isX (.index t x y) = false := _root_.id rfl
theorem ix_load : isX (.load t x) = false := _root_.id rfl
theorem ix_store : isX (.store t x y) = false := _root_.id rfl
theorem ix_extract {i : Nat} : isX (.extract x i) = false := _root_.id rfl
theorem ix_len : isX (.call { callee := .builtin .len, args := ⟨[x]⟩, argTypes := ⟨[t]⟩ }) = false := _root_.id rfl
theorem ix_append : isX (.call { callee := .builtin .append, args := ⟨[x, y]⟩, argTypes := ⟨[t, t']⟩ }) = false := _root_.id rfl
theorem ix_call {f : Operand} {args : List Operand} {ts : Array TypeId} : isX (.call { callee := .value f, args := ⟨args⟩, argTypes := ts }) = false := _root_.id rfl

theorem nq1 {a b : Nat} : (a = a + (b + 1)) = False := eq_false (by omega)
theorem nq2 {a b : Nat} : (a + (b + 1) = a) = False := eq_false (by omega)

/-! ### memory that is lent and handed back -/

/-- A slice of the call's own, in memory that may be lent. -/
def OwnM {α : Type} (v : AV) (h : Nat → Blk) (n : Nat) (f : α → PV) (len : Nat) (l : List α) : Prop :=
  match v with
  | .ref id 0 len' => len' = len ∧ (∃ m, h id = .live m (l.map f)) ∧ id < n
  | _ => False
def hbM {α : Type} (b : Blk) (f : α → PV) (l : List α) : Prop := ∃ m, b = .live m (l.map f)
theorem OwnM.out {α : Type} {v : AV} {h : Nat → Blk} {n : Nat} {f : α → PV} {len : Nat} {l : List α} (ho : OwnM v h n f len l) : ∃ id m, v = .ref id 0 len ∧ h id = .live m (l.map f) ∧ id < n := by
  unfold OwnM at ho
  split at ho
  · rename_i id len'; obtain ⟨rfl, ⟨m, h1⟩, h2⟩ := ho; exact ⟨id, m, rfl, h1, h2⟩
  · exact ho.elim
theorem ownm_ref {α : Type} {h : Nat → Blk} {n id len' : Nat} {f : α → PV} {len : Nat} {l : List α} : OwnM (.ref id 0 len') h n f len l = (len' = len ∧ hbM (h id) f l ∧ id < n) := _root_.id rfl
theorem hbM_eq {α : Type} {f : α → PV} {mm : Bool} {c : List PV} {l : List α} : hbM (.live mm c) f l = (c = l.map f) := by simp [hbM]

def fiT (b : Blk) (off len : Nat) (ys : List PV) : Prop :=
  match b with
  | .live _ c => off + len ≤ c.length ∧ (c.drop off).take len = ys
  | _ => False
theorem ft_own {id off len : Nat} {ys : List PV} : fins true h k [.ref id off len] [.sl .own ys] F0 = fiT (h id) off len ys := by
  simp only [fins, fin, fin1, fiT]
  cases h id with
  | live m c => simp [F0]
  | froz m c => rfl
  | dead => rfl
theorem fiT_live {mm : Bool} {c : List PV} {off len : Nat} {ys : List PV} : fiT (.live mm c) off len ys = (off + len ≤ c.length ∧ (c.drop off).take len = ys) := _root_.id rfl
theorem v_callT {α : Type} {g : α → PV} {l : List α} {f : FuncId} {c : List PV} {as : List Arg} {os : List (Option (List PV))} {rd : List Nat} {ms : List (Option Nat)} {id : Nat}
    (hf : CallT P true f (.mu false c :: as) (none :: os) [.sl .own (l.map g)]) (hn : (ms.all Option.isNone) = true) (hid : id ∉ rd)
    (hc : C ⟨.ref k 0 l.length, [(id, .dead), (k, .live true (l.map g))], id :: rd⟩) : Pk P h k f C (.mu false c :: as) rd (some id :: ms) := by
  refine v_callM hf hn hid ?_
  simp only [List.getElem?_cons_zero]
  have : impAll k [.sl .own (l.map g)] = .ref k 0 l.length := by simp [impAll, imp, imp1]
  rw [this]
  exact hc
theorem v_finT {c : List PV} {as : List Arg} {ts : List Nat} {xs : List PV} {ex : Ex} {p : Bool} {os : List (Option (List PV))} (hx : ex = .ret ∨ ex = .normal)
    (ho : (os.all Option.isNone) = true) (hf : fins true S.h (as.length + 1) (ts.map S.e) xs F0) : FinM true (.mu p c :: as) os ts xs ex S := v_finX hx ho hf

end
attribute [go_sem ↓] w_opx w_opy x_bin x_slice x_clear
attribute [go_sem] xb_add xb_sub xb_mul sx_ref sx_live sx_live3 slx_eq sly_eq cl_ref cl_live ix_slice ix_add ix_sub ix_mul ix_clear ix_eql ix_neq ix_lss ix_leq ix_gtr ix_geq ix_quo ix_rem ix_un ix_move ix_assign ix_pick ix_conv ix_make ix_bs ix_addr ix_index ix_load ix_store ix_extract ix_len ix_append ix_call
attribute [go_sem] nq1 nq2 ownm_ref hbM_eq ft_own fiT_live
end Go.Gl
