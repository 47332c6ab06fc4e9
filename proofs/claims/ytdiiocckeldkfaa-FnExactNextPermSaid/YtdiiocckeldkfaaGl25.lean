/-
  A program logic over the walk's rules: rules by which a goal is worked out, second part: slices, memory. Conditions: none; each is a plain rewriting.
-/
import Derived.Test.YtdiiocckeldkfaaGl24
set_option linter.unusedSimpArgs false
set_option linter.unusedVariables false
namespace Go.Gl
open Go

section
variable {P : Program} {sg : FuncId → List Bool} {h : Nat → Blk} {k : Nat} {ρ : Operand → AV} {C : R → Prop} {t t' : TypeId} {x y : Operand}

/-! ### what is in a block -/

def setB (h : Nat → Blk) (i : Nat) (b : Blk) (j : Nat) : Blk := if j = i then b else h j
theorem hw_nil : hwsH h [] = h := _root_.id rfl
theorem hw_cons {i : Nat} {b : Blk} {l : List (Nat × Blk)} : hwsH h ((i, b) :: l) = hwsH (setB h i b) l := _root_.id rfl
theorem setB_at {i j : Nat} {b : Blk} : setB h i b j = if j = i then b else h j := _root_.id rfl
theorem num_eq {S0 i : Nat} : num S0 i = S0 + 256 * i := _root_.id rfl

/-! ### a place in a list -/

def gtO {α : Type} (o : Option α) (K : α → Prop) : Prop := match o with | some x => K x | none => False
theorem gt_eq {α : Type} {xs : List α} {i : Int} {K : α → Prop} : gt xs i K = (0 ≤ i ∧ gtO xs[i.toNat]? K) := _root_.id rfl
theorem gtO_some {α : Type} {a : α} {K : α → Prop} : gtO (some a) K = K a := _root_.id rfl
theorem v_gt {l : List Int} {i : Nat} {f : Int → PV} {K : PV → Prop} (hi : i < l.length) (hk : K (f (l.getD i 0))) : gtO (Option.map f l[i]?) K := by
  rw [List.getElem?_eq_getElem hi]
  rw [List.getD_eq_getElem?_getD, List.getElem?_eq_getElem hi] at hk
  exact hk
theorem v_gt8 {l : List UInt8} {i : Nat} {K : UInt8 → Prop} (hi : i < l.length) (hk : K (l.getD i 0)) : gtO l[i]? K := by
  rw [List.getElem?_eq_getElem hi]
  rw [List.getD_eq_getElem?_getD, List.getElem?_eq_getElem hi] at hk
  exact hk

/-! ### loads -/

def KX (id : Nat) (C : R → Prop) (v : PV) : Prop := C ⟨.p v, [], [id]⟩
def KB (A : AV → Prop) (b : UInt8) : Prop := A (.p (.int .u8 b.toNat))
def KP (A : AV → Prop) (v : PV) : Prop := A (.p (.pc [v]))
def ldG (s : Option (Nat × Bool)) (h : Nat → Blk) (a : AV) (C : R → Prop) : Prop :=
  match s with
  | some (n, false) => n = 1 ∧ (match a with
    | .p (.pc (x :: _)) => C ⟨.p x, [], []⟩
    | .ptr id off => match h id with
      | .live _ c => gt c off fun x => C ⟨.p x, [], [id]⟩
      | .froz _ c => gt c off fun x => C ⟨.p x, [], [id]⟩
      | .dead => False
    | _ => False)
  | some (n, true) => (match a with
    | .p (.pc xs) => n ≤ xs.length ∧ C ⟨.p (.agg (xs.take n)), [], []⟩
    | .ptr id off => match h id with
      | .live _ c => off + n ≤ c.length ∧ C ⟨.p (.agg ((c.drop off).take n)), [], [id]⟩
      | .froz _ c => off + n ≤ c.length ∧ C ⟨.p (.agg ((c.drop off).take n)), [], [id]⟩
      | .dead => False
    | _ => False)
  | none => False
def ldB (b : Blk) (id : Nat) (off : Nat) (C : R → Prop) : Prop :=
  match b with
  | .live _ c => gt c off (KX id C)
  | .froz _ c => gt c off (KX id C)
  | .dead => False
theorem m_load {a : AV} : loadW P t h a C = ldG (szT P t) h a C := _root_.id rfl
theorem m_ld_pc {v : PV} {vs : List PV} : ldG (some (1, false)) h (.p (.pc (v :: vs))) C = C ⟨.p v, [], []⟩ := by simp [ldG]
theorem m_ld_ptr {id off : Nat} : ldG (some (1, false)) h (.ptr id off) C = ldB (h id) id off C := by simp only [ldG, ldB, true_and]; rfl
theorem m_live {m : Bool} {c : List PV} {id off : Nat} : ldB (.live m c) id off C = gt c off (KX id C) := _root_.id rfl
theorem m_froz {m : Bool} {c : List PV} {id off : Nat} : ldB (.froz m c) id off C = gt c off (KX id C) := _root_.id rfl
theorem m_kx {id : Nat} {v : PV} : KX id C v = C ⟨.p v, [], [id]⟩ := _root_.id rfl
theorem m_agg_pc {n : Nat} {xs : List PV} : ldG (some (n, true)) h (.p (.pc xs)) C = (n ≤ xs.length ∧ C ⟨.p (.agg (xs.take n)), [], []⟩) := _root_.id rfl

variable {A : AV → Prop}
theorem m_addr_sl {kd : IntKind} {i : Int} {o : Fl} {xs : List PV} : indexAddrW P t (.p (.sl o xs)) (.p (.int kd i)) A = ((slT P t).isSome = true ∧ gt xs i (KP A)) := _root_.id rfl
theorem m_addr_ref {kd : IntKind} {i : Int} {id off len : Nat} : indexAddrW P t (.ref id off len) (.p (.int kd i)) A = ((slT P t).isSome = true ∧ 0 ≤ i ∧ i < len ∧ A (.ptr id (off + i.toNat))) := _root_.id rfl
theorem m_kp {v : PV} : KP A v = A (.p (.pc [v])) := _root_.id rfl
theorem m_index {kd : IntKind} {i : Int} {s : List UInt8} : indexW P t (.p (.str s)) (.p (.int kd i)) A = (strT P t = true ∧ gt s i (KB A)) := _root_.id rfl
theorem m_kb {b : UInt8} : KB A b = A (.p (.int .u8 b.toNat)) := _root_.id rfl

/-! ### lengths -/

theorem w_len {ty : TypeId} : opB P sg ρ h k (.call { callee := .builtin .len, args := ⟨[x]⟩, argTypes := ⟨[ty]⟩ }) C = lenW P ty (ρ x) (KW C) := _root_.id rfl
theorem m_len_s {s : List UInt8} : lenW P t (.p (.str s)) A = (strT P t = true ∧ A (.p (.int .i64 s.length))) := _root_.id rfl
theorem m_len_sl {o : Fl} {xs : List PV} : lenW P t (.p (.sl o xs)) A = ((slT P t).isSome = true ∧ A (.p (.int .i64 xs.length))) := _root_.id rfl
theorem m_len_ref {id off len : Nat} : lenW P t (.ref id off len) A = ((slT P t).isSome = true ∧ A (.p (.int .i64 len))) := _root_.id rfl

/-! ### new slices -/

def BS (n k : Nat) (C : R → Prop) (xs : List PV) (ws : List (Nat × Blk)) (rd : List Nat) : Prop := C ⟨.ref k 0 n, ws ++ [(k, .live false xs)], rd⟩
def PU (F : List PV → List (Nat × Blk) → List Nat → Prop) (v : PV) (xs : List PV) (ws : List (Nat × Blk)) (rd : List Nat) : Prop := F (v :: xs) ws rd
theorem w_bs {n : Nat} {parts : Array (Nat × Operand)} : opB P sg ρ h k (.buildSlice t n parts) C = ((slT P t).isSome = true ∧ partsOk n parts = true ∧ n ≤ 1000000 ∧ pubs h (parts.toList.map fun p => ρ p.2) (BS n k C)) := _root_.id rfl
theorem p_ok {n : Nat} {parts : Array (Nat × Operand)} (h : partsOk n parts = true) : partsOk n parts = true := h
theorem m_pu_nil {F : List PV → List (Nat × Blk) → List Nat → Prop} : pubs h [] F = F [] [] [] := _root_.id rfl
theorem m_pu_p {F : List PV → List (Nat × Blk) → List Nat → Prop} {v : PV} {vs : List AV} : pubs h (.p v :: vs) F = (v.cell.cellOk = true ∧ pubs h vs (PU F v.cell)) := _root_.id rfl
theorem m_pu {F : List PV → List (Nat × Blk) → List Nat → Prop} {v : PV} {xs : List PV} {ws : List (Nat × Blk)} {rd : List Nat} : PU F v xs ws rd = F (v :: xs) ws rd := _root_.id rfl
theorem m_bs {n : Nat} {xs : List PV} {ws : List (Nat × Blk)} {rd : List Nat} : BS n k C xs ws rd = C ⟨.ref k 0 n, ws ++ [(k, .live false xs)], rd⟩ := _root_.id rfl
theorem ok_int {kd : IntKind} {n : Int} : (PV.int kd n).cellOk = true := _root_.id rfl
theorem ok_bool {b : Bool} : (PV.bool b).cellOk = true := _root_.id rfl
theorem ok_str {s : List UInt8} : (PV.str s).cellOk = true := _root_.id rfl
theorem ok_lent {m : Bool} {s : List PV} : (PV.sl (.lent m) s).cellOk = true := by cases m <;> rfl

/-! ### append -/

def AP (h : Nat → Blk) (k : Nat) (s : AV) (C : R → Prop) (ys : List PV) (rd : List Nat) : Prop :=
  match s with
  | .ref id off len => match h id with
    | .live m c => len + ys.length ≤ 1099511627776 ∧ off + len ≤ c.length ∧
        (if off + len = c.length then C ⟨.ref k 0 (len + ys.length), [(id, .dead), (k, .live m (c.drop off ++ ys))], id :: rd⟩
        else if off + len + ys.length ≤ c.length then C ⟨.ref k off (len + ys.length), [(id, .dead), (k, .live m (c.take (off + len) ++ ys ++ c.drop (off + len + ys.length)))], id :: rd⟩
        else C ⟨.ref k 0 (len + ys.length), [(id, .dead), (k, .live m ((c.drop off).take len ++ ys))], id :: rd⟩)
    | _ => False
  | .p (.sl .own []) => ys.length ≤ 1099511627776 ∧ C ⟨.ref k 0 ys.length, [(k, .live false ys)], rd⟩
  | _ => False
def apB (b : Blk) (id off len k : Nat) (C : R → Prop) (ys : List PV) (rd : List Nat) : Prop :=
  match b with
  | .live m c => len + ys.length ≤ 1099511627776 ∧ off + len ≤ c.length ∧
        (if off + len = c.length then C ⟨.ref k 0 (len + ys.length), [(id, .dead), (k, .live m (c.drop off ++ ys))], id :: rd⟩
        else if off + len + ys.length ≤ c.length then C ⟨.ref k off (len + ys.length), [(id, .dead), (k, .live m (c.take (off + len) ++ ys ++ c.drop (off + len + ys.length)))], id :: rd⟩
        else C ⟨.ref k 0 (len + ys.length), [(id, .dead), (k, .live m ((c.drop off).take len ++ ys))], id :: rd⟩)
  | _ => False
def ctB (b : Blk) (id off len : Nat) (F : List PV → List Nat → Prop) : Prop :=
  match b with
  | .live _ c => off + len ≤ c.length ∧ F ((c.drop off).take len) [id]
  | .froz _ c => off + len ≤ c.length ∧ F ((c.drop off).take len) [id]
  | .dead => False
theorem w_append : opB P sg ρ h k (.call { callee := .builtin .append, args := ⟨[x, y]⟩, argTypes := ⟨[t, t']⟩ }) C =
    ((slT P t).isSome = true ∧ ((slT P t').isSome = true ∨ strT P t' = true) ∧ cont h (ρ y) (AP h k (ρ x) C)) := rfl
theorem m_ct_sl {o : Fl} {xs : List PV} {F : List PV → List Nat → Prop} : cont h (.p (.sl o xs)) F = F xs [] := _root_.id rfl
theorem m_ct_s {s : List UInt8} {F : List PV → List Nat → Prop} : cont h (.p (.str s)) F = F (s.map fun b => .int .u8 b.toNat) [] := _root_.id rfl
theorem m_ct_ref {id off len : Nat} {F : List PV → List Nat → Prop} : cont h (.ref id off len) F = ctB (h id) id off len F := by
  simp only [cont, ctB]; cases h id <;> rfl
theorem m_ct_live {m : Bool} {c : List PV} {id off len : Nat} {F : List PV → List Nat → Prop} : ctB (.live m c) id off len F = (off + len ≤ c.length ∧ F ((c.drop off).take len) [id]) := _root_.id rfl
theorem m_ct_froz {m : Bool} {c : List PV} {id off len : Nat} {F : List PV → List Nat → Prop} : ctB (.froz m c) id off len F = (off + len ≤ c.length ∧ F ((c.drop off).take len) [id]) := _root_.id rfl
theorem m_ap_nil {ys : List PV} {rd : List Nat} : AP h k (.p (.sl .own [])) C ys rd = (ys.length ≤ 1099511627776 ∧ C ⟨.ref k 0 ys.length, [(k, .live false ys)], rd⟩) := _root_.id rfl
theorem m_ap_ref {id off len : Nat} {ys : List PV} {rd : List Nat} : AP h k (.ref id off len) C ys rd = apB (h id) id off len k C ys rd := by
  simp only [AP, apB]
theorem m_ap_live {m : Bool} {c : List PV} {id off len : Nat} {ys : List PV} {rd : List Nat} : apB (.live m c) id off len k C ys rd = (len + ys.length ≤ 1099511627776 ∧ off + len ≤ c.length ∧
        (if off + len = c.length then C ⟨.ref k 0 (len + ys.length), [(id, .dead), (k, .live m (c.drop off ++ ys))], id :: rd⟩
        else if off + len + ys.length ≤ c.length then C ⟨.ref k off (len + ys.length), [(id, .dead), (k, .live m (c.take (off + len) ++ ys ++ c.drop (off + len + ys.length)))], id :: rd⟩
        else C ⟨.ref k 0 (len + ys.length), [(id, .dead), (k, .live m ((c.drop off).take len ++ ys))], id :: rd⟩)) := rfl
theorem take_all {α : Type} {l : List α} : l.take l.length = l := List.take_length
theorem take_map_all {α β : Type} {f : α → β} {l : List α} : (l.map f).take l.length = l.map f := by rw [List.take_of_length_le (by simp)]

end
end Go.Gl
