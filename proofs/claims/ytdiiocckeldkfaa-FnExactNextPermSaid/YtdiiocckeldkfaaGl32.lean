/-
  A program logic over the walk's rules: rules by which a goal is worked out, sixth part: structs in memory. Conditions: none; each is a plain rewriting.
-/
import Derived.Test.YtdiiocckeldkfaaGl31
set_option linter.unusedSimpArgs false
set_option linter.unusedVariables false
namespace Go.Gl
open Go

section
variable {P : Program} {sg : FuncId → List Bool} {h : Nat → Blk} {k : Nat} {C : R → Prop} {A : AV → Prop}

/-! ### a struct loaded -/

def ldA (b : Blk) (id off n : Nat) (C : R → Prop) : Prop :=
  match b with
  | .live _ c => off + n ≤ c.length ∧ C ⟨.p (.agg ((c.drop off).take n)), [], [id]⟩
  | .froz _ c => off + n ≤ c.length ∧ C ⟨.p (.agg ((c.drop off).take n)), [], [id]⟩
  | .dead => False
theorem ld_aptr {n id off : Nat} : ldG (some (n, true)) h (.ptr id off) C = ldA (h id) id off n C := by
  simp only [ldG, ldA]; cases h id <;> rfl
theorem ld_alive {m : Bool} {c : List PV} {id off n : Nat} : ldA (.live m c) id off n C = (off + n ≤ c.length ∧ C ⟨.p (.agg ((c.drop off).take n)), [], [id]⟩) := _root_.id rfl
theorem ld_afroz {m : Bool} {c : List PV} {id off n : Nat} : ldA (.froz m c) id off n C = (off + n ≤ c.length ∧ C ⟨.p (.agg ((c.drop off).take n)), [], [id]⟩) := _root_.id rfl

/-! ### a box: a variable whose address is taken -/

def BX (k : Nat) (C : R → Prop) (xs : List PV) (ws : List (Nat × Blk)) (rd : List Nat) : Prop := xs ≠ [] ∧ xs.length ≤ 1000000 ∧ C ⟨.ptr k 0, ws ++ [(k, .live false xs)], rd⟩
theorem bx_eq {v : AV} : boxW h k v C = cellsW h v (BX k C) := _root_.id rfl
theorem bx_go {xs : List PV} {ws : List (Nat × Blk)} {rd : List Nat} : BX k C xs ws rd = (xs ≠ [] ∧ xs.length ≤ 1000000 ∧ C ⟨.ptr k 0, ws ++ [(k, .live false xs)], rd⟩) := _root_.id rfl
variable {K : List PV → List (Nat × Blk) → List Nat → Prop}
theorem cw_agg {xs : List PV} : cellsW h (.p (.agg xs)) K = (xs.all (fun x => x.cell.cellOk) = true ∧ K (xs.map PV.cell) [] []) := _root_.id rfl
theorem cw_aggA {vs : List AV} : cellsW h (.agg vs) K = pubs h vs K := _root_.id rfl
theorem cw_int {kd : IntKind} {n : Int} : cellsW h (.p (.int kd n)) K = K [.int kd n] [] [] := by simp [cellsW, pub, PV.cell, PV.cellOk]
theorem cw_bool {b : Bool} : cellsW h (.p (.bool b)) K = K [.bool b] [] [] := by simp [cellsW, pub, PV.cell, PV.cellOk]
theorem cw_str {s : List UInt8} : cellsW h (.p (.str s)) K = K [.str s] [] [] := by simp [cellsW, pub, PV.cell, PV.cellOk]
theorem cw_lent {m : Bool} {s : List PV} : cellsW h (.p (.sl (.lent m) s)) K = K [.sl (.lent m) s] [] [] := by cases m <;> simp [cellsW, pub, PV.cell, PV.cellOk, Fl.lent]
theorem cw_own {s : List PV} : cellsW h (.p (.sl .own s)) K = K [.sl (.lent false) []] [] [] := by simp [cellsW, pub, PV.cell, PV.cellOk, Fl.lent]
def CW1 (K : List PV → List (Nat × Blk) → List Nat → Prop) (x : PV) (ws : List (Nat × Blk)) (rd : List Nat) : Prop := K [x] ws rd
theorem cw_ref {id off len : Nat} : cellsW h (.ref id off len) K = puB (h id) id off len (CW1 K) := by
  simp only [cellsW, pub, puB, CW1]; cases h id <;> rfl
theorem cw1_eq {x : PV} {ws : List (Nat × Blk)} {rd : List Nat} : CW1 K x ws rd = K [x] ws rd := _root_.id rfl

/-! ### a struct stored -/

def ST (h : Nat → Blk) (n id off : Nat) (m : Bool) (c : List PV) (C : R → Prop) (xs : List PV) (ws : List (Nat × Blk)) (rd : List Nat) : Prop :=
  xs.length = n ∧ off + n ≤ c.length ∧ id ∉ rd ∧ C ⟨.p .any, ws ++ [(id, .live m (c.take off ++ xs ++ c.drop (off + n)))], id :: rd⟩
def stA (b : Blk) (h : Nat → Blk) (n id off : Nat) (v : AV) (C : R → Prop) : Prop :=
  match b with
  | .live m c => cellsW h v (ST h n id off m c C)
  | _ => False
theorem st_agg {n id off : Nat} {v : AV} : stG (some (n, true)) h (.ptr id off) v C = stA (h id) h n id off v C := by
  simp only [stG, stA]; rfl
theorem sta_live {n id off : Nat} {m : Bool} {c : List PV} {v : AV} : stA (.live m c) h n id off v C = cellsW h v (ST h n id off m c C) := _root_.id rfl
theorem st_eq {n id off : Nat} {m : Bool} {c xs : List PV} {ws : List (Nat × Blk)} {rd : List Nat} : ST h n id off m c C xs ws rd = (xs.length = n ∧ off + n ≤ c.length ∧ id ∉ rd ∧ C ⟨.p .any, ws ++ [(id, .live m (c.take off ++ xs ++ c.drop (off + n)))], id :: rd⟩) := _root_.id rfl
theorem pu_pc {xs : List PV} {vs : List AV} {F : List PV → List Nat → Prop} : puG h (.p (.pc xs) :: vs) F = puG h vs (UA F (.pc xs) []) := _root_.id rfl

end
attribute [go_sem] ld_aptr ld_alive ld_afroz bx_eq bx_go cw_agg cw_aggA cw_int cw_bool cw_str cw_lent cw_own cw_ref cw1_eq st_agg sta_live st_eq List.not_mem_nil List.mem_cons or_false List.all_cons List.all_nil List.take_succ_cons List.drop_succ_cons List.take_zero
end Go.Gl
