/-
  A program logic over the walk's rules: rules for a function's results. Conditions: none; each is a plain rewriting.
-/
import Derived.Test.YtdiiocckeldkfaaGl25
set_option linter.unusedSimpArgs false
set_option linter.unusedVariables false
namespace Go.Gl
open Go

section
variable {S : St} {as : List Arg} {h : Nat → Blk} {k : Nat} {F : List (Nat × Nat × Nat) → Prop} {v : AV} {vs : List AV} {xs : List PV}

/-- The results' blocks so far, and what is behind. -/
def FK (h : Nat → Blk) (k : Nat) (vs : List AV) (xs : List PV) (F : List (Nat × Nat × Nat) → Prop) (L : List (Nat × Nat × Nat)) : Prop := fins false h k vs xs fun L' => F (L ++ L')
/-- The end: the blocks of the results are not twice the same. -/
def F0 (L : List (Nat × Nat × Nat)) : Prop := (L.map fun p => p.2.1).Nodup

theorem v_fin {ts : List Nat} {ex : Ex} (hx : ex = .ret ∨ ex = .normal) (hf : fins false S.h as.length (ts.map S.e) xs F0) : FinE as ts xs ex S := by
  have key : Fin false S as [] (ts.map S.e) xs := by
    unfold Fin
    refine Eq.mpr (congrArg (fins false S.h as.length (ts.map S.e) xs) (?_ : _ = F0)) hf
    funext L
    simp only [F0]
    apply propext
    constructor
    · intro h; exact h.1
    · intro h; refine ⟨h, fun j _ => ?_⟩
      split
      · rename_i h; simp at h
      · trivial
  rcases hx with rfl | rfl <;> exact key

theorem f_nil : fins false h k [] [] F = F [] := _root_.id rfl
theorem f_cons {x : PV} : fins false h k (v :: vs) (x :: xs) F = fin false h k v x (FK h (k + 16) vs xs F) := _root_.id rfl
/-- What came, with more in front. -/
def FL (L : List (Nat × Nat × Nat)) (F : List (Nat × Nat × Nat) → Prop) (L' : List (Nat × Nat × Nat)) : Prop := F (L ++ L')
theorem f_fkc {L : List (Nat × Nat × Nat)} : FK h k vs xs F L = fins false h k vs xs (FL L F) := _root_.id rfl
theorem f_fl {L L' : List (Nat × Nat × Nat)} : FL L F L' = F (L ++ L') := _root_.id rfl
theorem f_int {kd : IntKind} {n : Int} : fin false h k v (.int kd n) F = (v = .p (.int kd n) ∧ F []) := _root_.id rfl
theorem f_bool {b : Bool} : fin false h k v (.bool b) F = (v = .p (.bool b) ∧ F []) := _root_.id rfl
theorem f_str {s : List UInt8} : fin false h k v (.str s) F = (v = .p (.str s) ∧ F []) := _root_.id rfl
theorem f_ro {s : List PV} : fin false h k v (.sl (.lent true) s) F = (v = .p (.sl (.lent true) s) ∧ F []) := _root_.id rfl
def fiB (b : Blk) (k id off len : Nat) (ys : List PV) (F : List (Nat × Nat × Nat) → Prop) : Prop :=
  match b with
  | .live m c => off + len ≤ c.length ∧ (m = true → false = true) ∧ (c.drop off).take len = ys ∧ F [(k, id, off)]
  | _ => False
theorem f_own {id off len : Nat} {ys : List PV} : fin false h k (.ref id off len) (.sl .own ys) F = fiB (h id) k id off len ys F := by
  simp only [fin, fin1, fiB]; cases h id <;> rfl
theorem f_live {c : List PV} {id off len : Nat} {ys : List PV} : fiB (.live false c) k id off len ys F = (off + len ≤ c.length ∧ (c.drop off).take len = ys ∧ F [(k, id, off)]) := by
  simp [fiB]
theorem f_own0 {ys zs : List PV} : fin false h k (.p (.sl .own zs)) (.sl .own ys) F = (ys = [] ∧ F []) := _root_.id rfl
theorem f_0 : F0 [] := List.nodup_nil
theorem f_1 {p : Nat × Nat × Nat} : F0 [p] := by simp [F0]

end
end Go.Gl
