/-
  A program logic over the walk's rules: rules by which a goal is worked out, fifth part: a body that was lent memory. Conditions: those that each lemma names.
-/
import Derived.Test.YtdiiocckeldkfaaGl29
set_option linter.unusedSimpArgs false
set_option linter.unusedVariables false
namespace Go.Gl
open Go

theorem nrA_int {kd : IntKind} {n : Int} : noRo (.int kd n) = true := _root_.id rfl
theorem nrA_bool {b : Bool} : noRo (.bool b) = true := _root_.id rfl
theorem nrA_str {s : List UInt8} : noRo (.str s) = true := _root_.id rfl
theorem nrA_own {xs : List PV} : noRo (.sl .own xs) = noRoL xs := _root_.id rfl
theorem nrA_lent {xs : List PV} : noRo (.sl (.lent false) xs) = noRoL xs := _root_.id rfl
theorem nrA_agg {xs : List PV} : noRo (.agg xs) = noRoL xs := _root_.id rfl

/-! ### results, worked out by their shape -/

class Imp1 (k : Nat) (x : PV) (v : outParam AV) (ws : outParam (List (Nat × Blk))) : Prop where
  h : imp1 k x = v ∧ impW1 false k x = ws
instance {k : Nat} {kd : IntKind} {n : Int} : Imp1 k (.int kd n) (.p (.int kd n)) [] := ⟨rfl, rfl⟩
instance {k : Nat} {b : Bool} : Imp1 k (.bool b) (.p (.bool b)) [] := ⟨rfl, rfl⟩
instance {k : Nat} {s : List UInt8} : Imp1 k (.str s) (.p (.str s)) [] := ⟨rfl, rfl⟩
instance {m : Bool} {k : Nat} {s : List PV} : Imp1 k (.sl (.lent m) s) (.p (.sl (.lent m) s)) [] := ⟨by cases m <;> rfl, by cases m <;> rfl⟩
instance {α : Type} {k : Nat} {f : α → PV} {s : List α} : Imp1 k (.sl .own (s.map f)) (.ref k 0 s.length) [(k, .live false (s.map f))] := ⟨by simp [imp1], rfl⟩
instance {k : Nat} {f : FuncId} {a b : List PV} : Imp1 k (.fn f a b) (.p (.fn f a b)) [] := ⟨rfl, rfl⟩
class ImpLs (k : Nat) (xs : List PV) (vs : outParam (List AV)) (ws : outParam (List (Nat × Blk))) : Prop where
  h : impL k xs = vs ∧ impWL false k xs = ws
instance {k : Nat} : ImpLs k [] [] [] := ⟨rfl, rfl⟩
instance {k : Nat} {x : PV} {v : AV} {xs : List PV} {vs : List AV} {ws : List (Nat × Blk)} [a : Imp1 k x v []] [b : ImpLs (k + 1) xs vs ws] : ImpLs k (x :: xs) (v :: vs) ws :=
  ⟨by rw [impL, a.h.1, b.h.1], by rw [impWL, a.h.2, b.h.2]; rfl⟩
instance {k : Nat} {x : PV} {v : AV} {w : Nat × Blk} {xs : List PV} {vs : List AV} {ws : List (Nat × Blk)} [a : Imp1 k x v [w]] [b : ImpLs (k + 1) xs vs ws] : ImpLs k (x :: xs) (v :: vs) (w :: ws) :=
  ⟨by rw [impL, a.h.1, b.h.1], by rw [impWL, a.h.2, b.h.2]; rfl⟩
class ImpO (k : Nat) (x : PV) (v : outParam AV) (ws : outParam (List (Nat × Blk))) : Prop where
  h : imp k x = v ∧ impW false k x = ws
instance {k : Nat} {kd : IntKind} {n : Int} : ImpO k (.int kd n) (.p (.int kd n)) [] := ⟨rfl, rfl⟩
instance {k : Nat} {b : Bool} : ImpO k (.bool b) (.p (.bool b)) [] := ⟨rfl, rfl⟩
instance {k : Nat} {s : List UInt8} : ImpO k (.str s) (.p (.str s)) [] := ⟨rfl, rfl⟩
instance {m : Bool} {k : Nat} {s : List PV} : ImpO k (.sl (.lent m) s) (.p (.sl (.lent m) s)) [] := ⟨by cases m <;> rfl, by cases m <;> rfl⟩
instance {α : Type} {k : Nat} {f : α → PV} {s : List α} : ImpO k (.sl .own (s.map f)) (.ref k 0 s.length) [(k, .live false (s.map f))] := ⟨by simp [imp, imp1], rfl⟩
instance {k : Nat} {f : FuncId} {a b : List PV} : ImpO k (.fn f a b) (.p (.fn f a b)) [] := ⟨rfl, rfl⟩
instance {k : Nat} {xs : List PV} {vs : List AV} {ws : List (Nat × Blk)} [a : ImpLs (k + 1) xs vs ws] : ImpO k (.agg xs) (.agg vs) ws := ⟨by rw [imp, a.h.1], by rw [impW, a.h.2]⟩
class ImpS (k : Nat) (xs : List PV) (vs : outParam (List AV)) (ws : outParam (List (Nat × Blk))) : Prop where
  h : imps k xs = vs ∧ impWs false k xs = ws
instance {k : Nat} : ImpS k [] [] [] := ⟨rfl, rfl⟩
instance {k : Nat} {x : PV} {v : AV} {xs : List PV} {vs : List AV} {ws : List (Nat × Blk)} [a : ImpO k x v []] [b : ImpS (k + 16) xs vs ws] : ImpS k (x :: xs) (v :: vs) ws :=
  ⟨by rw [imps, a.h.1, b.h.1], by rw [impWs, a.h.2, b.h.2]; rfl⟩
instance {k : Nat} {x : PV} {v : AV} {w : Nat × Blk} {xs : List PV} {vs : List AV} {ws : List (Nat × Blk)} [a : ImpO k x v [w]] [b : ImpS (k + 16) xs vs ws] : ImpS k (x :: xs) (v :: vs) (w :: ws) :=
  ⟨by rw [imps, a.h.1, b.h.1], by rw [impWs, a.h.2, b.h.2]; rfl⟩
instance {k : Nat} {x : PV} {v : AV} {w w2 : Nat × Blk} {xs : List PV} {vs : List AV} {ws : List (Nat × Blk)} [a : ImpO k x v [w, w2]] [b : ImpS (k + 16) xs vs ws] : ImpS k (x :: xs) (v :: vs) (w :: w2 :: ws) :=
  ⟨by rw [imps, a.h.1, b.h.1], by rw [impWs, a.h.2, b.h.2]; rfl⟩
instance {k : Nat} {x : PV} {v : AV} {w w2 w3 : Nat × Blk} {xs : List PV} {vs : List AV} {ws : List (Nat × Blk)} [a : ImpO k x v [w, w2, w3]] [b : ImpS (k + 16) xs vs ws] : ImpS k (x :: xs) (v :: vs) (w :: w2 :: w3 :: ws) :=
  ⟨by rw [imps, a.h.1, b.h.1], by rw [impWs, a.h.2, b.h.2]; rfl⟩
class ImpA (k : Nat) (xs : List PV) (v : outParam AV) (ws : outParam (List (Nat × Blk))) : Prop where
  h : impAll k xs = v ∧ impWs false k xs = ws
instance {k : Nat} : ImpA k [] (.tup []) [] := ⟨rfl, rfl⟩
instance {k : Nat} {x : PV} {v : AV} {ws : List (Nat × Blk)} [a : ImpO k x v ws] : ImpA k [x] v ws := ⟨by rw [impAll, a.h.1], by rw [impWs, a.h.2, impWs, List.append_nil]⟩
instance {k : Nat} {x y : PV} {xs : List PV} {vs : List AV} {ws : List (Nat × Blk)} [a : ImpS k (x :: y :: xs) vs ws] : ImpA k (x :: y :: xs) (.tup vs) ws := ⟨by rw [impAll, a.h.1]; intro z h; simp at h, a.h.2⟩

section
variable {S : St} {P : Program} {h : Nat → Blk} {C : R → Prop}

theorem v_callE {k : Nat} {f : FuncId} {xs res : List PV} {rd : List Nat} {v : AV} {ws : List (Nat × Blk)} (hf : Fun P f xs res) [a : ImpA k res v ws] (hc : C ⟨v, ws, rd⟩) : PkX P h k f C xs rd :=
  v_call hf (by rw [a.h.1, a.h.2]; exact hc)
theorem v_callN {k : Nat} {f : FuncId} {c c' : List PV} {as : List Arg} {os : List (Option (List PV))} {res : List PV} {rd : List Nat} {ms : List (Option Nat)} {id : Nat} {v : AV} {ws : List (Nat × Blk)}
    (hf : CallT P false f (.mu false c :: as) (some c' :: os) res) [a : ImpA k res v ws] (hn : (ms.all Option.isNone) = true) (hid : id ∉ rd)
    (hc : C ⟨v, (id, outB (some (some c')) (h id)) :: ws, id :: rd⟩) : Pk P h k f C (.mu false c :: as) rd (some id :: ms) := by
  refine v_callM hf hn hid ?_
  rw [a.h.1, a.h.2, List.getElem?_cons_zero]
  exact hc
/-- What it is lent is gone behind the call. -/
theorem v_callX {k : Nat} {f : FuncId} {c : List PV} {as : List Arg} {os : List (Option (List PV))} {res : List PV} {rd : List Nat} {ms : List (Option Nat)} {id : Nat} {v : AV} {ws : List (Nat × Blk)}
    (hf : CallT P false f (.mu false c :: as) (none :: os) res) [a : ImpA k res v ws] (hn : (ms.all Option.isNone) = true) (hid : id ∉ rd)
    (hc : C ⟨v, (id, .dead) :: ws, id :: rd⟩) : Pk P h k f C (.mu false c :: as) rd (some id :: ms) := by
  refine v_callM hf hn hid ?_
  rw [a.h.1, a.h.2, List.getElem?_cons_zero]
  exact hc

theorem q_maps {caps : List PV} {F : List PV → List Nat → Prop} : puG h (List.map AV.p caps) F = F (caps.map PV.cell) [] := by
  induction caps generalizing F with
  | nil => rfl
  | cons c caps ih => simp only [List.map_cons, q_p, ih, q_ua, List.nil_append]
theorem ah_mu {p : Bool} {c : List PV} {as : List Arg} : argH (.mu p c :: as) 0 = .live true c := _root_.id rfl
theorem ah_pv {x : PV} {as : List Arg} : argH (.pv x :: as) 0 = .dead := _root_.id rfl
theorem ah_s {a : Arg} {as : List Arg} {j : Nat} : argH (a :: as) (j + 1) = argH as j := by simp [argH]
theorem v_finN {tk : Bool} {c c' : List PV} {as : List Arg} {ts : List Nat} {xs : List PV} {ex : Ex} {p : Bool} {os : List (Option (List PV))} (hx : ex = .ret ∨ ex = .normal)
    (ho : (os.all Option.isNone) = true) (hl : S.h 0 = .live true c') (hf : fins tk S.h (as.length + 1) (ts.map S.e) xs F1) :
    FinM tk (.mu p c :: as) (some c' :: os) ts xs ex S := v_finM hx ho hl hf
theorem live_t {c c' : List PV} (h : c = c') : Blk.live true c = Blk.live true c' := by rw [h]

end
attribute [go_sem] q_maps tk_map dr_map r_appw0 ah_mu ah_pv ah_s f1_nil f1_1
end Go.Gl
