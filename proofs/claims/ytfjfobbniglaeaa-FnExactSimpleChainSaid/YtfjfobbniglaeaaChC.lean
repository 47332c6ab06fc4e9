/-
 The calls of the chain of simple permutations, told at the world. Conditions: none.
-/
import Derived.Test.YtfjfobbniglaeaaWd8
import Derived.Test.YtfjfobbniglaeaaPatD
import Derived.Test.YtfjfobbniglaeaaLowO
import Derived.Test.YtfjfobbniglaeaaSimC2
import Derived.Test.YtfjfobbniglaeaaClone
set_option linter.unusedSimpArgs false
set_option linter.unusedVariables false
set_option maxRecDepth 20000
set_option linter.unusedSectionVars false
namespace Go.Gl
open Go Go.Proofs Go.RowKit Go.Lib
variable [Amb] [NoQ]
/-- Numbers that may be read. -/
def Rd (w : World) (q : List Int) (v : Value) : Prop := RepP w (fun _ => False) (fun _ => True) (.sl (.lent true) (q.map (PV.int .i64))) v
theorem Rd.keep {w w' : World} {q : List Int} {v : Value} (h : Rd w q v) (hk : ∀ B, B < w.heap.size → w'.heap[B]? = w.heap[B]?) : Rd w' q v :=
 RepP.tr (F := fun _ => False) (fun B o v _ hv => ⟨by rw [cell?_same (hk B (cell?_lt hv))]; exact hv, id⟩) (fun _ _ _ h => h) _ _ h
/-- The tables told are there. -/
abbrev Tb (w : World) : Prop := ∀ B o, Amb.tb B = some o → w.heap[B]? = some o
theorem smp_call {w : World} (ha : Tb w) {q : List Int} {v : Value} (h : Rd w q v) (hl : q.length ≤ 1048576) : Calls Try.prog 56 #[v] w fun e w' => e = .returned (.bool (isPermB q && isSimB q)) ∧ Keep w w' (fun _ => False) :=
 Fun.lookB (impl_IsSimple_c (m0 := true) q hl) w ha (vs := [v]) (rep_cons h rep_nil)
theorem cln_call {w : World} (ha : Tb w) {q : List Int} {v : Value} (h : Rd w q v) (hl : q.length ≤ 1048576) : Calls Try.prog 57 #[v] w fun e w' => ∃ v l, e = .returned v ∧ hdrAt l q.length v ∧ Own w' (bI q) l ∧ (∀ B, owns (bI q) l B → w.heap.size ≤ B) ∧ Keep w w' (fun _ => False) :=
 Fun.row (slices_Clone_c (m0 := true) q (by omega)) (by simp [postH, impWs, impW, impW1, hwsH]) w ha (vs := [v]) (rep_cons h rep_nil)
theorem low_call {w : World} (ha : Tb w) {q : List Int} {v : Value} (h : Rd w q v) (hl : q.length ≤ 8) : Calls Try.prog 54 #[v] w fun e w' => ∃ v l, e = .returned v ∧ hdrAt l (lowL q).length v ∧ Own w' (bL (lowL q)) l ∧ (∀ B, owns (bL (lowL q)) l B → w.heap.size ≤ B) ∧ Keep w w' (fun _ => False) :=
 Fun.rows (impl_lowers_d_c (m0 := true) q hl) (by simp [postH, impWs, impW, impW1, hwsH, Function.comp_def]) w ha (vs := [v]) (rep_cons h rep_nil)
theorem pat_call {w : World} (ha : Tb w) {q : List Int} {v : Value} (h : Rd w q v) (k : Nat) (hp : isPermB q = true) (hk : k ≤ q.length) (h0 : 0 < (plK q.length k).length) : Calls Try.prog 58 #[v, .int .i64 k] w fun e w' => ∃ v l, e = .returned v ∧ hdrAt l (ptR q k).length v ∧ Own w' (bL (ptR q k)) l ∧ (∀ B, owns (bL (ptR q k)) l B → w.heap.size ≤ B) ∧ Keep w w' (fun _ => False) :=
 Fun.rows (impl_PatternsIn_d_c (m0 := true) q k hp hk h0) (by simp [postH, impWs, impW, impW1, hwsH, Function.comp_def]) w ha (vs := [v, _]) (rep_cons h (rep_cons (rep_i _) rep_nil))
theorem sms_call {w : World} (ha : Tb w) {L : List (List Int)} {l : Loc} {v : Value} (hO : Own w (bL L) l) (hoff : ∀ B o, Amb.tb B = some o → ¬ owns (bL L) l B) (hv : hdrAt l L.length v) (hL : L.length ≤ 1000) (hl : ∀ l ∈ L, l.length ≤ 8 ∧ ∀ x ∈ l, 0 ≤ x ∧ x ≤ 1048576) :
  Calls Try.prog 53 #[v] w fun e w' => ∃ v' l', e = .returned v' ∧ hdrAt l' (L.filter isSimB).length v' ∧ Own w' (bL (L.filter isSimB)) l' ∧ (∀ B, owns (bL (L.filter isSimB)) l' B → w.heap.size ≤ B ∨ owns (bL L) l B) ∧ Keep w w' (owns (bL L) l) :=
 CallT.thin (impl_simples_d L (by omega) hl) w ha hO hoff hv
end Go.Gl
