/-
  The library's splitting of a text. Conditions: none.
-/
import Derived.Test.YtfjfobbniglaeaaDoorParse
import Derived.Test.YtfjfobbniglaeaaDoorShelfS
import Derived.Test.YtfjfobbniglaeaaDoorAmb
set_option linter.unusedSimpArgs false
set_option linter.unusedVariables false
set_option maxRecDepth 20000
set_option linter.unusedSectionVars false
namespace Go.Gl
open Go Go.Proofs
variable [Amb] [NoQ]
/-- The library's longest needle is laid. -/
class SplA [Amb] : Prop where
  has : ∀ w : World, (∀ B o, Amb.tb B = some o → w.heap[B]? = some o) → ∃ m : Int, w.cell? ⟨1, 0, none⟩ = some (.int .i64 m)
theorem ambAt_spl {w : World} (h : ∃ m : Int, w.cell? ⟨1, 0, none⟩ = some (.int .i64 m)) : @SplA (ambAt w 1) := @SplA.mk (ambAt w 1) (fun w' hw => by
  obtain ⟨m, h⟩ := h
  refine ⟨m, ?_⟩
  cases e : w.heap[1]? with
  | none => simp only [World.cell?, e] at h; cases h
  | some o =>
    have := hw 1 o (show (if 1 = 1 then w.heap[1]? else none) = some o by rw [if_pos rfl]; exact e)
    simp only [World.cell?, this]
    simp only [World.cell?, e] at h
    exact h)
variable [SplA]
def addH (cur : List UInt8) : List (List UInt8) → List (List UInt8)
  | [] => []
  | h :: t => (cur ++ h) :: t
theorem addH_nil {X : List (List UInt8)} : addH [] X = X := by cases X <;> rfl
theorem addH_app {a b : List UInt8} {X : List (List UInt8)} : addH a (addH b X) = addH (a ++ b) X := by cases X <;> simp [addH]
theorem splitK_ne {c b : UInt8} (h : ¬ b = c) {l : List UInt8} : ∀ {k : Nat}, Lib.splitK [c] 0 k (b :: l) = addH [b] (Lib.splitK [c] 0 k l)
  | 0 => rfl
  | k + 1 => by
    have e : Lib.index (b :: l) [c] = if Lib.index l [c] == -1 then -1 else Lib.index l [c] + 1 := by
      rw [Lib.index]
      have hp : List.isPrefixOf [c] (b :: l) = false := by simp [List.isPrefixOf]; exact fun e => h e.symm
      rw [hp]; rfl
    rw [Lib.splitK, Lib.splitK, e]
    by_cases hm : Lib.index l [c] = -1
    · simp [hm, addH]
    · have hge := Lib.index_ge l [c]
      obtain ⟨j, hj⟩ : ∃ j : Nat, Lib.index l [c] = j := ⟨(Lib.index l [c]).toNat, by omega⟩
      have h1 : ¬ ((j : Int) = -1) := by omega
      have h2 : ¬ ((j : Int) + 1 = -1) := by omega
      have h3 : ((j : Int) + 1).toNat = j + 1 := by omega
      simp [hj, h1, h2, h3, addH]
theorem spB_split {c : UInt8} : ∀ {s cur : List UInt8}, spB c s cur = addH cur (Lib.splitK [c] 0 (s.count c) s)
  | [], cur => by simp [spB, Lib.splitK, addH]
  | b :: l, cur => by
    by_cases h : b = c
    · subst h
      have e : Lib.index (b :: l) [b] = 0 := by rw [Lib.index]; simp [List.isPrefixOf]
      rw [spB, if_pos rfl, List.count_cons_self, Lib.splitK, e, spB_split, addH_nil]
      simp [addH]
    · rw [spB, if_neg h, spB_split, List.count_cons_of_ne (by simpa using h), splitK_ne h, addH_app]
theorem strings_Split_c (s : List UInt8) (c : UInt8) (hl : s.length ≤ 1048576) : Fun Tryd.prog 99 [.str s, .str [c]] [.sl .own (List.map .str (splitC c s))] := by
  refine Fun.of_row 9 Tryd.func99 rfl rfl (noRoL_map (fun _ => rfl) _) (by intro x hx; rw [List.mem_map] at hx; obtain ⟨_, _, rfl⟩ := hx; rfl) ?_
  intro w F G vs hamb hv
  simp only [RepL] at hv
  obtain ⟨a, vs1, rfl, ha, b, vs2, rfl, hb, rfl⟩ := hv
  have ha := repP_str ha
  have hb := repP_str hb
  subst ha; subst hb
  obtain ⟨m, hm⟩ := SplA.has w hamb
  have e1 : (Lib.splitB ⟨#[c]⟩ 0 (Lib.countB ⟨s.toArray⟩ ⟨#[c]⟩) ⟨s.toArray⟩).map (·.data.toList) = splitC c s := by
    rw [Lib.splitB_data, splitC, spB_split, addH_nil]
    show Lib.splitK [c] 0 (Lib.count s [c]) s = _
    rw [Lib.count_one]
  have e2 := Lib.splitB_all ⟨#[c]⟩ (Nat.le_refl 1) 0 _ (⟨s.toArray⟩ : ByteArray) rfl
  have e3 : (splitC c s).length = Lib.countB ⟨s.toArray⟩ ⟨#[c]⟩ + 1 := by rw [← e1, List.length_map, e2]
  have e4 := spB_len (c := c) (s := s) (cur := [])
  refine (Tryd.strings_Split ⟨s.toArray⟩ ⟨[c].toArray⟩ m w (by show s.length < _; omega) hm (Nat.le_refl 1)).mono fun e w' h => ?_
  obtain ⟨he, hw⟩ := h
  have e5 : List.map pvV (List.map PV.str (splitC c s)) = (Lib.splitB ⟨#[c]⟩ 0 (Lib.countB ⟨s.toArray⟩ ⟨#[c]⟩) ⟨s.toArray⟩).map Value.string := by
    rw [← e1, List.map_map, List.map_map]
    refine List.map_congr_left fun x _ => ?_
    simp [pvV, plV]
  subst hw
  refine ⟨_, he, ?_, (Go.RowKit.Below.refl _ _).alloc (Nat.le_refl _) _⟩
  rw [e5, List.length_map, e3]
  refine ⟨by rw [List.length_map, e2]; simp, .inr ⟨w.heap.size, _, ((Lib.splitB ⟨#[c]⟩ 0 (Lib.countB ⟨s.toArray⟩ ⟨#[c]⟩) ⟨s.toArray⟩).map Value.string).toArray, rfl, Nat.le_refl _, (show (w.heap.push _)[w.heap.size]? = some _ by simp), Nat.le_refl _, ?_, by simp [e2], by simp only [Nat.mul_one]; exact List.take_of_length_le (by simp [e2])⟩⟩
  have hm : maxLen = 9223372036854775807 := rfl
  unfold splitC at e3; omega
--%reg strings.Split strings_Split_c _ _ ?_
end Go.Gl
