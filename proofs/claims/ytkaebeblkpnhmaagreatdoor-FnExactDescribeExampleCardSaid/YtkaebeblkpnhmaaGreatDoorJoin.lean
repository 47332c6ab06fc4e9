/-
  The library's joining of strings. Conditions: none.
-/
import Derived.Test.YtkaebeblkpnhmaaGreatDoorNum
import Derived.Test.YtkaebeblkpnhmaaGreatDoorShelf
import Derived.Lib.Join
set_option linter.unusedSimpArgs false
set_option linter.unusedVariables false
set_option maxRecDepth 20000
set_option linter.unusedSectionVars false
namespace Go.Gl
open Go Go.Proofs
variable [Amb]
theorem strings_Join_c {m0 : Bool} (l : List (List UInt8)) (sep : List UInt8) (h1 : l.length ≤ 1099511627776) (h2 : (Lib.join l sep).length ≤ 1099511627776) :
    Fun Tryz.prog 41 [.sl (.lent m0) (List.map .str l), .str sep] [.str (Lib.join l sep)] := by
  refine Fun.of_plain Tryz.func41 rfl rfl rfl ?_
  intro w F G vs _ hv
  simp only [RepL] at hv
  obtain ⟨a, vs1, rfl, ha, b, vs2, rfl, hb, rfl⟩ := hv
  have hb := repP_str hb
  subst hb
  have e1 : (l.map fun s => (⟨s.toArray⟩ : ByteArray)).map (·.data.toList) = l := by simp [Function.comp_def]
  by_cases hl : l = []
  · subst hl
    obtain ⟨a', cap, rfl⟩ := repP_nil ha
    exact (Tryz.strings_Join_none a' cap _ w).mono fun e w' h => ⟨h.1.trans (by simp [Lib.join]), h.2 ▸ Go.RowKit.Below.refl _ _⟩
  · obtain ⟨B, off, cap, rfl, hc1, _, hB, hcells⟩ := rep_strs ha hl
    have := Tryz.strings_Join B off cap (l.map fun s => (⟨s.toArray⟩ : ByteArray)) ⟨sep.toArray⟩ w hcells hB (by simp; omega) (by simpa using hc1) (by rw [e1]; simp only; simpa using (by omega : (Lib.join l sep).length ≤ 140737488355328))
    rw [e1, List.length_map] at this
    simpa using this
--%reg strings.Join strings_Join_c _ _ ?_ ?_
end Go.Gl
