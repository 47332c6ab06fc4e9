/-
  DERIVED. GIVEN WITH THE SEED: THE CARDS: each row of YtnoedblfedppkaaDoorRows.lean that lists a variable, with what it lists TIED to the program's text (the seventh form; the later family's looks); each row that meets fmt, with fmt's text TOLD by the authors' own Lean function (tested against real Go, not proved from fmt's source: count such statements apart). THE CARD IS WHAT COUNTS. Prove the row's statement (the work); the ties are given (YtnoedblfedppkaaDoorTie.lean); close each card by the builder's one call (the guide's Derived/Test/ToyasCard.lean, 'card_holds'). Laid BY PROGRAM, IN A SANDBOX (cutbox-door.mjs). By AI agents, Wed Nov 11 2026. No macro, syntax, notation, axiom, sorry.
-/
import Derived.Test.YtnoedblfedppkaaDoorRows
import GoSem.ClaimSeven
namespace Go.Proofs.YtnoedblfedppkaaDoor
namespace Rows

/-- THE TIED CARD OF 'laws.FnExactNewSession'. -/
def fnExactNewSessionCard : Claim7 := { stood := { row := fnExactNewSessionRow, standIns := [], harness := (true, "a967afae3c28a407b857da29e51fbd54ba69b51e386b119a05ef86cbe04a60da"), looks := false }, kinds := [], alts := [], laidByText := true, laidKinds := [.data, .pinned], laidTests := true, laidLooks := .later }
def FnExactNewSessionCardSaid : Prop := Claim7.holds Tryd.pinned (.plain (OpenSpec.ofChange fnExactNewSessionSpec)) fnExactNewSessionCard

/-- THE TIED CARD OF 'laws.FnExactInsertionText'. -/
def fnExactInsertionTextCard : Claim7 := { stood := { row := fnExactInsertionTextRow, standIns := [], harness := (true, "a967afae3c28a407b857da29e51fbd54ba69b51e386b119a05ef86cbe04a60da"), looks := false }, kinds := [], alts := [], laidByText := true, laidKinds := [.data, .data, .data], laidTests := true, laidLooks := .later }
def FnExactInsertionTextCardSaid : Prop := Claim7.holds Tryd.pinned (.plain (OpenSpec.ofChange fnExactInsertionTextSpec)) fnExactInsertionTextCard

/-- THE TIED CARD OF 'laws.FnSlots'. -/
def fnSlotsCard : Claim7 := { stood := { row := fnSlotsRow, standIns := [], harness := (true, "a967afae3c28a407b857da29e51fbd54ba69b51e386b119a05ef86cbe04a60da"), looks := false }, kinds := [], alts := [], laidByText := true, laidKinds := [.data, .data, .data], laidTests := true, laidLooks := .later }
def FnSlotsCardSaid : Prop := Claim7.holds Tryd.pinned (.plain (OpenSpec.ofChange fnSlotsSpec)) fnSlotsCard

/-- THE SECOND FORM's CARD OF 'laws.FnExactNewSession'. -/
def fnExactNewSessionUptoCard : Claim7 := { stood := { row := fnExactNewSessionUptoRow, standIns := [], harness := (true, "a967afae3c28a407b857da29e51fbd54ba69b51e386b119a05ef86cbe04a60da"), looks := false }, kinds := [], alts := [], laidByText := true, laidKinds := [.data, .pinned], laidTests := true, laidLooks := .later }
def FnExactNewSessionUptoCardSaid : Prop := Claim7.holds Tryd.pinned (.plain (OpenSpec.upto fnExactNewSessionSpec)) fnExactNewSessionUptoCard

/-- THE SECOND FORM's CARD OF 'laws.FnExactInsertionText'. -/
def fnExactInsertionTextUptoCard : Claim7 := { stood := { row := fnExactInsertionTextUptoRow, standIns := [], harness := (true, "a967afae3c28a407b857da29e51fbd54ba69b51e386b119a05ef86cbe04a60da"), looks := false }, kinds := [], alts := [], laidByText := true, laidKinds := [.data, .data, .data], laidTests := true, laidLooks := .later }
def FnExactInsertionTextUptoCardSaid : Prop := Claim7.holds Tryd.pinned (.plain (OpenSpec.upto fnExactInsertionTextSpec)) fnExactInsertionTextUptoCard

/-- THE SECOND FORM's CARD OF 'laws.FnSlots'. -/
def fnSlotsUptoCard : Claim7 := { stood := { row := fnSlotsUptoRow, standIns := [], harness := (true, "a967afae3c28a407b857da29e51fbd54ba69b51e386b119a05ef86cbe04a60da"), looks := false }, kinds := [], alts := [], laidByText := true, laidKinds := [.data, .data, .data], laidTests := true, laidLooks := .later }
def FnSlotsUptoCardSaid : Prop := Claim7.holds Tryd.pinned (.plain (OpenSpec.upto fnSlotsSpec)) fnSlotsUptoCard
end Rows
end Go.Proofs.YtnoedblfedppkaaDoor
