/-
  DERIVED. GIVEN WITH THE SEED: THE CARDS: each row of YtmgobchehjpmfaaDoorRows.lean that lists a variable, with what it lists TIED to the program's text (the seventh form; the later family's looks); each row that meets fmt, with fmt's text TOLD by the authors' own Lean function (tested against real Go, not proved from fmt's source: count such statements apart). THE CARD IS WHAT COUNTS. Prove the row's statement (the work); the ties are given (YtmgobchehjpmfaaDoorTie.lean); close each card by the builder's one call (the guide's Derived/Test/ToyasCard.lean, 'card_holds'). Laid BY PROGRAM, IN A SANDBOX (cutbox-door.mjs). By AI agents, Wed Nov 11 2026. No macro, syntax, notation, axiom, sorry.
-/
import Derived.Test.YtmgobchehjpmfaaDoorRows
import GoSem.ClaimSeven
namespace Go.Proofs.YtmgobchehjpmfaaDoor
namespace Rows

/-- THE TIED CARD OF 'laws.FnExactGreatestSlots'. -/
def fnExactGreatestSlotsCard : Claim7 := { stood := { row := fnExactGreatestSlotsRow, standIns := [], harness := (true, "9d36b1a6a997867d117dc4c576284bde23805f9941b1eb71a3f7953fdb3fff38"), looks := false }, kinds := [], alts := [], laidByText := true, laidKinds := [.data, .data, .data], laidTests := true, laidLooks := .later }
def FnExactGreatestSlotsCardSaid : Prop := Claim7.holds Tryd.pinned (.plain (OpenSpec.ofChange fnExactGreatestSlotsSpec)) fnExactGreatestSlotsCard

/-- THE TIED CARD OF 'laws.FnExactNumbersText'. -/
def fnExactNumbersTextCard : Claim7 := { stood := { row := fnExactNumbersTextRow, standIns := [], harness := (true, "9d36b1a6a997867d117dc4c576284bde23805f9941b1eb71a3f7953fdb3fff38"), looks := false }, kinds := [], alts := [], laidByText := true, laidKinds := [.data, .data, .data], laidTests := true, laidLooks := .later }
def FnExactNumbersTextCardSaid : Prop := Claim7.holds Tryd.pinned (.plain (OpenSpec.ofChange fnExactNumbersTextSpec)) fnExactNumbersTextCard

/-- THE TIED CARD OF 'laws.FnExactBuildingOf'. -/
def fnExactBuildingOfCard : Claim7 := { stood := { row := fnExactBuildingOfRow, standIns := [], harness := (true, "9d36b1a6a997867d117dc4c576284bde23805f9941b1eb71a3f7953fdb3fff38"), looks := false }, kinds := [], alts := [], laidByText := true, laidKinds := [.data, .data, .data], laidTests := true, laidLooks := .later }
def FnExactBuildingOfCardSaid : Prop := Claim7.holds Tryd.pinned (.plain (OpenSpec.ofChange fnExactBuildingOfSpec)) fnExactBuildingOfCard

/-- THE TIED CARD OF 'laws.FnExactCountSlots'. -/
def fnExactCountSlotsCard : Claim7 := { stood := { row := fnExactCountSlotsRow, standIns := [], harness := (true, "9d36b1a6a997867d117dc4c576284bde23805f9941b1eb71a3f7953fdb3fff38"), looks := false }, kinds := [], alts := [], laidByText := true, laidKinds := [.data, .data, .data], laidTests := true, laidLooks := .later }
def FnExactCountSlotsCardSaid : Prop := Claim7.holds Tryd.pinned (.plain (OpenSpec.ofChange fnExactCountSlotsSpec)) fnExactCountSlotsCard

/-- THE TIED CARD OF 'laws.FnExactTableauText'. -/
def fnExactTableauTextCard : Claim7 := { stood := { row := fnExactTableauTextRow, standIns := [], harness := (true, "9d36b1a6a997867d117dc4c576284bde23805f9941b1eb71a3f7953fdb3fff38"), looks := false }, kinds := [], alts := [], laidByText := true, laidKinds := [.data, .data, .data], laidTests := true, laidLooks := .later }
def FnExactTableauTextCardSaid : Prop := Claim7.holds Tryd.pinned (.plain (OpenSpec.ofChange fnExactTableauTextSpec)) fnExactTableauTextCard

/-- THE TIED CARD OF 'laws.FnExactInsertionText'. -/
def fnExactInsertionTextCard : Claim7 := { stood := { row := fnExactInsertionTextRow, standIns := [], harness := (true, "9d36b1a6a997867d117dc4c576284bde23805f9941b1eb71a3f7953fdb3fff38"), looks := false }, kinds := [], alts := [], laidByText := true, laidKinds := [.data, .data, .data], laidTests := true, laidLooks := .later }
def FnExactInsertionTextCardSaid : Prop := Claim7.holds Tryd.pinned (.plain (OpenSpec.ofChange fnExactInsertionTextSpec)) fnExactInsertionTextCard

/-- THE TIED CARD OF 'laws.FnExactSlotsUpTo'. -/
def fnExactSlotsUpToCard : Claim7 := { stood := { row := fnExactSlotsUpToRow, standIns := [], harness := (true, "9d36b1a6a997867d117dc4c576284bde23805f9941b1eb71a3f7953fdb3fff38"), looks := false }, kinds := [], alts := [], laidByText := true, laidKinds := [.data, .data, .data], laidTests := true, laidLooks := .later }
def FnExactSlotsUpToCardSaid : Prop := Claim7.holds Tryd.pinned (.plain (OpenSpec.ofChange fnExactSlotsUpToSpec)) fnExactSlotsUpToCard

/-- THE TIED CARD OF 'laws.FnSlots'. -/
def fnSlotsCard : Claim7 := { stood := { row := fnSlotsRow, standIns := [], harness := (true, "9d36b1a6a997867d117dc4c576284bde23805f9941b1eb71a3f7953fdb3fff38"), looks := false }, kinds := [], alts := [], laidByText := true, laidKinds := [.data, .data, .data], laidTests := true, laidLooks := .later }
def FnSlotsCardSaid : Prop := Claim7.holds Tryd.pinned (.plain (OpenSpec.ofChange fnSlotsSpec)) fnSlotsCard

/-- THE TIED CARD OF 'laws.FnExactExampleBasis'. -/
def fnExactExampleBasisCard : Claim7 := { stood := { row := fnExactExampleBasisRow, standIns := [], harness := (true, "9d36b1a6a997867d117dc4c576284bde23805f9941b1eb71a3f7953fdb3fff38"), looks := false }, kinds := [], alts := [], laidByText := true, laidKinds := [.data, .pinned], laidTests := true, laidLooks := .later }
def FnExactExampleBasisCardSaid : Prop := Claim7.holds Tryd.pinned (.plain (OpenSpec.ofChange fnExactExampleBasisSpec)) fnExactExampleBasisCard

/-- THE TIED CARD OF 'laws.FnExactNewSession'. -/
def fnExactNewSessionCard : Claim7 := { stood := { row := fnExactNewSessionRow, standIns := [], harness := (true, "9d36b1a6a997867d117dc4c576284bde23805f9941b1eb71a3f7953fdb3fff38"), looks := false }, kinds := [], alts := [], laidByText := true, laidKinds := [.data, .pinned], laidTests := true, laidLooks := .later }
def FnExactNewSessionCardSaid : Prop := Claim7.holds Tryd.pinned (.plain (OpenSpec.ofChange fnExactNewSessionSpec)) fnExactNewSessionCard

/-- THE SECOND FORM's CARD OF 'laws.FnExactGreatestSlots'. -/
def fnExactGreatestSlotsUptoCard : Claim7 := { stood := { row := fnExactGreatestSlotsUptoRow, standIns := [], harness := (true, "9d36b1a6a997867d117dc4c576284bde23805f9941b1eb71a3f7953fdb3fff38"), looks := false }, kinds := [], alts := [], laidByText := true, laidKinds := [.data, .data, .data], laidTests := true, laidLooks := .later }
def FnExactGreatestSlotsUptoCardSaid : Prop := Claim7.holds Tryd.pinned (.plain (OpenSpec.upto fnExactGreatestSlotsSpec)) fnExactGreatestSlotsUptoCard

/-- THE SECOND FORM's CARD OF 'laws.FnExactNumbersText'. -/
def fnExactNumbersTextUptoCard : Claim7 := { stood := { row := fnExactNumbersTextUptoRow, standIns := [], harness := (true, "9d36b1a6a997867d117dc4c576284bde23805f9941b1eb71a3f7953fdb3fff38"), looks := false }, kinds := [], alts := [], laidByText := true, laidKinds := [.data, .data, .data], laidTests := true, laidLooks := .later }
def FnExactNumbersTextUptoCardSaid : Prop := Claim7.holds Tryd.pinned (.plain (OpenSpec.upto fnExactNumbersTextSpec)) fnExactNumbersTextUptoCard

/-- THE SECOND FORM's CARD OF 'laws.FnExactBuildingOf'. -/
def fnExactBuildingOfUptoCard : Claim7 := { stood := { row := fnExactBuildingOfUptoRow, standIns := [], harness := (true, "9d36b1a6a997867d117dc4c576284bde23805f9941b1eb71a3f7953fdb3fff38"), looks := false }, kinds := [], alts := [], laidByText := true, laidKinds := [.data, .data, .data], laidTests := true, laidLooks := .later }
def FnExactBuildingOfUptoCardSaid : Prop := Claim7.holds Tryd.pinned (.plain (OpenSpec.upto fnExactBuildingOfSpec)) fnExactBuildingOfUptoCard

/-- THE SECOND FORM's CARD OF 'laws.FnExactCountSlots'. -/
def fnExactCountSlotsUptoCard : Claim7 := { stood := { row := fnExactCountSlotsUptoRow, standIns := [], harness := (true, "9d36b1a6a997867d117dc4c576284bde23805f9941b1eb71a3f7953fdb3fff38"), looks := false }, kinds := [], alts := [], laidByText := true, laidKinds := [.data, .data, .data], laidTests := true, laidLooks := .later }
def FnExactCountSlotsUptoCardSaid : Prop := Claim7.holds Tryd.pinned (.plain (OpenSpec.upto fnExactCountSlotsSpec)) fnExactCountSlotsUptoCard

/-- THE SECOND FORM's CARD OF 'laws.FnExactTableauText'. -/
def fnExactTableauTextUptoCard : Claim7 := { stood := { row := fnExactTableauTextUptoRow, standIns := [], harness := (true, "9d36b1a6a997867d117dc4c576284bde23805f9941b1eb71a3f7953fdb3fff38"), looks := false }, kinds := [], alts := [], laidByText := true, laidKinds := [.data, .data, .data], laidTests := true, laidLooks := .later }
def FnExactTableauTextUptoCardSaid : Prop := Claim7.holds Tryd.pinned (.plain (OpenSpec.upto fnExactTableauTextSpec)) fnExactTableauTextUptoCard

/-- THE SECOND FORM's CARD OF 'laws.FnExactInsertionText'. -/
def fnExactInsertionTextUptoCard : Claim7 := { stood := { row := fnExactInsertionTextUptoRow, standIns := [], harness := (true, "9d36b1a6a997867d117dc4c576284bde23805f9941b1eb71a3f7953fdb3fff38"), looks := false }, kinds := [], alts := [], laidByText := true, laidKinds := [.data, .data, .data], laidTests := true, laidLooks := .later }
def FnExactInsertionTextUptoCardSaid : Prop := Claim7.holds Tryd.pinned (.plain (OpenSpec.upto fnExactInsertionTextSpec)) fnExactInsertionTextUptoCard

/-- THE SECOND FORM's CARD OF 'laws.FnExactSlotsUpTo'. -/
def fnExactSlotsUpToUptoCard : Claim7 := { stood := { row := fnExactSlotsUpToUptoRow, standIns := [], harness := (true, "9d36b1a6a997867d117dc4c576284bde23805f9941b1eb71a3f7953fdb3fff38"), looks := false }, kinds := [], alts := [], laidByText := true, laidKinds := [.data, .data, .data], laidTests := true, laidLooks := .later }
def FnExactSlotsUpToUptoCardSaid : Prop := Claim7.holds Tryd.pinned (.plain (OpenSpec.upto fnExactSlotsUpToSpec)) fnExactSlotsUpToUptoCard

/-- THE SECOND FORM's CARD OF 'laws.FnSlots'. -/
def fnSlotsUptoCard : Claim7 := { stood := { row := fnSlotsUptoRow, standIns := [], harness := (true, "9d36b1a6a997867d117dc4c576284bde23805f9941b1eb71a3f7953fdb3fff38"), looks := false }, kinds := [], alts := [], laidByText := true, laidKinds := [.data, .data, .data], laidTests := true, laidLooks := .later }
def FnSlotsUptoCardSaid : Prop := Claim7.holds Tryd.pinned (.plain (OpenSpec.upto fnSlotsSpec)) fnSlotsUptoCard

/-- THE SECOND FORM's CARD OF 'laws.FnExactExampleBasis'. -/
def fnExactExampleBasisUptoCard : Claim7 := { stood := { row := fnExactExampleBasisUptoRow, standIns := [], harness := (true, "9d36b1a6a997867d117dc4c576284bde23805f9941b1eb71a3f7953fdb3fff38"), looks := false }, kinds := [], alts := [], laidByText := true, laidKinds := [.data, .pinned], laidTests := true, laidLooks := .later }
def FnExactExampleBasisUptoCardSaid : Prop := Claim7.holds Tryd.pinned (.plain (OpenSpec.upto fnExactExampleBasisSpec)) fnExactExampleBasisUptoCard

/-- THE SECOND FORM's CARD OF 'laws.FnExactNewSession'. -/
def fnExactNewSessionUptoCard : Claim7 := { stood := { row := fnExactNewSessionUptoRow, standIns := [], harness := (true, "9d36b1a6a997867d117dc4c576284bde23805f9941b1eb71a3f7953fdb3fff38"), looks := false }, kinds := [], alts := [], laidByText := true, laidKinds := [.data, .pinned], laidTests := true, laidLooks := .later }
def FnExactNewSessionUptoCardSaid : Prop := Claim7.holds Tryd.pinned (.plain (OpenSpec.upto fnExactNewSessionSpec)) fnExactNewSessionUptoCard
end Rows
end Go.Proofs.YtmgobchehjpmfaaDoor
