/-
  DERIVED. GIVEN WITH THE SEED: THE CARDS: each row of YtdpahkppdakenaaDoorRows.lean that lists a variable, with what it lists TIED to the program's text (the seventh form; the later family's looks); each row that meets fmt, with fmt's text TOLD by the authors' own Lean function (tested against real Go, not proved from fmt's source: count such statements apart). THE CARD IS WHAT COUNTS. Prove the row's statement (the work); the ties are given (YtdpahkppdakenaaDoorTie.lean); close each card by the builder's one call (the guide's Derived/Test/ToyasCard.lean, 'card_holds'). Laid BY PROGRAM, IN A SANDBOX (cutbox-door.mjs). By AI agents, Wed Nov 11 2026. No macro, syntax, notation, axiom, sorry.
-/
import Derived.Test.YtdpahkppdakenaaDoorRows
import GoSem.ClaimSeven
namespace Go.Proofs.YtdpahkppdakenaaDoor
namespace Rows

/-- THE TIED CARD OF 'laws.FnExactExampleBasis'. -/
def fnExactExampleBasisCard : Claim7 := { stood := { row := fnExactExampleBasisRow, standIns := [], harness := (true, "4d50d15c14f00ce276d75337a240846767e8c6fb019cbf721a37572058da4b4d"), looks := false }, kinds := [], alts := [], laidByText := true, laidKinds := [.data, .pinned], laidTests := true, laidLooks := .later }
def FnExactExampleBasisCardSaid : Prop := Claim7.holds Tryd.pinned (.plain (OpenSpec.ofChange fnExactExampleBasisSpec)) fnExactExampleBasisCard

/-- THE TIED CARD OF 'laws.FnExactNewSession'. -/
def fnExactNewSessionCard : Claim7 := { stood := { row := fnExactNewSessionRow, standIns := [], harness := (true, "4d50d15c14f00ce276d75337a240846767e8c6fb019cbf721a37572058da4b4d"), looks := false }, kinds := [], alts := [], laidByText := true, laidKinds := [.data, .pinned], laidTests := true, laidLooks := .later }
def FnExactNewSessionCardSaid : Prop := Claim7.holds Tryd.pinned (.plain (OpenSpec.ofChange fnExactNewSessionSpec)) fnExactNewSessionCard

/-- THE TIED CARD OF 'laws.FnExactInsertionText'. -/
def fnExactInsertionTextCard : Claim7 := { stood := { row := fnExactInsertionTextRow, standIns := [], harness := (true, "4d50d15c14f00ce276d75337a240846767e8c6fb019cbf721a37572058da4b4d"), looks := false }, kinds := [], alts := [], laidByText := true, laidKinds := [.data, .data, .data], laidTests := true, laidLooks := .later }
def FnExactInsertionTextCardSaid : Prop := Claim7.holds Tryd.pinned (.plain (OpenSpec.ofChange fnExactInsertionTextSpec)) fnExactInsertionTextCard

/-- THE SECOND FORM's CARD OF 'laws.FnExactExampleBasis'. -/
def fnExactExampleBasisUptoCard : Claim7 := { stood := { row := fnExactExampleBasisUptoRow, standIns := [], harness := (true, "4d50d15c14f00ce276d75337a240846767e8c6fb019cbf721a37572058da4b4d"), looks := false }, kinds := [], alts := [], laidByText := true, laidKinds := [.data, .pinned], laidTests := true, laidLooks := .later }
def FnExactExampleBasisUptoCardSaid : Prop := Claim7.holds Tryd.pinned (.plain (OpenSpec.upto fnExactExampleBasisSpec)) fnExactExampleBasisUptoCard

/-- THE SECOND FORM's CARD OF 'laws.FnExactNewSession'. -/
def fnExactNewSessionUptoCard : Claim7 := { stood := { row := fnExactNewSessionUptoRow, standIns := [], harness := (true, "4d50d15c14f00ce276d75337a240846767e8c6fb019cbf721a37572058da4b4d"), looks := false }, kinds := [], alts := [], laidByText := true, laidKinds := [.data, .pinned], laidTests := true, laidLooks := .later }
def FnExactNewSessionUptoCardSaid : Prop := Claim7.holds Tryd.pinned (.plain (OpenSpec.upto fnExactNewSessionSpec)) fnExactNewSessionUptoCard

/-- THE SECOND FORM's CARD OF 'laws.FnExactInsertionText'. -/
def fnExactInsertionTextUptoCard : Claim7 := { stood := { row := fnExactInsertionTextUptoRow, standIns := [], harness := (true, "4d50d15c14f00ce276d75337a240846767e8c6fb019cbf721a37572058da4b4d"), looks := false }, kinds := [], alts := [], laidByText := true, laidKinds := [.data, .data, .data], laidTests := true, laidLooks := .later }
def FnExactInsertionTextUptoCardSaid : Prop := Claim7.holds Tryd.pinned (.plain (OpenSpec.upto fnExactInsertionTextSpec)) fnExactInsertionTextUptoCard
end Rows
end Go.Proofs.YtdpahkppdakenaaDoor
