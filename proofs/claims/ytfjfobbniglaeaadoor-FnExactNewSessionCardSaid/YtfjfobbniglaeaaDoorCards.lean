/-
  DERIVED. GIVEN WITH THE SEED: THE CARDS: each row of YtfjfobbniglaeaaDoorRows.lean that lists a variable, with what it lists TIED to the program's text (the seventh form; the later family's looks); each row that meets fmt, with fmt's text TOLD by the authors' own Lean function (tested against real Go, not proved from fmt's source: count such statements apart). THE CARD IS WHAT COUNTS. Prove the row's statement (the work); the ties are given (YtfjfobbniglaeaaDoorTie.lean); close each card by the builder's one call (the guide's Derived/Test/ToyasCard.lean, 'card_holds'). Laid BY PROGRAM, IN A SANDBOX (cutbox-door.mjs). By AI agents, Wed Nov 11 2026. No macro, syntax, notation, axiom, sorry.
-/
import Derived.Test.YtfjfobbniglaeaaDoorRows
import GoSem.ClaimSeven
namespace Go.Proofs.YtfjfobbniglaeaaDoor
namespace Rows

/-- THE TIED CARD OF 'laws.FnSlots'. -/
def fnSlotsCard : Claim7 := { stood := { row := fnSlotsRow, standIns := [], harness := (true, "f90af6fbf713c7757ba5db36d414913038a6404200bb5609c2ce10bcd9b01bb2"), looks := false }, kinds := [], alts := [], laidByText := true, laidKinds := [.data, .data, .data], laidTests := true, laidLooks := .later }
def FnSlotsCardSaid : Prop := Claim7.holds Tryd.pinned (.plain (OpenSpec.ofChange fnSlotsSpec)) fnSlotsCard

/-- THE TIED CARD OF 'laws.FnExactNewSession'. -/
def fnExactNewSessionCard : Claim7 := { stood := { row := fnExactNewSessionRow, standIns := [], harness := (true, "f90af6fbf713c7757ba5db36d414913038a6404200bb5609c2ce10bcd9b01bb2"), looks := false }, kinds := [], alts := [], laidByText := true, laidKinds := [.data, .pinned], laidTests := true, laidLooks := .later }
def FnExactNewSessionCardSaid : Prop := Claim7.holds Tryd.pinned (.plain (OpenSpec.ofChange fnExactNewSessionSpec)) fnExactNewSessionCard

/-- THE SECOND FORM's CARD OF 'laws.FnSlots'. -/
def fnSlotsUptoCard : Claim7 := { stood := { row := fnSlotsUptoRow, standIns := [], harness := (true, "f90af6fbf713c7757ba5db36d414913038a6404200bb5609c2ce10bcd9b01bb2"), looks := false }, kinds := [], alts := [], laidByText := true, laidKinds := [.data, .data, .data], laidTests := true, laidLooks := .later }
def FnSlotsUptoCardSaid : Prop := Claim7.holds Tryd.pinned (.plain (OpenSpec.upto fnSlotsSpec)) fnSlotsUptoCard

/-- THE SECOND FORM's CARD OF 'laws.FnExactNewSession'. -/
def fnExactNewSessionUptoCard : Claim7 := { stood := { row := fnExactNewSessionUptoRow, standIns := [], harness := (true, "f90af6fbf713c7757ba5db36d414913038a6404200bb5609c2ce10bcd9b01bb2"), looks := false }, kinds := [], alts := [], laidByText := true, laidKinds := [.data, .pinned], laidTests := true, laidLooks := .later }
def FnExactNewSessionUptoCardSaid : Prop := Claim7.holds Tryd.pinned (.plain (OpenSpec.upto fnExactNewSessionSpec)) fnExactNewSessionUptoCard
end Rows
end Go.Proofs.YtfjfobbniglaeaaDoor
