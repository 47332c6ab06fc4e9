/-
  DERIVED. GIVEN WITH THE SEED: THE CARDS: each row of YtkaebeblkpnhmaaGreatDoorRows.lean that lists a variable, with what it lists TIED to the program's text (the seventh form; the later family's looks); each row that meets fmt, with fmt's text TOLD by the authors' own Lean function (tested against real Go, not proved from fmt's source: count such statements apart). THE CARD IS WHAT COUNTS. Prove the row's statement (the work); the ties are given (YtkaebeblkpnhmaaGreatDoorTie.lean); close each card by the builder's one call (the guide's Derived/Test/ToyasCard.lean, 'card_holds'). Laid BY PROGRAM, IN A SANDBOX (cutbox-door.mjs). By AI agents, Wed Nov 11 2026. No macro, syntax, notation, axiom, sorry.
-/
import Derived.Test.YtkaebeblkpnhmaaGreatDoorRows
import GoSem.ClaimSeven
namespace Go.Proofs.YtkaebeblkpnhmaaGreatDoor
namespace Rows

/-- THE TIED CARD OF 'laws.FnExactDescribeClass'. -/
def fnExactDescribeClassCard : Claim7 := { stood := { row := fnExactDescribeClassRow, standIns := [], harness := (true, "305fd39d6324a5b92eedb6cf5b98a47567f11997e15d5c64c09acf13cc874ae7"), looks := false }, kinds := [], alts := [], laidByText := true, laidKinds := [.data, .data, .data], laidTests := true, laidLooks := .later }
def FnExactDescribeClassCardSaid : Prop := Claim7.holds Tryz.pinned (.plain (OpenSpec.ofChange fnExactDescribeClassSpec)) fnExactDescribeClassCard

/-- THE TIED CARD OF 'laws.FnExactDescribeExample'. -/
def fnExactDescribeExampleCard : Claim7 := { stood := { row := fnExactDescribeExampleRow, standIns := [], harness := (true, "305fd39d6324a5b92eedb6cf5b98a47567f11997e15d5c64c09acf13cc874ae7"), looks := false }, kinds := [], alts := [], laidByText := true, laidKinds := [.data, .data, .data, .data, .pinned], laidTests := true, laidLooks := .later }
def FnExactDescribeExampleCardSaid : Prop := Claim7.holds Tryz.pinned (.plain (OpenSpec.ofChange fnExactDescribeExampleSpec)) fnExactDescribeExampleCard

/-- THE TIED CARD OF 'laws.FnExamples'. -/
def fnExamplesCard : Claim7 := { stood := { row := fnExamplesRow, standIns := [], harness := (true, "305fd39d6324a5b92eedb6cf5b98a47567f11997e15d5c64c09acf13cc874ae7"), looks := false }, kinds := [], alts := [], laidByText := true, laidKinds := [.data, .data, .data, .data, .pinned], laidTests := true, laidLooks := .later }
def FnExamplesCardSaid : Prop := Claim7.holds Tryz.pinned (.plain (OpenSpec.ofChange fnExamplesSpec)) fnExamplesCard

/-- THE SECOND FORM's CARD OF 'laws.FnExactDescribeClass'. -/
def fnExactDescribeClassUptoCard : Claim7 := { stood := { row := fnExactDescribeClassUptoRow, standIns := [], harness := (true, "305fd39d6324a5b92eedb6cf5b98a47567f11997e15d5c64c09acf13cc874ae7"), looks := false }, kinds := [], alts := [], laidByText := true, laidKinds := [.data, .data, .data], laidTests := true, laidLooks := .later }
def FnExactDescribeClassUptoCardSaid : Prop := Claim7.holds Tryz.pinned (.plain (OpenSpec.upto fnExactDescribeClassSpec)) fnExactDescribeClassUptoCard

/-- THE SECOND FORM's CARD OF 'laws.FnExactDescribeExample'. -/
def fnExactDescribeExampleUptoCard : Claim7 := { stood := { row := fnExactDescribeExampleUptoRow, standIns := [], harness := (true, "305fd39d6324a5b92eedb6cf5b98a47567f11997e15d5c64c09acf13cc874ae7"), looks := false }, kinds := [], alts := [], laidByText := true, laidKinds := [.data, .data, .data, .data, .pinned], laidTests := true, laidLooks := .later }
def FnExactDescribeExampleUptoCardSaid : Prop := Claim7.holds Tryz.pinned (.plain (OpenSpec.upto fnExactDescribeExampleSpec)) fnExactDescribeExampleUptoCard

/-- THE SECOND FORM's CARD OF 'laws.FnExamples'. -/
def fnExamplesUptoCard : Claim7 := { stood := { row := fnExamplesUptoRow, standIns := [], harness := (true, "305fd39d6324a5b92eedb6cf5b98a47567f11997e15d5c64c09acf13cc874ae7"), looks := false }, kinds := [], alts := [], laidByText := true, laidKinds := [.data, .data, .data, .data, .pinned], laidTests := true, laidLooks := .later }
def FnExamplesUptoCardSaid : Prop := Claim7.holds Tryz.pinned (.plain (OpenSpec.upto fnExamplesSpec)) fnExamplesUptoCard
end Rows
end Go.Proofs.YtkaebeblkpnhmaaGreatDoor
