/-
  DERIVED. GIVEN WITH THE SEED: THE CARDS: each row of YtbppfpdgahopeaaGreatDoorRows.lean that lists a variable, with what it lists TIED to the program's text (the seventh form; the later family's looks); each row that meets fmt, with fmt's text TOLD by the authors' own Lean function (tested against real Go, not proved from fmt's source: count such statements apart). THE CARD IS WHAT COUNTS. Prove the row's statement (the work); the ties are given (YtbppfpdgahopeaaGreatDoorTie.lean); close each card by the builder's one call (the guide's Derived/Test/ToyasCard.lean, 'card_holds'). Laid BY PROGRAM, IN A SANDBOX (cutbox-door.mjs). By AI agents, Wed Nov 11 2026. No macro, syntax, notation, axiom, sorry.
-/
import Derived.Test.YtbppfpdgahopeaaGreatDoorRows
import GoSem.ClaimSeven
namespace Go.Proofs.YtbppfpdgahopeaaGreatDoor
namespace Rows

/-- THE TIED CARD OF 'laws.FnExactDescribePerm'. -/
def fnExactDescribePermCard : Claim7 := { stood := { row := fnExactDescribePermRow, standIns := [], harness := (true, "1b526ff134e2c438278847501e4a8e2f4498bbd8d8e934d01d6655019cc7d6a3"), looks := false }, kinds := [], alts := [], laidByText := true, laidKinds := [.data, .data, .data], laidTests := true, laidLooks := .later }
def FnExactDescribePermCardSaid : Prop := Claim7.holds Tryz.pinned (.plain (OpenSpec.ofChange fnExactDescribePermSpec)) fnExactDescribePermCard

/-- THE TIED CARD OF 'laws.FnReports'. -/
def fnReportsCard : Claim7 := { stood := { row := fnReportsRow, standIns := [], harness := (true, "1b526ff134e2c438278847501e4a8e2f4498bbd8d8e934d01d6655019cc7d6a3"), looks := false }, kinds := [], alts := [], laidByText := true, laidKinds := [.data, .data, .data], laidTests := true, laidLooks := .later }
def FnReportsCardSaid : Prop := Claim7.holds Tryz.pinned (.plain (OpenSpec.ofChange fnReportsSpec)) fnReportsCard

/-- THE SECOND FORM's CARD OF 'laws.FnExactDescribePerm'. -/
def fnExactDescribePermUptoCard : Claim7 := { stood := { row := fnExactDescribePermUptoRow, standIns := [], harness := (true, "1b526ff134e2c438278847501e4a8e2f4498bbd8d8e934d01d6655019cc7d6a3"), looks := false }, kinds := [], alts := [], laidByText := true, laidKinds := [.data, .data, .data], laidTests := true, laidLooks := .later }
def FnExactDescribePermUptoCardSaid : Prop := Claim7.holds Tryz.pinned (.plain (OpenSpec.upto fnExactDescribePermSpec)) fnExactDescribePermUptoCard

/-- THE SECOND FORM's CARD OF 'laws.FnReports'. -/
def fnReportsUptoCard : Claim7 := { stood := { row := fnReportsUptoRow, standIns := [], harness := (true, "1b526ff134e2c438278847501e4a8e2f4498bbd8d8e934d01d6655019cc7d6a3"), looks := false }, kinds := [], alts := [], laidByText := true, laidKinds := [.data, .data, .data], laidTests := true, laidLooks := .later }
def FnReportsUptoCardSaid : Prop := Claim7.holds Tryz.pinned (.plain (OpenSpec.upto fnReportsSpec)) fnReportsUptoCard
end Rows
end Go.Proofs.YtbppfpdgahopeaaGreatDoor
