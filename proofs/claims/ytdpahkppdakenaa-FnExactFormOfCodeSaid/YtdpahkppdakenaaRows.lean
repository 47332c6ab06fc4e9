/-
  No cell of these rows narrows 'for every input' (looked for: loops, veiled, ifaces, maps, wideKeys, modest, calm, conditions, laid).
  DERIVED. THE GIVEN ROWS OF THIS SEAT. 9 by the template 'for every input the law returns true; each argument reads behind the call as it read before'; 0 by the template 'total and deterministic' (their statements: YtdpahkppdakenaaTotals.lean).
  GIVEN WITH THE SEED: the statements are not yours to turn. If you find one false, say at which input.
  Laid BY PROGRAM, IN A SANDBOX (cutbox-rows.mjs): the forced cells as the released guide's own fill.sh prints them over the translation bcbbfdc4fe3c5b9c… (all of the seat's roots in one cut). By AI agents, Wed Nov 11 2026. No macro, syntax, notation, axiom, sorry.
-/
import Derived.Test.YtdpahkppdakenaaChecked
import GoSem.Claim
import GoSem.ClaimJoined
import GoSem.ClaimMapViews
import Derived.JoinedTies
import Derived.KernelRfl
namespace Go.Proofs.Ytdpahkppdakenaa
/- THE CELL 'sum', in the pinned program and in every row, IS THE sha256 OF THE DUMP (.gsa) THAT YtdpahkppdakenaaProg.lean LOADS. Nothing in Lean hashes anything: it is a label: what it is worth is what the hold of that sum in a sandbox is worth. -/
noncomputable def Try.pinned : Pinned := { name := "ytdpahkppdakenaa", sum := "bcbbfdc4fe3c5b9c779555c14c4fbf4f369cd46d9cf4487ff58c708f581bd3a7", checked := Try.checked }
namespace Rows
def none {H : Type} : Left H := { results := [], args := [] }

/-- 'laws.FnExactRunBuilding': WHATEVER THE INPUT: true; the input reads as it did. -/
def fnExactRunBuildingSpec : ChangeSpec := { name := "fnExactRunBuilding", fn := fun _ => fun
  | [d] => { results := [.lit (.bool true)], args := [d] }
  | _ => none }
def fnExactRunBuildingRow : OpenClaim := { program := "ytdpahkppdakenaa", sum := "bcbbfdc4fe3c5b9c779555c14c4fbf4f369cd46d9cf4487ff58c708f581bd3a7", func := "loop.example/g03101/laws.FnExactRunBuilding", spec := "fnExactRunBuilding", inPlace := ["slices.overlaps[int]"], apart := false }
def FnExactRunBuildingSaid : Prop := fnExactRunBuildingRow.holds Try.pinned (OpenSpec.ofChange fnExactRunBuildingSpec)

/-- ITS FALSE NEIGHBOUR: 'it returns false'. Refute it at one input. -/
def fnExactRunBuildingWrong : ChangeSpec := { name := "fnExactRunBuilding", fn := fun _ => fun
  | [d] => { results := [.lit (.bool false)], args := [d] }
  | _ => none }
def FnExactRunBuildingWrongFalsely : Prop := fnExactRunBuildingRow.holds Try.pinned (OpenSpec.ofChange fnExactRunBuildingWrong)

/-- 'laws.FnExactFormOfCode': WHATEVER THE INPUT: true; the input reads as it did. -/
def fnExactFormOfCodeSpec : ChangeSpec := { name := "fnExactFormOfCode", fn := fun _ => fun
  | [d] => { results := [.lit (.bool true)], args := [d] }
  | _ => none }
def fnExactFormOfCodeRow : OpenClaim := { program := "ytdpahkppdakenaa", sum := "bcbbfdc4fe3c5b9c779555c14c4fbf4f369cd46d9cf4487ff58c708f581bd3a7", func := "loop.example/g03101/laws.FnExactFormOfCode", spec := "fnExactFormOfCode", unfollowed := true, recurses := true, apart := false }
def FnExactFormOfCodeSaid : Prop := fnExactFormOfCodeRow.holds Try.pinned (OpenSpec.ofChange fnExactFormOfCodeSpec)

/-- ITS FALSE NEIGHBOUR: 'it returns false'. Refute it at one input. -/
def fnExactFormOfCodeWrong : ChangeSpec := { name := "fnExactFormOfCode", fn := fun _ => fun
  | [d] => { results := [.lit (.bool false)], args := [d] }
  | _ => none }
def FnExactFormOfCodeWrongFalsely : Prop := fnExactFormOfCodeRow.holds Try.pinned (OpenSpec.ofChange fnExactFormOfCodeWrong)

/-- 'laws.FnExactSymmetryText': WHATEVER THE INPUT: true; the input reads as it did. -/
def fnExactSymmetryTextSpec : ChangeSpec := { name := "fnExactSymmetryText", fn := fun _ => fun
  | [d] => { results := [.lit (.bool true)], args := [d] }
  | _ => none }
def fnExactSymmetryTextRow : OpenClaim := { program := "ytdpahkppdakenaa", sum := "bcbbfdc4fe3c5b9c779555c14c4fbf4f369cd46d9cf4487ff58c708f581bd3a7", func := "loop.example/g03101/laws.FnExactSymmetryText", spec := "fnExactSymmetryText", inPlace := ["internal/abi.NoEscape", "internal/bytealg.MakeNoZero"], unfollowed := true, recurses := true, apart := false }
def FnExactSymmetryTextSaid : Prop := fnExactSymmetryTextRow.holds Try.pinned (OpenSpec.ofChange fnExactSymmetryTextSpec)

/-- ITS FALSE NEIGHBOUR: 'it returns false'. Refute it at one input. -/
def fnExactSymmetryTextWrong : ChangeSpec := { name := "fnExactSymmetryText", fn := fun _ => fun
  | [d] => { results := [.lit (.bool false)], args := [d] }
  | _ => none }
def FnExactSymmetryTextWrongFalsely : Prop := fnExactSymmetryTextRow.holds Try.pinned (OpenSpec.ofChange fnExactSymmetryTextWrong)

/-- 'laws.FnExactIsExceptional': WHATEVER THE INPUT: true; the input reads as it did. -/
def fnExactIsExceptionalSpec : ChangeSpec := { name := "fnExactIsExceptional", fn := fun _ => fun
  | [d] => { results := [.lit (.bool true)], args := [d] }
  | _ => none }
def fnExactIsExceptionalRow : OpenClaim := { program := "ytdpahkppdakenaa", sum := "bcbbfdc4fe3c5b9c779555c14c4fbf4f369cd46d9cf4487ff58c708f581bd3a7", func := "loop.example/g03101/laws.FnExactIsExceptional", spec := "fnExactIsExceptional", unfollowed := true, recurses := true, apart := false }
def FnExactIsExceptionalSaid : Prop := fnExactIsExceptionalRow.holds Try.pinned (OpenSpec.ofChange fnExactIsExceptionalSpec)

/-- ITS FALSE NEIGHBOUR: 'it returns false'. Refute it at one input. -/
def fnExactIsExceptionalWrong : ChangeSpec := { name := "fnExactIsExceptional", fn := fun _ => fun
  | [d] => { results := [.lit (.bool false)], args := [d] }
  | _ => none }
def FnExactIsExceptionalWrongFalsely : Prop := fnExactIsExceptionalRow.holds Try.pinned (OpenSpec.ofChange fnExactIsExceptionalWrong)

/-- 'laws.FnExactSimpleLowers': WHATEVER THE INPUT: true; the input reads as it did. -/
def fnExactSimpleLowersSpec : ChangeSpec := { name := "fnExactSimpleLowers", fn := fun _ => fun
  | [d] => { results := [.lit (.bool true)], args := [d] }
  | _ => none }
def fnExactSimpleLowersRow : OpenClaim := { program := "ytdpahkppdakenaa", sum := "bcbbfdc4fe3c5b9c779555c14c4fbf4f369cd46d9cf4487ff58c708f581bd3a7", func := "loop.example/g03101/laws.FnExactSimpleLowers", spec := "fnExactSimpleLowers", unfollowed := true, recurses := true, apart := false }
def FnExactSimpleLowersSaid : Prop := fnExactSimpleLowersRow.holds Try.pinned (OpenSpec.ofChange fnExactSimpleLowersSpec)

/-- ITS FALSE NEIGHBOUR: 'it returns false'. Refute it at one input. -/
def fnExactSimpleLowersWrong : ChangeSpec := { name := "fnExactSimpleLowers", fn := fun _ => fun
  | [d] => { results := [.lit (.bool false)], args := [d] }
  | _ => none }
def FnExactSimpleLowersWrongFalsely : Prop := fnExactSimpleLowersRow.holds Try.pinned (OpenSpec.ofChange fnExactSimpleLowersWrong)

/-- 'laws.FnExactSimpleChain': WHATEVER THE INPUT: true; the input reads as it did. -/
def fnExactSimpleChainSpec : ChangeSpec := { name := "fnExactSimpleChain", fn := fun _ => fun
  | [d] => { results := [.lit (.bool true)], args := [d] }
  | _ => none }
def fnExactSimpleChainRow : OpenClaim := { program := "ytdpahkppdakenaa", sum := "bcbbfdc4fe3c5b9c779555c14c4fbf4f369cd46d9cf4487ff58c708f581bd3a7", func := "loop.example/g03101/laws.FnExactSimpleChain", spec := "fnExactSimpleChain", unfollowed := true, recurses := true, apart := false }
def FnExactSimpleChainSaid : Prop := fnExactSimpleChainRow.holds Try.pinned (OpenSpec.ofChange fnExactSimpleChainSpec)

/-- ITS FALSE NEIGHBOUR: 'it returns false'. Refute it at one input. -/
def fnExactSimpleChainWrong : ChangeSpec := { name := "fnExactSimpleChain", fn := fun _ => fun
  | [d] => { results := [.lit (.bool false)], args := [d] }
  | _ => none }
def FnExactSimpleChainWrongFalsely : Prop := fnExactSimpleChainRow.holds Try.pinned (OpenSpec.ofChange fnExactSimpleChainWrong)

/-- 'laws.FnMoves': WHATEVER THE INPUT: true; the input reads as it did. -/
def fnMovesSpec : ChangeSpec := { name := "fnMoves", fn := fun _ => fun
  | [d] => { results := [.lit (.bool true)], args := [d] }
  | _ => none }
def fnMovesRow : OpenClaim := { program := "ytdpahkppdakenaa", sum := "bcbbfdc4fe3c5b9c779555c14c4fbf4f369cd46d9cf4487ff58c708f581bd3a7", func := "loop.example/g03101/laws.FnMoves", spec := "fnMoves", recurses := true, apart := false }
def FnMovesSaid : Prop := fnMovesRow.holds Try.pinned (OpenSpec.ofChange fnMovesSpec)

/-- ITS FALSE NEIGHBOUR: 'it returns false'. Refute it at one input. -/
def fnMovesWrong : ChangeSpec := { name := "fnMoves", fn := fun _ => fun
  | [d] => { results := [.lit (.bool false)], args := [d] }
  | _ => none }
def FnMovesWrongFalsely : Prop := fnMovesRow.holds Try.pinned (OpenSpec.ofChange fnMovesWrong)

/-- 'laws.FnParts': WHATEVER THE INPUT: true; the input reads as it did. -/
def fnPartsSpec : ChangeSpec := { name := "fnParts", fn := fun _ => fun
  | [d] => { results := [.lit (.bool true)], args := [d] }
  | _ => none }
def fnPartsRow : OpenClaim := { program := "ytdpahkppdakenaa", sum := "bcbbfdc4fe3c5b9c779555c14c4fbf4f369cd46d9cf4487ff58c708f581bd3a7", func := "loop.example/g03101/laws.FnParts", spec := "fnParts", unfollowed := true, recurses := true, apart := false }
def FnPartsSaid : Prop := fnPartsRow.holds Try.pinned (OpenSpec.ofChange fnPartsSpec)

/-- ITS FALSE NEIGHBOUR: 'it returns false'. Refute it at one input. -/
def fnPartsWrong : ChangeSpec := { name := "fnParts", fn := fun _ => fun
  | [d] => { results := [.lit (.bool false)], args := [d] }
  | _ => none }
def FnPartsWrongFalsely : Prop := fnPartsRow.holds Try.pinned (OpenSpec.ofChange fnPartsWrong)

/-- 'laws.FnCodes': WHATEVER THE INPUT: true; the input reads as it did. -/
def fnCodesSpec : ChangeSpec := { name := "fnCodes", fn := fun _ => fun
  | [d] => { results := [.lit (.bool true)], args := [d] }
  | _ => none }
def fnCodesRow : OpenClaim := { program := "ytdpahkppdakenaa", sum := "bcbbfdc4fe3c5b9c779555c14c4fbf4f369cd46d9cf4487ff58c708f581bd3a7", func := "loop.example/g03101/laws.FnCodes", spec := "fnCodes", unfollowed := true, recurses := true, apart := false }
def FnCodesSaid : Prop := fnCodesRow.holds Try.pinned (OpenSpec.ofChange fnCodesSpec)

/-- ITS FALSE NEIGHBOUR: 'it returns false'. Refute it at one input. -/
def fnCodesWrong : ChangeSpec := { name := "fnCodes", fn := fun _ => fun
  | [d] => { results := [.lit (.bool false)], args := [d] }
  | _ => none }
def FnCodesWrongFalsely : Prop := fnCodesRow.holds Try.pinned (OpenSpec.ofChange fnCodesWrong)

/- THE SECOND FORM. 'bulk': how many values and letters a reading holds, each counted each time it is reached (what is shared counts as often as it is met; a slice's spare places count too). A statement '..UptoSaid' is the law's where the arguments, and the package variables that the reading takes, are together of bulk at most 1048576: NARROWER than '..Said'. Prove '..Said' where nothing that the law and all that it calls make is longer than what came in: it says more and counts as full. Else prove '..UptoSaid'. A law counts once. -/
mutual
def uptoBulk {H : Type} : DataW H → Nat
  | .lit (.string bytes) => bytes.length + 1
  | .lit _ => 1
  | .nil => 1
  | .ptr d => uptoBulk d + 1
  | .slice elems spare => uptoBulkAll elems + uptoBulkAll spare + 1
  | .agg parts => uptoBulkAll parts + 1
  | .iface _ d => uptoBulk d + 1
  | .map entries => uptoBulkEntries entries + 1
  | .held _ => 1
def uptoBulkAll {H : Type} : List (DataW H) → Nat
  | [] => 0
  | d :: r => uptoBulk d + uptoBulkAll r
def uptoBulkEntries {H : Type} : List (Lit × DataW H) → Nat
  | [] => 0
  | x :: r => uptoBulkEntry x + uptoBulkEntries r
def uptoBulkEntry {H : Type} : Lit × DataW H → Nat
  | (.string bytes, d) => bytes.length + uptoBulk d + 1
  | (_, d) => uptoBulk d + 1
 end
def uptoSmall : (H : Type) → List (DataW H) → Bool := fun _ ds => decide (uptoBulkAll ds ≤ 1048576)
def OpenSpec.upto (s : _root_.Go.ChangeSpec) : _root_.Go.OpenSpec := { _root_.Go.OpenSpec.ofChange s with cond := some uptoSmall }

/-- 'laws.FnExactRunBuilding', WHERE WHAT IT READS IS OF BULK AT MOST 1048576: true; the input reads as it did. -/
def fnExactRunBuildingUptoRow : OpenClaim := { program := "ytdpahkppdakenaa", sum := "bcbbfdc4fe3c5b9c779555c14c4fbf4f369cd46d9cf4487ff58c708f581bd3a7", func := "loop.example/g03101/laws.FnExactRunBuilding", spec := "fnExactRunBuilding", inPlace := ["slices.overlaps[int]"], apart := false, narrowed := true }
def FnExactRunBuildingUptoSaid : Prop := fnExactRunBuildingUptoRow.holds Try.pinned (OpenSpec.upto fnExactRunBuildingSpec)

/-- 'laws.FnExactFormOfCode', WHERE WHAT IT READS IS OF BULK AT MOST 1048576: true; the input reads as it did. -/
def fnExactFormOfCodeUptoRow : OpenClaim := { program := "ytdpahkppdakenaa", sum := "bcbbfdc4fe3c5b9c779555c14c4fbf4f369cd46d9cf4487ff58c708f581bd3a7", func := "loop.example/g03101/laws.FnExactFormOfCode", spec := "fnExactFormOfCode", unfollowed := true, recurses := true, apart := false, narrowed := true }
def FnExactFormOfCodeUptoSaid : Prop := fnExactFormOfCodeUptoRow.holds Try.pinned (OpenSpec.upto fnExactFormOfCodeSpec)

/-- 'laws.FnExactSymmetryText', WHERE WHAT IT READS IS OF BULK AT MOST 1048576: true; the input reads as it did. -/
def fnExactSymmetryTextUptoRow : OpenClaim := { program := "ytdpahkppdakenaa", sum := "bcbbfdc4fe3c5b9c779555c14c4fbf4f369cd46d9cf4487ff58c708f581bd3a7", func := "loop.example/g03101/laws.FnExactSymmetryText", spec := "fnExactSymmetryText", inPlace := ["internal/abi.NoEscape", "internal/bytealg.MakeNoZero"], unfollowed := true, recurses := true, apart := false, narrowed := true }
def FnExactSymmetryTextUptoSaid : Prop := fnExactSymmetryTextUptoRow.holds Try.pinned (OpenSpec.upto fnExactSymmetryTextSpec)

/-- 'laws.FnExactIsExceptional', WHERE WHAT IT READS IS OF BULK AT MOST 1048576: true; the input reads as it did. -/
def fnExactIsExceptionalUptoRow : OpenClaim := { program := "ytdpahkppdakenaa", sum := "bcbbfdc4fe3c5b9c779555c14c4fbf4f369cd46d9cf4487ff58c708f581bd3a7", func := "loop.example/g03101/laws.FnExactIsExceptional", spec := "fnExactIsExceptional", unfollowed := true, recurses := true, apart := false, narrowed := true }
def FnExactIsExceptionalUptoSaid : Prop := fnExactIsExceptionalUptoRow.holds Try.pinned (OpenSpec.upto fnExactIsExceptionalSpec)

/-- 'laws.FnExactSimpleLowers', WHERE WHAT IT READS IS OF BULK AT MOST 1048576: true; the input reads as it did. -/
def fnExactSimpleLowersUptoRow : OpenClaim := { program := "ytdpahkppdakenaa", sum := "bcbbfdc4fe3c5b9c779555c14c4fbf4f369cd46d9cf4487ff58c708f581bd3a7", func := "loop.example/g03101/laws.FnExactSimpleLowers", spec := "fnExactSimpleLowers", unfollowed := true, recurses := true, apart := false, narrowed := true }
def FnExactSimpleLowersUptoSaid : Prop := fnExactSimpleLowersUptoRow.holds Try.pinned (OpenSpec.upto fnExactSimpleLowersSpec)

/-- 'laws.FnExactSimpleChain', WHERE WHAT IT READS IS OF BULK AT MOST 1048576: true; the input reads as it did. -/
def fnExactSimpleChainUptoRow : OpenClaim := { program := "ytdpahkppdakenaa", sum := "bcbbfdc4fe3c5b9c779555c14c4fbf4f369cd46d9cf4487ff58c708f581bd3a7", func := "loop.example/g03101/laws.FnExactSimpleChain", spec := "fnExactSimpleChain", unfollowed := true, recurses := true, apart := false, narrowed := true }
def FnExactSimpleChainUptoSaid : Prop := fnExactSimpleChainUptoRow.holds Try.pinned (OpenSpec.upto fnExactSimpleChainSpec)

/-- 'laws.FnMoves', WHERE WHAT IT READS IS OF BULK AT MOST 1048576: true; the input reads as it did. -/
def fnMovesUptoRow : OpenClaim := { program := "ytdpahkppdakenaa", sum := "bcbbfdc4fe3c5b9c779555c14c4fbf4f369cd46d9cf4487ff58c708f581bd3a7", func := "loop.example/g03101/laws.FnMoves", spec := "fnMoves", recurses := true, apart := false, narrowed := true }
def FnMovesUptoSaid : Prop := fnMovesUptoRow.holds Try.pinned (OpenSpec.upto fnMovesSpec)

/-- 'laws.FnParts', WHERE WHAT IT READS IS OF BULK AT MOST 1048576: true; the input reads as it did. -/
def fnPartsUptoRow : OpenClaim := { program := "ytdpahkppdakenaa", sum := "bcbbfdc4fe3c5b9c779555c14c4fbf4f369cd46d9cf4487ff58c708f581bd3a7", func := "loop.example/g03101/laws.FnParts", spec := "fnParts", unfollowed := true, recurses := true, apart := false, narrowed := true }
def FnPartsUptoSaid : Prop := fnPartsUptoRow.holds Try.pinned (OpenSpec.upto fnPartsSpec)

/-- 'laws.FnCodes', WHERE WHAT IT READS IS OF BULK AT MOST 1048576: true; the input reads as it did. -/
def fnCodesUptoRow : OpenClaim := { program := "ytdpahkppdakenaa", sum := "bcbbfdc4fe3c5b9c779555c14c4fbf4f369cd46d9cf4487ff58c708f581bd3a7", func := "loop.example/g03101/laws.FnCodes", spec := "fnCodes", unfollowed := true, recurses := true, apart := false, narrowed := true }
def FnCodesUptoSaid : Prop := fnCodesUptoRow.holds Try.pinned (OpenSpec.upto fnCodesSpec)

end Rows
end Go.Proofs.Ytdpahkppdakenaa
