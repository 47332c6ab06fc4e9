/-
  No cell of these rows narrows 'for every input' (looked for: loops, veiled, ifaces, maps, wideKeys, modest, calm, conditions, laid).
  DERIVED. THE GIVEN ROWS OF THIS SEAT. 12 by the template 'for every input the law returns true; each argument reads behind the call as it read before'; 0 by the template 'total and deterministic' (their statements: YtcnejdfpdgiffaaTotals.lean).
  GIVEN WITH THE SEED: the statements are not yours to turn. If you find one false, say at which input.
  Laid BY PROGRAM, IN A SANDBOX (cutbox-rows.mjs): the forced cells as the released guide's own fill.sh prints them over the translation 84281227fde66389… (all of the seat's roots in one cut). By AI agents, Wed Nov 11 2026. No macro, syntax, notation, axiom, sorry.
-/
import Derived.Test.YtcnejdfpdgiffaaChecked
import GoSem.Claim
import GoSem.ClaimJoined
import GoSem.ClaimMapViews
import Derived.JoinedTies
import Derived.KernelRfl
namespace Go.Proofs.Ytcnejdfpdgiffaa
/- THE CELL 'sum', in the pinned program and in every row, IS THE sha256 OF THE DUMP (.gsa) THAT YtcnejdfpdgiffaaProg.lean LOADS. Nothing in Lean hashes anything: it is a label: what it is worth is what the hold of that sum in a sandbox is worth. -/
noncomputable def Try.pinned : Pinned := { name := "ytcnejdfpdgiffaa", sum := "84281227fde663896e0530235ba8cef957bc1db33b5de4a51c0b217806670632", checked := Try.checked }
namespace Rows
def none {H : Type} : Left H := { results := [], args := [] }

/-- 'laws.FnExactEqualSession': WHATEVER THE INPUT: true; the input reads as it did. -/
def fnExactEqualSessionSpec : ChangeSpec := { name := "fnExactEqualSession", fn := fun _ => fun
  | [d1, d2] => { results := [.lit (.bool true)], args := [d1, d2] }
  | _ => none }
def fnExactEqualSessionRow : OpenClaim := { program := "ytcnejdfpdgiffaa", sum := "84281227fde663896e0530235ba8cef957bc1db33b5de4a51c0b217806670632", func := "loop.example/g03101/laws.FnExactEqualSession", spec := "fnExactEqualSession", unfollowed := true, recurses := true, plainKeys := false, apart := false }
def FnExactEqualSessionSaid : Prop := fnExactEqualSessionRow.holds Try.pinned (OpenSpec.ofChange fnExactEqualSessionSpec)

/-- ITS FALSE NEIGHBOUR: 'it returns false'. Refute it at one input. -/
def fnExactEqualSessionWrong : ChangeSpec := { name := "fnExactEqualSession", fn := fun _ => fun
  | [d1, d2] => { results := [.lit (.bool false)], args := [d1, d2] }
  | _ => none }
def FnExactEqualSessionWrongFalsely : Prop := fnExactEqualSessionRow.holds Try.pinned (OpenSpec.ofChange fnExactEqualSessionWrong)

/-- 'laws.FnExactTurnGrid': WHATEVER THE INPUT: true; the input reads as it did. -/
def fnExactTurnGridSpec : ChangeSpec := { name := "fnExactTurnGrid", fn := fun _ => fun
  | [d] => { results := [.lit (.bool true)], args := [d] }
  | _ => none }
def fnExactTurnGridRow : OpenClaim := { program := "ytcnejdfpdgiffaa", sum := "84281227fde663896e0530235ba8cef957bc1db33b5de4a51c0b217806670632", func := "loop.example/g03101/laws.FnExactTurnGrid", spec := "fnExactTurnGrid", unfollowed := true, recurses := true, plainKeys := false, apart := false }
def FnExactTurnGridSaid : Prop := fnExactTurnGridRow.holds Try.pinned (OpenSpec.ofChange fnExactTurnGridSpec)

/-- ITS FALSE NEIGHBOUR: 'it returns false'. Refute it at one input. -/
def fnExactTurnGridWrong : ChangeSpec := { name := "fnExactTurnGrid", fn := fun _ => fun
  | [d] => { results := [.lit (.bool false)], args := [d] }
  | _ => none }
def FnExactTurnGridWrongFalsely : Prop := fnExactTurnGridRow.holds Try.pinned (OpenSpec.ofChange fnExactTurnGridWrong)

/-- 'laws.FnExactFitsGrid': WHATEVER THE INPUT: true; the input reads as it did. -/
def fnExactFitsGridSpec : ChangeSpec := { name := "fnExactFitsGrid", fn := fun _ => fun
  | [d1, d2, d3, d4] => { results := [.lit (.bool true)], args := [d1, d2, d3, d4] }
  | _ => none }
def fnExactFitsGridRow : OpenClaim := { program := "ytcnejdfpdgiffaa", sum := "84281227fde663896e0530235ba8cef957bc1db33b5de4a51c0b217806670632", func := "loop.example/g03101/laws.FnExactFitsGrid", spec := "fnExactFitsGrid", unfollowed := true, recurses := true, plainKeys := false, apart := false }
def FnExactFitsGridSaid : Prop := fnExactFitsGridRow.holds Try.pinned (OpenSpec.ofChange fnExactFitsGridSpec)

/-- ITS FALSE NEIGHBOUR: 'it returns false'. Refute it at one input. -/
def fnExactFitsGridWrong : ChangeSpec := { name := "fnExactFitsGrid", fn := fun _ => fun
  | [d1, d2, d3, d4] => { results := [.lit (.bool false)], args := [d1, d2, d3, d4] }
  | _ => none }
def FnExactFitsGridWrongFalsely : Prop := fnExactFitsGridRow.holds Try.pinned (OpenSpec.ofChange fnExactFitsGridWrong)

/-- 'laws.FnExactPermsText': WHATEVER THE INPUT: true; the input reads as it did. -/
def fnExactPermsTextSpec : ChangeSpec := { name := "fnExactPermsText", fn := fun _ => fun
  | [d] => { results := [.lit (.bool true)], args := [d] }
  | _ => none }
def fnExactPermsTextRow : OpenClaim := { program := "ytcnejdfpdgiffaa", sum := "84281227fde663896e0530235ba8cef957bc1db33b5de4a51c0b217806670632", func := "loop.example/g03101/laws.FnExactPermsText", spec := "fnExactPermsText", inPlace := ["internal/abi.NoEscape", "internal/bytealg.MakeNoZero"], plainKeys := false, apart := false }
def FnExactPermsTextSaid : Prop := fnExactPermsTextRow.holds Try.pinned (OpenSpec.ofChange fnExactPermsTextSpec)

/-- ITS FALSE NEIGHBOUR: 'it returns false'. Refute it at one input. -/
def fnExactPermsTextWrong : ChangeSpec := { name := "fnExactPermsText", fn := fun _ => fun
  | [d] => { results := [.lit (.bool false)], args := [d] }
  | _ => none }
def FnExactPermsTextWrongFalsely : Prop := fnExactPermsTextRow.holds Try.pinned (OpenSpec.ofChange fnExactPermsTextWrong)

/-- 'laws.FnExactSimplesOf': WHATEVER THE INPUT: true; the input reads as it did. -/
def fnExactSimplesOfSpec : ChangeSpec := { name := "fnExactSimplesOf", fn := fun _ => fun
  | [d] => { results := [.lit (.bool true)], args := [d] }
  | _ => none }
def fnExactSimplesOfRow : OpenClaim := { program := "ytcnejdfpdgiffaa", sum := "84281227fde663896e0530235ba8cef957bc1db33b5de4a51c0b217806670632", func := "loop.example/g03101/laws.FnExactSimplesOf", spec := "fnExactSimplesOf", unfollowed := true, recurses := true, plainKeys := false, apart := false }
def FnExactSimplesOfSaid : Prop := fnExactSimplesOfRow.holds Try.pinned (OpenSpec.ofChange fnExactSimplesOfSpec)

/-- ITS FALSE NEIGHBOUR: 'it returns false'. Refute it at one input. -/
def fnExactSimplesOfWrong : ChangeSpec := { name := "fnExactSimplesOf", fn := fun _ => fun
  | [d] => { results := [.lit (.bool false)], args := [d] }
  | _ => none }
def FnExactSimplesOfWrongFalsely : Prop := fnExactSimplesOfRow.holds Try.pinned (OpenSpec.ofChange fnExactSimplesOfWrong)

/-- 'laws.FnExactFindGrid': WHATEVER THE INPUT: true; the input reads as it did. -/
def fnExactFindGridSpec : ChangeSpec := { name := "fnExactFindGrid", fn := fun _ => fun
  | [d1, d2] => { results := [.lit (.bool true)], args := [d1, d2] }
  | _ => none }
def fnExactFindGridRow : OpenClaim := { program := "ytcnejdfpdgiffaa", sum := "84281227fde663896e0530235ba8cef957bc1db33b5de4a51c0b217806670632", func := "loop.example/g03101/laws.FnExactFindGrid", spec := "fnExactFindGrid", unfollowed := true, recurses := true, plainKeys := false, apart := false }
def FnExactFindGridSaid : Prop := fnExactFindGridRow.holds Try.pinned (OpenSpec.ofChange fnExactFindGridSpec)

/-- ITS FALSE NEIGHBOUR: 'it returns false'. Refute it at one input. -/
def fnExactFindGridWrong : ChangeSpec := { name := "fnExactFindGrid", fn := fun _ => fun
  | [d1, d2] => { results := [.lit (.bool false)], args := [d1, d2] }
  | _ => none }
def FnExactFindGridWrongFalsely : Prop := fnExactFindGridRow.holds Try.pinned (OpenSpec.ofChange fnExactFindGridWrong)

/-- 'laws.FnExactGridCounts': WHATEVER THE INPUT: true; the input reads as it did. -/
def fnExactGridCountsSpec : ChangeSpec := { name := "fnExactGridCounts", fn := fun _ => fun
  | [d1, d2] => { results := [.lit (.bool true)], args := [d1, d2] }
  | _ => none }
def fnExactGridCountsRow : OpenClaim := { program := "ytcnejdfpdgiffaa", sum := "84281227fde663896e0530235ba8cef957bc1db33b5de4a51c0b217806670632", func := "loop.example/g03101/laws.FnExactGridCounts", spec := "fnExactGridCounts", unfollowed := true, recurses := true, plainKeys := false, apart := false }
def FnExactGridCountsSaid : Prop := fnExactGridCountsRow.holds Try.pinned (OpenSpec.ofChange fnExactGridCountsSpec)

/-- ITS FALSE NEIGHBOUR: 'it returns false'. Refute it at one input. -/
def fnExactGridCountsWrong : ChangeSpec := { name := "fnExactGridCounts", fn := fun _ => fun
  | [d1, d2] => { results := [.lit (.bool false)], args := [d1, d2] }
  | _ => none }
def FnExactGridCountsWrongFalsely : Prop := fnExactGridCountsRow.holds Try.pinned (OpenSpec.ofChange fnExactGridCountsWrong)

/-- 'laws.FnExactRunBuilding': WHATEVER THE INPUT: true; the input reads as it did. -/
def fnExactRunBuildingSpec : ChangeSpec := { name := "fnExactRunBuilding", fn := fun _ => fun
  | [d] => { results := [.lit (.bool true)], args := [d] }
  | _ => none }
def fnExactRunBuildingRow : OpenClaim := { program := "ytcnejdfpdgiffaa", sum := "84281227fde663896e0530235ba8cef957bc1db33b5de4a51c0b217806670632", func := "loop.example/g03101/laws.FnExactRunBuilding", spec := "fnExactRunBuilding", inPlace := ["slices.overlaps[int]"], plainKeys := false, apart := false }
def FnExactRunBuildingSaid : Prop := fnExactRunBuildingRow.holds Try.pinned (OpenSpec.ofChange fnExactRunBuildingSpec)

/-- ITS FALSE NEIGHBOUR: 'it returns false'. Refute it at one input. -/
def fnExactRunBuildingWrong : ChangeSpec := { name := "fnExactRunBuilding", fn := fun _ => fun
  | [d] => { results := [.lit (.bool false)], args := [d] }
  | _ => none }
def FnExactRunBuildingWrongFalsely : Prop := fnExactRunBuildingRow.holds Try.pinned (OpenSpec.ofChange fnExactRunBuildingWrong)

/-- 'laws.FnExactCountInflations': WHATEVER THE INPUT: true; the input reads as it did. -/
def fnExactCountInflationsSpec : ChangeSpec := { name := "fnExactCountInflations", fn := fun _ => fun
  | [d] => { results := [.lit (.bool true)], args := [d] }
  | _ => none }
def fnExactCountInflationsRow : OpenClaim := { program := "ytcnejdfpdgiffaa", sum := "84281227fde663896e0530235ba8cef957bc1db33b5de4a51c0b217806670632", func := "loop.example/g03101/laws.FnExactCountInflations", spec := "fnExactCountInflations", unfollowed := true, recurses := true, plainKeys := false, apart := false }
def FnExactCountInflationsSaid : Prop := fnExactCountInflationsRow.holds Try.pinned (OpenSpec.ofChange fnExactCountInflationsSpec)

/-- ITS FALSE NEIGHBOUR: 'it returns false'. Refute it at one input. -/
def fnExactCountInflationsWrong : ChangeSpec := { name := "fnExactCountInflations", fn := fun _ => fun
  | [d] => { results := [.lit (.bool false)], args := [d] }
  | _ => none }
def FnExactCountInflationsWrongFalsely : Prop := fnExactCountInflationsRow.holds Try.pinned (OpenSpec.ofChange fnExactCountInflationsWrong)

/-- 'laws.FnExactPartCounts': WHATEVER THE INPUT: true; the input reads as it did. -/
def fnExactPartCountsSpec : ChangeSpec := { name := "fnExactPartCounts", fn := fun _ => fun
  | [d1, d2] => { results := [.lit (.bool true)], args := [d1, d2] }
  | _ => none }
def fnExactPartCountsRow : OpenClaim := { program := "ytcnejdfpdgiffaa", sum := "84281227fde663896e0530235ba8cef957bc1db33b5de4a51c0b217806670632", func := "loop.example/g03101/laws.FnExactPartCounts", spec := "fnExactPartCounts", unfollowed := true, recurses := true, plainKeys := false, apart := false }
def FnExactPartCountsSaid : Prop := fnExactPartCountsRow.holds Try.pinned (OpenSpec.ofChange fnExactPartCountsSpec)

/-- ITS FALSE NEIGHBOUR: 'it returns false'. Refute it at one input. -/
def fnExactPartCountsWrong : ChangeSpec := { name := "fnExactPartCounts", fn := fun _ => fun
  | [d1, d2] => { results := [.lit (.bool false)], args := [d1, d2] }
  | _ => none }
def FnExactPartCountsWrongFalsely : Prop := fnExactPartCountsRow.holds Try.pinned (OpenSpec.ofChange fnExactPartCountsWrong)

/-- 'laws.FnExactWholeCounts': WHATEVER THE INPUT: true; the input reads as it did. -/
def fnExactWholeCountsSpec : ChangeSpec := { name := "fnExactWholeCounts", fn := fun _ => fun
  | [d1, d2] => { results := [.lit (.bool true)], args := [d1, d2] }
  | _ => none }
def fnExactWholeCountsRow : OpenClaim := { program := "ytcnejdfpdgiffaa", sum := "84281227fde663896e0530235ba8cef957bc1db33b5de4a51c0b217806670632", func := "loop.example/g03101/laws.FnExactWholeCounts", spec := "fnExactWholeCounts", unfollowed := true, recurses := true, plainKeys := false, apart := false }
def FnExactWholeCountsSaid : Prop := fnExactWholeCountsRow.holds Try.pinned (OpenSpec.ofChange fnExactWholeCountsSpec)

/-- ITS FALSE NEIGHBOUR: 'it returns false'. Refute it at one input. -/
def fnExactWholeCountsWrong : ChangeSpec := { name := "fnExactWholeCounts", fn := fun _ => fun
  | [d1, d2] => { results := [.lit (.bool false)], args := [d1, d2] }
  | _ => none }
def FnExactWholeCountsWrongFalsely : Prop := fnExactWholeCountsRow.holds Try.pinned (OpenSpec.ofChange fnExactWholeCountsWrong)

/-- 'laws.FnGrids': WHATEVER THE INPUT: true; the input reads as it did. -/
def fnGridsSpec : ChangeSpec := { name := "fnGrids", fn := fun _ => fun
  | [d] => { results := [.lit (.bool true)], args := [d] }
  | _ => none }
def fnGridsRow : OpenClaim := { program := "ytcnejdfpdgiffaa", sum := "84281227fde663896e0530235ba8cef957bc1db33b5de4a51c0b217806670632", func := "loop.example/g03101/laws.FnGrids", spec := "fnGrids", unfollowed := true, recurses := true, plainKeys := false, apart := false }
def FnGridsSaid : Prop := fnGridsRow.holds Try.pinned (OpenSpec.ofChange fnGridsSpec)

/-- ITS FALSE NEIGHBOUR: 'it returns false'. Refute it at one input. -/
def fnGridsWrong : ChangeSpec := { name := "fnGrids", fn := fun _ => fun
  | [d] => { results := [.lit (.bool false)], args := [d] }
  | _ => none }
def FnGridsWrongFalsely : Prop := fnGridsRow.holds Try.pinned (OpenSpec.ofChange fnGridsWrong)

/- THE SECOND FORM. 'bulk': how many values and letters a reading holds, each counted each time it is reached (what is shared counts as often as it is met; a slice's spare places count too). A statement '..UptoSaid' is the law's where the arguments, and the package variables that the reading takes, are together of bulk at most 1048576: NARROWER than '..Said'. Prove '..Said' where nothing that the law and all that it calls make is longer than what came in: it says more and counts as full. Else prove '..UptoSaid'. A law counts once. -/
mutual
def uptoBulk {H : Type} : DataW H → Nat
  | .lit (.string bytes) => bytes.length + 1
  | .lit _ => 1
  | .nil => 1
  | .ptr d => uptoBulk d + 1
  | .slice elems spare => uptoBulkAll elems + uptoBulkAll spare + 1
  | .agg parts => uptoBulkAll parts + 1
  | .iface _ d => uptoBulk d + 1
  | .map entries => uptoBulkEntries entries + 1
  | .held _ => 1
def uptoBulkAll {H : Type} : List (DataW H) → Nat
  | [] => 0
  | d :: r => uptoBulk d + uptoBulkAll r
def uptoBulkEntries {H : Type} : List (Lit × DataW H) → Nat
  | [] => 0
  | x :: r => uptoBulkEntry x + uptoBulkEntries r
def uptoBulkEntry {H : Type} : Lit × DataW H → Nat
  | (.string bytes, d) => bytes.length + uptoBulk d + 1
  | (_, d) => uptoBulk d + 1
 end
def uptoSmall : (H : Type) → List (DataW H) → Bool := fun _ ds => decide (uptoBulkAll ds ≤ 1048576)
def OpenSpec.upto (s : _root_.Go.ChangeSpec) : _root_.Go.OpenSpec := { _root_.Go.OpenSpec.ofChange s with cond := some uptoSmall }

/-- 'laws.FnExactEqualSession', WHERE WHAT IT READS IS OF BULK AT MOST 1048576: true; the input reads as it did. -/
def fnExactEqualSessionUptoRow : OpenClaim := { program := "ytcnejdfpdgiffaa", sum := "84281227fde663896e0530235ba8cef957bc1db33b5de4a51c0b217806670632", func := "loop.example/g03101/laws.FnExactEqualSession", spec := "fnExactEqualSession", unfollowed := true, recurses := true, plainKeys := false, apart := false, narrowed := true }
def FnExactEqualSessionUptoSaid : Prop := fnExactEqualSessionUptoRow.holds Try.pinned (OpenSpec.upto fnExactEqualSessionSpec)

/-- 'laws.FnExactTurnGrid', WHERE WHAT IT READS IS OF BULK AT MOST 1048576: true; the input reads as it did. -/
def fnExactTurnGridUptoRow : OpenClaim := { program := "ytcnejdfpdgiffaa", sum := "84281227fde663896e0530235ba8cef957bc1db33b5de4a51c0b217806670632", func := "loop.example/g03101/laws.FnExactTurnGrid", spec := "fnExactTurnGrid", unfollowed := true, recurses := true, plainKeys := false, apart := false, narrowed := true }
def FnExactTurnGridUptoSaid : Prop := fnExactTurnGridUptoRow.holds Try.pinned (OpenSpec.upto fnExactTurnGridSpec)

/-- 'laws.FnExactFitsGrid', WHERE WHAT IT READS IS OF BULK AT MOST 1048576: true; the input reads as it did. -/
def fnExactFitsGridUptoRow : OpenClaim := { program := "ytcnejdfpdgiffaa", sum := "84281227fde663896e0530235ba8cef957bc1db33b5de4a51c0b217806670632", func := "loop.example/g03101/laws.FnExactFitsGrid", spec := "fnExactFitsGrid", unfollowed := true, recurses := true, plainKeys := false, apart := false, narrowed := true }
def FnExactFitsGridUptoSaid : Prop := fnExactFitsGridUptoRow.holds Try.pinned (OpenSpec.upto fnExactFitsGridSpec)

/-- 'laws.FnExactPermsText', WHERE WHAT IT READS IS OF BULK AT MOST 1048576: true; the input reads as it did. -/
def fnExactPermsTextUptoRow : OpenClaim := { program := "ytcnejdfpdgiffaa", sum := "84281227fde663896e0530235ba8cef957bc1db33b5de4a51c0b217806670632", func := "loop.example/g03101/laws.FnExactPermsText", spec := "fnExactPermsText", inPlace := ["internal/abi.NoEscape", "internal/bytealg.MakeNoZero"], plainKeys := false, apart := false, narrowed := true }
def FnExactPermsTextUptoSaid : Prop := fnExactPermsTextUptoRow.holds Try.pinned (OpenSpec.upto fnExactPermsTextSpec)

/-- 'laws.FnExactSimplesOf', WHERE WHAT IT READS IS OF BULK AT MOST 1048576: true; the input reads as it did. -/
def fnExactSimplesOfUptoRow : OpenClaim := { program := "ytcnejdfpdgiffaa", sum := "84281227fde663896e0530235ba8cef957bc1db33b5de4a51c0b217806670632", func := "loop.example/g03101/laws.FnExactSimplesOf", spec := "fnExactSimplesOf", unfollowed := true, recurses := true, plainKeys := false, apart := false, narrowed := true }
def FnExactSimplesOfUptoSaid : Prop := fnExactSimplesOfUptoRow.holds Try.pinned (OpenSpec.upto fnExactSimplesOfSpec)

/-- 'laws.FnExactFindGrid', WHERE WHAT IT READS IS OF BULK AT MOST 1048576: true; the input reads as it did. -/
def fnExactFindGridUptoRow : OpenClaim := { program := "ytcnejdfpdgiffaa", sum := "84281227fde663896e0530235ba8cef957bc1db33b5de4a51c0b217806670632", func := "loop.example/g03101/laws.FnExactFindGrid", spec := "fnExactFindGrid", unfollowed := true, recurses := true, plainKeys := false, apart := false, narrowed := true }
def FnExactFindGridUptoSaid : Prop := fnExactFindGridUptoRow.holds Try.pinned (OpenSpec.upto fnExactFindGridSpec)

/-- 'laws.FnExactGridCounts', WHERE WHAT IT READS IS OF BULK AT MOST 1048576: true; the input reads as it did. -/
def fnExactGridCountsUptoRow : OpenClaim := { program := "ytcnejdfpdgiffaa", sum := "84281227fde663896e0530235ba8cef957bc1db33b5de4a51c0b217806670632", func := "loop.example/g03101/laws.FnExactGridCounts", spec := "fnExactGridCounts", unfollowed := true, recurses := true, plainKeys := false, apart := false, narrowed := true }
def FnExactGridCountsUptoSaid : Prop := fnExactGridCountsUptoRow.holds Try.pinned (OpenSpec.upto fnExactGridCountsSpec)

/-- 'laws.FnExactRunBuilding', WHERE WHAT IT READS IS OF BULK AT MOST 1048576: true; the input reads as it did. -/
def fnExactRunBuildingUptoRow : OpenClaim := { program := "ytcnejdfpdgiffaa", sum := "84281227fde663896e0530235ba8cef957bc1db33b5de4a51c0b217806670632", func := "loop.example/g03101/laws.FnExactRunBuilding", spec := "fnExactRunBuilding", inPlace := ["slices.overlaps[int]"], plainKeys := false, apart := false, narrowed := true }
def FnExactRunBuildingUptoSaid : Prop := fnExactRunBuildingUptoRow.holds Try.pinned (OpenSpec.upto fnExactRunBuildingSpec)

/-- 'laws.FnExactCountInflations', WHERE WHAT IT READS IS OF BULK AT MOST 1048576: true; the input reads as it did. -/
def fnExactCountInflationsUptoRow : OpenClaim := { program := "ytcnejdfpdgiffaa", sum := "84281227fde663896e0530235ba8cef957bc1db33b5de4a51c0b217806670632", func := "loop.example/g03101/laws.FnExactCountInflations", spec := "fnExactCountInflations", unfollowed := true, recurses := true, plainKeys := false, apart := false, narrowed := true }
def FnExactCountInflationsUptoSaid : Prop := fnExactCountInflationsUptoRow.holds Try.pinned (OpenSpec.upto fnExactCountInflationsSpec)

/-- 'laws.FnExactPartCounts', WHERE WHAT IT READS IS OF BULK AT MOST 1048576: true; the input reads as it did. -/
def fnExactPartCountsUptoRow : OpenClaim := { program := "ytcnejdfpdgiffaa", sum := "84281227fde663896e0530235ba8cef957bc1db33b5de4a51c0b217806670632", func := "loop.example/g03101/laws.FnExactPartCounts", spec := "fnExactPartCounts", unfollowed := true, recurses := true, plainKeys := false, apart := false, narrowed := true }
def FnExactPartCountsUptoSaid : Prop := fnExactPartCountsUptoRow.holds Try.pinned (OpenSpec.upto fnExactPartCountsSpec)

/-- 'laws.FnExactWholeCounts', WHERE WHAT IT READS IS OF BULK AT MOST 1048576: true; the input reads as it did. -/
def fnExactWholeCountsUptoRow : OpenClaim := { program := "ytcnejdfpdgiffaa", sum := "84281227fde663896e0530235ba8cef957bc1db33b5de4a51c0b217806670632", func := "loop.example/g03101/laws.FnExactWholeCounts", spec := "fnExactWholeCounts", unfollowed := true, recurses := true, plainKeys := false, apart := false, narrowed := true }
def FnExactWholeCountsUptoSaid : Prop := fnExactWholeCountsUptoRow.holds Try.pinned (OpenSpec.upto fnExactWholeCountsSpec)

/-- 'laws.FnGrids', WHERE WHAT IT READS IS OF BULK AT MOST 1048576: true; the input reads as it did. -/
def fnGridsUptoRow : OpenClaim := { program := "ytcnejdfpdgiffaa", sum := "84281227fde663896e0530235ba8cef957bc1db33b5de4a51c0b217806670632", func := "loop.example/g03101/laws.FnGrids", spec := "fnGrids", unfollowed := true, recurses := true, plainKeys := false, apart := false, narrowed := true }
def FnGridsUptoSaid : Prop := fnGridsUptoRow.holds Try.pinned (OpenSpec.upto fnGridsSpec)

end Rows
end Go.Proofs.Ytcnejdfpdgiffaa
