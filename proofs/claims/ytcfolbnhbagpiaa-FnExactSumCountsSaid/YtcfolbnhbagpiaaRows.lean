/-
  No cell of these rows narrows 'for every input' (looked for: loops, veiled, ifaces, maps, wideKeys, modest, calm, conditions, laid).
  DERIVED. THE GIVEN ROWS OF THIS SEAT. 12 by the template 'for every input the law returns true; each argument reads behind the call as it read before'; 0 by the template 'total and deterministic' (their statements: YtcfolbnhbagpiaaTotals.lean).
  GIVEN WITH THE SEED: the statements are not yours to turn. If you find one false, say at which input.
  Laid BY PROGRAM, IN A SANDBOX (cutbox-rows.mjs): the forced cells as the released guide's own fill.sh prints them over the translation 3473cd182ba4bc22… (all of the seat's roots in one cut). By AI agents, Wed Nov 11 2026. No macro, syntax, notation, axiom, sorry.
-/
import Derived.Test.YtcfolbnhbagpiaaChecked
import GoSem.Claim
import GoSem.ClaimJoined
import GoSem.ClaimMapViews
import Derived.JoinedTies
import Derived.KernelRfl
namespace Go.Proofs.Ytcfolbnhbagpiaa
/- THE CELL 'sum', in the pinned program and in every row, IS THE sha256 OF THE DUMP (.gsa) THAT YtcfolbnhbagpiaaProg.lean LOADS. Nothing in Lean hashes anything: it is a label: what it is worth is what the hold of that sum in a sandbox is worth. -/
noncomputable def Try.pinned : Pinned := { name := "ytcfolbnhbagpiaa", sum := "3473cd182ba4bc2247f7d5ee8e80b60924cef7d3bd9654a404ede3c83988fa8f", checked := Try.checked }
namespace Rows
def none {H : Type} : Left H := { results := [], args := [] }

/-- 'laws.FnExactFactorialOf': WHATEVER THE INPUT: true; the input reads as it did. -/
def fnExactFactorialOfSpec : ChangeSpec := { name := "fnExactFactorialOf", fn := fun _ => fun
  | [d] => { results := [.lit (.bool true)], args := [d] }
  | _ => none }
def fnExactFactorialOfRow : OpenClaim := { program := "ytcfolbnhbagpiaa", sum := "3473cd182ba4bc2247f7d5ee8e80b60924cef7d3bd9654a404ede3c83988fa8f", func := "loop.example/g03101/laws.FnExactFactorialOf", spec := "fnExactFactorialOf", apart := false }
def FnExactFactorialOfSaid : Prop := fnExactFactorialOfRow.holds Try.pinned (OpenSpec.ofChange fnExactFactorialOfSpec)

/-- ITS FALSE NEIGHBOUR: 'it returns false'. Refute it at one input. -/
def fnExactFactorialOfWrong : ChangeSpec := { name := "fnExactFactorialOf", fn := fun _ => fun
  | [d] => { results := [.lit (.bool false)], args := [d] }
  | _ => none }
def FnExactFactorialOfWrongFalsely : Prop := fnExactFactorialOfRow.holds Try.pinned (OpenSpec.ofChange fnExactFactorialOfWrong)

/-- 'laws.FnExactExampleText': WHATEVER THE INPUT: true; the input reads as it did. -/
def fnExactExampleTextSpec : ChangeSpec := { name := "fnExactExampleText", fn := fun _ => fun
  | [d] => { results := [.lit (.bool true)], args := [d] }
  | _ => none }
def fnExactExampleTextRow : OpenClaim := { program := "ytcfolbnhbagpiaa", sum := "3473cd182ba4bc2247f7d5ee8e80b60924cef7d3bd9654a404ede3c83988fa8f", func := "loop.example/g03101/laws.FnExactExampleText", spec := "fnExactExampleText", apart := false }
def FnExactExampleTextSaid : Prop := fnExactExampleTextRow.holds Try.pinned (OpenSpec.ofChange fnExactExampleTextSpec)

/-- ITS FALSE NEIGHBOUR: 'it returns false'. Refute it at one input. -/
def fnExactExampleTextWrong : ChangeSpec := { name := "fnExactExampleText", fn := fun _ => fun
  | [d] => { results := [.lit (.bool false)], args := [d] }
  | _ => none }
def FnExactExampleTextWrongFalsely : Prop := fnExactExampleTextRow.holds Try.pinned (OpenSpec.ofChange fnExactExampleTextWrong)

/-- 'laws.FnExactAllWhole': WHATEVER THE INPUT: true; the input reads as it did. -/
def fnExactAllWholeSpec : ChangeSpec := { name := "fnExactAllWhole", fn := fun _ => fun
  | [d] => { results := [.lit (.bool true)], args := [d] }
  | _ => none }
def fnExactAllWholeRow : OpenClaim := { program := "ytcfolbnhbagpiaa", sum := "3473cd182ba4bc2247f7d5ee8e80b60924cef7d3bd9654a404ede3c83988fa8f", func := "loop.example/g03101/laws.FnExactAllWhole", spec := "fnExactAllWhole", apart := false }
def FnExactAllWholeSaid : Prop := fnExactAllWholeRow.holds Try.pinned (OpenSpec.ofChange fnExactAllWholeSpec)

/-- ITS FALSE NEIGHBOUR: 'it returns false'. Refute it at one input. -/
def fnExactAllWholeWrong : ChangeSpec := { name := "fnExactAllWhole", fn := fun _ => fun
  | [d] => { results := [.lit (.bool false)], args := [d] }
  | _ => none }
def FnExactAllWholeWrongFalsely : Prop := fnExactAllWholeRow.holds Try.pinned (OpenSpec.ofChange fnExactAllWholeWrong)

/-- 'laws.FnExactAreMoves': WHATEVER THE INPUT: true; the input reads as it did. -/
def fnExactAreMovesSpec : ChangeSpec := { name := "fnExactAreMoves", fn := fun _ => fun
  | [d] => { results := [.lit (.bool true)], args := [d] }
  | _ => none }
def fnExactAreMovesRow : OpenClaim := { program := "ytcfolbnhbagpiaa", sum := "3473cd182ba4bc2247f7d5ee8e80b60924cef7d3bd9654a404ede3c83988fa8f", func := "loop.example/g03101/laws.FnExactAreMoves", spec := "fnExactAreMoves", apart := false }
def FnExactAreMovesSaid : Prop := fnExactAreMovesRow.holds Try.pinned (OpenSpec.ofChange fnExactAreMovesSpec)

/-- ITS FALSE NEIGHBOUR: 'it returns false'. Refute it at one input. -/
def fnExactAreMovesWrong : ChangeSpec := { name := "fnExactAreMoves", fn := fun _ => fun
  | [d] => { results := [.lit (.bool false)], args := [d] }
  | _ => none }
def FnExactAreMovesWrongFalsely : Prop := fnExactAreMovesRow.holds Try.pinned (OpenSpec.ofChange fnExactAreMovesWrong)

/-- 'laws.FnExactEvenOdd': WHATEVER THE INPUT: true; the input reads as it did. -/
def fnExactEvenOddSpec : ChangeSpec := { name := "fnExactEvenOdd", fn := fun _ => fun
  | [d] => { results := [.lit (.bool true)], args := [d] }
  | _ => none }
def fnExactEvenOddRow : OpenClaim := { program := "ytcfolbnhbagpiaa", sum := "3473cd182ba4bc2247f7d5ee8e80b60924cef7d3bd9654a404ede3c83988fa8f", func := "loop.example/g03101/laws.FnExactEvenOdd", spec := "fnExactEvenOdd", apart := false }
def FnExactEvenOddSaid : Prop := fnExactEvenOddRow.holds Try.pinned (OpenSpec.ofChange fnExactEvenOddSpec)

/-- ITS FALSE NEIGHBOUR: 'it returns false'. Refute it at one input. -/
def fnExactEvenOddWrong : ChangeSpec := { name := "fnExactEvenOdd", fn := fun _ => fun
  | [d] => { results := [.lit (.bool false)], args := [d] }
  | _ => none }
def FnExactEvenOddWrongFalsely : Prop := fnExactEvenOddRow.holds Try.pinned (OpenSpec.ofChange fnExactEvenOddWrong)

/-- 'laws.FnExactSumCounts': WHATEVER THE INPUT: true; the input reads as it did. -/
def fnExactSumCountsSpec : ChangeSpec := { name := "fnExactSumCounts", fn := fun _ => fun
  | [d1, d2] => { results := [.lit (.bool true)], args := [d1, d2] }
  | _ => none }
def fnExactSumCountsRow : OpenClaim := { program := "ytcfolbnhbagpiaa", sum := "3473cd182ba4bc2247f7d5ee8e80b60924cef7d3bd9654a404ede3c83988fa8f", func := "loop.example/g03101/laws.FnExactSumCounts", spec := "fnExactSumCounts", apart := false }
def FnExactSumCountsSaid : Prop := fnExactSumCountsRow.holds Try.pinned (OpenSpec.ofChange fnExactSumCountsSpec)

/-- ITS FALSE NEIGHBOUR: 'it returns false'. Refute it at one input. -/
def fnExactSumCountsWrong : ChangeSpec := { name := "fnExactSumCounts", fn := fun _ => fun
  | [d1, d2] => { results := [.lit (.bool false)], args := [d1, d2] }
  | _ => none }
def FnExactSumCountsWrongFalsely : Prop := fnExactSumCountsRow.holds Try.pinned (OpenSpec.ofChange fnExactSumCountsWrong)

/-- 'laws.FnExactGreatestStack': WHATEVER THE INPUT: true; the input reads as it did. -/
def fnExactGreatestStackSpec : ChangeSpec := { name := "fnExactGreatestStack", fn := fun _ => fun
  | [d] => { results := [.lit (.bool true)], args := [d] }
  | _ => none }
def fnExactGreatestStackRow : OpenClaim := { program := "ytcfolbnhbagpiaa", sum := "3473cd182ba4bc2247f7d5ee8e80b60924cef7d3bd9654a404ede3c83988fa8f", func := "loop.example/g03101/laws.FnExactGreatestStack", spec := "fnExactGreatestStack", apart := false }
def FnExactGreatestStackSaid : Prop := fnExactGreatestStackRow.holds Try.pinned (OpenSpec.ofChange fnExactGreatestStackSpec)

/-- ITS FALSE NEIGHBOUR: 'it returns false'. Refute it at one input. -/
def fnExactGreatestStackWrong : ChangeSpec := { name := "fnExactGreatestStack", fn := fun _ => fun
  | [d] => { results := [.lit (.bool false)], args := [d] }
  | _ => none }
def FnExactGreatestStackWrongFalsely : Prop := fnExactGreatestStackRow.holds Try.pinned (OpenSpec.ofChange fnExactGreatestStackWrong)

/-- 'laws.FnExactIsGrid': WHATEVER THE INPUT: true; the input reads as it did. -/
def fnExactIsGridSpec : ChangeSpec := { name := "fnExactIsGrid", fn := fun _ => fun
  | [d] => { results := [.lit (.bool true)], args := [d] }
  | _ => none }
def fnExactIsGridRow : OpenClaim := { program := "ytcfolbnhbagpiaa", sum := "3473cd182ba4bc2247f7d5ee8e80b60924cef7d3bd9654a404ede3c83988fa8f", func := "loop.example/g03101/laws.FnExactIsGrid", spec := "fnExactIsGrid", unfollowed := true, recurses := true, apart := false }
def FnExactIsGridSaid : Prop := fnExactIsGridRow.holds Try.pinned (OpenSpec.ofChange fnExactIsGridSpec)

/-- ITS FALSE NEIGHBOUR: 'it returns false'. Refute it at one input. -/
def fnExactIsGridWrong : ChangeSpec := { name := "fnExactIsGrid", fn := fun _ => fun
  | [d] => { results := [.lit (.bool false)], args := [d] }
  | _ => none }
def FnExactIsGridWrongFalsely : Prop := fnExactIsGridRow.holds Try.pinned (OpenSpec.ofChange fnExactIsGridWrong)

/-- 'laws.FnExactRunMoves': WHATEVER THE INPUT: true; the input reads as it did. -/
def fnExactRunMovesSpec : ChangeSpec := { name := "fnExactRunMoves", fn := fun _ => fun
  | [d] => { results := [.lit (.bool true)], args := [d] }
  | _ => none }
def fnExactRunMovesRow : OpenClaim := { program := "ytcfolbnhbagpiaa", sum := "3473cd182ba4bc2247f7d5ee8e80b60924cef7d3bd9654a404ede3c83988fa8f", func := "loop.example/g03101/laws.FnExactRunMoves", spec := "fnExactRunMoves", apart := false }
def FnExactRunMovesSaid : Prop := fnExactRunMovesRow.holds Try.pinned (OpenSpec.ofChange fnExactRunMovesSpec)

/-- ITS FALSE NEIGHBOUR: 'it returns false'. Refute it at one input. -/
def fnExactRunMovesWrong : ChangeSpec := { name := "fnExactRunMoves", fn := fun _ => fun
  | [d] => { results := [.lit (.bool false)], args := [d] }
  | _ => none }
def FnExactRunMovesWrongFalsely : Prop := fnExactRunMovesRow.holds Try.pinned (OpenSpec.ofChange fnExactRunMovesWrong)

/-- 'laws.FnExactRankOf': WHATEVER THE INPUT: true; the input reads as it did. -/
def fnExactRankOfSpec : ChangeSpec := { name := "fnExactRankOf", fn := fun _ => fun
  | [d] => { results := [.lit (.bool true)], args := [d] }
  | _ => none }
def fnExactRankOfRow : OpenClaim := { program := "ytcfolbnhbagpiaa", sum := "3473cd182ba4bc2247f7d5ee8e80b60924cef7d3bd9654a404ede3c83988fa8f", func := "loop.example/g03101/laws.FnExactRankOf", spec := "fnExactRankOf", apart := false }
def FnExactRankOfSaid : Prop := fnExactRankOfRow.holds Try.pinned (OpenSpec.ofChange fnExactRankOfSpec)

/-- ITS FALSE NEIGHBOUR: 'it returns false'. Refute it at one input. -/
def fnExactRankOfWrong : ChangeSpec := { name := "fnExactRankOf", fn := fun _ => fun
  | [d] => { results := [.lit (.bool false)], args := [d] }
  | _ => none }
def FnExactRankOfWrongFalsely : Prop := fnExactRankOfRow.holds Try.pinned (OpenSpec.ofChange fnExactRankOfWrong)

/-- 'laws.FnExactPermAt': WHATEVER THE INPUT: true; the input reads as it did. -/
def fnExactPermAtSpec : ChangeSpec := { name := "fnExactPermAt", fn := fun _ => fun
  | [d1, d2] => { results := [.lit (.bool true)], args := [d1, d2] }
  | _ => none }
def fnExactPermAtRow : OpenClaim := { program := "ytcfolbnhbagpiaa", sum := "3473cd182ba4bc2247f7d5ee8e80b60924cef7d3bd9654a404ede3c83988fa8f", func := "loop.example/g03101/laws.FnExactPermAt", spec := "fnExactPermAt", apart := false }
def FnExactPermAtSaid : Prop := fnExactPermAtRow.holds Try.pinned (OpenSpec.ofChange fnExactPermAtSpec)

/-- ITS FALSE NEIGHBOUR: 'it returns false'. Refute it at one input. -/
def fnExactPermAtWrong : ChangeSpec := { name := "fnExactPermAt", fn := fun _ => fun
  | [d1, d2] => { results := [.lit (.bool false)], args := [d1, d2] }
  | _ => none }
def FnExactPermAtWrongFalsely : Prop := fnExactPermAtRow.holds Try.pinned (OpenSpec.ofChange fnExactPermAtWrong)

/-- 'laws.FnExactEqualSession': WHATEVER THE INPUT: true; the input reads as it did. -/
def fnExactEqualSessionSpec : ChangeSpec := { name := "fnExactEqualSession", fn := fun _ => fun
  | [d1, d2] => { results := [.lit (.bool true)], args := [d1, d2] }
  | _ => none }
def fnExactEqualSessionRow : OpenClaim := { program := "ytcfolbnhbagpiaa", sum := "3473cd182ba4bc2247f7d5ee8e80b60924cef7d3bd9654a404ede3c83988fa8f", func := "loop.example/g03101/laws.FnExactEqualSession", spec := "fnExactEqualSession", unfollowed := true, recurses := true, apart := false }
def FnExactEqualSessionSaid : Prop := fnExactEqualSessionRow.holds Try.pinned (OpenSpec.ofChange fnExactEqualSessionSpec)

/-- ITS FALSE NEIGHBOUR: 'it returns false'. Refute it at one input. -/
def fnExactEqualSessionWrong : ChangeSpec := { name := "fnExactEqualSession", fn := fun _ => fun
  | [d1, d2] => { results := [.lit (.bool false)], args := [d1, d2] }
  | _ => none }
def FnExactEqualSessionWrongFalsely : Prop := fnExactEqualSessionRow.holds Try.pinned (OpenSpec.ofChange fnExactEqualSessionWrong)

/- THE SECOND FORM. 'bulk': how many values and letters a reading holds, each counted each time it is reached (what is shared counts as often as it is met; a slice's spare places count too). A statement '..UptoSaid' is the law's where the arguments, and the package variables that the reading takes, are together of bulk at most 1048576: NARROWER than '..Said'. Prove '..Said' where nothing that the law and all that it calls make is longer than what came in: it says more and counts as full. Else prove '..UptoSaid'. A law counts once. -/
mutual
def uptoBulk {H : Type} : DataW H → Nat
  | .lit (.string bytes) => bytes.length + 1
  | .lit _ => 1
  | .nil => 1
  | .ptr d => uptoBulk d + 1
  | .slice elems spare => uptoBulkAll elems + uptoBulkAll spare + 1
  | .agg parts => uptoBulkAll parts + 1
  | .iface _ d => uptoBulk d + 1
  | .map entries => uptoBulkEntries entries + 1
  | .held _ => 1
def uptoBulkAll {H : Type} : List (DataW H) → Nat
  | [] => 0
  | d :: r => uptoBulk d + uptoBulkAll r
def uptoBulkEntries {H : Type} : List (Lit × DataW H) → Nat
  | [] => 0
  | x :: r => uptoBulkEntry x + uptoBulkEntries r
def uptoBulkEntry {H : Type} : Lit × DataW H → Nat
  | (.string bytes, d) => bytes.length + uptoBulk d + 1
  | (_, d) => uptoBulk d + 1
 end
def uptoSmall : (H : Type) → List (DataW H) → Bool := fun _ ds => decide (uptoBulkAll ds ≤ 1048576)
def OpenSpec.upto (s : _root_.Go.ChangeSpec) : _root_.Go.OpenSpec := { _root_.Go.OpenSpec.ofChange s with cond := some uptoSmall }

/-- 'laws.FnExactFactorialOf', WHERE WHAT IT READS IS OF BULK AT MOST 1048576: true; the input reads as it did. -/
def fnExactFactorialOfUptoRow : OpenClaim := { program := "ytcfolbnhbagpiaa", sum := "3473cd182ba4bc2247f7d5ee8e80b60924cef7d3bd9654a404ede3c83988fa8f", func := "loop.example/g03101/laws.FnExactFactorialOf", spec := "fnExactFactorialOf", apart := false, narrowed := true }
def FnExactFactorialOfUptoSaid : Prop := fnExactFactorialOfUptoRow.holds Try.pinned (OpenSpec.upto fnExactFactorialOfSpec)

/-- 'laws.FnExactExampleText', WHERE WHAT IT READS IS OF BULK AT MOST 1048576: true; the input reads as it did. -/
def fnExactExampleTextUptoRow : OpenClaim := { program := "ytcfolbnhbagpiaa", sum := "3473cd182ba4bc2247f7d5ee8e80b60924cef7d3bd9654a404ede3c83988fa8f", func := "loop.example/g03101/laws.FnExactExampleText", spec := "fnExactExampleText", apart := false, narrowed := true }
def FnExactExampleTextUptoSaid : Prop := fnExactExampleTextUptoRow.holds Try.pinned (OpenSpec.upto fnExactExampleTextSpec)

/-- 'laws.FnExactAllWhole', WHERE WHAT IT READS IS OF BULK AT MOST 1048576: true; the input reads as it did. -/
def fnExactAllWholeUptoRow : OpenClaim := { program := "ytcfolbnhbagpiaa", sum := "3473cd182ba4bc2247f7d5ee8e80b60924cef7d3bd9654a404ede3c83988fa8f", func := "loop.example/g03101/laws.FnExactAllWhole", spec := "fnExactAllWhole", apart := false, narrowed := true }
def FnExactAllWholeUptoSaid : Prop := fnExactAllWholeUptoRow.holds Try.pinned (OpenSpec.upto fnExactAllWholeSpec)

/-- 'laws.FnExactAreMoves', WHERE WHAT IT READS IS OF BULK AT MOST 1048576: true; the input reads as it did. -/
def fnExactAreMovesUptoRow : OpenClaim := { program := "ytcfolbnhbagpiaa", sum := "3473cd182ba4bc2247f7d5ee8e80b60924cef7d3bd9654a404ede3c83988fa8f", func := "loop.example/g03101/laws.FnExactAreMoves", spec := "fnExactAreMoves", apart := false, narrowed := true }
def FnExactAreMovesUptoSaid : Prop := fnExactAreMovesUptoRow.holds Try.pinned (OpenSpec.upto fnExactAreMovesSpec)

/-- 'laws.FnExactEvenOdd', WHERE WHAT IT READS IS OF BULK AT MOST 1048576: true; the input reads as it did. -/
def fnExactEvenOddUptoRow : OpenClaim := { program := "ytcfolbnhbagpiaa", sum := "3473cd182ba4bc2247f7d5ee8e80b60924cef7d3bd9654a404ede3c83988fa8f", func := "loop.example/g03101/laws.FnExactEvenOdd", spec := "fnExactEvenOdd", apart := false, narrowed := true }
def FnExactEvenOddUptoSaid : Prop := fnExactEvenOddUptoRow.holds Try.pinned (OpenSpec.upto fnExactEvenOddSpec)

/-- 'laws.FnExactSumCounts', WHERE WHAT IT READS IS OF BULK AT MOST 1048576: true; the input reads as it did. -/
def fnExactSumCountsUptoRow : OpenClaim := { program := "ytcfolbnhbagpiaa", sum := "3473cd182ba4bc2247f7d5ee8e80b60924cef7d3bd9654a404ede3c83988fa8f", func := "loop.example/g03101/laws.FnExactSumCounts", spec := "fnExactSumCounts", apart := false, narrowed := true }
def FnExactSumCountsUptoSaid : Prop := fnExactSumCountsUptoRow.holds Try.pinned (OpenSpec.upto fnExactSumCountsSpec)

/-- 'laws.FnExactGreatestStack', WHERE WHAT IT READS IS OF BULK AT MOST 1048576: true; the input reads as it did. -/
def fnExactGreatestStackUptoRow : OpenClaim := { program := "ytcfolbnhbagpiaa", sum := "3473cd182ba4bc2247f7d5ee8e80b60924cef7d3bd9654a404ede3c83988fa8f", func := "loop.example/g03101/laws.FnExactGreatestStack", spec := "fnExactGreatestStack", apart := false, narrowed := true }
def FnExactGreatestStackUptoSaid : Prop := fnExactGreatestStackUptoRow.holds Try.pinned (OpenSpec.upto fnExactGreatestStackSpec)

/-- 'laws.FnExactIsGrid', WHERE WHAT IT READS IS OF BULK AT MOST 1048576: true; the input reads as it did. -/
def fnExactIsGridUptoRow : OpenClaim := { program := "ytcfolbnhbagpiaa", sum := "3473cd182ba4bc2247f7d5ee8e80b60924cef7d3bd9654a404ede3c83988fa8f", func := "loop.example/g03101/laws.FnExactIsGrid", spec := "fnExactIsGrid", unfollowed := true, recurses := true, apart := false, narrowed := true }
def FnExactIsGridUptoSaid : Prop := fnExactIsGridUptoRow.holds Try.pinned (OpenSpec.upto fnExactIsGridSpec)

/-- 'laws.FnExactRunMoves', WHERE WHAT IT READS IS OF BULK AT MOST 1048576: true; the input reads as it did. -/
def fnExactRunMovesUptoRow : OpenClaim := { program := "ytcfolbnhbagpiaa", sum := "3473cd182ba4bc2247f7d5ee8e80b60924cef7d3bd9654a404ede3c83988fa8f", func := "loop.example/g03101/laws.FnExactRunMoves", spec := "fnExactRunMoves", apart := false, narrowed := true }
def FnExactRunMovesUptoSaid : Prop := fnExactRunMovesUptoRow.holds Try.pinned (OpenSpec.upto fnExactRunMovesSpec)

/-- 'laws.FnExactRankOf', WHERE WHAT IT READS IS OF BULK AT MOST 1048576: true; the input reads as it did. -/
def fnExactRankOfUptoRow : OpenClaim := { program := "ytcfolbnhbagpiaa", sum := "3473cd182ba4bc2247f7d5ee8e80b60924cef7d3bd9654a404ede3c83988fa8f", func := "loop.example/g03101/laws.FnExactRankOf", spec := "fnExactRankOf", apart := false, narrowed := true }
def FnExactRankOfUptoSaid : Prop := fnExactRankOfUptoRow.holds Try.pinned (OpenSpec.upto fnExactRankOfSpec)

/-- 'laws.FnExactPermAt', WHERE WHAT IT READS IS OF BULK AT MOST 1048576: true; the input reads as it did. -/
def fnExactPermAtUptoRow : OpenClaim := { program := "ytcfolbnhbagpiaa", sum := "3473cd182ba4bc2247f7d5ee8e80b60924cef7d3bd9654a404ede3c83988fa8f", func := "loop.example/g03101/laws.FnExactPermAt", spec := "fnExactPermAt", apart := false, narrowed := true }
def FnExactPermAtUptoSaid : Prop := fnExactPermAtUptoRow.holds Try.pinned (OpenSpec.upto fnExactPermAtSpec)

/-- 'laws.FnExactEqualSession', WHERE WHAT IT READS IS OF BULK AT MOST 1048576: true; the input reads as it did. -/
def fnExactEqualSessionUptoRow : OpenClaim := { program := "ytcfolbnhbagpiaa", sum := "3473cd182ba4bc2247f7d5ee8e80b60924cef7d3bd9654a404ede3c83988fa8f", func := "loop.example/g03101/laws.FnExactEqualSession", spec := "fnExactEqualSession", unfollowed := true, recurses := true, apart := false, narrowed := true }
def FnExactEqualSessionUptoSaid : Prop := fnExactEqualSessionUptoRow.holds Try.pinned (OpenSpec.upto fnExactEqualSessionSpec)

end Rows
end Go.Proofs.Ytcfolbnhbagpiaa
