/-
  No cell of these rows narrows 'for every input' (looked for: loops, veiled, ifaces, maps, wideKeys, modest, calm, conditions, laid).
  DERIVED. THE GIVEN ROWS OF THIS SEAT. 4 by the template 'for every input the law returns true; each argument reads behind the call as it read before'; 0 by the template 'total and deterministic' (their statements: YtfjfobbniglaeaaTotals.lean).
  GIVEN WITH THE SEED: the statements are not yours to turn. If you find one false, say at which input.
  Laid BY PROGRAM, IN A SANDBOX (cutbox-rows.mjs): the forced cells as the released guide's own fill.sh prints them over the translation 928f8f30bec74baf… (all of the seat's roots in one cut). By AI agents, Wed Nov 11 2026. No macro, syntax, notation, axiom, sorry.
-/
import Derived.Test.YtfjfobbniglaeaaChecked
import GoSem.Claim
import GoSem.ClaimJoined
import GoSem.ClaimMapViews
import Derived.JoinedTies
import Derived.KernelRfl
namespace Go.Proofs.Ytfjfobbniglaeaa
/- THE CELL 'sum', in the pinned program and in every row, IS THE sha256 OF THE DUMP (.gsa) THAT YtfjfobbniglaeaaProg.lean LOADS. Nothing in Lean hashes anything: it is a label: what it is worth is what the hold of that sum in a sandbox is worth. -/
noncomputable def Try.pinned : Pinned := { name := "ytfjfobbniglaeaa", sum := "928f8f30bec74bafe49702fe7e6871fb88af58475d7353fbd7ca4fc41735b51a", checked := Try.checked }
namespace Rows
def none {H : Type} : Left H := { results := [], args := [] }

/-- 'laws.FnExactRunBuilding': WHATEVER THE INPUT: true; the input reads as it did. -/
def fnExactRunBuildingSpec : ChangeSpec := { name := "fnExactRunBuilding", fn := fun _ => fun
  | [d] => { results := [.lit (.bool true)], args := [d] }
  | _ => none }
def fnExactRunBuildingRow : OpenClaim := { program := "ytfjfobbniglaeaa", sum := "928f8f30bec74bafe49702fe7e6871fb88af58475d7353fbd7ca4fc41735b51a", func := "loop.example/g03101/laws.FnExactRunBuilding", spec := "fnExactRunBuilding", inPlace := ["slices.overlaps[int]"], apart := false }
def FnExactRunBuildingSaid : Prop := fnExactRunBuildingRow.holds Try.pinned (OpenSpec.ofChange fnExactRunBuildingSpec)

/-- ITS FALSE NEIGHBOUR: 'it returns false'. Refute it at one input. -/
def fnExactRunBuildingWrong : ChangeSpec := { name := "fnExactRunBuilding", fn := fun _ => fun
  | [d] => { results := [.lit (.bool false)], args := [d] }
  | _ => none }
def FnExactRunBuildingWrongFalsely : Prop := fnExactRunBuildingRow.holds Try.pinned (OpenSpec.ofChange fnExactRunBuildingWrong)

/-- 'laws.FnExactSimpleLowers': WHATEVER THE INPUT: true; the input reads as it did. -/
def fnExactSimpleLowersSpec : ChangeSpec := { name := "fnExactSimpleLowers", fn := fun _ => fun
  | [d] => { results := [.lit (.bool true)], args := [d] }
  | _ => none }
def fnExactSimpleLowersRow : OpenClaim := { program := "ytfjfobbniglaeaa", sum := "928f8f30bec74bafe49702fe7e6871fb88af58475d7353fbd7ca4fc41735b51a", func := "loop.example/g03101/laws.FnExactSimpleLowers", spec := "fnExactSimpleLowers", unfollowed := true, recurses := true, apart := false }
def FnExactSimpleLowersSaid : Prop := fnExactSimpleLowersRow.holds Try.pinned (OpenSpec.ofChange fnExactSimpleLowersSpec)

/-- ITS FALSE NEIGHBOUR: 'it returns false'. Refute it at one input. -/
def fnExactSimpleLowersWrong : ChangeSpec := { name := "fnExactSimpleLowers", fn := fun _ => fun
  | [d] => { results := [.lit (.bool false)], args := [d] }
  | _ => none }
def FnExactSimpleLowersWrongFalsely : Prop := fnExactSimpleLowersRow.holds Try.pinned (OpenSpec.ofChange fnExactSimpleLowersWrong)

/-- 'laws.FnExactSimpleChain': WHATEVER THE INPUT: true; the input reads as it did. -/
def fnExactSimpleChainSpec : ChangeSpec := { name := "fnExactSimpleChain", fn := fun _ => fun
  | [d] => { results := [.lit (.bool true)], args := [d] }
  | _ => none }
def fnExactSimpleChainRow : OpenClaim := { program := "ytfjfobbniglaeaa", sum := "928f8f30bec74bafe49702fe7e6871fb88af58475d7353fbd7ca4fc41735b51a", func := "loop.example/g03101/laws.FnExactSimpleChain", spec := "fnExactSimpleChain", unfollowed := true, recurses := true, apart := false }
def FnExactSimpleChainSaid : Prop := fnExactSimpleChainRow.holds Try.pinned (OpenSpec.ofChange fnExactSimpleChainSpec)

/-- ITS FALSE NEIGHBOUR: 'it returns false'. Refute it at one input. -/
def fnExactSimpleChainWrong : ChangeSpec := { name := "fnExactSimpleChain", fn := fun _ => fun
  | [d] => { results := [.lit (.bool false)], args := [d] }
  | _ => none }
def FnExactSimpleChainWrongFalsely : Prop := fnExactSimpleChainRow.holds Try.pinned (OpenSpec.ofChange fnExactSimpleChainWrong)

/-- 'laws.FnWilf': WHATEVER THE INPUT: true; the input reads as it did. -/
def fnWilfSpec : ChangeSpec := { name := "fnWilf", fn := fun _ => fun
  | [d] => { results := [.lit (.bool true)], args := [d] }
  | _ => none }
def fnWilfRow : OpenClaim := { program := "ytfjfobbniglaeaa", sum := "928f8f30bec74bafe49702fe7e6871fb88af58475d7353fbd7ca4fc41735b51a", func := "loop.example/g03101/laws.FnWilf", spec := "fnWilf", unfollowed := true, recurses := true, apart := false }
def FnWilfSaid : Prop := fnWilfRow.holds Try.pinned (OpenSpec.ofChange fnWilfSpec)

/-- ITS FALSE NEIGHBOUR: 'it returns false'. Refute it at one input. -/
def fnWilfWrong : ChangeSpec := { name := "fnWilf", fn := fun _ => fun
  | [d] => { results := [.lit (.bool false)], args := [d] }
  | _ => none }
def FnWilfWrongFalsely : Prop := fnWilfRow.holds Try.pinned (OpenSpec.ofChange fnWilfWrong)

/- THE SECOND FORM. 'bulk': how many values and letters a reading holds, each counted each time it is reached (what is shared counts as often as it is met; a slice's spare places count too). A statement '..UptoSaid' is the law's where the arguments, and the package variables that the reading takes, are together of bulk at most 1048576: NARROWER than '..Said'. Prove '..Said' where nothing that the law and all that it calls make is longer than what came in: it says more and counts as full. Else prove '..UptoSaid'. A law counts once. -/
mutual
def uptoBulk {H : Type} : DataW H → Nat
  | .lit (.string bytes) => bytes.length + 1
  | .lit _ => 1
  | .nil => 1
  | .ptr d => uptoBulk d + 1
  | .slice elems spare => uptoBulkAll elems + uptoBulkAll spare + 1
  | .agg parts => uptoBulkAll parts + 1
  | .iface _ d => uptoBulk d + 1
  | .map entries => uptoBulkEntries entries + 1
  | .held _ => 1
def uptoBulkAll {H : Type} : List (DataW H) → Nat
  | [] => 0
  | d :: r => uptoBulk d + uptoBulkAll r
def uptoBulkEntries {H : Type} : List (Lit × DataW H) → Nat
  | [] => 0
  | x :: r => uptoBulkEntry x + uptoBulkEntries r
def uptoBulkEntry {H : Type} : Lit × DataW H → Nat
  | (.string bytes, d) => bytes.length + uptoBulk d + 1
  | (_, d) => uptoBulk d + 1
 end
def uptoSmall : (H : Type) → List (DataW H) → Bool := fun _ ds => decide (uptoBulkAll ds ≤ 1048576)
def OpenSpec.upto (s : _root_.Go.ChangeSpec) : _root_.Go.OpenSpec := { _root_.Go.OpenSpec.ofChange s with cond := some uptoSmall }

/-- 'laws.FnExactRunBuilding', WHERE WHAT IT READS IS OF BULK AT MOST 1048576: true; the input reads as it did. -/
def fnExactRunBuildingUptoRow : OpenClaim := { program := "ytfjfobbniglaeaa", sum := "928f8f30bec74bafe49702fe7e6871fb88af58475d7353fbd7ca4fc41735b51a", func := "loop.example/g03101/laws.FnExactRunBuilding", spec := "fnExactRunBuilding", inPlace := ["slices.overlaps[int]"], apart := false, narrowed := true }
def FnExactRunBuildingUptoSaid : Prop := fnExactRunBuildingUptoRow.holds Try.pinned (OpenSpec.upto fnExactRunBuildingSpec)

/-- 'laws.FnExactSimpleLowers', WHERE WHAT IT READS IS OF BULK AT MOST 1048576: true; the input reads as it did. -/
def fnExactSimpleLowersUptoRow : OpenClaim := { program := "ytfjfobbniglaeaa", sum := "928f8f30bec74bafe49702fe7e6871fb88af58475d7353fbd7ca4fc41735b51a", func := "loop.example/g03101/laws.FnExactSimpleLowers", spec := "fnExactSimpleLowers", unfollowed := true, recurses := true, apart := false, narrowed := true }
def FnExactSimpleLowersUptoSaid : Prop := fnExactSimpleLowersUptoRow.holds Try.pinned (OpenSpec.upto fnExactSimpleLowersSpec)

/-- 'laws.FnExactSimpleChain', WHERE WHAT IT READS IS OF BULK AT MOST 1048576: true; the input reads as it did. -/
def fnExactSimpleChainUptoRow : OpenClaim := { program := "ytfjfobbniglaeaa", sum := "928f8f30bec74bafe49702fe7e6871fb88af58475d7353fbd7ca4fc41735b51a", func := "loop.example/g03101/laws.FnExactSimpleChain", spec := "fnExactSimpleChain", unfollowed := true, recurses := true, apart := false, narrowed := true }
def FnExactSimpleChainUptoSaid : Prop := fnExactSimpleChainUptoRow.holds Try.pinned (OpenSpec.upto fnExactSimpleChainSpec)

/-- 'laws.FnWilf', WHERE WHAT IT READS IS OF BULK AT MOST 1048576: true; the input reads as it did. -/
def fnWilfUptoRow : OpenClaim := { program := "ytfjfobbniglaeaa", sum := "928f8f30bec74bafe49702fe7e6871fb88af58475d7353fbd7ca4fc41735b51a", func := "loop.example/g03101/laws.FnWilf", spec := "fnWilf", unfollowed := true, recurses := true, apart := false, narrowed := true }
def FnWilfUptoSaid : Prop := fnWilfUptoRow.holds Try.pinned (OpenSpec.upto fnWilfSpec)

end Rows
end Go.Proofs.Ytfjfobbniglaeaa
