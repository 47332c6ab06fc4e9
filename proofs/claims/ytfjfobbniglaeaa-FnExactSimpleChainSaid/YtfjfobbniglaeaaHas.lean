/-
 Occurrences of patterns: what their functions compute. Conditions: none.
-/
import Derived.Test.YtfjfobbniglaeaaPerms
import Derived.Test.YtfjfobbniglaeaaLibL
import Derived.Test.YtfjfobbniglaeaaClone
set_option linter.unusedSimpArgs false
set_option linter.unusedVariables false
set_option maxRecDepth 20000
set_option linter.unusedSectionVars false
namespace Go.Gl
open Go Go.Proofs
variable [Amb] [NoQ]
/-- Does a place more agree with a pattern? (Places are counted from b.) -/
def fitK (b : Int) (p q c : List Int) (i : Int) (k : Nat) : Bool := (List.range k).all fun l => decide (q.getD l 0 < q.getD c.length 0) == decide (p.getD (c.getD l 0 - b).toNat 0 < p.getD (i - b).toNat 0)
def fitB (b : Int) (p q c : List Int) (i : Int) : Bool := fitK b p q c i c.length
def fromI (b : Int) (c : List Int) : Int := if c.length = 0 then b else c.getD (c.length - 1) 0 + 1
/-- The occurrences that begin so, d places more. -/
def occ (b : Int) (p q : List Int) : Nat → List Int → List (List Int)
 | 0, c => [c]
 | d + 1, c => (List.range ((p.length : Int) + b - fromI b c).toNat).flatMap fun j : Nat => if fitB b p q c (fromI b c + j) = true then occ b p q d (c ++ [fromI b c + j]) else []
def hasB (p q : List Int) : Bool := !(occ 0 p q q.length []).isEmpty
end Go.Gl
