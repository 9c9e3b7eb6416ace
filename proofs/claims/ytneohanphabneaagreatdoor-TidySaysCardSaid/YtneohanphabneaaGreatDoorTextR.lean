/-
The document's text of a tree, the walks: numbers, names, ranks. Conditions: the tree lies in memory; the text's length is below a bound.
-/
import Derived.Test.YtneohanphabneaaGreatDoorBase
import Derived.Test.YtneohanphabneaaGreatDoorShapeR5
import Derived.Laws.BytesArg
namespace Go.Proofs.YtneohanphabneaaGreatDoor
set_option linter.unusedSimpArgs false
set_option linter.unusedVariables false
open Go.RowKit Go.BigFrame
/-- The bound on every text of these walks. -/
def maxT : Nat := 1099511627776
end Go.Proofs.YtneohanphabneaaGreatDoor
