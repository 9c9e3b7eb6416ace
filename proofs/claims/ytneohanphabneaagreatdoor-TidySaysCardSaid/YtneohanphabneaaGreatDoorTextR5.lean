/-
The document's text of a tree, the walks: lists of statements. Conditions: the tree lies in memory and is shaped; the text's length is below a bound.
-/
import Derived.Test.YtneohanphabneaaGreatDoorTextS
namespace Go.Proofs.YtneohanphabneaaGreatDoor
set_option linter.unusedSimpArgs false
set_option linter.unusedVariables false
open Go.RowKit Go.BigFrame
theorem getD_at {l : List Nd} {j : Nat} {y : Nd} (h : l[j]? = some y) : l.getD j dNd = y := by rw [List.getD_eq_getElem?_getD, h]; rfl
end Go.Proofs.YtneohanphabneaaGreatDoor
