/-
The document's text of a tree, the walks: types. Conditions: the tree lies in memory and is shaped; the text's length is below a bound.
-/
import Derived.Test.YtneohanphabneaaGreatDoorTextR2
namespace Go.Proofs.YtneohanphabneaaGreatDoor
set_option linter.unusedSimpArgs false
set_option linter.unusedVariables false
open Go.RowKit Go.BigFrame
theorem catB_app : ∀ a b : List ByteArray, catB (a ++ b) = catB a ++ catB b
 | [], b => by simp only [List.nil_append, catB, nil_ba]
 | x :: r, b => by simp only [List.cons_append, catB, catB_app r b, ba_assoc]
theorem cat_step {f : Nd → ByteArray} {l : List Nd} {j : Nat} {y : Nd} (hy : l[j]? = some y) : catB ((l.take (j + 1)).map f) = catB ((l.take j).map f) ++ f y := by
 rw [List.take_succ_eq_append_getElem (at_lt hy), at_eq hy, List.map_append, catB_app]
 simp only [List.map_cons, List.map_nil, catB, ba_nil]
theorem cat_size {f : Nd → ByteArray} {l : List Nd} {j : Nat} {y : Nd} (hy : l[j]? = some y) : (catB ((l.take j).map f)).size + (f y).size ≤ (catB (l.map f)).size := by
 have h : l = l.take (j + 1) ++ l.drop (j + 1) := (List.take_append_drop _ _).symm
 have e : (catB (l.map f)).size = (catB ((l.take (j + 1)).map f)).size + (catB ((l.drop (j + 1)).map f)).size := by
  conv => lhs; rw [h]
  rw [List.map_append, catB_app, ByteArray.size_append]
 rw [e, cat_step hy, ByteArray.size_append]
 omega
end Go.Proofs.YtneohanphabneaaGreatDoor
