/-
The document's text of a tree, the walks: expressions. Conditions: the tree lies in memory and is shaped; the text's length is below a bound.
-/
import Derived.Test.YtneohanphabneaaGreatDoorTextR
namespace Go.Proofs.YtneohanphabneaaGreatDoor
set_option linter.unusedSimpArgs false
set_option linter.unusedVariables false
open Go.RowKit Go.BigFrame
theorem desig_expr {d : Nat} {n : Nd} (h : desigS d n = true) : exprS d n = true := by
 cases d with
 | zero => simp [desigS, edS] at h
 | succ d =>
  rw [desigS_succ] at h
  rw [exprS_succ]
  have hk : n.kind = 24 ∨ n.kind = 25 ∨ n.kind = 26 ∨ n.kind = 27 ∨ n.kind = 28 := by
   by_cases k1 : n.kind = 24
   ·exact .inl k1
   by_cases k2 : n.kind = 25
   ·exact .inr (.inl k2)
   by_cases k3 : n.kind = 26
   ·exact .inr (.inr (.inl k3))
   by_cases k4 : n.kind = 27
   ·exact .inr (.inr (.inr (.inl k4)))
   by_cases k5 : n.kind = 28
   ·exact .inr (.inr (.inr (.inr k5)))
   simp [desigStep, k1, k2, k3, k4, k5] at h
  unfold exprStep
  rcases hk with k | k | k | k | k <;> simp [k, h]
theorem all_at {p : Nd → Bool} {l : List Nd} {j : Nat} {y : Nd} (h : l.all p = true) (hy : l[j]? = some y) : p y = true := List.all_eq_true.1 h y (List.mem_of_getElem? hy)
end Go.Proofs.YtneohanphabneaaGreatDoor
