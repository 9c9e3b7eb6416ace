/-
The document's text of a tree, the walks: one statement. Conditions: the tree lies in memory and is shaped; the text's length is below a bound.
-/
import Derived.Test.YtneohanphabneaaGreatDoorPut
import Derived.Test.YtneohanphabneaaGreatDoorTextR5
import Derived.Deep.RegionHeld3
namespace Go.Proofs.YtneohanphabneaaGreatDoor
set_option linter.unusedSimpArgs false
set_option linter.unusedVariables false
open Go.RowKit Go.BigFrame
theorem ifAllT_at {E L : Nd → Bool} {num : Int} {k : Nat} : ∀ {l : List Nd} {i : Nat}, ifAll E L num k l i = true → ∀ j x, l[j]? = some x → (if (i + j) % 2 = 1 ∨ (i + j + 1 = k ∧ num = 1) then L x else E x) = true
 | [], _, _, j, x, hx => by simp at hx
 | y :: r, i, h, 0, x, hx => by
  simp only [ifAll, Bool.and_eq_true] at h
  simp at hx
  subst hx
  exact h.1
 | y :: r, i, h, j + 1, x, hx => by
  simp only [ifAll, Bool.and_eq_true] at h
  have := ifAllT_at h.2 j x (by simpa using hx)
  rwa [show i + 1 + j = i + (j + 1) by omega] at this
theorem upB_many (f : Nat → ByteArray) (h : ∀ t, 1 ≤ (f t).size) : ∀ k, k ≤ (upB f k).size
 | 0 => Nat.zero_le _
 | k + 1 => by
  have h1 := upB_many f h k
  have h2 := h k
  simp only [upB, ByteArray.size_append]
  omega
theorem ifPiece_one (E : Nd → ByteArray) (L : Nd → ByteArray → ByteArray) (l : List Nd) (pad : ByteArray) (t : Nat) : 1 ≤ (ifPiece E L l pad t).size := by
 simp only [ifPiece, ByteArray.size_append, ba_size, List.size_toArray, List.length_cons, List.length_nil]
 omega
theorem if_shape {d : Nat} {s : ByteArray} {num pos : Int} {subs : List Nd} (hs : stmtS (d + 1) ⟨16, s, num, pos, subs⟩ = true) :
  (num = 0 ∨ num = 1) ∧ 2 ≤ subs.length ∧ ((subs.length % 2 : Nat) : Int) = num ∧ ∀ j x, subs[j]? = some x → (if j % 2 = 1 ∨ (j + 1 = subs.length ∧ num = 1) then stmtsS d x else exprS d x) = true := by
 rw [stmtS_succ] at hs
 simp [stmtStep] at hs
 obtain ⟨⟨⟨h1, h2⟩, h3⟩, h4⟩ := hs
 simp [headB] at h1
 refine ⟨by omega, h2, by omega, fun j x hx => ?_⟩
 have := ifAllT_at h4 j x hx
 simpa only [Nat.zero_add] using this
end Go.Proofs.YtneohanphabneaaGreatDoor
