/-
The document's text of a tree, the walks: parts of declarations. Conditions: the tree lies in memory and is shaped; the text's length is below a bound.
-/
import Derived.Test.YtneohanphabneaaGreatDoorTextR3
namespace Go.Proofs.YtneohanphabneaaGreatDoor
set_option linter.unusedSimpArgs false
set_option linter.unusedVariables false
open Go.RowKit Go.BigFrame
/-- A line of 'declText'. -/
def declLT (d : Nat) (x : Nd) : ByteArray :=
 if x.kind = 4 then ⟨#[32, 32]⟩ ++ starT x ++ ⟨#[32, 61, 32]⟩ ++ exprT d (x.sub 0) ++ ⟨#[59, 10]⟩
 else if x.kind = 5 then ⟨#[32, 32]⟩ ++ starT x ++ ⟨#[32, 61, 32]⟩ ++ typeT (x.sub 0) ++ ⟨#[59, 10]⟩
 else ⟨#[32, 32]⟩ ++ starT x ++ ⟨#[58, 32]⟩ ++ nameT (x.sub 0) ++ ⟨#[59, 10]⟩
def declOK (d : Nat) (x : Nd) : Bool := (decide (x.kind = 4) && headB x 4 true 1 1 && exprS d (x.sub 0)) || (decide (x.kind = 5) && headB x 5 true 1 1 && typeS (x.sub 0)) || (decide (x.kind = 6) && varS x 6)
/-- 'declText'. -/
def declTT (d : Nat) (wd : ByteArray) (l : List Nd) : ByteArray := if l.length = 0 then ⟨#[]⟩ else wd ++ ⟨#[10]⟩ ++ catB (l.map (declLT d))
end Go.Proofs.YtneohanphabneaaGreatDoor
