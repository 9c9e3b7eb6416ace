/-
The document's text of a tree, the walks: procedures. Conditions: the tree lies in memory and is shaped; the text's length is below a bound.
-/
import Derived.Test.YtneohanphabneaaGreatDoorTextR6
import Derived.Test.YtneohanphabneaaGreatDoorTextPT
namespace Go.Proofs.YtneohanphabneaaGreatDoor
set_option linter.unusedSimpArgs false
set_option linter.unusedVariables false
open Go.RowKit Go.BigFrame
/-- What is written of the parameters, of the result. -/
def parT (n : Nd) : ByteArray := if 0 < (n.sub 0).subs.length ∨ (n.sub 1).kind ≠ 0 then ⟨#[40]⟩ ++ joinB ⟨#[59, 32]⟩ ((n.sub 0).subs.map paramT) ++ ⟨#[41]⟩ else ⟨#[]⟩
def resT (n : Nd) : ByteArray := if (n.sub 1).kind ≠ 0 then ⟨#[58, 32]⟩ ++ nameT (n.sub 1) else ⟨#[]⟩
/-- 'procText'; d: the depth of the declarations' expressions. -/
def procT (d : Nat) (n : Nd) : ByteArray := (⟨#[80, 82, 79, 67, 69, 68, 85, 82, 69, 32]⟩ : ByteArray) ++ starT n ++ parT n ++ resT n ++ (⟨#[59, 10]⟩ : ByteArray) ++ declTT d (⟨#[86, 65, 82]⟩ : ByteArray) (n.sub 2).subs ++ (⟨#[66, 69, 71, 73, 78, 10]⟩ : ByteArray) ++ stmtsT (d + 2) (n.sub 3) (⟨#[32, 32]⟩ : ByteArray) ++ (⟨#[69, 78, 68, 32]⟩ : ByteArray) ++ n.name ++ (⟨#[59, 10]⟩ : ByteArray)
theorem declOK_var {d : Nat} {l : List Nd} (h : (l.all fun x => decide (x.kind = 6) && decide (x.num = 0) && varS x 6) = true) : l.all (declOK d) = true := by
 rw [List.all_eq_true] at h ⊢
 intro x hx
 have := h x hx
 simp only [Bool.and_eq_true, decide_eq_true_eq] at this
 simp [declOK, this.1.1, this.2]
end Go.Proofs.YtneohanphabneaaGreatDoor
