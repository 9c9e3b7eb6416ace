/-
The document's text of a tree, the walks: the whole. Conditions: the tree lies in memory and is shaped; the text's length is below a bound.
-/
import Derived.Test.YtneohanphabneaaGreatDoorTextR7
namespace Go.Proofs.YtneohanphabneaaGreatDoor
set_option linter.unusedSimpArgs false
set_option linter.unusedVariables false
open Go.RowKit Go.BigFrame
def impT (l : List Nd) : ByteArray := if 0 < l.length then (⟨#[73, 77, 80, 79, 82, 84, 32]⟩ : ByteArray) ++ joinB ⟨#[44, 32]⟩ (l.map (·.name)) ++ (⟨#[59, 10]⟩ : ByteArray) else ⟨#[]⟩
def bodyT (d : Nat) (n : Nd) : ByteArray := if 0 < n.subs.length then (⟨#[66, 69, 71, 73, 78, 10]⟩ : ByteArray) ++ stmtsT d n (⟨#[32, 32]⟩ : ByteArray) else ⟨#[]⟩
/-- 'Printed'; the tree is d + 5 levels deep at most. -/
def printedT (d : Nat) (n : Nd) : ByteArray := (⟨#[77, 79, 68, 85, 76, 69, 32]⟩ : ByteArray) ++ n.name ++ (⟨#[59, 10]⟩ : ByteArray) ++ impT (n.sub 0).subs ++ declTT (d + 2) (⟨#[67, 79, 78, 83, 84]⟩ : ByteArray) (n.sub 1).subs ++ declTT (d + 2) (⟨#[84, 89, 80, 69]⟩ : ByteArray) (n.sub 2).subs ++ declTT (d + 2) (⟨#[86, 65, 82]⟩ : ByteArray) (n.sub 3).subs ++ catB ((n.sub 4).subs.map (procT d)) ++ bodyT (d + 4) (n.sub 5) ++ (⟨#[69, 78, 68, 32]⟩ : ByteArray) ++ n.name ++ (⟨#[46, 10]⟩ : ByteArray)
theorem part_all {d : Nat} {kind : Int} {l : Nd} (h : partS d kind l = true) : (l.subs.all fun x => decide (x.kind = kind) && declS d x) = true := by
 simp only [partS, Bool.and_eq_true] at h
 exact h.2
theorem part_ok {d : Nat} {kind : Int} {l : Nd} (hk : kind = 4 ∨ kind = 5 ∨ kind = 6) (h : partS (d + 1) kind l = true) : l.subs.all (declOK d) = true := by
 have h := part_all h
 rw [List.all_eq_true] at h ⊢
 intro x hx
 have := h x hx
 simp only [Bool.and_eq_true, decide_eq_true_eq] at this
 obtain ⟨h1, h2⟩ := this
 rw [declS_succ] at h2
 rcases hk with rfl | rfl | rfl <;> simp [declStep, h1] at h2 <;> simp [declOK, h1, h2]
theorem part_proc {d : Nat} {l : Nd} (h : partS (d + 1) 7 l = true) : l.subs.all (procS d) = true := by
 have h := part_all h
 rw [List.all_eq_true] at h ⊢
 intro x hx
 have := h x hx
 simp only [Bool.and_eq_true, decide_eq_true_eq] at this
 obtain ⟨h1, h2⟩ := this
 rw [declS_succ] at h2
 simpa [declStep, h1] using h2
theorem shapedS_at (d : Nat) (n : Nd) : shapedS (d + 2) n = (headB n 2 true 0 6 && partS d 3 (n.sub 0) && partS d 4 (n.sub 1) && partS d 5 (n.sub 2) && partS d 6 (n.sub 3) && partS d 7 (n.sub 4) && stmtsS (d + 1) (n.sub 5)) := rfl
end Go.Proofs.YtneohanphabneaaGreatDoor
