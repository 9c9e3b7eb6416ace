/-
The text of a tree, as the document's answer writes it: plain functions over bytes, and how long it is. No walk stands here. Conditions: none.
-/
import Derived.Test.YtneohanphabneaaGreatDoorShape
import Derived.Lib.ItoaMem
import Derived.Lib.ItoaLen
import Derived.Lib.Join
namespace Go.Proofs.YtneohanphabneaaGreatDoor
set_option linter.unusedSimpArgs false
set_option linter.unusedVariables false
/-- A list of texts with another between them. -/
def joinB (sep : ByteArray) : List ByteArray → ByteArray
 | [] => ⟨#[]⟩
 | [x] => x
 | x :: y :: r => x ++ sep ++ joinB sep (y :: r)
theorem ba_ext {a b : ByteArray} (h : a.data.toList = b.data.toList) : a = b := by
 cases a; cases b
 exact congrArg ByteArray.mk (Array.ext' h)
theorem ba_size (a : Array UInt8) : (⟨a⟩ : ByteArray).size = a.size := rfl
theorem ba_app (a b : ByteArray) : (a ++ b).data.toList = a.data.toList ++ b.data.toList := by simp
theorem ba_assoc (a b c : ByteArray) : a ++ b ++ c = a ++ (b ++ c) := ba_ext (by simp)
theorem ba_nil (a : ByteArray) : a ++ (⟨#[]⟩ : ByteArray) = a := ba_ext (by simp)
theorem nil_ba (a : ByteArray) : (⟨#[]⟩ : ByteArray) ++ a = a := ba_ext (by simp)
theorem joinB_snoc (sep : ByteArray) : ∀ (l : List ByteArray) (x : ByteArray), l ≠ [] → joinB sep (l ++ [x]) = joinB sep l ++ sep ++ x
 | [], _, h => absurd rfl h
 | [a], x, _ => rfl
 | a :: b :: r, x, _ => by
  have ih := joinB_snoc sep (b :: r) x (by simp)
  simp only [List.cons_append, joinB] at ih ⊢
  rw [ih]
  simp only [ba_assoc]
theorem joinB_join (sep : ByteArray) : ∀ l : List ByteArray, (⟨(Lib.join (l.map (·.data.toList)) sep.data.toList).toArray⟩ : ByteArray) = joinB sep l
 | [] => rfl
 | [x] => ba_ext (by simp [Lib.join, joinB, List.intercalate, List.intersperse])
 | x :: y :: r => by
  have ih := joinB_join sep (y :: r)
  apply ba_ext
  simp only [joinB, ba_app]
  rw [← ih]
  simp [Lib.join, List.intercalate, List.intersperse]
/-- 'Dec', strconv.Itoa. -/
def decT (n : Int) : ByteArray := ⟨(Lib.itoa n).toArray⟩
/-- 'nameText'. -/
def nameT (n : Nd) : ByteArray := if n.subs.length = 1 then (n.sub 0).name ++ ⟨#[46]⟩ ++ n.name else n.name
/-- 'starred'. -/
def starT (n : Nd) : ByteArray := if n.num = 1 then n.name ++ ⟨#[42]⟩ else n.name
/-- 'rank'. -/
def rankN (n : Nd) : Int := if n.kind = 36 then levelN n.name else if n.kind = 37 then 0 else if n.kind = 35 then 1 else 3
/-- 'atLeast'. -/
def atL (E : Nd → ByteArray) (n : Nd) (r : Int) : ByteArray := if rankN n < r then ⟨#[40]⟩ ++ E n ++ ⟨#[41]⟩ else E n
/-- 'argsText'. -/
def argsT (E : Nd → ByteArray) (l : List Nd) : ByteArray := ⟨#[40]⟩ ++ joinB ⟨#[44, 32]⟩ (l.map E) ++ ⟨#[41]⟩
def exprTStep (E : Nd → ByteArray) (n : Nd) : ByteArray :=
 if n.kind = 24 then n.name
 else if n.kind = 25 then E (n.sub 0) ++ ⟨#[46]⟩ ++ n.name
 else if n.kind = 26 then E (n.sub 0) ++ ⟨#[91]⟩ ++ E (n.sub 1) ++ ⟨#[93]⟩
 else if n.kind = 27 then E (n.sub 0) ++ ⟨#[94]⟩
 else if n.kind = 28 then E (n.sub 0) ++ ⟨#[123]⟩ ++ nameT (n.sub 1) ++ ⟨#[125]⟩
 else if n.kind = 29 then decT n.num
 else if n.kind = 30 then ⟨#[84, 82, 85, 69]⟩
 else if n.kind = 31 then ⟨#[70, 65, 76, 83, 69]⟩
 else if n.kind = 32 then ⟨#[78, 73, 76]⟩
 else if n.kind = 33 then E (n.sub 0) ++ argsT E (n.subs.drop 1)
 else if n.kind = 34 then ⟨#[126]⟩ ++ atL E (n.sub 0) 3
 else if n.kind = 35 then ⟨#[45]⟩ ++ atL E (n.sub 0) 2
 else if n.kind = 37 then atL E (n.sub 0) 1 ++ ⟨#[32, 73, 83, 32]⟩ ++ nameT (n.sub 1)
 else atL E (n.sub 0) (if levelN n.name = 2 then 2 else 1) ++ ⟨#[32]⟩ ++ n.name ++ ⟨#[32]⟩ ++ atL E (n.sub 1) (if levelN n.name = 2 then 3 else if levelN n.name = 1 then 2 else 1)
/-- 'exprText'. -/
def exprT : Nat → Nd → ByteArray
 | 0, _ => ⟨#[]⟩
 | d + 1, n => exprTStep (exprT d) n
theorem exprT_succ (d : Nat) (n : Nd) : exprT (d + 1) n = exprTStep (exprT d) n := rfl
/-- 'typeText'. -/
def fieldT (x : Nd) : ByteArray := starT x ++ ⟨#[58, 32]⟩ ++ nameT (x.sub 0) ++ ⟨#[59, 32]⟩
def catB : List ByteArray → ByteArray
 | [] => ⟨#[]⟩
 | x :: r => x ++ catB r
theorem catB_snoc : ∀ (l : List ByteArray) (x : ByteArray), catB (l ++ [x]) = catB l ++ x
 | [], x => by simp only [List.nil_append, catB, ba_nil, nil_ba]
 | a :: r, x => by simp only [List.cons_append, catB, catB_snoc r x, ba_assoc]
def typeT (n : Nd) : ByteArray :=
 if n.kind = 9 then ⟨#[65, 82, 82, 65, 89, 32]⟩ ++ decT n.num ++ ⟨#[32, 79, 70, 32]⟩ ++ nameT (n.sub 0)
 else if n.kind = 12 then ⟨#[80, 79, 73, 78, 84, 69, 82, 32, 84, 79, 32]⟩ ++ nameT (n.sub 0)
 else (⟨#[82, 69, 67, 79, 82, 68, 32]⟩ ++ (if (n.sub 0).kind = 0 then ⟨#[]⟩ else ⟨#[40]⟩ ++ nameT (n.sub 0) ++ ⟨#[41, 32]⟩)) ++ catB ((n.subs.drop 1).map fieldT) ++ ⟨#[69, 78, 68]⟩
end Go.Proofs.YtneohanphabneaaGreatDoor
