/-
The text of statements, of procedures, of the whole, as the document's answer writes it: plain functions. No walk stands here. Conditions: none.
-/
import Derived.Test.YtneohanphabneaaGreatDoorTextR4
namespace Go.Proofs.YtneohanphabneaaGreatDoor
set_option linter.unusedSimpArgs false
set_option linter.unusedVariables false
/-- So many pieces, one behind another. -/
def upB (f:Nat→ByteArray):Nat→ByteArray
 | 0=>⟨#[]⟩
 | j+1=>upB f j++f j
theorem upB_le (f:Nat→ByteArray) {j k:Nat} (h:j≤k):(upB f j).size≤(upB f k).size:=by
 induction k with
 | zero=>rw [show j=0 by omega];exact Nat.le_refl _
 | succ k ih=>
  by_cases hj:j=k+1
  ·rw [hj];exact Nat.le_refl _
  ·have:=ih (by omega);simp only [upB,ByteArray.size_append];omega
theorem upB_size (f:Nat→ByteArray) {j k:Nat} (h:j<k):(upB f j).size+(f j).size≤(upB f k).size:=by
 have:=upB_le f (show j+1≤k by omega);simp only [upB,ByteArray.size_append] at this;omega
/-- What is written of one test of an IF, and the list behind it. -/
def ifPiece (E:Nd→ByteArray) (L:Nd→ByteArray→ByteArray) (l:List Nd) (pad:ByteArray) (t:Nat):ByteArray:=
 pad++(if t=0 then ⟨#[73,70,32]⟩ else ⟨#[69,76,83,73,70,32]⟩)++E (l.getD (2*t) dNd)++⟨#[32,84,72,69,78,10]⟩++L (l.getD (2*t+1) dNd) (pad++⟨#[32,32]⟩)
/-- The words of the four statements that are written as calls. -/
def builtT (k:Int):ByteArray:=if k=20 then ⟨#[78,69,87]⟩ else if k=22 then ⟨#[71,69,84]⟩ else if k=21 then ⟨#[79,85,84]⟩ else ⟨#[65,83,83,69,82,84]⟩
/-- 'stmtText'. -/
def stmtTStep (E:Nd→ByteArray) (L:Nd→ByteArray→ByteArray) (n:Nd) (pad:ByteArray):ByteArray:=
 if n.kind=14 then pad++E (n.sub 0)++⟨#[32,58,61,32]⟩++E (n.sub 1)
 else if n.kind=15 then (if 1<n.subs.length then pad++E (n.sub 0)++argsT E (n.subs.drop 1) else pad++E (n.sub 0))
 else if n.kind=17 then pad++⟨#[87,72,73,76,69,32]⟩++E (n.sub 0)++⟨#[32,68,79,10]⟩++L (n.sub 1) (pad++⟨#[32,32]⟩)++pad++⟨#[69,78,68]⟩
 else if n.kind=18 then pad++⟨#[82,69,80,69,65,84,10]⟩++L (n.sub 0) (pad++⟨#[32,32]⟩)++pad++⟨#[85,78,84,73,76,32]⟩++E (n.sub 1)
 else if n.kind=19 then (if n.subs.length=0 then pad++⟨#[82,69,84,85,82,78]⟩ else pad++⟨#[82,69,84,85,82,78,32]⟩++E (n.sub 0))
 else if n.kind=16 then upB (ifPiece E L n.subs pad) (n.subs.length / 2)++(if n.num=1 then pad++⟨#[69,76,83,69,10]⟩++L (n.subs.getD (n.subs.length - 1) dNd) (pad++⟨#[32,32]⟩) else ⟨#[]⟩)++pad++⟨#[69,78,68]⟩
 else pad++builtT n.kind++⟨#[40]⟩++E (n.sub 0)++⟨#[41]⟩
/-- A line of 'stmtsText'. -/
def lineT (S:Nd→ByteArray→ByteArray) (l:List Nd) (pad:ByteArray) (i:Nat):ByteArray:=S (l.getD i dNd) pad++(if i+1<l.length then ⟨#[59]⟩ else ⟨#[]⟩)++⟨#[10]⟩
/-- 'stmtText' (false), 'stmtsText' (true). -/
def stT:Nat→Bool→Nd→ByteArray→ByteArray
 | 0,_,_,_=>⟨#[]⟩
 | d+1,false,n,pad=>stmtTStep (exprT d) (stT d true) n pad
 | d+1,true,n,pad=>upB (lineT (stT d false) n.subs pad) n.subs.length
def stmtT (d:Nat) (n:Nd) (pad:ByteArray):ByteArray:=stT d false n pad
def stmtsT (d:Nat) (n:Nd) (pad:ByteArray):ByteArray:=stT d true n pad
theorem stmtT_succ (d:Nat) (n:Nd) (pad:ByteArray):stmtT (d+1) n pad=stmtTStep (exprT d) (stmtsT d) n pad:=rfl
theorem stmtsT_succ (d:Nat) (n:Nd) (pad:ByteArray):stmtsT (d+1) n pad=upB (lineT (stmtT d) n.subs pad) n.subs.length:=rfl
end Go.Proofs.YtneohanphabneaaGreatDoor
