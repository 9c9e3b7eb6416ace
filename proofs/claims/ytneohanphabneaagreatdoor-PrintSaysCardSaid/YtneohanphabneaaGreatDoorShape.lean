/-
The shape that a text's tree has, as the document's answer asks it: plain functions. No walk stands here. Conditions: none.
-/
import Derived.Test.YtneohanphabneaaGreatDoorNode
namespace Go.Proofs.YtneohanphabneaaGreatDoor
set_option linter.unusedSimpArgs false
set_option linter.unusedVariables false
def dNd : Nd := ⟨0, ⟨#[]⟩, 0, 0, []⟩
def Nd.sub (n : Nd) (i : Nat) : Nd := n.subs.getD i dNd
def emptyB (s : ByteArray) : Bool := decide (s.size = 0)
/-- 'head'. -/
def headB (n : Nd) (kind : Int) (named : Bool) (most many : Int) : Bool :=
 decide (n.kind = kind) && decide (0 ≤ n.num) && decide (n.num ≤ most) && (decide (many < 0) || decide ((n.subs.length : Int) = many)) && (if named then nameB n.name else emptyB n.name)
/-- 'nameShaped'. -/
def nameS (n : Nd) : Bool := headB n 13 true 0 (-1) && decide (n.subs.length ≤ 1) && (decide (n.subs.length = 0) || headB (n.sub 0) 24 true 0 0)
/-- 'declShaped' of a variable, a parameter, a field. -/
def varS (n : Nd) (kind : Int) : Bool := headB n kind true 1 1 && nameS (n.sub 0)
/-- 'typeShaped'. -/
def typeS (n : Nd) : Bool :=
 if n.kind = 9 then headB n 9 false 2147483647 1 && nameS (n.sub 0)
 else if n.kind = 12 then headB n 12 false 0 1 && nameS (n.sub 0)
 else headB n 10 false 0 (-1) && !decide (n.subs.length = 0) && (headB (n.sub 0) 0 false 0 0 || nameS (n.sub 0)) && (n.subs.drop 1).all fun x => decide (x.kind = 11) && varS x 11
/-- The words of the operators: relations, sums, products. -/
def relL : List (List UInt8) := [[61], [35], [60], [60, 61], [62], [62, 61]]
def sumL : List (List UInt8) := [[43], [45], [79, 82]]
def mulL : List (List UInt8) := [[42], [68, 73, 86], [77, 79, 68], [38]]
def inB (s : ByteArray) (l : List (List UInt8)) : Bool := (wordsOf l).any (· == s)
/-- 'levelOf'. -/
def levelN (s : ByteArray) : Int := if inB s relL then 0 else if inB s sumL then 1 else if inB s mulL then 2 else -1
def desigStep (E D : Nd → Bool) (n : Nd) : Bool :=
 if n.kind = 24 then headB n 24 true 0 0
 else if n.kind = 25 then headB n 25 true 0 1 && D (n.sub 0)
 else if n.kind = 27 then headB n 27 false 0 1 && D (n.sub 0)
 else if n.kind = 26 then headB n 26 false 0 2 && D (n.sub 0) && E (n.sub 1)
 else if n.kind = 28 then headB n 28 false 0 2 && D (n.sub 0) && nameS (n.sub 1)
 else false
def exprStep (E D : Nd → Bool) (n : Nd) : Bool :=
 if n.kind = 29 then headB n 29 false 2147483647 0
 else if n.kind = 30 ∨ n.kind = 31 ∨ n.kind = 32 then headB n n.kind false 0 0
 else if n.kind = 34 ∨ n.kind = 35 then headB n n.kind false 0 1 && E (n.sub 0)
 else if n.kind = 33 then headB n 33 false 0 (-1) && decide (0 < n.subs.length) && D (n.sub 0) && (n.subs.drop 1).all E
 else if n.kind = 37 then headB n 37 false 0 2 && E (n.sub 0) && nameS (n.sub 1)
 else if n.kind = 36 then decide (0 ≤ levelN n.name) && decide (n.num = 0) && decide (n.subs.length = 2) && n.subs.all E
 else desigStep E D n
/-- 'desigShaped' (false), 'exprShaped' (true). -/
def edS : Nat → Bool → Nd → Bool
 | 0, _, _ => false
 | d + 1, true, n => exprStep (edS d true) (edS d false) n
 | d + 1, false, n => desigStep (edS d true) (edS d false) n
def exprS (d : Nat) (n : Nd) : Bool := edS d true n
def desigS (d : Nat) (n : Nd) : Bool := edS d false n
theorem exprS_succ (d : Nat) (n : Nd) : exprS (d + 1) n = exprStep (exprS d) (desigS d) n := rfl
theorem desigS_succ (d : Nat) (n : Nd) : desigS (d + 1) n = desigStep (exprS d) (desigS d) n := rfl
/-- Lists and conditions of an IF, in turn. -/
def ifAll (E L : Nd → Bool) (num : Int) (k : Nat) : List Nd → Nat → Bool
 | [], _ => true
 | x :: r, i => (if i % 2 = 1 ∨ (i + 1 = k ∧ num = 1) then L x else E x) && ifAll E L num k r (i + 1)
def stmtStep (E D L : Nd → Bool) (n : Nd) : Bool :=
 if n.kind = 14 then headB n 14 false 0 2 && D (n.sub 0) && E (n.sub 1)
 else if n.kind = 15 then headB n 15 false 0 (-1) && decide (0 < n.subs.length) && D (n.sub 0) && (n.subs.drop 1).all E
 else if n.kind = 17 then headB n 17 false 0 2 && E (n.sub 0) && L (n.sub 1)
 else if n.kind = 18 then headB n 18 false 0 2 && L (n.sub 0) && E (n.sub 1)
 else if n.kind = 19 then headB n 19 false 0 (-1) && decide (n.subs.length < 2) && n.subs.all E
 else if n.kind = 20 ∨ n.kind = 22 then headB n n.kind false 0 1 && D (n.sub 0)
 else if n.kind = 21 ∨ n.kind = 23 then headB n n.kind false 0 1 && E (n.sub 0)
 else if n.kind = 16 then headB n 16 false 1 (-1) && decide (2 ≤ n.subs.length) && decide (((n.subs.length % 2 : Nat) : Int) = n.num) && ifAll E L n.num n.subs.length n.subs 0
 else false
def listStep (S : Nd → Bool) (n : Nd) : Bool := headB n 1 false 0 (-1) && n.subs.all S
/-- 'stmtShaped' (false), 'stmtsShaped' (true). -/
def stS : Nat → Bool → Nd → Bool
 | 0, _, _ => false
 | d + 1, false, n => stmtStep (exprS d) (desigS d) (stS d true) n
 | d + 1, true, n => listStep (stS d false) n
def stmtS (d : Nat) (n : Nd) : Bool := stS d false n
def stmtsS (d : Nat) (n : Nd) : Bool := stS d true n
theorem stmtS_succ (d : Nat) (n : Nd) : stmtS (d + 1) n = stmtStep (exprS d) (desigS d) (stmtsS d) n := rfl
theorem stmtsS_succ (d : Nat) (n : Nd) : stmtsS (d + 1) n = listStep (stmtS d) n := rfl
/-- 'declShaped', by the kind that is asked for; d: the depth below. -/
def procS (d : Nat) (n : Nd) : Bool :=
 headB n 7 true 1 4 && headB (n.sub 0) 1 false 0 (-1) && headB (n.sub 2) 1 false 0 (-1) &&
 ((n.sub 0).subs.all fun x => decide (x.kind = 8) && varS x 8) && ((n.sub 2).subs.all fun x => decide (x.kind = 6) && decide (x.num = 0) && varS x 6) &&
 (headB (n.sub 1) 0 false 0 0 || nameS (n.sub 1)) && stmtsS d (n.sub 3)
def declStep (d : Nat) (n : Nd) : Bool :=
 if n.kind = 3 then headB n 3 true 0 0
 else if n.kind = 4 then headB n 4 true 1 1 && exprS d (n.sub 0)
 else if n.kind = 5 then headB n 5 true 1 1 && typeS (n.sub 0)
 else if n.kind = 6 ∨ n.kind = 8 ∨ n.kind = 11 then varS n n.kind
 else procS d n
def declS : Nat → Nd → Bool
 | 0, _ => false
 | d + 1, n => declStep d n
def partS (d : Nat) (kind : Int) (l : Nd) : Bool := headB l 1 false 0 (-1) && l.subs.all fun x => decide (x.kind = kind) && declS d x
/-- 'Shaped': d + 2: the depth of the whole. -/
def shapedS : Nat → Nd → Bool
 | d + 2, n => headB n 2 true 0 6 && partS d 3 (n.sub 0) && partS d 4 (n.sub 1) && partS d 5 (n.sub 2) && partS d 6 (n.sub 3) && partS d 7 (n.sub 4) && stmtsS (d + 1) (n.sub 5)
 | _, _ => false
end Go.Proofs.YtneohanphabneaaGreatDoor
