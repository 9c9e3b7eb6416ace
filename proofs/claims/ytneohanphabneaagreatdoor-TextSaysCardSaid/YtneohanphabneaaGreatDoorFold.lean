/-
Folding: the plain functions, the lists that a call gathers, the small walks. Conditions: those of each theorem.
-/
import Derived.Test.YtneohanphabneaaGreatDoorBase
import Derived.Laws.Tables
import Derived.Laws.Rows
import Derived.RegionTactic
import Derived.Deep.AppendLies
import Derived.WideShapes
import Derived.Handy
import Derived.Laws.ResultCell
import Derived.Lib.QuietBelow
import Derived.WalkKit
import Derived.BigQuiet
namespace Go.Proofs.YtneohanphabneaaGreatDoor
set_option linter.unusedSimpArgs false
set_option linter.unusedVariables false
section
open Go.RowKit
/-- 'numberOf', 'value'. -/
def numberN (n:Nd):Option Int:=
 if n.kind=29 then some n.num else if n.kind=35∧(n.sub 0).kind=29 then some (-(n.sub 0).num) else none
/-- 'Around', 'Wrap'. -/
def aroundN (v:Int):Int:=(v+2147483648) % 4294967296 - 2147483648
/-- Is it '+', '-', '*', 'DIV', 'MOD'? -/
def isAr (s:ByteArray):Bool:=(s.toList==[43]) || (s.toList==[45]) || (s.toList==[42]) || (s.toList==[68,73,86]) || (s.toList==[77,79,68])
/-- 'Worked', 'Work'. -/
def workN (s:ByteArray) (a b:Int):Option Int:=
 if (s.toList==[43])=true then some (aroundN (a+b))
 else if (s.toList==[45])=true then some (aroundN (a - b))
 else if (s.toList==[42])=true then some (aroundN (a*b))
 else if b≤0 then none
 else if (s.toList==[68,73,86])=true then some (a / b)
 else some (a % b)
/-- 'Relates', 'Truth'. -/
def relN (s:ByteArray) (a b:Int):Bool:=
 if (s.toList==[61])=true then decide (a=b)
 else if (s.toList==[35])=true then !decide (a=b)
 else if (s.toList==[60])=true then decide (a<b)
 else if (s.toList==[60,61])=true then decide (a≤b)
 else if (s.toList==[62])=true then decide (b<a)
 else decide (b≤a)
def truthN (t:Bool) (p:Int):Nd:=⟨if t then 30 else 31,⟨#[]⟩,0,p,[]⟩
def numN (v p:Int):Nd:=⟨29,⟨#[]⟩,v,p,[]⟩
def toldN (v p:Int):Option Nd:=
 if v < -2147483647 then none else if v<0 then some ⟨35,⟨#[]⟩,0,p,[numN (-v) p]⟩ else some (numN v p)
/-- 'operator'. -/
def operN (n:Nd):Nd:=
 if (n.name.toList==[38])=true then (if (n.sub 0).kind=30 then n.sub 1 else if (n.sub 0).kind=31 then n.sub 0 else n)
 else if (n.name.toList==[79,82])=true then (if (n.sub 0).kind=31 then n.sub 1 else if (n.sub 0).kind=30 then n.sub 0 else n)
 else match numberN (n.sub 0),numberN (n.sub 1) with
  | some x,some y=>if isAr n.name then (match workN n.name x y with
    | some v=>(match toldN v n.pos with
     | some m=>m
     | none=>n)
    | none=>n) else truthN (relN n.name x y) n.pos
  | _,_=>n
/-- A loop that is never begun is left out of its list. -/
def keepN (k:Int) (x:Nd):Bool:=!(decide (k=1) && decide (x.kind=17) && decide ((x.sub 0).kind=31))
def doneN (n:Nd):Nd:=
 if n.kind=34 then (if (n.sub 0).kind=30 then truthN false n.pos else if (n.sub 0).kind=31 then truthN true n.pos else n)
 else if n.kind=36 then operN n
 else n
/-- 'Folded', 'fold'. -/
def foldN:Nat→Nd→Nd
 | 0,n=>n
 | d+1,n=>doneN ⟨n.kind,n.name,n.num,n.pos,(n.subs.map (foldN d)).filter (keepN n.kind)⟩
/-- What folding asks of a tree. -/
def okHead (n:Nd):Bool:=
 (!decide (n.kind=34) || decide (1≤n.subs.length)) && (!decide (n.kind=35) || decide (1≤n.subs.length)) && (!decide (n.kind=17) || decide (1≤n.subs.length)) &&
 (!decide (n.kind=36) || (decide (2≤n.subs.length) && decide (0≤levelN n.name))) && (!decide (n.kind=29) || (decide (0≤n.num) && decide (n.num≤2147483647)))
def okF:Nat→Nd→Bool
 | 0,_=>false
 | d+1,n=>okHead n && n.subs.all (okF d)
theorem okN_succ (d:Nat) (n:Nd):okF (d+1) n=(okHead n && n.subs.all (okF d)):=rfl
theorem okN_head {d:Nat} {n:Nd} (h:okF d n=true):okHead n=true:=by
 cases d with
 | zero=>cases h
 | succ d=>rw [okN_succ,Bool.and_eq_true] at h;exact h.1
theorem okN_kids {d:Nat} {n:Nd} (h:okF (d+1) n=true):∀x∈n.subs,okF d x=true:=by
 rw [okN_succ,Bool.and_eq_true] at h;exact List.all_eq_true.1 h.2
theorem okN_up:∀{d:Nat} {n:Nd},okF d n=true→okF (d+1) n=true
 | 0,_,h=>by cases h
 | d+1,n,h=>by
  rw [okN_succ,Bool.and_eq_true] at h⊢;exact ⟨h.1,List.all_eq_true.2 fun x hx=>okN_up (List.all_eq_true.1 h.2 x hx)⟩
theorem numN_ok {d:Nat} {v p:Int} (h0:0≤v) (h1:v≤2147483647):okF (d+1) (numN v p)=true:=by
 simp [okF,okHead,numN,h0,h1]
theorem truthN_ok {d:Nat} {t:Bool} {p:Int}:okF (d+1) (truthN t p)=true:=by
 cases t <;> simp [okF,okHead,truthN]
theorem number_le {d:Nat} {n:Nd} {v:Int} (h:okF d n=true) (hv:numberN n=some v):-2147483647≤v∧v≤2147483647:=by
 cases d with
 | zero=>cases h
 | succ d=>
  obtain ⟨k,s,num,pos,subs⟩:=n;have hh:=okN_head h;have hk:=okN_kids h;unfold numberN at hv;simp only at hv;split at hv
  ·rename_i hk9;subst hk9;injection hv with hv;subst hv;simp [okHead] at hh;omega
  ·split at hv
   ·rename_i h1;injection hv with hv;obtain ⟨h1,h2⟩:=h1;subst h1;rcases subs with _ | ⟨x,r⟩
    ·simp [okHead] at hh
    ·simp only [Nd.sub,List.getD_cons_zero] at h2 hv;have hx:=okN_head (hk x (.head _));simp [okHead,h2] at hx;omega
   ·cases hv
theorem around_bd (v:Int):-2147483648≤aroundN v∧aroundN v≤2147483647:=by unfold aroundN;omega
theorem work_bd {s:ByteArray} {a b v:Int} (ha:-2147483647≤a∧a≤2147483647) (hb:-2147483647≤b∧b≤2147483647) (h:workN s a b=some v):-2147483648≤v∧v≤2147483647:=by
 unfold workN at h;split at h
 ·injection h with h;subst h;exact around_bd _
 split at h
 ·injection h with h;subst h;exact around_bd _
 split at h
 ·injection h with h;subst h;exact around_bd _
 split at h
 ·cases h
 rename_i hb0;split at h
 ·injection h with h;subst h;have h1:a / b*b+a % b=a:=Int.ediv_mul_add_emod a b;have h2:=Int.emod_nonneg a (show b≠0 by omega);have h3:=Int.emod_lt_of_pos a (show 0<b by omega);constructor
  ·have:-2147483648≤a / b:=by
    rw [Int.le_ediv_iff_mul_le (by omega)];have:(2147483648:Int)*1≤2147483648*b:=Int.mul_le_mul_of_nonneg_left (by omega) (by omega);omega
   exact this
  ·have:a / b<2147483648:=by
    rw [Int.ediv_lt_iff_lt_mul (by omega)];have:(2147483648:Int)*1≤2147483648*b:=Int.mul_le_mul_of_nonneg_left (by omega) (by omega);omega
   omega
 ·injection h with h;subst h;have h2:=Int.emod_nonneg a (show b≠0 by omega);have h3:=Int.emod_lt_of_pos a (show 0<b by omega);omega
theorem told_ok {d:Nat} {v p:Int} {m:Nd} (h:toldN v p=some m) (hv:v≤2147483647):okF (d+2) m=true:=by
 unfold toldN at h;split at h
 ·cases h
 split at h
 ·injection h with h;subst h;rw [okN_succ];simp only [okHead,List.all_cons,List.all_nil,numN_ok (d:=d) (v:=-v) (p:=p) (by omega) (by omega)];rfl
 ·injection h with h;subst h;exact numN_ok (by omega) hv
/-- A node that has two below it. -/
theorem two_of {n:Nd} (h:okHead n=true) (hk:n.kind=36):2≤n.subs.length∧0≤levelN n.name:=by
 simp [okHead,hk] at h;exact h
theorem sub_mem {n:Nd} {i:Nat} (h:i<n.subs.length):n.sub i∈n.subs:=by
 unfold Nd.sub;rw [List.getD_eq_getElem?_getD,List.getElem?_eq_getElem h];exact List.getElem_mem h
theorem oper_ok {d:Nat} {n:Nd} (h:okF (d+2) n=true) (hk:n.kind=36):okF (d+2) (operN n)=true:=by
 have h2:=(two_of (okN_head h) hk).1;have k0:=okN_kids h _ (sub_mem (n:=n) (i:=0) (by omega));have k1:=okN_kids h _ (sub_mem (n:=n) (i:=1) (by omega));have e0:=okN_up k0;have e1:=okN_up k1;unfold operN;split
 ·split
  ·exact e1
  split
  ·exact e0
  ·exact h
 split
 ·split
  ·exact e1
  split
  ·exact e0
  ·exact h
 split
 ·rename_i x y hx hy;split
  ·split
   ·rename_i v hv;split
    ·rename_i m hm;exact told_ok hm (work_bd (number_le k0 hx) (number_le k1 hy) hv).2
    ·exact h
   ·exact h
  ·exact truthN_ok
 ·exact h
theorem done_ok {d:Nat} {n:Nd} (h:okF (d+2) n=true):okF (d+2) (doneN n)=true:=by
 unfold doneN;split
 ·split
  ·exact truthN_ok
  split
  ·exact truthN_ok
  ·exact h
 split
 ·exact oper_ok h (by assumption)
 ·exact h
theorem done_ok1 {n:Nd} (h:okF 1 n=true):doneN n=n:=by
 have hh:=okN_head h;unfold doneN;split
 ·rename_i hk;exfalso;simp [okHead,hk] at hh;have:=okN_kids (d:=0) h _ (sub_mem (n:=n) (i:=0) (by omega));cases this
 split
 ·rename_i hk;exfalso;have h2:=(two_of hh hk).1;have:=okN_kids (d:=0) h _ (sub_mem (n:=n) (i:=0) (by omega));cases this
 ·rfl
theorem keep_all {k:Int} (h:k≠1) (l:List Nd):l.filter (keepN k)=l:=by
 rw [List.filter_eq_self];intro x _;simp [keepN,h]
/-- The node, with what is worked out below it. -/
def midN (d:Nat) (n:Nd):Nd:=⟨n.kind,n.name,n.num,n.pos,(n.subs.map (foldN d)).filter (keepN n.kind)⟩
theorem fold_ok:∀(d:Nat) (n:Nd),okF d n=true→okF d (foldN d n)=true
 | 0,_,h=>by cases h
 | d+1,n,h=>by
  have ih:∀x∈n.subs,okF d (foldN d x)=true:=fun x hx=>fold_ok d x (okN_kids h x hx);have hh:=okN_head h
  have key:okF (d+1) ⟨n.kind,n.name,n.num,n.pos,(n.subs.map (foldN d)).filter (keepN n.kind)⟩=true:=by
   rw [okN_succ,Bool.and_eq_true];constructor
   ·by_cases hk:n.kind=1
    ·simp [okHead,hk]
    ·rw [keep_all hk];simpa [okHead] using hh
   ·rw [List.all_eq_true];intro x hx;obtain ⟨y,hy,rfl⟩:=List.mem_map.1 (List.mem_filter.1 hx).1;exact ih y hy
  show okF (d+1) (doneN ⟨n.kind,n.name,n.num,n.pos,(n.subs.map (foldN d)).filter (keepN n.kind)⟩)=true
  cases d with
  | zero=>rw [done_ok1 key];exact key
  | succ d=>exact done_ok key
theorem mid_ok {d:Nat} {n:Nd} (h:okF (d+1) n=true):okF (d+1) (midN d n)=true:=by
 have ih:∀x∈n.subs,okF d (foldN d x)=true:=fun x hx=>fold_ok d x (okN_kids h x hx);have hh:=okN_head h;unfold midN;rw [okN_succ,Bool.and_eq_true];constructor
 ·by_cases hk:n.kind=1
  ·simp [okHead,hk]
  ·rw [keep_all hk];simpa [okHead] using hh
 ·rw [List.all_eq_true];intro x hx;obtain ⟨y,hy,rfl⟩:=List.mem_map.1 (List.mem_filter.1 hx).1;exact ih y hy
theorem okN_one {d:Nat} {n:Nd} (h:okF d n=true) (hk:n.kind=34∨n.kind=35∨n.kind=17):∃x r,n.subs=x::r:=by
 have hh:=okN_head h
 match hn:n.subs with
 | []=>rw [okHead] at hh;rcases hk with hk | hk | hk <;> simp [hk,hn] at hh
 | x::r=>exact ⟨x,r,rfl⟩
end
section
open Go.RowKit Go.WideShapes
/-- The children lie at A, and theirs below them, d levels at most, in blocks of S. -/
def KidsP (w:World) (S:Nat→Prop):Nat→Nd→Option Addr→Nat→Prop
 | 0,_,_,_=>False
 | d+1,n,A,c=>n.name.size≤maxLen∧n.subs.length≤c∧c≤maxLen∧∀i x,n.subs[i]?=some x→∃b o Ax cx,A=some ⟨b,o,none⟩∧S b∧NdAt w b (o+i*5) x Ax cx∧KidsP w S d x Ax cx
theorem KidsP.kids {w:World} {S:Nat→Prop}:∀{d:Nat} {n:Nd} {A:Option Addr} {c:Nat},KidsP w S d n A c→Kids w d n A c
 | 0,_,_,_,h=>h.elim
 | d+1,n,A,c,h=>⟨h.1,h.2.1,h.2.2.1,fun i x hx=>by
  obtain ⟨b,o,Ax,cx,hA,_,hat,hk⟩:=h.2.2.2 i x hx;exact ⟨b,o,Ax,cx,hA,hat,hk.kids⟩⟩
theorem Kids.own {w:World}:∀{d:Nat} {n:Nd} {A:Option Addr} {c:Nat},Kids w d n A c→KidsP w (fun b=>b<w.heap.size) d n A c
 | 0,_,_,_,h=>h.elim
 | d+1,n,A,c,h=>⟨h.1,h.2.1,h.2.2.1,fun i x hx=>by
  obtain ⟨b,o,Ax,cx,hA,hat,hk⟩:=h.2.2.2 i x hx;exact ⟨b,o,Ax,cx,hA,hat.lt,hat,hk.own⟩⟩
/-- From world to world, from kind to kind. -/
theorem KidsP.go {w w':World} {S T:Nat→Prop} (h:∀b,S b→b<w.heap.size→T b∧∀j v,w.cell? ⟨b,j,none⟩=some v→w'.cell? ⟨b,j,none⟩=some v):∀{d:Nat} {n:Nd} {A:Option Addr} {c:Nat},KidsP w S d n A c→KidsP w' T d n A c
 | 0,_,_,_,k=>k.elim
 | d+1,n,A,c,k=>⟨k.1,k.2.1,k.2.2.1,fun i x hx=>by
  obtain ⟨b,o,Ax,cx,hA,hS,hat,hk⟩:=k.2.2.2 i x hx;obtain ⟨hT,hc⟩:=h b hS hat.lt;exact ⟨b,o,Ax,cx,hA,hT,⟨hc _ _ hat.c0,hc _ _ hat.c1,hc _ _ hat.c2,hc _ _ hat.c3,hc _ _ hat.c4⟩,hk.go h⟩⟩
theorem KidsP.mono {w:World} {S T:Nat→Prop} (h:∀b,S b→b<w.heap.size→T b) {d:Nat} {n:Nd} {A:Option Addr} {c:Nat} (k:KidsP w S d n A c):KidsP w T d n A c:=
 k.go fun b hS hb=>⟨h b hS hb,fun _ _ hv=>hv⟩
theorem KidsP.below {w w':World} {S:Nat→Prop} (hb:Below w.heap.size w w') {d:Nat} {n:Nd} {A:Option Addr} {c:Nat} (k:KidsP w S d n A c):KidsP w' S d n A c:=
 k.go fun _ hS _=>⟨hS,fun _ _ hv=>keep_cell hb hv⟩
theorem KidsP.lt {w:World} {S:Nat→Prop} {d:Nat} {n:Nd} {A:Option Addr} {c:Nat} (k:KidsP w S d n A c):KidsP w (fun b=>S b∧b<w.heap.size) d n A c:=
 k.mono fun _ hS hb=>⟨hS,hb⟩
theorem KidsP.up {w:World} {S:Nat→Prop}:∀{d:Nat} {n:Nd} {A:Option Addr} {c:Nat},KidsP w S d n A c→KidsP w S (d+1) n A c
 | 0,_,_,_,h=>h.elim
 | d+1,n,A,c,h=>⟨h.1,h.2.1,h.2.2.1,fun i x hx=>by
  obtain ⟨b,o,Ax,cx,hA,hS,hat,hk⟩:=h.2.2.2 i x hx;exact ⟨b,o,Ax,cx,hA,hS,hat,hk.up⟩⟩
theorem KidsP.ups {w:World} {S:Nat→Prop} {d e:Nat} {n:Nd} {A:Option Addr} {c:Nat} (h:KidsP w S d n A c) (hd:d≤e):KidsP w S e n A c:=by
 induction hd with
 | refl=>exact h
 | step _ ih=>exact ih.up
theorem KidsP.kid {w:World} {S:Nat→Prop} {d:Nat} {n:Nd} {A:Option Addr} {c:Nat} (h:KidsP w S (d+1) n A c) {i:Nat} {x:Nd} (hx:n.subs[i]?=some x):∃b o Ax cx,A=some ⟨b,o,none⟩∧S b∧NdAt w b (o+i*5) x Ax cx∧KidsP w S d x Ax cx:=h.2.2.2 i x hx
theorem KidsP.one {w:World} {S:Nat→Prop} {d:Nat} {n:Nd} {A:Option Addr} {c:Nat} (h:KidsP w S (d+1) n A c) {x:Nd} {r:List Nd} (hs:n.subs=x::r):∃b o Ax cx,A=some ⟨b,o,none⟩∧S b∧NdAt w b o x Ax cx∧KidsP w S d x Ax cx:=by
 obtain ⟨b,o,Ax,cx,hA,hS,h1,h2⟩:=h.kid (i:=0) (x:=x) (by rw [hs];rfl);exact ⟨b,o,Ax,cx,hA,hS,by simpa using h1,h2⟩
theorem KidsP.nth {w:World} {S:Nat→Prop} {d:Nat} {n:Nd} {A:Option Addr} {c b o:Nat} (h:KidsP w S (d+1) n A c) (hA:A=some ⟨b,o,none⟩) {i:Nat} {x:Nd} (hx:n.subs[i]?=some x) {p:Nat} (hp:p=o+i*5):∃Ax cx,NdAt w b p x Ax cx∧KidsP w S d x Ax cx:=by
 obtain ⟨b',o',Ax,cx,hA',_,h1,h2⟩:=h.kid hx;rw [hA] at hA';injection hA' with hA';injection hA' with h3 h4;subst h3;subst h4;subst hp;exact ⟨Ax,cx,h1,h2⟩
theorem KidsP.first {w:World} {S:Nat→Prop} {d:Nat} {n:Nd} {A:Option Addr} {c:Nat} (h:KidsP w S d n A c) {x:Nd} {r:List Nd} (hs:n.subs=x::r):∃b o Ax cx,A=some ⟨b,o,none⟩∧S b∧NdAt w b o x Ax cx:=by
 cases d with
 | zero=>exact h.elim
 | succ d=>
  obtain ⟨b,o,Ax,cx,h1,h2,h3,_⟩:=h.one hs;exact ⟨b,o,Ax,cx,h1,h2,h3⟩
theorem kidsP_leaf (w:World) (S:Nat→Prop) (d:Nat) {n:Nd} (h:n.subs=[]) (hn:n.name.size≤maxLen):KidsP w S (d+1) n none 0:=
 ⟨hn,by simp [h],Nat.zero_le _,fun i x hx=>by simp [h] at hx⟩
theorem kidsP_one {w:World} {S:Nat→Prop} {d b c:Nat} {n x:Nd} {A:Option Addr} {cx:Nat} (h:n.subs=[x]) (hn:n.name.size≤maxLen) (h1:1≤c) (h2:c≤maxLen) (hS:S b) (hat:NdAt w b 0 x A cx) (hk:KidsP w S d x A cx):KidsP w S (d+1) n (some ⟨b,0,none⟩) c:=by
 refine ⟨hn,by simp [h];omega,h2,fun i y hy=>?_⟩;rw [h] at hy
 match i,hy with
 | 0,hy=>
  simp at hy;subst hy;exact ⟨b,0,A,cx,rfl,hS,by simpa using hat,hk⟩
theorem NdAt.drew {w:World} {b o:Nat} {n:Nd} {A:Option Addr} {c:Nat} (h:NdAt w b o n A c):NdAt w.drew b o n A c:=⟨h.c0,h.c1,h.c2,h.c3,h.c4⟩
theorem setRow_size (w:World) (g:Nat) (cs:Array Value):(w.setRow g cs).heap.size=w.heap.size:=by simp [World.setRow]
theorem setRow_other (w:World) (g:Nat) (cs:Array Value) {b:Nat} (h:b≠g):(w.setRow g cs).heap[b]?=w.heap[b]?:=by
 simp [World.setRow,Array.getElem?_modify,Ne.symm h]
theorem setRow_cell (w:World) (g:Nat) (cs:Array Value) {a:Addr} (h:a.block≠g):(w.setRow g cs).cell? a=w.cell? a:=by
 simp only [World.cell?,setRow_other w g cs h]
theorem setRow_below {B:Nat} {a w:World} (h:Below B a w) {g:Nat} (hB:B≤g) (cs:Array Value):Below B a (w.setRow g cs):=
 h.trans ⟨rfl,rfl,rfl,by rw [setRow_size];exact Nat.le_refl _,fun k hk=>setRow_other w g cs (by omega)⟩
theorem setRow_node {w:World} {g:Nat} {old:Array Value} {t:TypeId} {fr:Nat × Nat} (hg:w.heap[g]?=some (.cells old t fr)) (n:Nd) (A:Option Addr) (c:Nat):NdAt (w.setRow g #[.int .i64 n.kind,.string n.name,.int .i64 n.num,.int .i64 n.pos,.slice A n.subs.length c]) g 0 n A c:=by
 have h:=setRow_heap w g old #[.int .i64 n.kind,.string n.name,.int .i64 n.num,.int .i64 n.pos,.slice A n.subs.length c] t fr hg;exact ⟨by rw [cell_of_row _ _ _ _ _ _ h];rfl,by rw [cell_of_row _ _ _ _ _ _ h];rfl,by rw [cell_of_row _ _ _ _ _ _ h];rfl,by rw [cell_of_row _ _ _ _ _ _ h];rfl,by rw [cell_of_row _ _ _ _ _ _ h];rfl⟩
theorem KidsP.setRow {w:World} {S:Nat→Prop} {g:Nat} (cs:Array Value) (hg:∀b,S b→b≠g) {d:Nat} {n:Nd} {A:Option Addr} {c:Nat} (k:KidsP w S d n A c):KidsP (w.setRow g cs) S d n A c:=
 k.go fun b hS _=>⟨hS,fun j v hv=>by rw [setRow_cell w g cs (hg b hS)];exact hv⟩
theorem NdAt.setRow {w:World} {g b o:Nat} (cs:Array Value) (hg:b≠g) {n:Nd} {A:Option Addr} {c:Nat} (k:NdAt w b o n A c):NdAt (w.setRow g cs) b o n A c:=
 ⟨by rw [setRow_cell w g cs hg];exact k.c0,by rw [setRow_cell w g cs hg];exact k.c1,by rw [setRow_cell w g cs hg];exact k.c2,by rw [setRow_cell w g cs hg];exact k.c3,by rw [setRow_cell w g cs hg];exact k.c4⟩
/-- The variable of a result, a node, before it is written. -/
structure Zero (w:World) (g:Nat):Prop where
 row:∃a0 a1 a2 a3 a4,w.heap[g]?=some (.cells #[a0,a1,a2,a3,a4] 24 (0,0))
theorem Zero.facts {w:World} {g:Nat} (h:Zero w g):(∃a0 a1 a2 a3 a4,w.cell? ⟨g,0,none⟩=some a0∧w.cell? ⟨g,1,none⟩=some a1∧w.cell? ⟨g,2,none⟩=some a2∧w.cell? ⟨g,3,none⟩=some a3∧w.cell? ⟨g,4,none⟩=some a4) ∧
  w.frozen? ⟨g,0,none⟩=false∧w.frozen? ⟨g,1,none⟩=false∧w.frozen? ⟨g,2,none⟩=false∧w.frozen? ⟨g,3,none⟩=false∧w.frozen? ⟨g,4,none⟩=false:=by
 obtain ⟨a0,a1,a2,a3,a4,h⟩:=h.row;refine ⟨⟨a0,a1,a2,a3,a4,?_,?_,?_,?_,?_⟩,frozen_of_row w g 0 _ _ h,frozen_of_row w g 1 _ _ h,frozen_of_row w g 2 _ _ h,frozen_of_row w g 3 _ _ h,frozen_of_row w g 4 _ _ h⟩
 all_goals (rw [cell_of_row _ _ _ _ _ _ h];rfl)
theorem Zero.lt {w:World} {g:Nat} (h:Zero w g):g<w.heap.size:=by
 obtain ⟨a0,a1,a2,a3,a4,h⟩:=h.row;exact (Array.getElem?_eq_some_iff.1 h).1
theorem Zero.below {w w':World} {g:Nat} (h:Zero w g) (hb:Below w.heap.size w w'):Zero w' g:=by
 obtain ⟨a0,a1,a2,a3,a4,h⟩:=h.row;exact ⟨a0,a1,a2,a3,a4,by rw [hb.block g (Array.getElem?_eq_some_iff.1 h).1];exact h⟩
theorem Zero.setRow {w:World} {g k:Nat} (h:Zero w g) (hk:g≠k) (cs:Array Value):Zero (w.setRow k cs) g:=by
 obtain ⟨a0,a1,a2,a3,a4,h⟩:=h.row;exact ⟨a0,a1,a2,a3,a4,by rw [setRow_other w k cs hk];exact h⟩
theorem Zero.chain {w:World} {g:Nat} (h:Zero w g) (v0 v1 v2 v3 v4:Value):((((w.setCell ⟨g,0,none⟩ v0).setCell ⟨g,1,none⟩ v1).setCell ⟨g,2,none⟩ v2).setCell ⟨g,3,none⟩ v3).setCell ⟨g,4,none⟩ v4=w.setRow g #[v0,v1,v2,v3,v4]:=by
 obtain ⟨a0,a1,a2,a3,a4,h⟩:=h.row;rw [setCell_eq_setRow w g 0 _ _ _ v0 h];have h1:=setRow_heap w g _ (#[a0,a1,a2,a3,a4].setIfInBounds 0 v0) _ _ h;rw [setCell_eq_setRow _ g 1 _ _ _ v1 h1];have h2:=setRow_heap _ g _ ((#[a0,a1,a2,a3,a4].setIfInBounds 0 v0).setIfInBounds 1 v1) _ _ h1;rw [setCell_eq_setRow _ g 2 _ _ _ v2 h2];have h3:=setRow_heap _ g _ (((#[a0,a1,a2,a3,a4].setIfInBounds 0 v0).setIfInBounds 1 v1).setIfInBounds 2 v2) _ _ h2;rw [setCell_eq_setRow _ g 3 _ _ _ v3 h3];have h4:=setRow_heap _ g _ ((((#[a0,a1,a2,a3,a4].setIfInBounds 0 v0).setIfInBounds 1 v1).setIfInBounds 2 v2).setIfInBounds 3 v3) _ _ h3;rw [setCell_eq_setRow _ g 4 _ _ _ v4 h4];simp only [setRow_setRow];rfl
theorem Zero.node {w:World} {g:Nat} (h:Zero w g) (n:Nd) (A:Option Addr) (c:Nat):NdAt (w.setRow g #[.int .i64 n.kind,.string n.name,.int .i64 n.num,.int .i64 n.pos,.slice A n.subs.length c]) g 0 n A c:=by
 obtain ⟨a0,a1,a2,a3,a4,h⟩:=h.row;exact setRow_node h n A c
/-- The next operation stores a node into a variable. -/
theorem at_store {ops:Array Oper} {rest:List Oper} {x y:Tmp} {ty:TypeId} {pos:String} {after:Array Edge} {a:Act} {w:World} {Q:Exit→Act→World→Prop} (h:wpList Tryz.prog ops Q (⟨none,.store 24 (.tmp x) (.tmp y),ty,pos,after,none⟩::rest) a w):wpList Tryz.prog ops Q (⟨none,.store 24 (.tmp x) (.tmp y),ty,pos,after,none⟩::rest) a w:=h
/-- The next operation stores a node into the result's variable. -/
theorem at_store2 {ops:Array Oper} {rest:List Oper} {y:Tmp} {ty:TypeId} {pos:String} {after:Array Edge} {a:Act} {w:World} {Q:Exit→Act→World→Prop} (h:wpList Tryz.prog ops Q (⟨none,.store 24 (.tmp 2) (.tmp y),ty,pos,after,none⟩::rest) a w):wpList Tryz.prog ops Q (⟨none,.store 24 (.tmp 2) (.tmp y),ty,pos,after,none⟩::rest) a w:=h
theorem Zero.store {ops:Array Oper} {rest:List Oper} {x y:Tmp} {ty:TypeId} {pos:String} {after:Array Edge} {a:Act} {w:World} {Q:Exit→Act→World→Prop} {g:Nat} (hz:Zero w g) (n:Nd) (A:Option Addr) (c:Nat) (hx:a.eval (.tmp x)=.pointer (some ⟨g,0,none⟩)) (hy:a.eval (.tmp y)=.agg #[.int .i64 n.kind,.string n.name,.int .i64 n.num,.int .i64 n.pos,.slice A n.subs.length c])
  (h:wpList Tryz.prog ops Q rest a (w.setRow g #[.int .i64 n.kind,.string n.name,.int .i64 n.num,.int .i64 n.pos,.slice A n.subs.length c])):wpList Tryz.prog ops Q (⟨none,.store 24 (.tmp x) (.tmp y),ty,pos,after,none⟩::rest) a w:=by
 obtain ⟨a0,a1,a2,a3,a4,hz⟩:=hz.row;exact wpList_store_row rfl 24 _ _ rfl g _ hx hy _ _ hz (by rw [show (Tryz.prog.info? 24).map (·.size)=some 5 by kernel_rfl];rfl) rfl (by simp [Value.oneCell']) h
theorem load_node {w:World} {b o:Nat} {n:Nd} {A:Option Addr} {c:Nat} (h:NdAt w b o n A c):
  (loadVar 24 ⟨b,o,none⟩).run Tryz.prog w=.ok (.agg #[.int .i64 n.kind,.string n.name,.int .i64 n.num,.int .i64 n.pos,.slice A n.subs.length c]) w:=by
 have hl:=run_loadCells_list (P:=Tryz.prog) w ⟨b,o,none⟩ [.int .i64 n.kind,.string n.name,.int .i64 n.num,.int .i64 n.pos,.slice A n.subs.length c] (fun j v hv=>by
  rw [add_plain]
  match j,hv with
  | 0,hv=>simp at hv;subst hv;exact h.c0
  | 1,hv=>simp at hv;subst hv;exact h.c1
  | 2,hv=>simp at hv;subst hv;exact h.c2
  | 3,hv=>simp at hv;subst hv;exact h.c3
  | 4,hv=>simp at hv;subst hv;exact h.c4)
 have hi:(Tryz.prog.info? 24).map (·.size)=some 5:=(by kernel_rfl)
 cases hq:Tryz.prog.info? 24 with
 | none=>simp [hq] at hi
 | some i=>
  have hs:i.size=5:=by simpa [hq] using hi
  have hagg:(isAgg 24).run Tryz.prog w=.ok true w:=by
   unfold isAgg;rw [Sem.run_bind,run_underlying Tryz.underlying24 w];rfl
  simp only [List.length_cons,List.length_nil] at hl;simp [loadVar,Sem.run_bind,hagg,sizeOf,typeInfo,hq,hs,hl]
/-- What a function hands back whose result is a node in a cell. -/
theorem ret_node {fn:Func} {p:Tmp} (h:fn.results=#[.cell p 24]) (tmps:Array Value) (w:World) {b o:Nat} {n:Nd} {A:Option Addr} {c:Nat} (hp:tmps.getD p undef=.pointer (some ⟨b,o,none⟩)) (hat:NdAt w b o n A c):
  (results fn tmps).run Tryz.prog w=.ok (.agg #[.int .i64 n.kind,.string n.name,.int .i64 n.num,.int .i64 n.pos,.slice A n.subs.length c]) w:=by
 have hp':tmps[p]?.getD undef=.pointer (some ⟨b,o,none⟩):=(by simpa using hp);simp [results,h,hp',asAddr,load_node hat]
theorem ret_node2 {fn:Func} {p u:Tmp} (h:fn.results=#[.cell p 24,.tmp u]) (tmps:Array Value) (w:World) {b o:Nat} {n:Nd} {A:Option Addr} {c:Nat} (hp:tmps.getD p undef=.pointer (some ⟨b,o,none⟩)) (hat:NdAt w b o n A c):
  (results fn tmps).run Tryz.prog w=.ok (.tuple #[.agg #[.int .i64 n.kind,.string n.name,.int .i64 n.num,.int .i64 n.pos,.slice A n.subs.length c],tmps.getD u undef]) w:=by
 have hp':tmps[p]?.getD undef=.pointer (some ⟨b,o,none⟩):=(by simpa using hp);simp [results,h,hp',asAddr,load_node hat]
/-- What comes behind a region whose new blocks lie in the one order or the other is walked once. -/
theorem share3 {G:Prop} {Φ:World→Nat→Nat→Prop} (F:World→Nat→Nat→Prop) (tail:∀W a b,F W a b→Φ W a b) (go:(∀W a b,F W a b→Φ W a b)→G):G:=go tail
theorem Zero.drew {w:World} {g:Nat} (h:Zero w g):Zero w.drew g:=⟨h.row⟩
theorem Zero.step {ops:Array Oper} {o:Oper} {a:Act} {w:World} {K:Act→World→Prop} {Q:Exit→Act→World→Prop} {E:Prop} {g:Nat} (hz:Zero w g) (n:Nd) (A:Option Addr) (c:Nat) (x y:Tmp) (hgd:o.guard=none) (ho:o.op=.store 24 (.tmp x) (.tmp y))
  (hx:a.eval (.tmp x)=.pointer (some ⟨g,0,none⟩)) (hy:a.eval (.tmp y)=.agg #[.int .i64 n.kind,.string n.name,.int .i64 n.num,.int .i64 n.pos,.slice A n.subs.length c])
  (h:K (a.put o.dst undef) (w.setRow g #[.int .i64 n.kind,.string n.name,.int .i64 n.num,.int .i64 n.pos,.slice A n.subs.length c])):if Region.wanted o (yielded ops a.tmps)=true then Oper.wp Tryz.prog o a w K Q else E:=by
 have hw:Region.wanted o (yielded ops a.tmps)=true:=(by simp [Region.wanted,hgd]);rw [if_pos hw];obtain ⟨a0,a1,a2,a3,a4,hz⟩:=hz.row;exact wp_store_row 24 _ _ ho g _ hx hy _ _ hz (by rw [show (Tryz.prog.info? 24).map (·.size)=some 5 by kernel_rfl];rfl) rfl (by simp [Value.oneCell']) h
end
section
open Go.RowKit Go.BigFrame Go.WideShapes
theorem retV {a b:Value} (h:a=b):Ending.returned a=.returned b:=by rw [h]
def numV (n:Nd):Value:=match numberN n with
 | some v=>.tuple #[.int .i64 v,.bool true]
 | none=>.tuple #[.int .i64 0,.bool false]
set_option maxRecDepth 100000 in
theorem value_any (d:Nat) (n:Nd) (A:Option Addr) (c:Nat) (w:World) (hk:Kids w (d+1) n A c) (h:okF (d+1) n=true):
  Calls Tryz.prog 124 #[.agg #[.int .i64 n.kind,.string n.name,.int .i64 n.num,.int .i64 n.pos,.slice A n.subs.length c]] w fun e w'=>e=.returned (numV n)∧Below w.heap.size w w':=by
 obtain ⟨k,s,num,pos,subs⟩:=n;by_cases k29:k=29
 ·subst k29;have FIN:=hid (show numV ⟨29,s,num,pos,subs⟩=.tuple #[.int .i64 num,.bool true] from rfl);have HB:=hid (bBw w (.cells #[.int .i64 29,.string s,.int .i64 num,.int .i64 pos,.slice A subs.length c] 24));clear hk h;go_enter Tryz.func124,Tryz.ntmps124;go_wp2;go_ret2;exact ⟨retV FIN.out.symm,HB.out⟩
 ·have g29:(k==29)=false:=(by simpa using k29);by_cases k35:k=35
  ·subst k35;rcases subs with _ | ⟨x,r⟩
   ·exfalso;have:=okN_head h;simp [okHead] at this
   have hx:=okN_head (okN_kids h x (.head _));obtain ⟨b,o,Ax,cx,rfl,hx_x,hk_x⟩:=hk.one (x:=x) (r:=r) rfl;have hlen:=hk.list.1;clear hk h hk_x;simp only [List.length_cons] at hlen;have HB:=hid (bBw w (.cells #[.int .i64 35,.string s,.int .i64 num,.int .i64 pos,.slice (some ⟨b,o,none⟩) (x::r).length c] 24));have hlt:=hx_x.lt;have hne:b≠w.heap.size:=(by omega);have HX:=hid hx_x;clear hx_x;obtain ⟨f0,f1,f2,f3,f4⟩:=HX.out;by_cases kx:x.kind=29
   ·have hbd:0≤x.num∧x.num≤2147483647:=(by simpa [okHead,kx] using hx);have FIN:=hid (show numV ⟨35,s,num,pos,x::r⟩=.tuple #[.int .i64 (-x.num),.bool true] by simp [numV,numberN,Nd.sub,kx]);have gx:(x.kind==29)=true:=(by simpa using kx);clear hx kx;go_enter Tryz.func124,Tryz.ntmps124;go_wp2;go_ret2;exact ⟨retV FIN.out.symm,HB.out⟩
   ·have FIN:=hid (show numV ⟨35,s,num,pos,x::r⟩=.tuple #[.int .i64 0,.bool false] by simp [numV,numberN,Nd.sub,kx]);have gx:(x.kind==29)=false:=(by simpa using kx);clear hx kx;go_enter Tryz.func124,Tryz.ntmps124;go_wp2;go_ret2;exact ⟨retV FIN.out.symm,HB.out⟩
  ·have g35:(k==35)=false:=(by simpa using k35);have FIN:=hid (show numV ⟨k,s,num,pos,subs⟩=.tuple #[.int .i64 0,.bool false] by simp [numV,numberN,k29,k35]);have HB:=hid (bBw w (.cells #[.int .i64 k,.string s,.int .i64 num,.int .i64 pos,.slice A subs.length c] 24));clear hk h k29 k35;go_enter Tryz.func124,Tryz.ntmps124;go_wp2;go_ret2;exact ⟨retV FIN.out.symm,HB.out⟩
set_option maxRecDepth 100000 in
theorem numberOf_any (d:Nat) (n:Nd) (A:Option Addr) (c:Nat) (w:World) (hk:Kids w (d+1) n A c) (h:okF (d+1) n=true):
  Calls Tryz.prog 29 #[.agg #[.int .i64 n.kind,.string n.name,.int .i64 n.num,.int .i64 n.pos,.slice A n.subs.length c]] w fun e w'=>e=.returned (numV n)∧Below w.heap.size w w':=by
 obtain ⟨k,s,num,pos,subs⟩:=n;by_cases k29:k=29
 ·subst k29;have FIN:=hid (show numV ⟨29,s,num,pos,subs⟩=.tuple #[.int .i64 num,.bool true] from rfl);have HB:=hid (bBw w (.cells #[.int .i64 29,.string s,.int .i64 num,.int .i64 pos,.slice A subs.length c] 24));clear hk h;go_enter Tryz.func29,Tryz.ntmps29;go_wp2;go_ret2;exact ⟨retV FIN.out.symm,HB.out⟩
 ·have g29:(k==29)=false:=(by simpa using k29);by_cases k35:k=35
  ·subst k35;rcases subs with _ | ⟨x,r⟩
   ·exfalso;have:=okN_head h;simp [okHead] at this
   have hx:=okN_head (okN_kids h x (.head _));obtain ⟨b,o,Ax,cx,rfl,hx_x,hk_x⟩:=hk.one (x:=x) (r:=r) rfl;have hlen:=hk.list.1;clear hk h hk_x;simp only [List.length_cons] at hlen;have HB:=hid (bBw w (.cells #[.int .i64 35,.string s,.int .i64 num,.int .i64 pos,.slice (some ⟨b,o,none⟩) (x::r).length c] 24));have hlt:=hx_x.lt;have hne:b≠w.heap.size:=(by omega);have HX:=hid hx_x;clear hx_x;obtain ⟨f0,f1,f2,f3,f4⟩:=HX.out;by_cases kx:x.kind=29
   ·have hbd:0≤x.num∧x.num≤2147483647:=(by simpa [okHead,kx] using hx);have FIN:=hid (show numV ⟨35,s,num,pos,x::r⟩=.tuple #[.int .i64 (-x.num),.bool true] by simp [numV,numberN,Nd.sub,kx]);have gx:(x.kind==29)=true:=(by simpa using kx);clear hx kx;go_enter Tryz.func29,Tryz.ntmps29;go_wp2;go_ret2;exact ⟨retV FIN.out.symm,HB.out⟩
   ·have FIN:=hid (show numV ⟨35,s,num,pos,x::r⟩=.tuple #[.int .i64 0,.bool false] by simp [numV,numberN,Nd.sub,kx]);have gx:(x.kind==29)=false:=(by simpa using kx);clear hx kx;go_enter Tryz.func29,Tryz.ntmps29;go_wp2;go_ret2;exact ⟨retV FIN.out.symm,HB.out⟩
  ·have g35:(k==35)=false:=(by simpa using k35);have FIN:=hid (show numV ⟨k,s,num,pos,subs⟩=.tuple #[.int .i64 0,.bool false] by simp [numV,numberN,k29,k35]);have HB:=hid (bBw w (.cells #[.int .i64 k,.string s,.int .i64 num,.int .i64 pos,.slice A subs.length c] 24));clear hk h k29 k35;go_enter Tryz.func29,Tryz.ntmps29;go_wp2;go_ret2;exact ⟨retV FIN.out.symm,HB.out⟩
theorem truth_any (t:Bool) (p:Int) (w:World):
  Calls Tryz.prog 75 #[.bool t,.int .i64 p] w fun e w'=>e=.returned (.agg #[.int .i64 (truthN t p).kind,.string (truthN t p).name,.int .i64 (truthN t p).num,.int .i64 (truthN t p).pos,.slice none (truthN t p).subs.length 0])∧Below w.heap.size w w':=by
 have HB:=hid (fun o=>bBw w o)
 cases t with
 | true=>
  go_enter Tryz.func75,Tryz.ntmps75;go_wp2;go_returns;exact ⟨rfl,HB.out _⟩
 | false=>
  go_enter Tryz.func75,Tryz.ntmps75;go_wp2;go_returns;exact ⟨rfl,HB.out _⟩
theorem truthRel_any (s:ByteArray) (a b:Int) (w:World):
  Calls Tryz.prog 127 #[.string s,.int .i64 a,.int .i64 b] w fun e w'=>e=.returned (.bool (relN s a b))∧w=w':=by
 cases h0:(s.toList==[61]) with
 | true=>
  have FIN:=hid (show relN s a b=decide (a=b) by simp [relN,h0]);go_enter Tryz.func127,Tryz.ntmps127;go_wp2;go_ret;exact ⟨rBo (by rw [FIN.out];try rfl;try simp),rfl⟩
 | false=>
  cases h1:(s.toList==[35]) with
  | true=>
   have FIN:=hid (show relN s a b=!decide (a=b) by simp [relN,h0,h1]);go_enter Tryz.func127,Tryz.ntmps127;go_wp2;go_ret;exact ⟨rBo (by rw [FIN.out];try rfl;try simp),rfl⟩
  | false=>
   cases h2:(s.toList==[60]) with
   | true=>
    have FIN:=hid (show relN s a b=decide (a<b) by simp [relN,h0,h1,h2]);go_enter Tryz.func127,Tryz.ntmps127;go_wp2;go_ret;exact ⟨rBo (by rw [FIN.out];try rfl;try simp),rfl⟩
   | false=>
    cases h3:(s.toList==[60,61]) with
    | true=>
     have FIN:=hid (show relN s a b=decide (a≤b) by simp [relN,h0,h1,h2,h3]);go_enter Tryz.func127,Tryz.ntmps127;go_wp2;go_ret;exact ⟨rBo (by rw [FIN.out];try rfl;try simp),rfl⟩
    | false=>
     cases h4:(s.toList==[62]) with
     | true=>
      have FIN:=hid (show relN s a b=decide (b<a) by simp [relN,h0,h1,h2,h3,h4]);go_enter Tryz.func127,Tryz.ntmps127;go_wp2;go_ret;exact ⟨rBo (by rw [FIN.out];try rfl;try simp),rfl⟩
     | false=>
      have FIN:=hid (show relN s a b=decide (b≤a) by simp [relN,h0,h1,h2,h3,h4]);go_enter Tryz.func127,Tryz.ntmps127;go_wp2;go_ret;exact ⟨rBo (by rw [FIN.out];try rfl;try simp),rfl⟩
theorem relates_any (s:ByteArray) (a b:Int) (w:World):
  Calls Tryz.prog 31 #[.string s,.int .i64 a,.int .i64 b] w fun e w'=>e=.returned (.bool (relN s a b))∧w=w':=by
 cases h0:(s.toList==[61]) with
 | true=>
  have FIN:=hid (show relN s a b=decide (a=b) by simp [relN,h0]);go_enter Tryz.func31,Tryz.ntmps31;go_wp2;go_ret;exact ⟨rBo (by rw [FIN.out];try rfl;try simp),rfl⟩
 | false=>
  cases h1:(s.toList==[35]) with
  | true=>
   have FIN:=hid (show relN s a b=!decide (a=b) by simp [relN,h0,h1]);go_enter Tryz.func31,Tryz.ntmps31;go_wp2;go_ret;exact ⟨rBo (by rw [FIN.out];try rfl;try simp),rfl⟩
  | false=>
   cases h2:(s.toList==[60]) with
   | true=>
    have FIN:=hid (show relN s a b=decide (a<b) by simp [relN,h0,h1,h2]);go_enter Tryz.func31,Tryz.ntmps31;go_wp2;go_ret;exact ⟨rBo (by rw [FIN.out];try rfl;try simp),rfl⟩
   | false=>
    cases h3:(s.toList==[60,61]) with
    | true=>
     have FIN:=hid (show relN s a b=decide (a≤b) by simp [relN,h0,h1,h2,h3]);go_enter Tryz.func31,Tryz.ntmps31;go_wp2;go_ret;exact ⟨rBo (by rw [FIN.out];try rfl;try simp),rfl⟩
    | false=>
     cases h4:(s.toList==[62]) with
     | true=>
      have FIN:=hid (show relN s a b=decide (b<a) by simp [relN,h0,h1,h2,h3,h4]);go_enter Tryz.func31,Tryz.ntmps31;go_wp2;go_ret;exact ⟨rBo (by rw [FIN.out];try rfl;try simp),rfl⟩
     | false=>
      have FIN:=hid (show relN s a b=decide (b≤a) by simp [relN,h0,h1,h2,h3,h4]);go_enter Tryz.func31,Tryz.ntmps31;go_wp2;go_ret;exact ⟨rBo (by rw [FIN.out];try rfl;try simp),rfl⟩
theorem kids_num (w:World) (S:Nat→Prop) (d:Nat) (v p:Int):KidsP w S (d+1) (numN v p) none 0:=kidsP_leaf w S d rfl (by simp [numN,ba_size])
theorem kids_truth (w:World) (S:Nat→Prop) (d:Nat) (t:Bool) (p:Int):KidsP w S (d+1) (truthN t p) none 0:=kidsP_leaf w S d rfl (by simp [truthN,ba_size])
theorem kids_neg (w:World) (S:Nat→Prop) (hS:S w.heap.size) (v p:Int):KidsP (w.alloc (.cells #[.int .i64 29,.string ⟨#[]⟩,.int .i64 v,.int .i64 p,.slice none 0 0] 24)) S 2 ⟨35,⟨#[]⟩,0,p,[numN v p]⟩ (some ⟨w.heap.size,0,none⟩) 1:=
 kidsP_one rfl (by simp [ba_size]) (Nat.le_refl _) (by unfold maxLen;omega) hS (bAt w (numN v p) none 0 24) (kids_num _ _ _ _ _)
theorem told_any (v p:Int) (w:World) (h0:-2147483648≤v) (h1:v≤2147483647):
  Calls Tryz.prog 126 #[.int .i64 v,.int .i64 p] w fun e w'=>Below w.heap.size w w'∧match toldN v p with
   | none=>∃x,e=.returned (.tuple #[.agg #[.int .i64 0,.string ⟨#[]⟩,.int .i64 0,.int .i64 0,.slice none 0 0],x])∧x=.bool false
   | some m=>∃A c,e=.returned (.tuple #[.agg #[.int .i64 m.kind,.string m.name,.int .i64 m.num,.int .i64 m.pos,.slice A m.subs.length c],.bool true])∧KidsP w' (fun q=>w.heap.size≤q) 2 m A c:=by
 have HB:=hid (fun o=>bBw w o);by_cases hl:v < -2147483647
 ·have ht:toldN v p=none:=(by simp [toldN,hl]);rw [ht];go_enter Tryz.func126,Tryz.ntmps126;go_wp2;go_returns;exact ⟨HB.out _,_,rfl,rfl⟩
 by_cases hn:v<0
 ·have ht:toldN v p=some ⟨35,⟨#[]⟩,0,p,[numN (-v) p]⟩:=(by simp [toldN,hl,hn]);rw [ht];go_enter Tryz.func126,Tryz.ntmps126;go_wp2;go_returns;refine ⟨(HB.out _).alloc (by simp) _,_,_,rfl,?_⟩;have e:(w.alloc (.cells #[.int .i64 35,.string ⟨#[]⟩,.int .i64 0,.int .i64 p,.slice (some ⟨w.heap.size+1,0,none⟩) 1 1] 24)).heap.size=w.heap.size+1:=(by simp);have hk:=kids_neg (w.alloc (.cells #[.int .i64 35,.string ⟨#[]⟩,.int .i64 0,.int .i64 p,.slice (some ⟨w.heap.size+1,0,none⟩) 1 1] 24)) (fun q=>w.heap.size≤q) (by simp) (-v) p;rw [e] at hk;exact hk
 ·have ht:toldN v p=some (numN v p):=(by simp [toldN,hl,hn]);rw [ht];go_enter Tryz.func126,Tryz.ntmps126;go_wp2;go_returns;exact ⟨HB.out _,none,0,rfl,kids_num _ _ _ _ _⟩
end
section
open Go.RowKit Go.BigFrame
theorem wrap_any (v:Int) (w:World) (h0:-4611686018427387904≤v) (h1:v≤4611686018427387904):
  Calls Tryz.prog 146 #[.int .i64 v] w fun e w'=>e=.returned (.int .i64 (aroundN v))∧w=w':=by
 go_enter Tryz.func146,Tryz.ntmps146;go_wp2;go_ret;refine ⟨ret_int ?_,rfl⟩;unfold wrap64 wrap32 aroundN;omega
theorem tmod32 (v:Int):v.tmod 4294967296=v % 4294967296∨(v<0∧v.tmod 4294967296=v % 4294967296 - 4294967296):=by
 rw [Int.tmod_eq_emod];split
 ·left;omega
 ·right;rename_i h;simp only [not_or] at h;exact ⟨by omega,by simp⟩
theorem around_any (v:Int) (w:World):
  Calls Tryz.prog 78 #[.int .i64 v] w fun e w'=>e=.returned (.int .i64 (aroundN v))∧w=w':=by
 have ht:=tmod32 v;obtain ⟨t,hm⟩:∃t,v.tmod 4294967296=t:=⟨_,rfl⟩;rw [hm] at ht;have hb:-4294967296≤t∧t<4294967296:=(by omega);have HT:=hid ht;clear ht;by_cases hn:t<0
 ·by_cases hp:2147483647<t+4294967296
  all_goals
   go_enter Tryz.func78,Tryz.ntmps78;go_wp2;go_ret;have ht:=HT.out;exact ⟨ret_int (by unfold aroundN;omega),rfl⟩
 ·by_cases hp:2147483647<t
  all_goals
   go_enter Tryz.func78,Tryz.ntmps78;go_wp2;go_ret;have ht:=HT.out;exact ⟨ret_int (by unfold aroundN;omega),rfl⟩
theorem mul_bd {a b:Int} (ha:-2147483647≤a∧a≤2147483647) (hb:-2147483647≤b∧b≤2147483647):-4611686018427387904≤a*b∧a*b≤4611686018427387904:=by
 have h1:(a*b).natAbs≤2147483647*2147483647:=by
  rw [Int.natAbs_mul];exact Nat.mul_le_mul (by omega) (by omega)
 omega
theorem wrap_small {v:Int} (h:-4611686018427387904≤v∧v≤4611686018427387904):wrap64 v=v:=by unfold wrap64;omega
/-- Quotient and rest, rounded towards nought, and down. -/
theorem quo_rem {a b:Int} (hb:0<b):(a.tmod b=a % b∧a.tdiv b=a / b)∨(a.tmod b=a % b - b∧a.tdiv b=a / b+1):=by
 rw [Int.tmod_eq_emod,Int.tdiv_eq_ediv];split
 ·left;omega
 ·right;rw [Int.sign_eq_one_of_pos hb];omega
theorem tupI {a b:Int} {x:Value} (h:a=b):Value.tuple #[.int .i64 a,x]=.tuple #[.int .i64 b,x]:=by rw [h]
def workV (s:ByteArray) (a b:Int):Value:=match workN s a b with
 | some v=>.tuple #[.int .i64 v,.bool true]
 | none=>.tuple #[.int .i64 0,.bool false]
theorem work_any (s:ByteArray) (a b:Int) (w:World) (ha:-2147483647≤a∧a≤2147483647) (hb:-2147483647≤b∧b≤2147483647):
  Calls Tryz.prog 125 #[.string s,.int .i64 a,.int .i64 b] w fun e w'=>e=.returned (workV s a b)∧Below w.heap.size w w':=by
 cases h0:(s.toList==[43]) with
 | true=>
  have FIN:=hid (show workV s a b=.tuple #[.int .i64 (aroundN (a+b)),.bool true] by simp [workV,workN,h0]);go_enter Tryz.func125,Tryz.ntmps125;go_wp2_with fail;refine (wrap_any _ _ (by omega) (by omega)).mono ?_;rintro e w' ⟨rfl,rfl⟩;go_wp2;go_ret2;exact ⟨retV FIN.out.symm,Below.refl _ _⟩
 | false=>
  cases h1:(s.toList==[45]) with
  | true=>
   have FIN:=hid (show workV s a b=.tuple #[.int .i64 (aroundN (a - b)),.bool true] by simp [workV,workN,h0,h1]);go_enter Tryz.func125,Tryz.ntmps125;go_wp2_with fail;refine (wrap_any _ _ (by omega) (by omega)).mono ?_;rintro e w' ⟨rfl,rfl⟩;go_wp2;go_ret2;exact ⟨retV FIN.out.symm,Below.refl _ _⟩
  | false=>
   cases h2:(s.toList==[42]) with
   | true=>
    have FIN:=hid (show workV s a b=.tuple #[.int .i64 (aroundN (a*b)),.bool true] by simp [workV,workN,h0,h1,h2]);have hm:=mul_bd ha hb;have hw:=wrap_small hm;go_enter Tryz.func125,Tryz.ntmps125;go_wp2_with fail;refine (wrap_any _ _ hm.1 hm.2).mono ?_;rintro e w' ⟨rfl,rfl⟩;go_wp2;go_ret2;exact ⟨retV FIN.out.symm,Below.refl _ _⟩
   | false=>
    by_cases hb0:b≤0
    ·have FIN:=hid (show workV s a b=.tuple #[.int .i64 0,.bool false] by simp [workV,workN,h0,h1,h2,hb0]);go_enter Tryz.func125,Tryz.ntmps125;go_wp2;go_ret2;exact ⟨retV FIN.out.symm,Below.refl _ _⟩
    ·have hbp:0<b:=(by omega);have hwd:∀q,workN s a b=some q→-2147483648≤q∧q≤2147483647:=fun q h=>work_bd ha hb h;have hqr:=quo_rem (a:=a) hbp;have e0:=Int.emod_nonneg a (show b≠0 by omega);have e1:=Int.emod_lt_of_pos a hbp;obtain ⟨q,hq⟩:∃q,a.tdiv b=q:=⟨_,rfl⟩;obtain ⟨r,hr⟩:∃r,a.tmod b=r:=⟨_,rfl⟩;rw [hq,hr] at hqr
     cases h3:(s.toList==[68,73,86]) with
     | true=>
      have FIN:=hid (show workV s a b=.tuple #[.int .i64 (a / b),.bool true] by simp [workV,workN,h0,h1,h2,hb0,h3]);have hv:=hwd (a / b) (by simp [workN,h0,h1,h2,hb0,h3]);have hqb:-2147483648≤q∧q≤2147483648:=(by omega);have hrb:-2147483648≤r∧r≤2147483647:=(by omega);have HQR:=hid hqr;have HE:=hid (And.intro e0 e1);clear hqr hwd hv e0 e1;by_cases hn:r<0
      all_goals
       go_enter Tryz.func125,Tryz.ntmps125;go_wp2;refine wp_region_quiet_below (by kernel_rfl) (by kernel_rfl) ?_
       repeat (go_big_quiet_step (fail))
       refine wpQuiet_nil ?_;intro _ hw';obtain ⟨⟨dq,osq⟩,hw''⟩:=hw';subst hw'';have HG:=hid (below_regrown w dq osq);generalize hG:Go.Sort.grow (redrawn w dq) osq=G at *;clear hG;go_wp2;go_ret2;refine ⟨retV ?_,HG.out⟩;rw [FIN.out];have h5:=HQR.out;have h6:=HE.out;refine tupI ?_;omega
     | false=>
      have FIN:=hid (show workV s a b=.tuple #[.int .i64 (a % b),.bool true] by simp [workV,workN,h0,h1,h2,hb0,h3]);have hqb:-2147483648≤r∧r≤2147483647:=(by omega);have HQR:=hid hqr;have HE:=hid (And.intro e0 e1);clear hqr hwd e0 e1;by_cases hn:r<0
      all_goals
       go_enter Tryz.func125,Tryz.ntmps125;go_wp2;refine wp_region_quiet_below (by kernel_rfl) (by kernel_rfl) ?_
       repeat (go_big_quiet_step (fail))
       refine wpQuiet_nil ?_;intro _ hw';obtain ⟨⟨dq,osq⟩,hw''⟩:=hw';subst hw'';have HG:=hid (below_regrown w dq osq);generalize hG:Go.Sort.grow (redrawn w dq) osq=G at *;clear hG;go_wp2;go_ret2;refine ⟨retV ?_,HG.out⟩;rw [FIN.out];have h5:=HQR.out;have h6:=HE.out;refine tupI ?_;omega
theorem mul_div_rest {a b:Int} (hb:0<b):(a - a % b).tdiv b=a / b:=by
 rw [show a - a % b=a / b*b by have:=Int.ediv_mul_add_emod a b;omega];exact Int.mul_tdiv_cancel _ (by omega)
theorem worked_any (s:ByteArray) (a b:Int) (w:World) (hs:isAr s=true) (ha:-2147483647≤a∧a≤2147483647) (hb:-2147483647≤b∧b≤2147483647):
  Calls Tryz.prog 32 #[.string s,.int .i64 a,.int .i64 b] w fun e w'=>e=.returned (workV s a b)∧w=w':=by
 cases h0:(s.toList==[43]) with
 | true=>
  have FIN:=hid (show workV s a b=.tuple #[.int .i64 (aroundN (a+b)),.bool true] by simp [workV,workN,h0]);go_enter Tryz.func32,Tryz.ntmps32;go_wp2_with fail;refine (around_any _ _).mono ?_;rintro e w' ⟨rfl,rfl⟩;go_wp2;go_ret2;exact ⟨retV FIN.out.symm,rfl⟩
 | false=>
  cases h1:(s.toList==[45]) with
  | true=>
   have FIN:=hid (show workV s a b=.tuple #[.int .i64 (aroundN (a - b)),.bool true] by simp [workV,workN,h0,h1]);go_enter Tryz.func32,Tryz.ntmps32;go_wp2_with fail;refine (around_any _ _).mono ?_;rintro e w' ⟨rfl,rfl⟩;go_wp2;go_ret2;exact ⟨retV FIN.out.symm,rfl⟩
  | false=>
   cases h2:(s.toList==[42]) with
   | true=>
    have FIN:=hid (show workV s a b=.tuple #[.int .i64 (aroundN (a*b)),.bool true] by simp [workV,workN,h0,h1,h2]);have hm:=mul_bd ha hb;have hw:=wrap_small hm;go_enter Tryz.func32,Tryz.ntmps32;go_wp2_with fail;refine (around_any _ _).mono ?_;rintro e w' ⟨rfl,rfl⟩;go_wp2;go_ret2;exact ⟨retV FIN.out.symm,rfl⟩
   | false=>
    by_cases hb0:b≤0
    ·have FIN:=hid (show workV s a b=.tuple #[.int .i64 0,.bool false] by simp [workV,workN,h0,h1,h2,hb0]);go_enter Tryz.func32,Tryz.ntmps32;go_wp2;go_ret2;exact ⟨retV FIN.out.symm,rfl⟩
    ·have hbp:0<b:=(by omega);have hqr:=quo_rem (a:=a) hbp;have e0:=Int.emod_nonneg a (show b≠0 by omega);have e1:=Int.emod_lt_of_pos a hbp;have hmd:=mul_div_rest (a:=a) hbp;obtain ⟨t,ht⟩:∃t,t=a % b:=⟨_,rfl⟩;obtain ⟨q,hq⟩:∃q,q=a / b:=⟨_,rfl⟩;obtain ⟨r,hr⟩:∃r,a.tmod b=r:=⟨_,rfl⟩;have hv:(s.toList==[68,73,86])=true→-2147483648≤q∧q≤2147483647:=fun h3=>hq ▸ work_bd (s:=s) (v:=a / b) ha hb (by simp [workN,h0,h1,h2,hb0,h3]);rw [← ht] at e0 e1 hmd;rw [← hq] at hmd;rw [hr,← ht,← hq] at hqr;have hr2:r=t∨r=t - b:=hqr.elim (fun h=>.inl h.1) (fun h=>.inr h.1);clear hqr
     cases h3:(s.toList==[77,79,68]) with
     | true=>
      have h4:(s.toList==[68,73,86])=false:=(by rw [beq_iff_eq] at h3;rw [h3];rfl);have FIN:=hid (show workV s a b=.tuple #[.int .i64 t,.bool true] by simp [workV,workN,h0,h1,h2,hb0,h4,ht]);have HR2:=hid hr2;by_cases hn:r<0
      ·have hrb:r=t - b:=(by omega);clear hr2 hmd hv ht hq h4;go_enter Tryz.func32,Tryz.ntmps32;go_wp2;go_ret2;exact ⟨retV (FIN.out.trans (tupI (by omega))).symm,rfl⟩
      ·have hrb:r=t:=(by omega);clear hr2 hmd hv ht hq h4;go_enter Tryz.func32,Tryz.ntmps32;go_wp2;go_ret2;exact ⟨retV (FIN.out.trans (tupI (by omega))).symm,rfl⟩
     | false=>
      have h4:(s.toList==[68,73,86])=true:=(by simpa [isAr,h0,h1,h2,h3] using hs);have FIN:=hid (show workV s a b=.tuple #[.int .i64 q,.bool true] by simp [workV,workN,h0,h1,h2,hb0,h4,hq]);have hv':=hv h4;by_cases hn:r<0
      ·have hrb:r=t - b:=(by omega);have hrt:t - b+b=t:=(by omega);subst hrb;clear hr2 hv ht hq h4;go_enter Tryz.func32,Tryz.ntmps32;go_wp2;go_ret2;exact ⟨retV FIN.out.symm,rfl⟩
      ·have hrb:r=t:=(by omega);subst hrb;clear hr2 hv ht hq h4;go_enter Tryz.func32,Tryz.ntmps32;go_wp2;go_ret2;exact ⟨retV FIN.out.symm,rfl⟩
theorem numV_gen (n:Nd):∃v ok,numV n=.tuple #[.int .i64 v,.bool ok]:=by
 unfold numV;split
 ·exact ⟨_,_,rfl⟩
 ·exact ⟨_,_,rfl⟩
theorem numV_some {n:Nd} {v:Int} (h:numV n=.tuple #[.int .i64 v,.bool true]):numberN n=some v:=by
 unfold numV at h;split at h
 ·simp at h;simp [*]
 ·simp at h
theorem numV_none {n:Nd} {v:Int} (h:numV n=.tuple #[.int .i64 v,.bool false]):numberN n=none:=by
 unfold numV at h;split at h
 ·simp at h
 ·assumption
theorem workV_gen (s:ByteArray) (a b:Int):∃v ok,workV s a b=.tuple #[.int .i64 v,.bool ok]:=by
 unfold workV;split
 ·exact ⟨_,_,rfl⟩
 ·exact ⟨_,_,rfl⟩
theorem workV_some {s:ByteArray} {a b v:Int} (h:workV s a b=.tuple #[.int .i64 v,.bool true]):workN s a b=some v:=by
 unfold workV at h;split at h
 ·simp at h;simp [*]
 ·simp at h
theorem workV_none {s:ByteArray} {a b v:Int} (h:workV s a b=.tuple #[.int .i64 v,.bool false]):workN s a b=none:=by
 unfold workV at h;split at h
 ·simp at h
 ·assumption
theorem told_gen (v p:Int) (w:World) (h0:-2147483648≤v) (h1:v≤2147483647):
  Calls Tryz.prog 126 #[.int .i64 v,.int .i64 p] w fun e w'=>Below w.heap.size w w'∧∃m A c ok,e=.returned (.tuple #[.agg #[.int .i64 m.kind,.string m.name,.int .i64 m.num,.int .i64 m.pos,.slice A m.subs.length c],.bool ok]) ∧
   (ok=true→toldN v p=some m∧KidsP w' (fun q=>w.heap.size≤q) 2 m A c)∧(ok=false→toldN v p=none):=by
 refine (told_any v p w h0 h1).mono fun e w' ⟨hb,h⟩=>⟨hb,?_⟩;split at h
 ·rename_i ht;obtain ⟨_,rfl,rfl⟩:=h;exact ⟨dNd,none,0,false,rfl,fun h=>(by cases h),fun _=>ht⟩
 ·rename_i m ht;obtain ⟨A,c,rfl,hk⟩:=h;exact ⟨m,A,c,true,rfl,fun _=>⟨ht,hk⟩,fun h=>(by cases h)⟩
end
section
open Go.RowKit
abbrev Mem:=Nd × Option Addr × Nat
def rowOf (m:Mem):List Value:=[.int .i64 m.1.kind,.string m.1.name,.int .i64 m.1.num,.int .i64 m.1.pos,.slice m.2.1 m.1.subs.length m.2.2]
def flat:List Mem→List Value
 | []=>[]
 | m::r=>rowOf m++flat r
theorem flat_append:∀(l r:List Mem),flat (l++r)=flat l++flat r
 | [],r=>rfl
 | m::l,r=>by simp [flat,flat_append l r]
theorem flat_at:∀(l:List Mem) (i j:Nat) (m:Mem),l[i]?=some m→j<5→(flat l)[i*5+j]?=(rowOf m)[j]?
 | [],_,_,_,h,_=>by simp at h
 | x::l,0,j,m,h,hj=>by
  simp at h;subst h;simp only [flat,Nat.zero_mul,Nat.zero_add];rw [List.getElem?_append_left (by simp [rowOf];omega)]
 | x::l,i+1,j,m,h,hj=>by
  simp only [flat];rw [List.getElem?_append_right (by simp [rowOf];omega),show (i+1)*5+j - (rowOf x).length=i*5+j by simp [rowOf];omega];exact flat_at l i j m (by simpa using h) hj
theorem rowOf_one (m:Mem):∀u∈rowOf m,u.oneCell'=true:=by
 intro u hu;simp [rowOf] at hu;rcases hu with rfl | rfl | rfl | rfl | rfl <;> rfl
/-- v holds the nodes of ms, one behind the other, in a row of the call's own; what lies below them lies in S, and not in that row. -/
structure Built (w:World) (S:Nat→Prop) (base d:Nat) (v:Value) (ms:List Mem):Prop where
 own:w.ownsRow base 24 5 v ms.length (flat ms)
 kids:∀m∈ms,KidsP w (fun q=>S q∧v.ownBlock≠some q) d m.1 m.2.1 m.2.2
theorem built_nil (w:World) (S:Nat→Prop) (base d:Nat):Built w S base d (.slice none 0 0) []:=⟨World.ownsRow_nil _ _ _ _,fun _ h=>by cases h⟩
theorem grown_of_below {w w':World} (hb:Below w.heap.size w w') (row:Option Nat):w.grownBy w' row:=⟨hb.os,hb.tape,hb.output,hb.size,fun k hk _=>hb.block k hk⟩
theorem Built.below {w w':World} {S:Nat→Prop} {base d:Nat} {v:Value} {ms:List Mem} (h:Built w S base d v ms) (hb:Below w.heap.size w w'):Built w' S base d v ms:=
 ⟨h.own.kept (grown_of_below hb none) (by cases v.ownBlock <;> simp),fun m hm=>(h.kids m hm).below hb⟩
/-- Any other old block may change. -/
theorem Built.beside {w w':World} {S:Nat→Prop} {base d:Nat} {v:Value} {ms:List Mem} (h:Built w S base d v ms) {g:Nat} (hg:w.grownBy w' (some g)) (h1:g<base) (h2:¬S g):Built w' S base d v ms:=by
 refine ⟨h.own.kept hg (.inr fun e=>?_),fun m hm=>(h.kids m hm).go fun b hS hb=>⟨hS,fun j u hu=>hg.cell hu fun e=>?_⟩⟩
 ·have:=(h.own.lt g e).1;omega
 ·injection e with e;exact h2 (e ▸ hS.1)
theorem grown_setCell (w:World) (g i:Nat) (u:Value):w.grownBy (w.setCell ⟨g,i,none⟩ u) (some g):=
 ⟨rfl,rfl,rfl,by simp,fun k _ hne=>Below.heap_setCell w _ u k (by simpa using hne)⟩
theorem Built.setCell {w:World} {S:Nat→Prop} {base d:Nat} {v:Value} {ms:List Mem} (h:Built w S base d v ms) {g:Nat} (i:Nat) (u:Value) (h1:g<base) (h2:¬S g):Built (w.setCell ⟨g,i,none⟩ u) S base d v ms:=
 h.beside (grown_setCell w g i u) h1 h2
theorem Built.mono {w:World} {S T:Nat→Prop} {base d e:Nat} {v:Value} {ms:List Mem} (h:Built w S base d v ms) (hS:∀q,S q→T q) (hd:d≤e):Built w T base e v ms:=
 ⟨h.own,fun m hm=>((h.kids m hm).ups hd).mono fun q hq _=>⟨hS q hq.1,hq.2⟩⟩
/-- One more: w1 is the world behind the append, g its row. -/
theorem Built.push {w w1:World} {S:Nat→Prop} {base d:Nat} {v:Value} {ms:List Mem} (h:Built w S base d v ms) {m:Mem} (hm:KidsP w (fun q=>S q∧v.ownBlock≠some q) d m.1 m.2.1 m.2.2) {g cap H:Nat}
  (hown:w1.ownsRow base 24 5 (.slice (some ⟨g,0,none⟩) (ms.length+1) cap) (ms.length+1) (flat ms++rowOf m)) (hg:w.grownBy w1 v.ownBlock) (hat:v.ownBlock=some g∨g=H) (hH:w.heap.size≤H):
  Built w1 S base d (.slice (some ⟨g,0,none⟩) (ms.length+1) cap) (ms++[m]):=by
 have step:∀x:Mem,KidsP w (fun q=>S q∧v.ownBlock≠some q) d x.1 x.2.1 x.2.2→KidsP w1 (fun q=>S q∧Value.ownBlock (.slice (some ⟨g,0,none⟩) (ms.length+1) cap)≠some q) d x.1 x.2.1 x.2.2:=fun x hx=>
  hx.go fun b hS hb=>⟨⟨hS.1,fun e=>by
   have e:g=b:=(by simpa [Value.ownBlock] using e);subst e;rcases hat with h1 | h1
   ·exact hS.2 h1
   ·omega⟩,fun j u hu=>hg.cell hu fun e=>hS.2 e.symm⟩
 refine ⟨by simpa [flat_append,flat] using hown,fun x hx=>?_⟩;rcases List.mem_append.1 hx with hx | hx
 ·exact step x (h.kids x hx)
 ·simp at hx;subst hx;exact step _ hm
/-- The node whose children these are. -/
theorem Built.node {w:World} {S T:Nat→Prop} {base d:Nat} {v:Value} {ms:List Mem} (h:Built w S base d v ms) {n:Nd} (hn:n.name.size≤maxLen) (hs:n.subs=ms.map (·.1)) (hS:∀q,S q→T q) (hT:∀q,base≤q→T q):
  ∃A c,v=.slice A n.subs.length c∧KidsP w T (d+1) n A c:=by
 have hl:n.subs.length=ms.length:=(by rw [hs,List.length_map]);rcases h.own.2 with ⟨hv,h0⟩ | ⟨g,cap,cur,hv,hb,hg,hc,hm,_,_⟩
 ·refine ⟨none,0,by rw [hv,hl,h0],hn,by omega,Nat.zero_le _,fun i x hx=>?_⟩;rw [List.eq_nil_of_length_eq_zero (hl.trans h0)] at hx;cases hx
 ·refine ⟨some ⟨g,0,none⟩,cap,by rw [hv,hl],hn,by omega,hm,fun i x hx=>?_⟩;rw [hs,List.getElem?_map] at hx;obtain ⟨m,hmi,rfl⟩:=Option.map_eq_some_iff.1 hx;have ho:v.ownBlock=some g:=(by rw [hv];rfl)
  have hcell:∀j u,j<5→(rowOf m)[j]?=some u→w.cell? ⟨g,0+i*5+j,none⟩=some u:=fun j u hj hu=>by
   have h1:=h.own.cells ho (i*5+j) u (by rw [flat_at ms i j m hmi hj];exact hu);rw [Go.WideShapes.add_plain,Nat.zero_add] at h1;rw [Nat.zero_add];exact h1
  exact ⟨g,0,m.2.1,m.2.2,rfl,hT g hb,⟨by simpa using hcell 0 _ (by omega) rfl,hcell 1 _ (by omega) rfl,hcell 2 _ (by omega) rfl,hcell 3 _ (by omega) rfl,hcell 4 _ (by omega) rfl⟩,(h.kids m (List.mem_of_getElem? hmi)).mono fun q hq _=>hS q hq.1⟩
theorem NdAt.grown {w w':World} {row:Option Nat} (hg:w.grownBy w' row) {b o:Nat} (hne:some b≠row) {n:Nd} {A:Option Addr} {c:Nat} (h:NdAt w b o n A c):NdAt w' b o n A c:=
 ⟨hg.cell h.c0 hne,hg.cell h.c1 hne,hg.cell h.c2 hne,hg.cell h.c3 hne,hg.cell h.c4 hne⟩
theorem Zero.grown {w w':World} {row:Option Nat} (hg:w.grownBy w' row) {g:Nat} (hne:some g≠row) (h:Zero w g):Zero w' g:=by
 have hl:=h.lt;obtain ⟨a0,a1,a2,a3,a4,h⟩:=h.row;exact ⟨a0,a1,a2,a3,a4,by rw [hg.block g hl hne];exact h⟩
theorem own_ne {w:World} {base:Nat} {e:TypeId} {size n:Nat} {v:Value} {xs:List Value} (h:w.ownsRow base e size v n xs) {g:Nat} (hg:g<base):some g≠v.ownBlock:=fun e=>by
 have:=(h.lt g e.symm).1;omega
/-- The variable of a node whose children are being gathered. -/
structure OutAt (w:World) (g:Nat) (k:Int) (s:ByteArray) (num pos:Int) (v:Value):Prop where
 c0:w.cell? ⟨g,0,none⟩=some (.int .i64 k)
 c1:w.cell? ⟨g,1,none⟩=some (.string s)
 c2:w.cell? ⟨g,2,none⟩=some (.int .i64 num)
 c3:w.cell? ⟨g,3,none⟩=some (.int .i64 pos)
 c4:w.cell? ⟨g,4,none⟩=some v
 fz:w.frozen? ⟨g,4,none⟩=false
theorem frozen_kept {w w':World} {a:Addr} (hb:w'.heap[a.block]?=w.heap[a.block]?):w'.frozen? a=w.frozen? a:=World.frozen?_of_block hb
theorem OutAt.lt {w:World} {g:Nat} {k:Int} {s:ByteArray} {num pos:Int} {v:Value} (h:OutAt w g k s num pos v):g<w.heap.size:=lt_of_cell h.c0
theorem OutAt.grown {w w':World} {row:Option Nat} (hg:w.grownBy w' row) {g:Nat} (hne:some g≠row) {k:Int} {s:ByteArray} {num pos:Int} {v:Value} (h:OutAt w g k s num pos v):OutAt w' g k s num pos v:=
 ⟨hg.cell h.c0 hne,hg.cell h.c1 hne,hg.cell h.c2 hne,hg.cell h.c3 hne,hg.cell h.c4 hne,by rw [frozen_kept (a:=⟨g,4,none⟩) (hg.block g h.lt hne)];exact h.fz⟩
theorem OutAt.below {w w':World} (hb:Below w.heap.size w w') {g:Nat} {k:Int} {s:ByteArray} {num pos:Int} {v:Value} (h:OutAt w g k s num pos v):OutAt w' g k s num pos v:=
 h.grown (grown_of_below hb none) (by simp)
theorem OutAt.put {w:World} {g:Nat} {k:Int} {s:ByteArray} {num pos:Int} {v:Value} (h:OutAt w g k s num pos v) (u:Value):OutAt (w.setCell ⟨g,4,none⟩ u) g k s num pos u:=by
 have hc:=h.c4
 have hne:∀i,i<4→∀x,w.cell? ⟨g,i,none⟩=some x→(w.setCell ⟨g,4,none⟩ u).cell? ⟨g,i,none⟩=some x:=fun i hi x hx=>by
  have ha:(⟨g,4,none⟩:Addr)≠⟨g,i,none⟩:=(by intro e;injection e with _ e _;omega);exact (by first | exact World.cell?_setCell_other w _ _ _ ha | exact World.cell?_setCell_other w _ _ ha | exact World.cell?_setCell_other w _ ha:(w.setCell ⟨g,4,none⟩ u).cell? ⟨g,i,none⟩=w.cell? ⟨g,i,none⟩).trans hx
 refine ⟨hne 0 (by omega) _ h.c0,hne 1 (by omega) _ h.c1,hne 2 (by omega) _ h.c2,hne 3 (by omega) _ h.c3,?_,?_⟩
 ·first | exact World.cell?_setCell_same w _ _ hc | exact World.cell?_setCell_same w _ hc
 ·simpa using h.fz
theorem OutAt.node {w:World} {g:Nat} {k:Int} {s:ByteArray} {num pos:Int} {l:List Nd} {A:Option Addr} {c:Nat} (h:OutAt w g k s num pos (.slice A l.length c)):NdAt w g 0 ⟨k,s,num,pos,l⟩ A c:=
 ⟨h.c0,h.c1,h.c2,h.c3,h.c4⟩
theorem NdAt.setCell {w:World} {g i b o:Nat} {u:Value} (hg:b≠g) {n:Nd} {A:Option Addr} {c:Nat} (k:NdAt w b o n A c):NdAt (w.setCell ⟨g,i,none⟩ u) b o n A c:=
 k.grown (grown_setCell w g i u) (by simpa using hg)
theorem Zero.setCell {w:World} {g i b:Nat} {u:Value} (hg:b≠g) (k:Zero w b):Zero (w.setCell ⟨g,i,none⟩ u) b:=
 k.grown (grown_setCell w g i u) (by simpa using hg)
end
section
open Go.RowKit
theorem hb_kind {n:Nd} {k:Int} {nm:Bool} {m t:Int} (h:headB n k nm m t=true):n.kind=k:=by
  simp only [headB,Bool.and_eq_true,decide_eq_true_eq] at h;exact h.1.1.1.1
theorem hb_num {n:Nd} {k:Int} {nm:Bool} {m t:Int} (h:headB n k nm m t=true):0≤n.num∧n.num≤m:=by
  simp only [headB,Bool.and_eq_true,decide_eq_true_eq] at h;exact ⟨h.1.1.1.2,h.1.1.2⟩
theorem hb_len {n:Nd} {k:Int} {nm:Bool} {m t:Int} (h:headB n k nm m t=true) (ht:0≤t):(n.subs.length:Int)=t:=by
  simp only [headB,Bool.and_eq_true,Bool.or_eq_true,decide_eq_true_eq] at h;rcases h.1.2 with h | h
  · omega
  · exact h
theorem ok_mk {d:Nat} {n:Nd} (h:okHead n=true) (hk:∀x∈n.subs,okF d x=true):okF (d+1) n=true:=by
  rw [okN_succ,Bool.and_eq_true];exact ⟨h,List.all_eq_true.2 hk⟩
theorem okN_le {n:Nd}:∀{a b:Nat},a≤b→okF a n=true→okF b n=true:=by
  intro a b h
  induction h with
  | refl=>exact id
  | step _ ih=>exact fun h=>okN_up (ih h)
theorem okH {n:Nd} {k:Int} (h:n.kind=k) (h1:k≠34) (h2:k≠35) (h3:k≠17) (h4:k≠36) (h5:k≠29):okHead n=true:=by
  simp [okHead,h,h1,h2,h3,h4,h5]
theorem mem0 {n:Nd} {x:Nd} (h:(n.subs.length:Int)=0) (hx:x∈n.subs):False:=by
  have e:n.subs=[]:=List.eq_nil_of_length_eq_zero (by omega);rw [e] at hx;cases hx
theorem mem_at {n:Nd} {x:Nd} (hx:x∈n.subs):∃i,i<n.subs.length∧n.sub i=x:=by
  obtain ⟨i,hi,rfl⟩:=List.getElem_of_mem hx;exact ⟨i,hi,by unfold Nd.sub;rw [List.getD_eq_getElem?_getD,List.getElem?_eq_getElem hi];rfl⟩
theorem mem1 {n:Nd} {x:Nd} (h:(n.subs.length:Int)=1) (hx:x∈n.subs):n.sub 0=x:=by
  obtain ⟨i,hi,rfl⟩:=mem_at hx;obtain rfl:i=0:=(by omega);rfl
theorem mem2 {n:Nd} {x:Nd} (h:(n.subs.length:Int)=2) (hx:x∈n.subs):n.sub 0=x∨n.sub 1=x:=by
  obtain ⟨i,hi,rfl⟩:=mem_at hx;rcases (show i=0∨i=1 by omega) with rfl | rfl
  · exact .inl rfl
  · exact .inr rfl
theorem mem_drop {n:Nd} {x:Nd} (hx:x∈n.subs):n.sub 0=x∨x∈n.subs.drop 1:=by
  obtain ⟨k,s,num,pos,subs⟩:=n;rcases subs with _ | ⟨y,r⟩
  · cases hx
  · rcases List.mem_cons.1 hx with rfl | hx
    · exact .inl rfl
    · exact .inr (by simpa using hx)
theorem leaf_ok {d:Nat} {n:Nd} (h:okHead n=true) (hl:(n.subs.length:Int)=0):okF (d+1) n=true:=
  ok_mk h fun _ hx=>(mem0 hl hx).elim
theorem ref_ok {d:Nat} {n:Nd} (h:headB n 24 true 0 0=true):okF (d+1) n=true:=
  leaf_ok (okH (hb_kind h) (by decide) (by decide) (by decide) (by decide) (by decide)) (hb_len h (by decide))
theorem nameS_ok {d:Nat} {n:Nd} (h:nameS n=true):okF (d+2) n=true:=by
  simp only [nameS,Bool.and_eq_true,Bool.or_eq_true,decide_eq_true_eq] at h;refine ok_mk (okH (hb_kind h.1.1) (by decide) (by decide) (by decide) (by decide) (by decide)) fun x hx=>?_;rcases h.2 with h2 | h2
  · exact (mem0 (by omega) hx).elim
  · obtain ⟨i,hi,rfl⟩:=mem_at hx
    obtain rfl:i=0:=(by omega);exact ref_ok h2
theorem varS_ok {d:Nat} {n:Nd} {K:Int} (h:varS n K=true) (h1:K≠34) (h2:K≠35) (h3:K≠17) (h4:K≠36) (h5:K≠29):okF (d+3) n=true:=by
  simp only [varS,Bool.and_eq_true] at h;refine ok_mk (okH (hb_kind h.1) h1 h2 h3 h4 h5) fun x hx=>?_;rw [← mem1 (hb_len h.1 (by decide)) hx];exact nameS_ok h.2
theorem desig_ok {d:Nat} (E:∀n,exprS d n=true→okF (d+2) n=true) (D:∀n,desigS d n=true→okF (d+2) n=true) {n:Nd} (h:desigStep (exprS d) (desigS d) n=true):okF (d+3) n=true:=by
  unfold desigStep at h;split at h
  · exact ref_ok h
  split at h
  · simp only [Bool.and_eq_true] at h
    refine ok_mk (okH (hb_kind h.1) (by decide) (by decide) (by decide) (by decide) (by decide)) fun x hx=>?_;rw [← mem1 (hb_len h.1 (by decide)) hx];exact D _ h.2
  split at h
  · simp only [Bool.and_eq_true] at h
    refine ok_mk (okH (hb_kind h.1) (by decide) (by decide) (by decide) (by decide) (by decide)) fun x hx=>?_;rw [← mem1 (hb_len h.1 (by decide)) hx];exact D _ h.2
  split at h
  · simp only [Bool.and_eq_true] at h
    refine ok_mk (okH (hb_kind h.1.1) (by decide) (by decide) (by decide) (by decide) (by decide)) fun x hx=>?_;rcases mem2 (hb_len h.1.1 (by decide)) hx with e | e <;> rw [← e]
    · exact D _ h.1.2
    · exact E _ h.2
  split at h
  · simp only [Bool.and_eq_true] at h
    refine ok_mk (okH (hb_kind h.1.1) (by decide) (by decide) (by decide) (by decide) (by decide)) fun x hx=>?_;rcases mem2 (hb_len h.1.1 (by decide)) hx with e | e <;> rw [← e]
    · exact D _ h.1.2
    · exact nameS_ok h.2
  · cases h
theorem expr_ok {d:Nat} (E:∀n,exprS d n=true→okF (d+2) n=true) (D:∀n,desigS d n=true→okF (d+2) n=true) {n:Nd} (h:exprStep (exprS d) (desigS d) n=true):okF (d+3) n=true:=by
  unfold exprStep at h;split at h
  · have:=hb_num h
    exact leaf_ok (by simp [okHead,hb_kind h];omega) (hb_len h (by decide))
  split at h
  · rename_i hk
    refine leaf_ok ?_ (hb_len h (by decide));rcases hk with hk | hk | hk <;> simp [okHead,hk]
  split at h
  · rename_i hk
    simp only [Bool.and_eq_true] at h;have hl:=hb_len h.1 (by decide);refine ok_mk ?_ fun x hx=>?_
    · have:1≤n.subs.length:=by omega
      rcases hk with hk | hk <;> simp [okHead,hk,this]
    · rw [← mem1 hl hx]
      exact E _ h.2
  split at h
  · simp only [Bool.and_eq_true] at h
    refine ok_mk (okH (hb_kind h.1.1.1) (by decide) (by decide) (by decide) (by decide) (by decide)) fun x hx=>?_;rcases mem_drop hx with e | e
    · rw [← e]
      exact D _ h.1.2
    · exact E _ (List.all_eq_true.1 h.2 x e)
  split at h
  · simp only [Bool.and_eq_true] at h
    refine ok_mk (okH (hb_kind h.1.1) (by decide) (by decide) (by decide) (by decide) (by decide)) fun x hx=>?_;rcases mem2 (hb_len h.1.1 (by decide)) hx with e | e <;> rw [← e]
    · exact E _ h.1.2
    · exact nameS_ok h.2
  split at h
  · rename_i hk
    simp only [Bool.and_eq_true,decide_eq_true_eq] at h;refine ok_mk (by simp [okHead,hk,h.1.1.1,h.1.2]) fun x hx=>E _ (List.all_eq_true.1 h.2 x hx)
  · exact desig_ok E D h
theorem ed_ok:∀(d:Nat) (b:Bool) (n:Nd),edS d b n=true→okF (d+2) n=true
  | 0,_,_,h=>by simp [edS] at h
  | d+1,true,n,h=>expr_ok (ed_ok d true) (ed_ok d false) h
  | d+1,false,n,h=>desig_ok (ed_ok d true) (ed_ok d false) h
theorem exprS_ok {d:Nat} {n:Nd} (h:exprS d n=true):okF (d+2) n=true:=ed_ok d true n h
theorem desigS_ok {d:Nat} {n:Nd} (h:desigS d n=true):okF (d+2) n=true:=ed_ok d false n h
theorem ifAll_ok {d:Nat} {E L:Nd→Bool} {num:Int} {k:Nat} (hE:∀n,E n=true→okF d n=true) (hL:∀n,L n=true→okF d n=true):∀(l:List Nd) (i:Nat),ifAll E L num k l i=true→∀x∈l,okF d x=true
  | [],_,_,_,hx=>by cases hx
  | y::r,i,h,x,hx=>by
    simp only [ifAll,Bool.and_eq_true] at h;rcases List.mem_cons.1 hx with rfl | hx
    · have h1:=h.1
      split at h1
      · exact hL _ h1
      · exact hE _ h1
    · exact ifAll_ok hE hL r (i+1) h.2 x hx
theorem list_ok {d:Nat} {n:Nd} {m:Int} (hb:headB n 1 false m (-1)=true) (hk:∀x∈n.subs,okF d x=true):okF (d+1) n=true:=
  ok_mk (okH (hb_kind hb) (by decide) (by decide) (by decide) (by decide) (by decide)) hk
theorem stmt_ok {d:Nat} (L:∀n,stmtsS d n=true→okF (d+2) n=true) {n:Nd} (h:stmtStep (exprS d) (desigS d) (stmtsS d) n=true):okF (d+3) n=true:=by
  unfold stmtStep at h;split at h
  · simp only [Bool.and_eq_true] at h
    refine ok_mk (okH (hb_kind h.1.1) (by decide) (by decide) (by decide) (by decide) (by decide)) fun x hx=>?_;rcases mem2 (hb_len h.1.1 (by decide)) hx with e | e <;> rw [← e]
    · exact desigS_ok h.1.2
    · exact exprS_ok h.2
  split at h
  · simp only [Bool.and_eq_true] at h
    refine ok_mk (okH (hb_kind h.1.1.1) (by decide) (by decide) (by decide) (by decide) (by decide)) fun x hx=>?_;rcases mem_drop hx with e | e
    · rw [← e]
      exact desigS_ok h.1.2
    · exact exprS_ok (List.all_eq_true.1 h.2 x e)
  split at h
  · rename_i hk
    simp only [Bool.and_eq_true] at h;have hl:=hb_len h.1.1 (by decide)
    refine ok_mk (by have:1≤n.subs.length:=by omega
                     simp [okHead,hk,this]) fun x hx=>?_
    rcases mem2 hl hx with e | e <;> rw [← e]
    · exact exprS_ok h.1.2
    · exact L _ h.2
  split at h
  · simp only [Bool.and_eq_true] at h
    refine ok_mk (okH (hb_kind h.1.1) (by decide) (by decide) (by decide) (by decide) (by decide)) fun x hx=>?_;rcases mem2 (hb_len h.1.1 (by decide)) hx with e | e <;> rw [← e]
    · exact L _ h.1.2
    · exact exprS_ok h.2
  split at h
  · simp only [Bool.and_eq_true] at h
    exact ok_mk (okH (hb_kind h.1.1) (by decide) (by decide) (by decide) (by decide) (by decide)) fun x hx=>exprS_ok (List.all_eq_true.1 h.2 x hx)
  split at h
  · rename_i hk
    simp only [Bool.and_eq_true] at h;refine ok_mk (by rcases hk with hk | hk <;> simp [okHead,hk]) fun x hx=>?_;rw [← mem1 (hb_len h.1 (by decide)) hx];exact desigS_ok h.2
  split at h
  · rename_i hk
    simp only [Bool.and_eq_true] at h;refine ok_mk (by rcases hk with hk | hk <;> simp [okHead,hk]) fun x hx=>?_;rw [← mem1 (hb_len h.1 (by decide)) hx];exact exprS_ok h.2
  split at h
  · simp only [Bool.and_eq_true] at h
    exact ok_mk (okH (hb_kind h.1.1.1) (by decide) (by decide) (by decide) (by decide) (by decide)) (ifAll_ok (fun _=>exprS_ok) L _ _ h.2)
  · cases h
theorem st_ok:∀(d:Nat) (b:Bool) (n:Nd),stS d b n=true→okF (d+2) n=true
  | 0,_,_,h=>by simp [stS] at h
  | d+1,false,n,h=>stmt_ok (st_ok d true) h
  | d+1,true,n,h=>by
    have h:listStep (stmtS d) n=true:=h;simp only [listStep,Bool.and_eq_true] at h;exact list_ok h.1 fun x hx=>st_ok d false x (List.all_eq_true.1 h.2 x hx)
theorem stmtsS_ok {d:Nat} {n:Nd} (h:stmtsS d n=true):okF (d+2) n=true:=st_ok d true n h
theorem none_ok {d:Nat} {n:Nd} (h:headB n 0 false 0 0=true):okF (d+1) n=true:=
  leaf_ok (okH (hb_kind h) (by decide) (by decide) (by decide) (by decide) (by decide)) (hb_len h (by decide))
theorem typeS_ok {d:Nat} {n:Nd} (h:typeS n=true):okF (d+4) n=true:=by
  unfold typeS at h;split at h
  · simp only [Bool.and_eq_true] at h
    refine ok_mk (okH (hb_kind h.1) (by decide) (by decide) (by decide) (by decide) (by decide)) fun x hx=>?_;rw [← mem1 (hb_len h.1 (by decide)) hx];exact nameS_ok h.2
  split at h
  · simp only [Bool.and_eq_true] at h
    refine ok_mk (okH (hb_kind h.1) (by decide) (by decide) (by decide) (by decide) (by decide)) fun x hx=>?_;rw [← mem1 (hb_len h.1 (by decide)) hx];exact nameS_ok h.2
  · simp only [Bool.and_eq_true,Bool.or_eq_true] at h
    refine ok_mk (okH (hb_kind h.1.1.1) (by decide) (by decide) (by decide) (by decide) (by decide)) fun x hx=>?_;rcases mem_drop hx with e | e
    · rw [← e]
      rcases h.1.2 with h1 | h1
      · exact none_ok h1
      · exact nameS_ok h1
    · have h2:=List.all_eq_true.1 h.2 x e
      rw [Bool.and_eq_true] at h2;exact varS_ok h2.2 (by decide) (by decide) (by decide) (by decide) (by decide)
theorem mem_lt {n:Nd} {x:Nd} {k:Nat} (h:(n.subs.length:Int)=k) (hx:x∈n.subs):∃i,i<k∧n.sub i=x:=by
  obtain ⟨i,hi,e⟩:=mem_at hx;exact ⟨i,by omega,e⟩
theorem procS_ok {d:Nat} {n:Nd} (h:procS d n=true):okF (d+5) n=true:=by
  simp only [procS,Bool.and_eq_true,Bool.or_eq_true,List.all_eq_true,decide_eq_true_eq] at h;obtain ⟨⟨⟨⟨⟨⟨h0,h1⟩,h2⟩,h3⟩,h4⟩,h5⟩,h6⟩:=h;refine ok_mk (okH (hb_kind h0) (by decide) (by decide) (by decide) (by decide) (by decide)) fun x hx=>?_;obtain ⟨i,hi,rfl⟩:=mem_lt (k:=4) (hb_len h0 (by decide)) hx;rcases (show i=0∨i=1∨i=2∨i=3 by omega) with rfl | rfl | rfl | rfl
  · exact list_ok h1 fun y hy=>varS_ok (h3 y hy).2 (by decide) (by decide) (by decide) (by decide) (by decide)
  · rcases h5 with h5 | h5
    · exact none_ok h5
    · exact nameS_ok h5
  · exact list_ok h2 fun y hy=>varS_ok (h4 y hy).2 (by decide) (by decide) (by decide) (by decide) (by decide)
  · exact okN_le (by omega) (stmtsS_ok h6)
theorem declS_ok {d:Nat} {n:Nd} (h:declS d n=true):okF (d+5) n=true:=by
  cases d with
  | zero=>simp [declS] at h
  | succ d=>
    have h:declStep d n=true:=h;unfold declStep at h;split at h
    · exact leaf_ok (okH (hb_kind h) (by decide) (by decide) (by decide) (by decide) (by decide)) (hb_len h (by decide))
    split at h
    · simp only [Bool.and_eq_true] at h
      refine ok_mk (okH (hb_kind h.1) (by decide) (by decide) (by decide) (by decide) (by decide)) fun x hx=>?_;rw [← mem1 (hb_len h.1 (by decide)) hx];exact okN_le (by omega) (exprS_ok h.2)
    split at h
    · simp only [Bool.and_eq_true] at h
      refine ok_mk (okH (hb_kind h.1) (by decide) (by decide) (by decide) (by decide) (by decide)) fun x hx=>?_;rw [← mem1 (hb_len h.1 (by decide)) hx];exact okN_le (by omega) (typeS_ok (d:=d) h.2)
    split at h
    · rename_i hk
      rcases hk with hk | hk | hk <;> rw [hk] at h <;> exact varS_ok h (by decide) (by decide) (by decide) (by decide) (by decide)
    · exact okN_le (by omega) (procS_ok h)
theorem partS_ok {d:Nat} {k:Int} {n:Nd} (h:partS d k n=true):okF (d+6) n=true:=by
  simp only [partS,Bool.and_eq_true,List.all_eq_true] at h;exact list_ok h.1 fun x hx=>declS_ok (h.2 x hx).2
theorem shapedS_ok {d:Nat} {n:Nd} (h:shapedS (d+2) n=true):okF (d+7) n=true:=by
  simp only [shapedS,Bool.and_eq_true] at h;obtain ⟨⟨⟨⟨⟨⟨h0,h1⟩,h2⟩,h3⟩,h4⟩,h5⟩,h6⟩:=h;refine ok_mk (okH (hb_kind h0) (by decide) (by decide) (by decide) (by decide) (by decide)) fun x hx=>?_;obtain ⟨i,hi,rfl⟩:=mem_lt (k:=6) (hb_len h0 (by decide)) hx;rcases (show i=0∨i=1∨i=2∨i=3∨i=4∨i=5 by omega) with rfl | rfl | rfl | rfl | rfl | rfl
  · exact partS_ok h1
  · exact partS_ok h2
  · exact partS_ok h3
  · exact partS_ok h4
  · exact partS_ok h5
  · exact okN_le (by omega) (stmtsS_ok h6)
/-- The depth that the tree has in memory serves. -/
theorem okN_kids_of {w:World}:∀(d:Nat) {D:Nat} {n:Nd} {A:Option Addr} {c:Nat},Kids w d n A c→okF D n=true→okF d n=true
  | 0,_,_,_,_,hk,_=>hk.elim
  | d+1,0,_,_,_,_,h=>by cases h
  | d+1,D+1,n,A,c,hk,h=>by
    refine ok_mk (okN_head h) fun x hx=>?_;obtain ⟨i,hi,rfl⟩:=List.getElem_of_mem hx;obtain ⟨_,_,_,_,_,_,h1⟩:=hk.2.2.2 i _ (List.getElem?_eq_getElem hi);exact okN_kids_of d h1 (okN_kids h _ hx)
end
section
open Go.RowKit Go.BigFrame
set_option maxRecDepth 100000 in
set_option maxHeartbeats 1000000 in
theorem equal_any (d:Nat):∀(n:Nd) (A A':Option Addr) (c c':Nat) (w:World),Kids w d n A c→Kids w d n A' c' →
  Calls Tryz.prog 13 #[.agg #[.int .i64 n.kind,.string n.name,.int .i64 n.num,.int .i64 n.pos,.slice A n.subs.length c],.agg #[.int .i64 n.kind,.string n.name,.int .i64 n.num,.int .i64 n.pos,.slice A' n.subs.length c']] w fun e w'=>e=.returned (.bool true)∧Below w.heap.size w w':=by
 induction d with
 | zero=>intro n A A' c c' w hk;exact hk.elim
 | succ d ih=>
  rintro ⟨k,s,num,pos,subs⟩ A A' c c' w hk hk';have hlen:=hk.len;unfold maxLen at hlen;simp only at hlen;have HK:=hid hk;have HK':=hid hk';clear hk hk';have IH:=hid ih;clear ih;go_enter Tryz.func13,Tryz.ntmps13;go_wp2;generalize hW0:(w.alloc (.cells #[.int .i64 k,.string s,.int .i64 num,.int .i64 pos,.slice A subs.length c] 24)).alloc (.cells #[.int .i64 k,.string s,.int .i64 num,.int .i64 pos,.slice A' subs.length c'] 24)=W0;have hat:NdAt W0 w.heap.size 0 ⟨k,s,num,pos,subs⟩ A c:=(by rw [← hW0];exact (bAt w ⟨k,s,num,pos,subs⟩ A c _).below (bBw _ _))
  have hat':NdAt W0 (w.heap.size+1) 0 ⟨k,s,num,pos,subs⟩ A' c':=by
   have h:=bAt (w.alloc (.cells #[.int .i64 k,.string s,.int .i64 num,.int .i64 pos,.slice A subs.length c] 24)) ⟨k,s,num,pos,subs⟩ A' c' 24;rw [← hW0];simpa using h
  have hb0:Below w.heap.size w W0:=(by rw [← hW0];exact bTh (bBw _ _) (bBw _ _));have HAT:=hid hat;have HAT':=hid hat';have HB0:=hid hb0;clear hat hat' hb0 hW0;go_loopw [5] (fun ii wr=>∃j:Nat,j≤subs.length∧ii=.int .i64 j∧Hid (Below W0.heap.size W0 wr)) (fun ii _=>subs.length - (intOf ii).toNat)
  case atStart=>exact ⟨0,Nat.zero_le _,rfl,hid (Below.refl _ _)⟩
  case round=>
   obtain ⟨j,hj,rfl,HBR⟩:=hrel;obtain ⟨x0,x1,x2,x3,x4⟩:=nb HAT HBR;obtain ⟨y0,y1,y2,y3,y4⟩:=HAT'.out.below HBR.out;by_cases hlt:j<subs.length
   ·obtain ⟨b,o,Ax,cx,hA,hx,hkx⟩:=(HK.out.below (HB0.out.trans (HBR.out.mono HB0.out.size))).at (i:=j) hlt;obtain ⟨b',o',Ax',cx',hA',hx',hkx'⟩:=(HK'.out.below (HB0.out.trans (HBR.out.mono HB0.out.size))).at (i:=j) hlt;simp only at hA hx hkx hA' hx' hkx';subst hA;subst hA';have hcap:=HK.out.list.1;have hcap':=HK'.out.list.1;simp only at hcap hcap';obtain ⟨f0,f1,f2,f3,f4⟩:=id hx;obtain ⟨g0,g1,g2,g3,g4⟩:=id hx';have HKX:=hid hkx;have HKX':=hid hkx';clear hx hx' hkx hkx';have r0:=cell_regrown x4;have r1:=cell_regrown y4;have r2:=cell_regrown f0;have r3:=cell_regrown f1;have r4:=cell_regrown f2;have r5:=cell_regrown f3;have r6:=cell_regrown f4;have r7:=cell_regrown g0;have r8:=cell_regrown g1;have r9:=cell_regrown g2;have r10:=cell_regrown g3;have r11:=cell_regrown g4;have cQ:∀dd os,Calls Tryz.prog 13 #[.agg #[.int .i64 subs[j].kind,.string subs[j].name,.int .i64 subs[j].num,.int .i64 subs[j].pos,.slice Ax subs[j].subs.length cx],.agg #[.int .i64 subs[j].kind,.string subs[j].name,.int .i64 subs[j].num,.int .i64 subs[j].pos,.slice Ax' subs[j].subs.length cx']] (Go.Sort.grow (redrawn wr dd) os) fun e w''=>e=.returned (.bool true)∧∃p:Regrown,w''=Go.Sort.grow (redrawn wr p.d) p.os:=fun dd os=>Calls.regrown_of (IH.out subs[j] Ax Ax' cx cx' _ (HKX.out.below (below_regrown wr dd os)) (HKX'.out.below (below_regrown wr dd os)));go_wp2;refine wp_region_quiet_below (by kernel_rfl) (by kernel_rfl) ?_
    repeat (go_big_quiet_step (with_reducible exact cQ _ _))
    refine wpQuiet_nil ?_;intro _ hw';obtain ⟨⟨dq,osq⟩,hw''⟩:=hw';subst hw'';clear cQ r0 r1 r2 r3 r4 r5 r6 r7 r8 r9 r10 r11;have HG:=hid (below_regrown wr dq osq);generalize hG:Go.Sort.grow (redrawn wr dq) osq=G at *;clear hG;have HBG:=hid (bTh HBR.out HG.out);clear x0 x1 x2 x3 x4 y0 y1 y2 y3 y4;obtain ⟨x0,x1,x2,x3,x4⟩:=nb HAT HBG;go_wp2;go_roundw
    case rel=>exact ⟨j+1,by omega,by go_num,HBG⟩
    case measure=>simp [intOf];omega
   ·go_wp2;go_ret;exact ⟨rfl,HB0.out.trans (HBR.out.mono HB0.out.size)⟩
end
end Go.Proofs.YtneohanphabneaaGreatDoor
