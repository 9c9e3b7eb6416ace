/-
Where a method of the document's reader stands; lists of nodes in new memory; type names. Conditions: the reader lies in memory.
-/
import Derived.Test.YtneohanphabneaaGreatDoorFold
import Derived.Deep.Upon
import Derived.Test.YtneohanphabneaaGreatDoorRd
import Derived.Test.YtneohanphabneaaGreatDoorBase
import Derived.Deep.RegionLaw
namespace Go.Proofs.YtneohanphabneaaGreatDoor
set_option linter.unusedSimpArgs false
set_option linter.unusedVariables false
section
open Go.RowKit Go.BigFrame
structure R5 (w:World) (b o:Nat) (k:Int) (s:ByteArray) (p q:Int) (v:Value):Prop where
 c0:w.cell? ⟨b,o,none⟩=some (.int .i64 k)
 c1:w.cell? ⟨b,o+1,none⟩=some (.string s)
 c2:w.cell? ⟨b,o+2,none⟩=some (.int .i64 p)
 c3:w.cell? ⟨b,o+3,none⟩=some (.int .i64 q)
 c4:w.cell? ⟨b,o+4,none⟩=some v
theorem R5.same {w:World} {b o:Nat} {k k':Int} {s s':ByteArray} {p p' q q':Int} {A A':Option Addr} {n n' c c':Nat} (h:R5 w b o k s p q (.slice A n c)) (h':R5 w b o k' s' p' q' (.slice A' n' c')):s=s'∧A=A'∧n=n'∧c=c':=by
 have h1:=h.c1.symm.trans h'.c1;have h4:=h.c4.symm.trans h'.c4;simp at h1 h4;exact ⟨h1,h4⟩
theorem R5.go {w w':World} {b b' o o':Nat} {k:Int} {s:ByteArray} {p q:Int} {v:Value} (r:R5 w b o k s p q v) (h:∀j,j<5→w'.cell? ⟨b',o'+j,none⟩=w.cell? ⟨b,o+j,none⟩):R5 w' b' o' k s p q v:=
 ⟨(h 0 (by omega)).trans r.c0,(h 1 (by omega)).trans r.c1,(h 2 (by omega)).trans r.c2,(h 3 (by omega)).trans r.c3,(h 4 (by omega)).trans r.c4⟩
/-- n nodes lie at A, with room for c; d levels of them are looked at. -/
def Sh (lo:Nat) (w:World):Nat→Option Addr→Nat→Nat→Prop
 | 0,_,_,_=>True
 | d+1,A,n,c=>n≤c∧c≤maxLen∧(A=none∧c=0∨∃b,A=some ⟨b,0,none⟩∧lo≤b∧b<w.heap.size∧(∀j,w.frozen? ⟨b,j,none⟩=false)∧(∀j,j<c*5→(w.cell? ⟨b,j,none⟩).isSome=true) ∧
   ∀i,i<n→∃k s p q A' n' c',R5 w b (i*5) k s p q (.slice A' n' c')∧s.size≤maxLen∧Sh lo w d A' n' c')
def Gd (lo:Nat) (w:World) (A:Option Addr) (n c:Nat):Prop:=∀d,Sh lo w d A n c
theorem gd_nil (lo:Nat) (w:World):Gd lo w none 0 0
 | 0=>trivial
 | _+1=>⟨Nat.le_refl _,Nat.zero_le _,.inl ⟨rfl,rfl⟩⟩
theorem Gd.le {lo:Nat} {w:World} {A:Option Addr} {n c:Nat} (h:Gd lo w A n c):n≤c∧c≤maxLen:=⟨(h 1).1,(h 1).2.1⟩
theorem Gd.form {lo:Nat} {w:World} {A:Option Addr} {n c:Nat} (h:Gd lo w A n c):A=none∧n=0∧c=0∨∃b,A=some ⟨b,0,none⟩∧lo≤b∧b<w.heap.size∧(∀j,w.frozen? ⟨b,j,none⟩=false)∧∀j,j<c*5→(w.cell? ⟨b,j,none⟩).isSome=true:=by
 obtain ⟨h1,_,⟨rfl,rfl⟩ | ⟨b,e,h3,h4,h5,h6,_⟩⟩:=h 1
 ·exact .inl ⟨rfl,by omega,rfl⟩
 ·exact .inr ⟨b,e,h3,h4,h5,h6⟩
theorem Gd.row {lo:Nat} {w:World} {b n c:Nat} (h:Gd lo w (some ⟨b,0,none⟩) n c) {i:Nat} (hi:i<n):∃k s p q A' n' c',R5 w b (i*5) k s p q (.slice A' n' c')∧s.size≤maxLen∧Gd lo w A' n' c':=by
 have go:∀d,∃k s p q A' n' c',R5 w b (i*5) k s p q (.slice A' n' c')∧s.size≤maxLen∧Sh lo w d A' n' c':=fun d=>by
  obtain ⟨_,_,⟨e,_⟩ | ⟨b',e,_,_,_,_,h6⟩⟩:=h (d+1)
  ·cases e
  ·injection e with e;injection e with e;subst e;exact h6 i hi
 obtain ⟨k,s,p,q,A',n',c',r,hs,_⟩:=go 0;refine ⟨k,s,p,q,A',n',c',r,hs,fun d=>?_⟩;obtain ⟨k2,s2,p2,q2,A2,n2,c2,r2,_,hd⟩:=go d;obtain ⟨_,rfl,rfl,rfl⟩:=r.same r2;exact hd
theorem gd_mk {lo:Nat} {w:World} {b n c:Nat} (h1:n≤c) (h2:c≤maxLen) (h3:lo≤b) (h4:b<w.heap.size) (h5:∀j,w.frozen? ⟨b,j,none⟩=false) (h6:∀j,j<c*5→(w.cell? ⟨b,j,none⟩).isSome=true)
  (h7:∀i,i<n→∃k s p q A' n' c',R5 w b (i*5) k s p q (.slice A' n' c')∧s.size≤maxLen∧Gd lo w A' n' c'):Gd lo w (some ⟨b,0,none⟩) n c
 | 0=>trivial
 | d+1=>⟨h1,h2,.inr ⟨b,rfl,h3,h4,h5,h6,fun i hi=>by
  obtain ⟨k,s,p,q,A',n',c',r,hs,hg⟩:=h7 i hi;exact ⟨k,s,p,q,A',n',c',r,hs,hg d⟩⟩⟩
theorem grown_setCells (b:Nat):∀(vs:List Value) (o:Nat) (w:World),w.grownBy (w.setCells b o vs) (some b)
 | [],_,_=>⟨rfl,rfl,rfl,Nat.le_refl _,fun _ _ _=>rfl⟩
 | v::r,o,w=>(grown_setCell w b o v).trans (grown_setCells b r (o+1) _)
/-- What a step leaves. -/
structure Up (lo:Nat) (w w':World):Prop where
 sz:w.heap.size≤w'.heap.size
 fz:∀b,lo≤b→b<w.heap.size→(∀j,w.frozen? ⟨b,j,none⟩=false)→∀j,w'.frozen? ⟨b,j,none⟩=false
 ex:∀b j,lo≤b→(w.cell? ⟨b,j,none⟩).isSome=true→(w'.cell? ⟨b,j,none⟩).isSome=true
 row:∀b i k s p q A n c,lo≤b→R5 w b (i*5) k s p q (.slice A n c)→s.size≤maxLen→∃k' s' p' q' A' n' c',R5 w' b (i*5) k' s' p' q' (.slice A' n' c')∧s'.size≤maxLen∧(A'=A∧n'=n∧c'=c∨Gd lo w A' n' c')
theorem Up.sh {lo:Nat} {w w':World} (h:Up lo w w'):∀{d:Nat} {A:Option Addr} {n c:Nat},Sh lo w d A n c→Sh lo w' d A n c
 | 0,_,_,_,_=>trivial
 | d+1,A,n,c,⟨h1,h2,h3⟩=>⟨h1,h2,h3.imp id fun ⟨b,e,hb,hl,hf,hx,hr⟩=>⟨b,e,hb,Nat.lt_of_lt_of_le hl h.sz,h.fz b hb hl hf,fun j hj=>h.ex b j hb (hx j hj),fun i hi=>by
  obtain ⟨k,s,p,q,A',n',c',r,hs,hd⟩:=hr i hi;obtain ⟨k2,s2,p2,q2,A2,n2,c2,r2,hs2,⟨rfl,rfl,rfl⟩ | hg⟩:=h.row b i k s p q A' n' c' hb r hs
  ·exact ⟨_,_,_,_,_,_,_,r2,hs2,h.sh hd⟩
  ·exact ⟨_,_,_,_,_,_,_,r2,hs2,h.sh (hg d)⟩⟩⟩
theorem Up.gd {lo:Nat} {w w':World} (h:Up lo w w') {A:Option Addr} {n c:Nat} (g:Gd lo w A n c):Gd lo w' A n c:=fun d=>h.sh (g d)
/-- Nothing of what lies from lo on has changed, but for one block that reads as the last argument says. -/
theorem Up.but {lo:Nat} {w w':World} {row:Option Nat} (hg:w.grownBy w' row) (hr:∀g,row=some g→lo≤g→g<w.heap.size →
  ((∀j,w.frozen? ⟨g,j,none⟩=false)→∀j,w'.frozen? ⟨g,j,none⟩=false)∧(∀j,(w.cell? ⟨g,j,none⟩).isSome=true→(w'.cell? ⟨g,j,none⟩).isSome=true) ∧
  ∀i k s p q A n c,R5 w g (i*5) k s p q (.slice A n c)→s.size≤maxLen→∃k' s' p' q' A' n' c',R5 w' g (i*5) k' s' p' q' (.slice A' n' c')∧s'.size≤maxLen∧(A'=A∧n'=n∧c'=c∨Gd lo w A' n' c')):Up lo w w':=by
 refine ⟨hg.size,fun b hb hl hf j=>?_,fun b j hb hx=>?_,fun b i k s p q A n c hb r hs=>?_⟩
 ·by_cases e:row=some b
  ·exact (hr b e hb hl).1 hf j
  ·rw [World.frozen?_of_block (a:=⟨b,j,none⟩) (hg.block b hl (Ne.symm e))];exact hf j
 ·obtain ⟨v,hv⟩:=Option.isSome_iff_exists.1 hx;by_cases e:row=some b
  ·exact (hr b e hb (lt_of_cell hv)).2.1 j hx
  ·rw [hg.cell hv (Ne.symm e)];rfl
 ·by_cases e:row=some b
  ·exact (hr b e hb (lt_of_cell r.c0)).2.2 i k s p q A n c r hs
  ·exact ⟨k,s,p,q,A,n,c,⟨hg.cell r.c0 (Ne.symm e),hg.cell r.c1 (Ne.symm e),hg.cell r.c2 (Ne.symm e),hg.cell r.c3 (Ne.symm e),hg.cell r.c4 (Ne.symm e)⟩,hs,.inl ⟨rfl,rfl,rfl⟩⟩
theorem Up.grown {lo:Nat} {w w':World} {row:Option Nat} (hg:w.grownBy w' row) (hr:∀g,row=some g→g<lo):Up lo w w':=
 .but hg fun g e h=>absurd (hr g e) (by omega)
abbrev row5 (k:Int) (s:ByteArray) (p q:Int) (A:Option Addr) (n c:Nat):Obj:=.cells #[.int .i64 k,.string s,.int .i64 p,.int .i64 q,.slice A n c] 24 (0,0)
theorem r5_of_row {w:World} {g:Nat} {k:Int} {s:ByteArray} {p q:Int} {A:Option Addr} {n c:Nat} (h:w.heap[g]?=some (row5 k s p q A n c)):R5 w g 0 k s p q (.slice A n c):=by
 refine ⟨?_,?_,?_,?_,?_⟩
 all_goals (rw [cell_of_row _ _ _ _ _ _ h];rfl)
/-- A variable that holds another node now. -/
theorem Up.var {lo g:Nat} {w w':World} {k k':Int} {s s':ByteArray} {p p' q q':Int} {A A':Option Addr} {n n' c c':Nat} (h:w.heap[g]?=some (row5 k s p q A n c)) (h':w'.heap[g]?=some (row5 k' s' p' q' A' n' c')) (hg:w.grownBy w' (some g)) (hs:s'.size≤maxLen) (ha:A'=A∧n'=n∧c'=c∨Gd lo w A' n' c'):Up lo w w':=by
 refine .but hg fun g' e _ _=>?_;injection e with e;subst e;refine ⟨fun _ j=>frozen_of_row _ _ _ _ _ h',fun j hj=>?_,fun i k2 s2 p2 q2 A2 n2 c2 r hs2=>?_⟩
 ·rw [cell_of_row _ _ _ _ _ _ h] at hj;rw [cell_of_row _ _ _ _ _ _ h'];rcases Nat.lt_or_ge j 5 with h5 | h5
  ·simp [h5]
  ·simp [show ¬j<5 by omega] at hj
 ·have h4:=r.c4;rw [cell_of_row _ _ _ _ _ _ h] at h4
  have hi:i=0:=by
   rcases Nat.lt_or_ge (i*5+4) 5 with h5 | h5
   ·omega
   ·rw [Array.getElem?_eq_none (by simpa using h5)] at h4;cases h4
  subst hi;obtain ⟨_,rfl,rfl,rfl⟩:=(r5_of_row h).same r;exact ⟨_,_,_,_,_,_,_,r5_of_row h',hs,ha⟩
/-- The cells of a list, as a list of values. -/
theorem Gd.cells {lo:Nat} {w:World} {b n c:Nat} (h:Gd lo w (some ⟨b,0,none⟩) n c):∃xs:List Value,xs.length=n*5∧(∀j,j<n*5→xs[j]?=w.cell? ⟨b,j,none⟩)∧∀u∈xs,u.oneCell'=true:=by
 have h5:∀j,j<n*5→∃u,w.cell? ⟨b,j,none⟩=some u∧u.oneCell'=true:=fun j hj=>by
  obtain ⟨k,s,p,q,A',n',c',r,_⟩:=h.row (show j / 5<n by omega);have hm:j % 5=0∨j % 5=1∨j % 5=2∨j % 5=3∨j % 5=4:=(by omega);rcases hm with e | e | e | e | e
  ·rw [show j=j / 5*5 by omega];exact ⟨_,r.c0,rfl⟩
  ·rw [show j=j / 5*5+1 by omega];exact ⟨_,r.c1,rfl⟩
  ·rw [show j=j / 5*5+2 by omega];exact ⟨_,r.c2,rfl⟩
  ·rw [show j=j / 5*5+3 by omega];exact ⟨_,r.c3,rfl⟩
  ·rw [show j=j / 5*5+4 by omega];exact ⟨_,r.c4,rfl⟩
 refine ⟨(List.range (n*5)).map fun j=>(w.cell? ⟨b,j,none⟩).getD undef,by simp,fun j hj=>?_,fun u hu=>?_⟩
 ·obtain ⟨u,hu,_⟩:=h5 j hj;simp [hj,hu]
 ·obtain ⟨j,hj,rfl⟩:=List.mem_map.1 hu;obtain ⟨u,hu,h1⟩:=h5 j (List.mem_range.1 hj);rw [hu];exact h1
theorem infoNd:(Tryz.prog.info? 24).map (fun i=>(i.zero,i.size,i.bytes))=some (some (.agg #[.int .i64 0,.string ⟨#[]⟩,.int .i64 0,.int .i64 0,.slice none 0 0]),5,64):=by kernel_rfl
/-- One list behind another. -/
theorem run_app {lo:Nat} {w:World} {A B:Option Addr} {n c m e:Nat} (hA:Gd lo w A n c) (hB:Gd lo w B m e) (hnm:n+m≤1000000000) (hlo:lo≤w.heap.size) (ty:TypeId):
  ∃A' c' w',(Builtin.append_ #[22,22] ty #[.slice A n c,.slice B m e]).run Tryz.prog w=.ok (.slice A' (n+m) c') w'∧w.grownBy w' (A.map (·.block))∧Up lo w w'∧Gd lo w' A' (n+m) c' ∧
   (A'=A∨∃g,A'=some ⟨g,0,none⟩∧w.heap.size≤g∧g<w'.heap.size):=by
 obtain ⟨i0,hi,hz0,hz1,hz2⟩:=info_parts infoNd;have ht:=Tryz.underlying22;have hle:=hA.le;rcases hB.form with ⟨rfl,rfl,rfl⟩ | ⟨bx,rfl,hb1,hb2,hb3,hb4⟩
 ·exact ⟨A,c,w,run_append_nothing w _ _ ty _ i0 ht hi A n c hle.1 _ (Src.ofNil w ht 0),⟨rfl,rfl,rfl,Nat.le_refl _,fun _ _ _=>rfl⟩,.grown ⟨rfl,rfl,rfl,Nat.le_refl _,fun _ _ _=>rfl⟩ (row:=none) (by simp),hA,.inl rfl⟩
 obtain ⟨news,hn1,hn2,hn3⟩:=hB.cells;have add:∀(b j:Nat),(⟨b,0,none⟩:Addr).add j=⟨b,j,none⟩:=fun b j=>(by unfold Addr.add;split <;> simp_all)
 have hsrc:Src Tryz.prog i0.size 22 (.slice (some ⟨bx,0,none⟩) m e) m news w:=by
  rw [hz1];refine Src.ofSlice w ht _ m e news hn1 (fun j u hu=>?_) hn3;have hj:=(List.getElem?_eq_some_iff.1 hu).1;rw [add,← hn2 j (by omega)];exact hu
 rcases Nat.lt_or_ge c (n+m) with hlt | hge
 ·
  obtain ⟨olds,ho1,ho2,hold⟩:∃olds:List Value,olds.length=n*5∧(∀b,A=some ⟨b,0,none⟩→∀j,j<n*5→olds[j]?=w.cell? ⟨b,j,none⟩)∧(Builtin.firstCells i0.size n (.slice A n c)).run Tryz.prog w.drew=.ok olds.toArray w.drew:=by
   rcases hA.form with ⟨rfl,rfl,rfl⟩ | ⟨b,rfl,_⟩
   ·exact ⟨[],rfl,(fun b e=>by cases e),run_firstCells_none _ _ _ _ _⟩
   ·obtain ⟨olds,h1,h2,_⟩:=hA.cells;refine ⟨olds,h1,fun b' e=>by injection e with e;injection e with e;subst e;exact h2,?_⟩;rw [hz1];refine run_firstCells_some w.drew 5 n _ _ _ olds h1 fun j u hu=>?_;have hj:=(List.getElem?_eq_some_iff.1 hu).1;rw [add];show w.cell? _=_;rw [← h2 j (by omega)];exact hu
  have hrun:=run_append_grow_src w 22 22 ty 24 i0 _ ht hi hz0 A n c olds hold _ m news hsrc hlt (by omega) (growslice_fits hlt (by rw [hz2];omega));have hge:=grownCap_ge w (n+m) c 24;have hcm:=grownCap_le_maxLen w (n+m) c 24 (by unfold maxLen;omega);generalize hC:grownCap w (n+m) c 24=C at *;generalize hN:((olds++news).toArray++Builtin.zeroCells (Value.agg #[.int .i64 0,.string ⟨#[]⟩,.int .i64 0,.int .i64 0,.slice none 0 0]).cells (C - (n+m)))=N at *
  have hNs:N.size=C*5:=by
   rw [← hN,Array.size_append,size_zeroCells];simp only [List.size_toArray,List.length_append,ho1,hn1,Value.cells];simp;omega
  have hgr:w.grownBy (w.drew.alloc (.cells N 24)) none:=⟨rfl,rfl,rfl,by simp,fun k hk _=>(World.grownBy_alloc w.drew _ none).block k hk (by simp)⟩;have hup:Up lo w (w.drew.alloc (.cells N 24)):=.grown hgr (by simp);have hnew:(w.drew.alloc (.cells N 24)).heap[w.heap.size]?=some (.cells N 24 (0,0)):=heap_alloc_new w.drew _
  have hcell:∀j,j<(n+m)*5→N[j]?=if j<n*5 then olds[j]? else news[j - n*5]?:=fun j hj=>by
   have hj1:j<(olds++news).toArray.size:=(by simp [ho1,hn1];omega);rw [← hN,Array.getElem?_append_left hj1];simp only [List.getElem?_toArray];split
   ·rw [List.getElem?_append_left (by omega)]
   ·rw [List.getElem?_append_right (by omega),ho1]
  refine ⟨_,_,_,hrun,⟨hgr.os,hgr.tape,hgr.output,hgr.size,fun k hk _=>hgr.block k hk (by simp)⟩,hup,?_,.inr ⟨w.heap.size,rfl,Nat.le_refl _,by simp⟩⟩;refine gd_mk hge hcm hlo (by simp) (fun j=>frozen_of_row _ _ _ _ _ hnew) (fun j hj=>?_) (fun i hi=>?_)
  ·rw [cell_of_row _ _ _ _ _ _ hnew];simp [hNs,hj]
  ·rcases Nat.lt_or_ge i n with h1 | h1
   ·obtain ⟨b,rfl,_⟩:∃b,A=some ⟨b,0,none⟩∧True:=by
     rcases hA.form with ⟨_,rfl,_⟩ | ⟨b,e,_⟩
     ·omega
     ·exact ⟨b,e,trivial⟩
    obtain ⟨k,s,p,q,A',n',c',r,hs,hg⟩:=hA.row h1;exact ⟨k,s,p,q,A',n',c',r.go fun j hj=>by rw [cell_of_row _ _ _ _ _ _ hnew,hcell _ (by omega),if_pos (by omega),ho2 b rfl _ (by omega)],hs,hup.gd hg⟩
   ·obtain ⟨k,s,p,q,A',n',c',r,hs,hg⟩:=hB.row (i:=i - n) (by omega);exact ⟨k,s,p,q,A',n',c',r.go fun j hj=>by rw [cell_of_row _ _ _ _ _ _ hnew,hcell _ (by omega),if_neg (by omega),show i*5+j - n*5=(i - n)*5+j by omega,hn2 _ (by omega)],hs,hup.gd hg⟩
 ·
  rcases hA.form with ⟨rfl,rfl,rfl⟩ | ⟨b,rfl,ha1,ha2,ha3,ha4⟩
  ·obtain rfl:m=0:=(by omega);obtain rfl:news=[]:=List.eq_nil_of_length_eq_zero (by omega);exact ⟨none,0,w,run_append_nothing w _ _ ty _ i0 ht hi none 0 0 (Nat.le_refl _) _ hsrc,⟨rfl,rfl,rfl,Nat.le_refl _,fun _ _ _=>rfl⟩,.grown ⟨rfl,rfl,rfl,Nat.le_refl _,fun _ _ _=>rfl⟩ (row:=none) (by simp),hA,.inl rfl⟩
  have hex:∀j,j<news.length→(w.cell? ⟨b,0+n*i0.size+j,none⟩).isSome=true:=fun j hj=>(by rw [hz1];exact ha4 _ (by omega));have hrun:=run_append_room_src w 22 22 ty 24 i0 ht hi b 0 n c _ m news hsrc hge hex (fun j _=>ha3 _);rw [hz1,Nat.zero_add] at hrun
  have hgr:w.grownBy (w.setCells b (n*5) news) (some b):=by
   exact grown_setCells b news _ w
  have hin:∀j,j<m*5→(w.setCells b (n*5) news).cell? ⟨b,n*5+j,none⟩=w.cell? ⟨bx,j,none⟩:=fun j hj=>by
   rw [World.cell?_setCells_in b news (n*5) w (fun j hj=>by simpa [hz1] using hex j hj) j (by omega),← hn2 j hj,List.getElem?_eq_getElem (by omega)]
  have hout:∀j,j<n*5∨(n+m)*5≤j→(w.setCells b (n*5) news).cell? ⟨b,j,none⟩=w.cell? ⟨b,j,none⟩:=fun j hj=>World.cell?_setCells_out b news _ w _ (fun _ _=>by simp only;omega)
  have hup:Up lo w (w.setCells b (n*5) news):=by
   refine .but hgr fun g e _ _=>?_;injection e with e;subst e;refine ⟨fun hf j=>by rw [World.frozen?_setCells];exact hf j,fun j hj=>?_,fun i k s p q A n' c' r hs=>?_⟩
   ·by_cases h1:j<n*5∨(n+m)*5≤j
    ·rw [hout j h1];exact hj
    ·rw [show j=n*5+(j - n*5) by omega,hin _ (by omega)];rw [← hn2 _ (by omega),List.getElem?_eq_getElem (by omega)];rfl
   ·by_cases h1:i<n∨n+m≤i
    ·exact ⟨k,s,p,q,A,n',c',r.go fun j hj=>hout _ (by omega),hs,.inl ⟨rfl,rfl,rfl⟩⟩
    ·obtain ⟨k2,s2,p2,q2,A2,n2,c2,r2,hs2,hg2⟩:=hB.row (i:=i - n) (by omega);exact ⟨k2,s2,p2,q2,A2,n2,c2,r2.go fun j hj=>by rw [show i*5+j=n*5+((i - n)*5+j) by omega,hin _ (by omega)],hs2,.inr hg2⟩
  refine ⟨_,_,_,hrun,hgr,hup,?_,.inl rfl⟩;have hc:=hA.le.2;refine gd_mk hge hc ha1 (Nat.lt_of_lt_of_le ha2 hgr.size) (fun j=>by rw [World.frozen?_setCells];exact ha3 j) (fun j hj=>hup.ex b j ha1 (ha4 j hj)) (fun i hi=>?_);rcases Nat.lt_or_ge i n with h1 | h1
  ·obtain ⟨k,s,p,q,A',n',c',r,hs,hg⟩:=hA.row h1;exact ⟨k,s,p,q,A',n',c',r.go fun j hj=>hout _ (by omega),hs,hup.gd hg⟩
  ·obtain ⟨k,s,p,q,A',n',c',r,hs,hg⟩:=hB.row (i:=i - n) (by omega);exact ⟨k,s,p,q,A',n',c',r.go fun j hj=>by rw [show i*5+j=n*5+((i - n)*5+j) by omega,hin _ (by omega)],hs,hup.gd hg⟩
end
section
open Go.RowKit Go.BigFrame
structure Nv where
 k:Int
 s:ByteArray
 p:Int
 q:Int
 A:Option Addr
 n:Nat
 c:Nat
abbrev sl (A:Option Addr) (n c:Nat):Nv:=⟨0,⟨#[]⟩,0,0,A,n,c⟩
abbrev nd (k:Int) (s:ByteArray) (p q:Int) (A:Option Addr) (n c:Nat):Value:=.agg #[.int .i64 k,.string s,.int .i64 p,.int .i64 q,.slice A n c]
structure Ok (lo base:Nat) (gs:List Nat) (w:World) (x:Nv):Prop where
 sm:x.s.size≤maxLen
 gd:Gd lo w x.A x.n x.c
 at':∀b,x.A=some ⟨b,0,none⟩→base≤b∧b<w.heap.size∧b ∉ gs
theorem Ok.up {lo base:Nat} {gs:List Nat} {w w':World} {x:Nv} (h:Ok lo base gs w x) (u:Up lo w w'):Ok lo base gs w' x:=
 ⟨h.sm,u.gd h.gd,fun b e=>⟨(h.at' b e).1,Nat.lt_of_lt_of_le (h.at' b e).2.1 u.sz,(h.at' b e).2.2⟩⟩
theorem ok_nil (lo base:Nat) (gs:List Nat) (w:World):Ok lo base gs w (sl none 0 0):=⟨Nat.zero_le _,gd_nil _ _,fun b e=>by cases e⟩
def gsOf (vs:List (Nat × Nv)):List Nat:=vs.map (·.1)
structure Env (w0 ws w:World) (rb tb cap:Nat) (L:List (ByteArray × Int)) (s0 s:St) (t u:Nat) (vs:List (Nat × Nv)) (hs:List Nv):Prop where
 rd:Rd w0 w rb tb cap L s
 gr:ws.grownBy w (some rb)
 rlt:rb<ws.heap.size
 tlt:tb<ws.heap.size
 va:∀v∈vs,ws.heap.size≤v.1∧w.heap[v.1]?=some (row5 v.2.k v.2.s v.2.p v.2.q v.2.A v.2.n v.2.c)
 ndp:(gsOf vs).Nodup
 okv:∀v∈vs,Ok (rb+1) ws.heap.size (gsOf vs) w v.2
 okh:∀x∈hs,Ok (rb+1) ws.heap.size (gsOf vs) w x
 p1:s0.i+t≤s.i
 p2:s.er=0→s0.er=0∧s0.i+u≤s.i
/-- What a method that makes a node leaves. -/
def NPost (w0 ws:World) (rb tb cap:Nat) (L:List (ByteArray × Int)) (s0:St) (e:Ending) (w:World):Prop:=
 ws.grownBy w (some rb)∧∃k s p q A n c s',e=.returned (nd k s p q A n c)∧Rd w0 w rb tb cap L s'∧s0.i≤s'.i∧(s'.er=0→s0.er=0∧s0.i+1≤s'.i)∧s.size≤maxLen∧Gd (rb+1) w A n c∧∀b,A=some ⟨b,0,none⟩→ws.heap.size≤b∧b<w.heap.size
/-- .. a list. -/
def LPost (w0 ws:World) (rb tb cap:Nat) (L:List (ByteArray × Int)) (s0:St) (e:Ending) (w:World):Prop:=
 ws.grownBy w (some rb)∧∃A n c s',e=.returned (.slice A n c)∧Rd w0 w rb tb cap L s'∧s0.i≤s'.i∧(s'.er=0→s0.er=0)∧n≤3000000∧Gd (rb+1) w A n c∧∀b,A=some ⟨b,0,none⟩→ws.heap.size≤b∧b<w.heap.size
section
variable {w0 ws w w' : World} {rb tb cap : Nat} {L : List (ByteArray × Int)} {s0 s s' : St} {t u t' u' : Nat} {vs pre post : List (Nat × Nv)} {hs : List Nv}
theorem grown_old {g:Nat} {o:Obj} {row:Option Nat} (hg:w.grownBy w' row) (h:w.heap[g]?=some o) (hne:some g≠row):w'.heap[g]?=some o:=
 (hg.block g (Array.getElem?_eq_some_iff.1 h).1 hne).trans h
theorem Zero.old {g:Nat} {row:Option Nat} (h:Zero w g) (hg:w.grownBy w' row) (hne:some g≠row):Zero w' g:=by
 obtain ⟨a0,a1,a2,a3,a4,h⟩:=h.row;exact ⟨a0,a1,a2,a3,a4,grown_old hg h hne⟩
/-- A step that leaves the variables as they are; row: a block that may have changed. -/
theorem Env.step (E:Env w0 ws w rb tb cap L s0 s t u vs hs) {row:Option Nat} (hr:Rd w0 w' rb tb cap L s') (hg:w.grownBy w' row) (hrow:∀b,row=some b→b=rb∨ws.heap.size≤b∧b ∉ gsOf vs) (up:Up (rb+1) w w')
  (h1:s0.i+t'≤s'.i) (h2:s'.er=0→s0.er=0∧s0.i+u'≤s'.i):Env w0 ws w' rb tb cap L s0 s' t' u' vs hs:=by
 have hv:∀g∈gsOf vs,some g≠row:=fun g hgs e=>by
  rcases hrow g e.symm with h | h
  ·subst h;obtain ⟨v,hv,e2⟩:=List.mem_map.1 hgs;have h5:=(E.va v hv).1;have h6:=E.rlt
   try simp only at e2
   omega
  ·exact h.2 hgs
 refine ⟨hr,⟨hg.os.trans E.gr.os,hg.tape.trans E.gr.tape,hg.output.trans E.gr.output,Nat.le_trans E.gr.size hg.size,fun b hb hne=>(hg.block b (Nat.lt_of_lt_of_le hb E.gr.size) fun e=>?_).trans (E.gr.block b hb hne)⟩,E.rlt,E.tlt,fun v hm=>⟨(E.va v hm).1,grown_old hg (E.va v hm).2 (hv _ (List.mem_map_of_mem hm))⟩,E.ndp,fun v hm=>(E.okv v hm).up up,fun x hm=>(E.okh x hm).up up,h1,h2⟩;rcases hrow b e.symm with h | h
 ·exact hne (by rw [h])
 ·omega
theorem Env.mv (E:Env w0 ws w rb tb cap L s0 s t u vs hs) (hr:Rd w0 w' rb tb cap L s') (hg:w.grownBy w' (some rb)) (h1:s0.i+t'≤s'.i) (h2:s'.er=0→s0.er=0∧s0.i+u'≤s'.i):Env w0 ws w' rb tb cap L s0 s' t' u' vs hs:=
 E.step hr hg (fun b e=>.inl (Option.some.inj e).symm) (.grown hg fun b e=>by injection e;omega) h1 h2
theorem Env.quiet (E:Env w0 ws w rb tb cap L s0 s t u vs hs) (hb:Below w.heap.size w w'):Env w0 ws w' rb tb cap L s0 s t u vs hs:=
 E.mv (E.rd.below hb) (grown_of_below hb _) E.p1 E.p2
theorem Env.drew (E:Env w0 ws w rb tb cap L s0 s t u vs hs):Env w0 ws w.drew rb tb cap L s0 s t u vs hs:=E.mv E.rd.drew (grown_drew w _) E.p1 E.p2
theorem Env.weak (E:Env w0 ws w rb tb cap L s0 s t u vs hs) (h1:t'≤t) (h2:u'≤u):Env w0 ws w rb tb cap L s0 s t' u' vs hs:=
 { E with p1:=by have:=E.p1;omega,p2:=fun h=>by have:=E.p2 h;omega }
/-- A variable holds another node. -/
theorem Env.chg {g k p q n c k' p' q' n' c':_} {x x':ByteArray} {A A':Option Addr} (E:Env w0 ws w rb tb cap L s0 s t u (pre++(g,⟨k,x,p,q,A,n,c⟩)::post) hs) (hg:w.grownBy w' (some g)) (hh:w'.heap[g]?=some (row5 k' x' p' q' A' n' c'))
  (hx:x'.size≤maxLen) (ha:A'=A∧n'=n∧c'=c∨Ok (rb+1) ws.heap.size (gsOf (pre++(g,⟨k,x,p,q,A,n,c⟩)::post)) w (sl A' n' c')):Env w0 ws w' rb tb cap L s0 s t u (pre++(g,⟨k',x',p',q',A',n',c'⟩)::post) hs:=by
 have hm:(g,(⟨k,x,p,q,A,n,c⟩:Nv))∈pre++(g,⟨k,x,p,q,A,n,c⟩)::post:=(by simp);have up:Up (rb+1) w w':=.var (E.va _ hm).2 hh hg hx (ha.imp id Ok.gd);have hgs:gsOf (pre++(g,(⟨k',x',p',q',A',n',c'⟩:Nv))::post)=gsOf (pre++(g,⟨k,x,p,q,A,n,c⟩)::post):=(by simp [gsOf]);have hnd:=E.ndp;have hlo:=(E.va _ hm).1;have hrlt:=E.rlt;have htlt:=E.tlt;simp only at hlo
 have hne:∀v∈pre++post,v.1≠g:=fun v hv e=>by
  subst e;simp only [gsOf,List.map_append,List.map_cons,List.nodup_cons,List.nodup_append,List.mem_append,List.mem_cons] at hnd hv;rcases hv with h | h
  ·exact hnd.2.2 _ (List.mem_map_of_mem h) _ (.inl rfl) rfl
  ·exact hnd.2.1.1 (List.mem_map_of_mem h)
 refine ⟨E.rd.grown hg (by simp;omega) (by simp;omega) (fun k e=>by have:=E.rd.lo;injection e;omega),⟨hg.os.trans E.gr.os,hg.tape.trans E.gr.tape,hg.output.trans E.gr.output,Nat.le_trans E.gr.size hg.size,fun b hb h=>(hg.block b (Nat.lt_of_lt_of_le hb E.gr.size) (by simp;omega)).trans (E.gr.block b hb h)⟩,E.rlt,E.tlt,fun v hv=>?_,by rw [hgs];exact hnd,fun v hv=>?_,fun y hy=>?_,E.p1,E.p2⟩
 ·rcases List.mem_append.1 hv with h | h
  ·exact ⟨(E.va v (by simp [h])).1,grown_old hg (E.va v (by simp [h])).2 (by simpa using hne v (by simp [h]))⟩
  ·rcases List.mem_cons.1 h with rfl | h
   ·exact ⟨hlo,hh⟩
   ·exact ⟨(E.va v (by simp [h])).1,grown_old hg (E.va v (by simp [h])).2 (by simpa using hne v (by simp [h]))⟩
 ·rw [hgs];rcases List.mem_append.1 hv with h | h
  ·exact (E.okv v (by simp [h])).up up
  ·rcases List.mem_cons.1 h with rfl | h
   ·rcases ha with ⟨rfl,rfl,rfl⟩ | ha
    ·have h5:=(E.okv _ hm).up up;exact ⟨hx,h5.gd,h5.at'⟩
    ·exact ⟨hx,(ha.up up).gd,(ha.up up).at'⟩
   ·exact (E.okv v (by simp [h])).up up
 ·rw [hgs];exact (E.okh y hy).up up
theorem Env.blk (pre:List (Nat × Nv)) {g:Nat} {x:Nv} (E:Env w0 ws w rb tb cap L s0 s t u (pre++(g,x)::post) hs):w.heap[g]?=some (row5 x.k x.s x.p x.q x.A x.n x.c):=(E.va (g,x) (by simp)).2
theorem Env.put0 (pre:List (Nat × Nv)) {g k p q n c:_} {x:ByteArray} {A:Option Addr} (E:Env w0 ws w rb tb cap L s0 s t u (pre++(g,⟨k,x,p,q,A,n,c⟩)::post) hs) (k':Int):Env w0 ws (w.setCell ⟨g,0,none⟩ (.int .i64 k')) rb tb cap L s0 s t u (pre++(g,⟨k',x,p,q,A,n,c⟩)::post) hs:=
 E.chg (grown_setCell w g 0 _) (heap_setCell_same w g 0 _ _ _ (E.blk pre)) (E.okv (g,⟨k,x,p,q,A,n,c⟩) (by simp)).sm (.inl ⟨rfl,rfl,rfl⟩)
theorem Env.put1 (pre:List (Nat × Nv)) {g k p q n c:_} {x:ByteArray} {A:Option Addr} (E:Env w0 ws w rb tb cap L s0 s t u (pre++(g,⟨k,x,p,q,A,n,c⟩)::post) hs) (x':ByteArray) (hx:x'.size≤1000000):Env w0 ws (w.setCell ⟨g,1,none⟩ (.string x')) rb tb cap L s0 s t u (pre++(g,⟨k,x',p,q,A,n,c⟩)::post) hs:=
 E.chg (grown_setCell w g 1 _) (heap_setCell_same w g 1 _ _ _ (E.blk pre)) (by unfold maxLen;omega) (.inl ⟨rfl,rfl,rfl⟩)
theorem Env.put2 (pre:List (Nat × Nv)) {g k p q n c:_} {x:ByteArray} {A:Option Addr} (E:Env w0 ws w rb tb cap L s0 s t u (pre++(g,⟨k,x,p,q,A,n,c⟩)::post) hs) (p':Int):Env w0 ws (w.setCell ⟨g,2,none⟩ (.int .i64 p')) rb tb cap L s0 s t u (pre++(g,⟨k,x,p',q,A,n,c⟩)::post) hs:=
 E.chg (grown_setCell w g 2 _) (heap_setCell_same w g 2 _ _ _ (E.blk pre)) (E.okv (g,⟨k,x,p,q,A,n,c⟩) (by simp)).sm (.inl ⟨rfl,rfl,rfl⟩)
/-- The list that was made last becomes a variable's. -/
theorem Env.put4 (pre:List (Nat × Nv)) {g k p q n c k' p' q' n' c':_} {x x':ByteArray} {A A':Option Addr} (E:Env w0 ws w rb tb cap L s0 s t u (pre++(g,⟨k,x,p,q,A,n,c⟩)::post) (⟨k',x',p',q',A',n',c'⟩::hs)):Env w0 ws (w.setCell ⟨g,4,none⟩ (.slice A' n' c')) rb tb cap L s0 s t u (pre++(g,⟨k,x,p,q,A',n',c'⟩)::post) hs:=by
 have h:=E.okh _ (List.mem_cons_self ..);exact Env.chg { E with okh:=fun y hy=>E.okh y (List.mem_cons_of_mem _ hy) } (grown_setCell w g 4 _) (heap_setCell_same w g 4 _ _ _ (E.blk pre)) (E.okv (g,⟨k,x,p,q,A,n,c⟩) (by simp)).sm (.inr ⟨Nat.zero_le _,h.gd,h.at'⟩)
/-- The node that came last becomes a variable's value. -/
theorem Env.put5 (pre:List (Nat × Nv)) {g k p q n c k' p' q' n' c':_} {x x':ByteArray} {A A':Option Addr} (E:Env w0 ws w rb tb cap L s0 s t u (pre++(g,⟨k,x,p,q,A,n,c⟩)::post) (⟨k',x',p',q',A',n',c'⟩::hs)):
  Env w0 ws (((((w.setCell ⟨g,0,none⟩ (.int .i64 k')).setCell ⟨g,1,none⟩ (.string x')).setCell ⟨g,2,none⟩ (.int .i64 p')).setCell ⟨g,3,none⟩ (.int .i64 q')).setCell ⟨g,4,none⟩ (.slice A' n' c')) rb tb cap L s0 s t u (pre++(g,⟨k',x',p',q',A',n',c'⟩)::post) hs:=by
 have h:=E.okh _ (List.mem_cons_self ..);have e0:=E.blk pre;have e1:=heap_setCell_same w g 0 _ _ (.int .i64 k') e0;have e2:=heap_setCell_same _ g 1 _ _ (.string x') e1;have e3:=heap_setCell_same _ g 2 _ _ (.int .i64 p') e2;have e4:=heap_setCell_same _ g 3 _ _ (.int .i64 q') e3
 exact Env.chg { E with okh:=fun y hy=>E.okh y (List.mem_cons_of_mem _ hy) } (grown_trans (grown_trans (grown_trans (grown_trans (grown_setCell w g 0 _) (grown_setCell _ g 1 _)) (grown_setCell _ g 2 _)) (grown_setCell _ g 3 _)) (grown_setCell _ g 4 _))
  (heap_setCell_same _ g 4 _ _ (.slice A' n' c') e4) h.sm (.inr ⟨Nat.zero_le _,h.gd,h.at'⟩)
theorem gs_lt (E:Env w0 ws w rb tb cap L s0 s t u vs hs):∀g∈gsOf vs,ws.heap.size≤g∧g<w.heap.size:=fun g hg=>by
 obtain ⟨v,hv,rfl⟩:=List.mem_map.1 hg;exact ⟨(E.va v hv).1,(Array.getElem?_eq_some_iff.1 (E.va v hv).2).1⟩
/-- A new variable. -/
theorem Env.new {k p q n c k' p' q':_} {x x':ByteArray} {A:Option Addr} (E:Env w0 ws w rb tb cap L s0 s t u vs (⟨k',x',p',q',A,n,c⟩::hs)) (hx:x.size≤maxLen):Env w0 ws (w.alloc (row5 k x p q A n c)) rb tb cap L s0 s t u ((w.heap.size,⟨k,x,p,q,A,n,c⟩)::vs) hs:=by
 have up:Up (rb+1) w (w.alloc (row5 k x p q A n c)):=.grown (World.grownBy_alloc w _ none) (by simp);have E1:=E.quiet (bBw w (row5 k x p q A n c));have hgl:=gs_lt E
 have hok:∀y,Ok (rb+1) ws.heap.size (gsOf vs) w y→Ok (rb+1) ws.heap.size (gsOf ((w.heap.size,(⟨k,x,p,q,A,n,c⟩:Nv))::vs)) (w.alloc (row5 k x p q A n c)) y:=fun y hy=>by
  refine ⟨hy.sm,up.gd hy.gd,fun b e=>⟨(hy.at' b e).1,by have:=(hy.at' b e).2.1;simp;omega,fun hm=>?_⟩⟩;have h1:=hy.at' b e;simp only [gsOf,List.map_cons,List.mem_cons] at hm h1;rcases hm with rfl | hm
  ·omega
  ·exact h1.2.2 hm
 refine ⟨E1.rd,E1.gr,E.rlt,E.tlt,fun v hv=>?_,?_,fun v hv=>?_,fun y hy=>hok y (E.okh y (List.mem_cons_of_mem _ hy)),E.p1,E.p2⟩
 ·rcases List.mem_cons.1 hv with rfl | h
  ·exact ⟨E.gr.size,heap_alloc_new w _⟩
  ·exact E1.va v h
 ·refine List.nodup_cons.2 ⟨fun h=>?_,E.ndp⟩;exact Nat.lt_irrefl _ (hgl _ h).2
 ·rcases List.mem_cons.1 hv with rfl | h
  ·have h1:=hok _ (E.okh _ (List.mem_cons_self ..));exact ⟨hx,h1.gd,h1.at'⟩
  ·exact hok _ (E.okv v h)
theorem Env.nil (E:Env w0 ws w rb tb cap L s0 s t u vs hs):Env w0 ws w rb tb cap L s0 s t u vs (sl none 0 0::hs):=by
 refine { E with okh:=fun y hy=>?_ };rcases List.mem_cons.1 hy with rfl | h
 ·exact ok_nil _ _ _ _
 ·exact E.okh y h
/-- A variable's value comes to hand. -/
theorem Env.get (pre:List (Nat × Nv)) {g k p q n c:_} {x:ByteArray} {A:Option Addr} (E:Env w0 ws w rb tb cap L s0 s t u (pre++(g,⟨k,x,p,q,A,n,c⟩)::post) hs):Env w0 ws w rb tb cap L s0 s t u (pre++(g,⟨k,x,p,q,A,n,c⟩)::post) (⟨k,x,p,q,A,n,c⟩::hs):=by
 refine { E with okh:=fun y hy=>?_ };rcases List.mem_cons.1 hy with rfl | h
 ·exact E.okv (g,⟨k,x,p,q,A,n,c⟩) (by simp)
 ·exact E.okh y h
/-- What lies at hand in another order, or less of it. -/
theorem Env.hand {hs':List Nv} (E:Env w0 ws w rb tb cap L s0 s t u vs hs) (h:hs' ⊆ hs):Env w0 ws w rb tb cap L s0 s t u vs hs':={ E with okh:=fun y hy=>E.okh y (h hy) }
theorem Env.facts (pre:List (Nat × Nv)) {g k p q n c:_} {x:ByteArray} {A:Option Addr} (E:Env w0 ws w rb tb cap L s0 s t u (pre++(g,⟨k,x,p,q,A,n,c⟩)::post) hs):
  (w.cell? ⟨g,0,none⟩=some (.int .i64 k)∧w.cell? ⟨g,1,none⟩=some (.string x)∧w.cell? ⟨g,2,none⟩=some (.int .i64 p)∧w.cell? ⟨g,3,none⟩=some (.int .i64 q)∧w.cell? ⟨g,4,none⟩=some (.slice A n c)) ∧
  w.frozen? ⟨g,0,none⟩=false∧w.frozen? ⟨g,1,none⟩=false∧w.frozen? ⟨g,2,none⟩=false∧w.frozen? ⟨g,3,none⟩=false∧w.frozen? ⟨g,4,none⟩=false∧g<w.heap.size:=by
 have h:=E.blk pre;have r:=r5_of_row h;exact ⟨⟨r.c0,by simpa using r.c1,by simpa using r.c2,by simpa using r.c3,by simpa using r.c4⟩,frozen_of_row _ _ _ _ _ h,frozen_of_row _ _ _ _ _ h,frozen_of_row _ _ _ _ _ h,frozen_of_row _ _ _ _ _ h,frozen_of_row _ _ _ _ _ h,lt_of_cell r.c0⟩
def flat5:List Nv→List Value
 | []=>[]
 | x::r=>.int .i64 x.k::.string x.s::.int .i64 x.p::.int .i64 x.q::.slice x.A x.n x.c::flat5 r
theorem flat5_len:∀l:List Nv,(flat5 l).length=l.length*5
 | []=>rfl
 | x::l=>by simp [flat5,flat5_len l];omega
theorem flat5_at:∀(l:List Nv) (i:Nat) (x:Nv),l[i]?=some x→(flat5 l)[i*5]?=some (.int .i64 x.k)∧(flat5 l)[i*5+1]?=some (.string x.s)∧(flat5 l)[i*5+2]?=some (.int .i64 x.p)∧(flat5 l)[i*5+3]?=some (.int .i64 x.q)∧(flat5 l)[i*5+4]?=some (.slice x.A x.n x.c)
 | [],_,_,h=>by simp at h
 | y::l,0,x,h=>by
  simp at h;subst h;exact ⟨rfl,rfl,rfl,rfl,rfl⟩
 | y::l,i+1,x,h=>by
  have:=flat5_at l i x (by simpa using h);rw [Nat.succ_mul];exact this
/-- A list written out. -/
theorem Env.lit (ms:List Nv) (E:Env w0 ws w rb tb cap L s0 s t u vs (ms++hs)) (hm:ms.length≤1000):Env w0 ws (w.alloc (.cells (flat5 ms).toArray 24)) rb tb cap L s0 s t u vs (sl (some ⟨w.heap.size,0,none⟩) ms.length ms.length::hs):=by
 have up:Up (rb+1) w (w.alloc (.cells (flat5 ms).toArray 24)):=.grown (World.grownBy_alloc w _ none) (by simp);have E1:=E.quiet (bBw w (.cells (flat5 ms).toArray 24));have hgl:=gs_lt E;have hnew:=heap_alloc_new w (.cells (flat5 ms).toArray 24);have hlt:=E.gr.size;have hrl:=E.rlt;refine { E1 with okh:=fun y hy=>?_ };rcases List.mem_cons.1 hy with rfl | h
 ·refine ⟨Nat.zero_le _,gd_mk (Nat.le_refl _) (by show ms.length≤maxLen;unfold maxLen;omega) (by omega) (by simp) (fun j=>frozen_of_row _ _ _ _ _ hnew) (fun j hj=>?_) (fun i hi=>?_),fun b e=>?_⟩
  ·rw [cell_of_row _ _ _ _ _ _ hnew];simp [flat5_len,hj]
  ·have hi:i<ms.length:=hi;have hx:=List.getElem?_eq_getElem hi;obtain ⟨f0,f1,f2,f3,f4⟩:=flat5_at ms i _ hx;have ho:=E.okh _ (List.mem_append_left _ (List.getElem_mem hi));refine ⟨ms[i].k,_,ms[i].p,ms[i].q,_,_,_,⟨?_,?_,?_,?_,?_⟩,ho.sm,up.gd ho.gd⟩
   all_goals (rw [cell_of_row _ _ _ _ _ _ hnew];simp only [List.getElem?_toArray];assumption)
  ·injection e with e;injection e with e;subst e;exact ⟨hlt,by simp,fun h=>by have:=(hgl _ h).2;omega⟩
 ·exact E1.okh y (List.mem_append_right _ h)
theorem Env.run_app {A B:Option Addr} {n c m e:Nat} {k1 p1 q1 k2 p2 q2:Int} {x1 x2:ByteArray} (E:Env w0 ws w rb tb cap L s0 s t u vs hs) (hA:(⟨k1,x1,p1,q1,A,n,c⟩:Nv)∈hs) (hB:(⟨k2,x2,p2,q2,B,m,e⟩:Nv)∈hs) (hnm:n+m≤1000000000) (ty:TypeId):
  ∃A' c' w',(Builtin.append_ #[22,22] ty #[.slice A n c,.slice B m e]).run Tryz.prog w=.ok (.slice A' (n+m) c') w'∧Env w0 ws w' rb tb cap L s0 s t u vs (sl A' (n+m) c'::hs):=by
 have hlt:=E.gr.size;have hrl:=E.rlt;have htl:=E.tlt;have oA:=E.okh _ hA;obtain ⟨A',c',w',h1,h2,h3,h4,h5⟩:=Go.Proofs.YtneohanphabneaaGreatDoor.run_app oA.gd (E.okh _ hB).gd hnm (by omega) ty
 have hrow:∀b,A.map (·.block)=some b→ws.heap.size≤b∧b ∉ gsOf vs:=fun b e=>by
  rcases oA.gd.form with ⟨rfl,_⟩ | ⟨b',rfl,_⟩
  ·cases e
  ·simp at e;subst e;exact ⟨(oA.at' b' rfl).1,(oA.at' b' rfl).2.2⟩
 have hne:∀b,b<ws.heap.size→some b≠A.map (·.block):=fun b hb e=>(by have:=(hrow b e.symm).1;omega);have E1:=E.step (t':=t) (u':=u) (E.rd.grown h2 (hne rb hrl) (hne tb htl) fun k e=>by have:=(hrow k e).1;have:=E.rd.lo;omega) h2 (fun b e=>.inr (hrow b e)) h3 E.p1 E.p2;refine ⟨A',c',w',h1,{ E1 with okh:=fun y hy=>?_ }⟩;rcases List.mem_cons.1 hy with rfl | h
 ·refine ⟨Nat.zero_le _,h4,fun b e=>?_⟩;rcases h5 with rfl | ⟨g,rfl,hg1,hg2⟩
  ·have:=oA.at' b e;exact ⟨this.1,Nat.lt_of_lt_of_le this.2.1 h2.size,this.2.2⟩
  ·injection e with e;injection e with e;subst e;exact ⟨by omega,hg2,fun h=>by have:=(gs_lt E _ h).2;omega⟩
 ·exact E1.okh y h
/-- An append, as an operation. -/
theorem Env.wp_app {o:Oper} {a:Act} {K:Act→World→Prop} {Q:Exit→Act→World→Prop} {A B:Option Addr} {n c m e:Nat} {k1 p1 q1 k2 p2 q2:Int} {x1 x2:ByteArray} (E:Env w0 ws w rb tb cap L s0 s t u vs hs) (y z:Operand) (ho:o.op=.call { callee:=.builtin .append,args:=#[y,z],argTypes:=#[22,22] })
  (hy:a.eval y=.slice A n c) (hz:a.eval z=.slice B m e) (hA:(⟨k1,x1,p1,q1,A,n,c⟩:Nv)∈hs) (hB:(⟨k2,x2,p2,q2,B,m,e⟩:Nv)∈hs) (hnm:n+m≤1000000000)
  (h:∀A' c' w',Hid (Env w0 ws w' rb tb cap L s0 s t u vs (sl A' (n+m) c'::hs))→K (a.put o.dst (.slice A' (n+m) c')) w'):o.wp Tryz.prog a w K Q:=by
 obtain ⟨A',c',w',hr,h1⟩:=E.run_app hA hB hnm o.type;unfold Oper.wp execOp;simp only [ho,resolve,invoke,builtin,Sem.run_bind,Sem.run_pure,Result.andThen_ok,List.map_toArray,List.map_cons,List.map_nil,hy,hz,hr];exact h A' c' w' (hid h1)
theorem Env.app {ops:Array Oper} {rest:List Oper} {o:Oper} {a:Act} {Q:Exit→Act→World→Prop} {A B:Option Addr} {n c m e:Nat} {k1 p1 q1 k2 p2 q2:Int} {x1 x2:ByteArray} (E:Env w0 ws w rb tb cap L s0 s t u vs hs) (hgd:o.guard=none) (y z:Operand) (ho:o.op=.call { callee:=.builtin .append,args:=#[y,z],argTypes:=#[22,22] })
  (hy:a.eval y=.slice A n c) (hz:a.eval z=.slice B m e) (hA:(⟨k1,x1,p1,q1,A,n,c⟩:Nv)∈hs) (hB:(⟨k2,x2,p2,q2,B,m,e⟩:Nv)∈hs) (hnm:n+m≤1000000000)
  (h:∀A' c' w',Hid (Env w0 ws w' rb tb cap L s0 s t u vs (sl A' (n+m) c'::hs))→wpList Tryz.prog ops Q rest (a.put o.dst (.slice A' (n+m) c')) w'):wpList Tryz.prog ops Q (o::rest) a w:=
 wpList_plain hgd fun _ hK=>E.wp_app y z ho hy hz hA hB hnm fun A' c' w' h1=>hK _ _ (h A' c' w' h1)
theorem Env.sapp {ops:Array Oper} {o:Oper} {a:Act} {K:Act→World→Prop} {Q:Exit→Act→World→Prop} {R:Prop} {A B:Option Addr} {n c m e:Nat} {k1 p1 q1 k2 p2 q2:Int} {x1 x2:ByteArray} (E:Env w0 ws w rb tb cap L s0 s t u vs hs) (hgd:o.guard=none) (y z:Operand) (ho:o.op=.call { callee:=.builtin .append,args:=#[y,z],argTypes:=#[22,22] })
  (hy:a.eval y=.slice A n c) (hz:a.eval z=.slice B m e) (hA:(⟨k1,x1,p1,q1,A,n,c⟩:Nv)∈hs) (hB:(⟨k2,x2,p2,q2,B,m,e⟩:Nv)∈hs) (hnm:n+m≤1000000000)
  (h:∀A' c' w',Hid (Env w0 ws w' rb tb cap L s0 s t u vs (sl A' (n+m) c'::hs))→K (a.put o.dst (.slice A' (n+m) c')) w'):if Region.wanted o (yielded ops a.tmps)=true then Oper.wp Tryz.prog o a w K Q else R:=by
 have hw:Region.wanted o (yielded ops a.tmps)=true:=(by simp [Region.wanted,hgd]);rw [if_pos hw];exact E.wp_app y z ho hy hz hA hB hnm h
theorem env_start0 (h:Rd w0 w rb tb cap L s):Env w0 w w rb tb cap L s s 0 0 [] []:=
 ⟨h,grown_refl _ _,h.size.1,h.size.2,(fun v hv=>by cases hv),by simp [gsOf],(fun v hv=>by cases hv),(fun v hv=>by cases hv),Nat.le_refl _,fun h=>⟨h,Nat.le_refl _⟩⟩
theorem env_start (h:Rd w0 w rb tb cap L s):Env w0 w (w.alloc (row5 0 ⟨#[]⟩ 0 0 none 0 0)) rb tb cap L s s 0 0 [(w.heap.size,sl none 0 0)] []:=(env_start0 h).nil.new (Nat.zero_le _)
theorem Env.ze (E:Env w0 ws w rb tb cap L s0 s t u vs hs) {g:Nat} {x:Nv} (h:(g,x)∈vs):Zero w g:=⟨_,_,_,_,_,(E.va _ h).2⟩
/-- The walk begins anew, and back. -/
theorem Env.re (E:Env w0 ws w rb tb cap L s0 s t u vs hs):Env w0 ws w rb tb cap L s s 0 0 vs hs:={ E with p1:=Nat.le_refl _,p2:=fun h=>⟨h,Nat.le_refl _⟩ }
theorem Env.back {sr:St} (E:Env w0 ws w rb tb cap L sr s t u vs hs) (h1:s0.i+t'≤sr.i) (h2:sr.er=0→s0.er=0∧s0.i+u'≤sr.i):Env w0 ws w rb tb cap L s0 s (t'+t) (u'+u) vs hs:=
 { E with p1:=by have:=E.p1;omega,p2:=fun h=>by have a:=E.p2 h;have b:=h2 a.1;exact ⟨b.1,by omega⟩ }
theorem Env.less (E:Env w0 ws w rb tb cap L s0 s t u vs hs) {m:Nat} (hm:L.length - s0.i<m+1) (ht:1≤t):L.length - s.i<m:=by have:=E.p1;have:=E.rd.lt;omega
theorem Env.less0 (E:Env w0 ws w rb tb cap L s0 s t u vs hs) {m:Nat} (hm:L.length - s0.i<m):L.length - s.i<m:=by have:=E.p1;omega
end
end
section
open Go.RowKit Go.BigFrame
section
variable {w0 ws w w' : World} {rb tb cap : Nat} {L : List (ByteArray × Int)} {s0 s s' : St} {t u t' u' : Nat} {vs pre post : List (Nat × Nv)} {hs : List Nv}
theorem Env.word (E:Env w0 ws w rb tb cap L s0 s t u vs hs):Calls Tryz.prog 37 #[.pointer (some ⟨rb,0,none⟩)] w fun e w'=>e=.returned (.string (wdN L s.i))∧Hid (Env w0 ws w' rb tb cap L s0 s t u vs hs):=
 (rWord_any w E.rd).mono fun _ _ h=>⟨h.1,hid (E.quiet h.2)⟩
theorem Env.at (E:Env w0 ws w rb tb cap L s0 s t u vs hs):Calls Tryz.prog 84 #[.pointer (some ⟨rb,0,none⟩)] w fun e w'=>e=.returned (.int .i64 (plN L s.i))∧Hid (Env w0 ws w' rb tb cap L s0 s t u vs hs):=
 (rAt_any w E.rd).mono fun _ _ h=>⟨h.1,hid (E.quiet h.2)⟩
theorem Env.stop (E:Env w0 ws w rb tb cap L s0 s t u vs hs) (n:Int) (hn:n≠0):Calls Tryz.prog 91 #[.pointer (some ⟨rb,0,none⟩),.int .i64 n] w fun e w'=>e=.returned (.tuple #[])∧∃s',Hid (Env w0 ws w' rb tb cap L s0 s' t (u+1) vs hs)∧Hid (s'.er≠0):=
 (rStop_any n w E.rd hn).mono fun _ _ ⟨e,hg,s',hr,h1,h2⟩=>⟨e,s',hid (E.mv hr hg (by rw [h1];exact E.p1) fun h=>absurd h h2),hid h2⟩
theorem Env.other (E:Env w0 ws w rb tb cap L s0 s t u vs hs):Calls Tryz.prog 38 #[.pointer (some ⟨rb,0,none⟩)] w fun e w'=>e=.returned (.tuple #[])∧∃s',Hid (Env w0 ws w' rb tb cap L s0 s' t (u+1) vs hs)∧Hid (s'.er≠0):=
 (rOther_any w E.rd).mono fun _ _ ⟨e,hg,s',hr,h1,h2⟩=>⟨e,s',hid (E.mv hr hg (by rw [h1];exact E.p1) fun h=>absurd h h2),hid h2⟩
theorem Env.is (E:Env w0 ws w rb tb cap L s0 s t u vs hs) (x:ByteArray) (hx:x≠⟨#[]⟩):Calls Tryz.prog 87 #[.pointer (some ⟨rb,0,none⟩),.string x] w fun e w'=>
  (∃s',e=.returned (.bool true)∧Hid (Env w0 ws w' rb tb cap L s0 s' (t+1) (u+1) vs hs)∧Hid (s.er=0∧s'.er=0))∨e=.returned (.bool false)∧Hid (Env w0 ws w' rb tb cap L s0 s t u vs hs)∧Hid (s.er=0→wdN L s.i≠x):=
 (rIs_any x w E.rd fun _=>hx).mono fun _ _ ⟨hg,b,s',e,hr,he,ht,hf⟩=>by
  cases b with
  | true=>
   obtain ⟨h1,_,h3⟩:=ht rfl;exact .inl ⟨s',e,hid (E.mv hr hg (by have:=E.p1;omega) fun h=>by have:=E.p2 h1;exact ⟨this.1,by omega⟩),hid ⟨h1,he.trans h1⟩⟩
  | false=>
   obtain ⟨rfl,h1⟩:=hf rfl;exact .inr ⟨e,hid (E.mv hr hg E.p1 E.p2),hid h1⟩
theorem Env.need (E:Env w0 ws w rb tb cap L s0 s t u vs hs) (x:ByteArray) (hx:s.er=0→x≠⟨#[]⟩):Calls Tryz.prog 85 #[.pointer (some ⟨rb,0,none⟩),.string x] w fun e w'=>e=.returned (.tuple #[])∧∃s',Hid (Env w0 ws w' rb tb cap L s0 s' t (u+1) vs hs)∧Hid (s'.er=0→s.er=0):=
 (rNeed_any x w E.rd hx).mono fun _ _ ⟨e,hg,s',hr,h1,h2⟩=>⟨e,s',hid (E.mv hr hg (by have:=E.p1;omega) fun h=>by have h3:=h2 h;have:=E.p2 h3.1;exact ⟨this.1,by omega⟩),hid fun h=>(h2 h).1⟩
theorem Env.deeper (E:Env w0 ws w rb tb cap L s0 s t u vs hs):Calls Tryz.prog 130 #[.pointer (some ⟨rb,0,none⟩)] w fun e w'=>e=.returned (.tuple #[])∧∃s',Hid (Env w0 ws w' rb tb cap L s0 s' t u vs hs)∧Hid (s'.er=0→s.er=0):=
 (rDeeper_any w E.rd).mono fun _ _ ⟨e,hg,s',hr,h1,h2⟩=>⟨e,s',hid (E.mv hr hg (by have:=E.p1;omega) fun h=>by have:=E.p2 (h2 h);exact ⟨this.1,by omega⟩),hid h2⟩
theorem Env.name (E:Env w0 ws w rb tb cap L s0 s t u vs hs) (hl:KeptLaid w0):Calls Tryz.prog 86 #[.pointer (some ⟨rb,0,none⟩)] w fun e w'=>∃x s',e=.returned (.string x)∧Hid (x.size≤1000000)∧Hid (Env w0 ws w' rb tb cap L s0 s' t (u+1) vs hs)∧Hid (s'.er=0→s.er=0∧x≠⟨#[]⟩):=
 (rName_any w hl E.rd).mono fun _ _ ⟨hg,x,s',e,hx,hr,h1,h2⟩=>⟨x,s',e,hid hx,hid (E.mv hr hg (by have:=E.p1;omega) fun h=>by have h3:=h2 h;have:=E.p2 h3.1;exact ⟨this.1,by omega⟩),hid fun h=>⟨(h2 h).1,(h2 h).2.2⟩⟩
theorem Env.value (E:Env w0 ws w rb tb cap L s0 s t u vs hs):Calls Tryz.prog 158 #[.pointer (some ⟨rb,0,none⟩)] w fun e w'=>∃v s',e=.returned (.int .i64 v)∧Hid (Env w0 ws w' rb tb cap L s0 s' t (u+1) vs hs)∧Hid (s'.er=0→s.er=0):=
 (rValue_any w E.rd).mono fun _ _ ⟨hg,v,s',e,hr,h1,h2⟩=>⟨v,s',e,hid (E.mv hr hg (by have:=E.p1;omega) fun h=>by have h3:=h2 h;have:=E.p2 h3.1;exact ⟨this.1,by omega⟩),hid fun h=>(h2 h).1⟩
theorem Env.fetch (E:Env w0 ws w rb tb cap L s0 s t u vs hs) (hr:Rd w0 w' rb tb cap L s') (hg:w.grownBy w' (some rb)) (h1:s0.i+t'≤s'.i) (h2:s'.er=0→s0.er=0∧s0.i+u'≤s'.i) {x:Nv} (hx:x.s.size≤maxLen) (hd:Gd (rb+1) w' x.A x.n x.c) (ha:∀b,x.A=some ⟨b,0,none⟩→w.heap.size≤b∧b<w'.heap.size):Env w0 ws w' rb tb cap L s0 s' t' u' vs (x::hs):=by
 have E1:=E.mv hr hg h1 h2;have hlt:=E.gr.size;refine { E1 with okh:=fun y hy=>?_ };rcases List.mem_cons.1 hy with rfl | h
 ·exact ⟨hx,hd,fun b e=>⟨by have:=ha b e;omega,(ha b e).2,fun h=>by have:=ha b e;have:=(gs_lt E _ h).2;omega⟩⟩
 ·exact E1.okh y h
theorem Env.call (E:Env w0 ws w rb tb cap L s0 s t u vs hs) {f:FuncId} {args:Array Value} (h:Calls Tryz.prog f args w (NPost w0 w rb tb cap L s)):Calls Tryz.prog f args w fun e w'=>∃k x p q A n c s',e=.returned (nd k x p q A n c)∧Hid (Env w0 ws w' rb tb cap L s0 s' t (u+1) vs (⟨k,x,p,q,A,n,c⟩::hs))∧Hid (s'.er=0→s.er=0):=
 h.mono fun _ _ ⟨hg,k,x,p,q,A,n,c,s',e,hr,h1,h2,hx,hd,ha⟩=>⟨k,x,p,q,A,n,c,s',e,hid (E.fetch hr hg (by have:=E.p1;omega) (fun h=>by have h3:=h2 h;have:=E.p2 h3.1;exact ⟨this.1,by omega⟩) hx hd ha),hid fun h=>(h2 h).1⟩
theorem Env.calll (E:Env w0 ws w rb tb cap L s0 s t u vs hs) {f:FuncId} {args:Array Value} (h:Calls Tryz.prog f args w (LPost w0 w rb tb cap L s)):Calls Tryz.prog f args w fun e w'=>∃A n c s',e=.returned (.slice A n c)∧Hid (Env w0 ws w' rb tb cap L s0 s' t u vs (sl A n c::hs))∧Hid (s'.er=0→s.er=0)∧Hid (n≤3000000):=
 h.mono fun _ _ ⟨hg,A,n,c,s',e,hr,h1,h2,hn,hd,ha⟩=>⟨A,n,c,s',e,hid (E.fetch hr hg (by have:=E.p1;omega) (fun h=>by have h3:=h2 h;have:=E.p2 h3;exact ⟨this.1,by omega⟩) (Nat.zero_le _) hd ha),hid h2,hid hn⟩
theorem setCell_alloc {g j:Nat} {v:Value} {o:Obj} (h:g<w.heap.size):(w.alloc o).setCell ⟨g,j,none⟩ v=(w.setCell ⟨g,j,none⟩ v).alloc o:=by
 unfold World.setCell World.alloc;simp only [World.mk.injEq,and_true,true_and];apply Array.ext_getElem?;intro i;simp only [Array.getElem?_modify,Array.getElem?_push,Array.size_modify];by_cases h1:g=i
 ·subst h1;simp [Nat.ne_of_lt h]
 ·simp [h1]
theorem Env.as {k p q k' p' q':Int} {x x':ByteArray} {A:Option Addr} {n c:Nat} (E:Env w0 ws w rb tb cap L s0 s t u vs (⟨k',x',p',q',A,n,c⟩::hs)) (hx:x.size≤1000000):Env w0 ws w rb tb cap L s0 s t u vs (⟨k,x,p,q,A,n,c⟩::hs):=
 have h1:=E.okh _ (List.mem_cons_self ..)
 { E with okh:=fun y hy=>(List.mem_cons.1 hy).elim (fun e=>e ▸ ⟨by unfold maxLen;show x.size≤_;omega,h1.gd,h1.at'⟩) fun h=>E.okh y (List.mem_cons_of_mem _ h) }
theorem Env.lit' (ms:List Nv) {arr:Array Value} {m:Nat} (E:Env w0 ws w rb tb cap L s0 s t u vs (ms++hs)) (ha:(flat5 ms).toArray=arr) (hm:ms.length=m) (h:m≤1000):Env w0 ws (w.alloc (.cells arr 24)) rb tb cap L s0 s t u vs (sl (some ⟨w.heap.size,0,none⟩) m m::hs):=by
 subst ha hm;exact E.lit ms h
/-- A list written out becomes a variable's. -/
theorem Env.lit4 (pre:List (Nat × Nv)) (ms:List Nv) {arr:Array Value} {m:Nat} {g k p q n c:_} {x:ByteArray} {A:Option Addr} (E:Env w0 ws w rb tb cap L s0 s t u (pre++(g,⟨k,x,p,q,A,n,c⟩)::post) (ms++hs)) (ha:(flat5 ms).toArray=arr) (hm:ms.length=m) (h:m≤1000):
  Env w0 ws ((w.setCell ⟨g,4,none⟩ (.slice (some ⟨w.heap.size,0,none⟩) m m)).alloc (.cells arr 24)) rb tb cap L s0 s t u (pre++(g,⟨k,x,p,q,some ⟨w.heap.size,0,none⟩,m,m⟩)::post) hs:=by
 have:=(E.lit' ms ha hm h).put4 pre
 rwa [setCell_alloc (gs_lt E g (by simp [gsOf])).2] at this
/-- A node with a list written out becomes a variable's value. -/
theorem Env.lit5 (pre:List (Nat × Nv)) (ms:List Nv) {arr:Array Value} {m:Nat} {g k p q n c k' p' q':_} {x x':ByteArray} {A:Option Addr} (E:Env w0 ws w rb tb cap L s0 s t u (pre++(g,⟨k,x,p,q,A,n,c⟩)::post) (ms++hs)) (ha:(flat5 ms).toArray=arr) (hm:ms.length=m) (h:m≤1000) (hx:x'.size≤1000000):
  Env w0 ws ((((((w.setCell ⟨g,0,none⟩ (.int .i64 k')).setCell ⟨g,1,none⟩ (.string x')).setCell ⟨g,2,none⟩ (.int .i64 p')).setCell ⟨g,3,none⟩ (.int .i64 q')).setCell ⟨g,4,none⟩ (.slice (some ⟨w.heap.size,0,none⟩) m m)).alloc (.cells arr 24)) rb tb cap L s0 s t u (pre++(g,⟨k',x',p',q',some ⟨w.heap.size,0,none⟩,m,m⟩)::post) hs:=by
 have hg:=(gs_lt E g (by simp [gsOf])).2;have:=((E.lit' ms ha hm h).as (k:=k') (p:=p') (q:=q') hx).put5 pre;simpa only [setCell_alloc,World.size_setCell,hg] using this
theorem Env.one4 (pre:List (Nat × Nv)) {g:Nat} {k p q:Int} {x:ByteArray} {A:Option Addr} {n c:Nat} {k1 p1 q1:Int} {x1:ByteArray} {A1:Option Addr} {n1 c1:Nat} (E:Env w0 ws w rb tb cap L s0 s t u (pre++(g,⟨k,x,p,q,A,n,c⟩)::post) (⟨k1,x1,p1,q1,A1,n1,c1⟩::hs)):
  Env w0 ws ((w.setCell ⟨g,4,none⟩ (.slice (some ⟨w.heap.size,0,none⟩) 1 1)).alloc (.cells #[.int .i64 k1,.string x1,.int .i64 p1,.int .i64 q1,.slice A1 n1 c1] 24)) rb tb cap L s0 s t u (pre++(g,⟨k,x,p,q,some ⟨w.heap.size,0,none⟩,1,1⟩)::post) hs:=E.lit4 pre [⟨k1,x1,p1,q1,A1,n1,c1⟩] rfl rfl (by decide)
theorem Env.two4 (pre:List (Nat × Nv)) {g:Nat} {k p q:Int} {x:ByteArray} {A:Option Addr} {n c:Nat} {k1 p1 q1 k2 p2 q2:Int} {x1 x2:ByteArray} {A1 A2:Option Addr} {n1 c1 n2 c2:Nat} (E:Env w0 ws w rb tb cap L s0 s t u (pre++(g,⟨k,x,p,q,A,n,c⟩)::post) (⟨k1,x1,p1,q1,A1,n1,c1⟩::⟨k2,x2,p2,q2,A2,n2,c2⟩::hs)):
  Env w0 ws ((w.setCell ⟨g,4,none⟩ (.slice (some ⟨w.heap.size,0,none⟩) 2 2)).alloc (.cells #[.int .i64 k1,.string x1,.int .i64 p1,.int .i64 q1,.slice A1 n1 c1,.int .i64 k2,.string x2,.int .i64 p2,.int .i64 q2,.slice A2 n2 c2] 24)) rb tb cap L s0 s t u (pre++(g,⟨k,x,p,q,some ⟨w.heap.size,0,none⟩,2,2⟩)::post) hs:=E.lit4 pre [⟨k1,x1,p1,q1,A1,n1,c1⟩,⟨k2,x2,p2,q2,A2,n2,c2⟩] rfl rfl (by decide)
theorem Env.four4 (pre:List (Nat × Nv)) {g:Nat} {k p q:Int} {x:ByteArray} {A:Option Addr} {n c:Nat} {k1 p1 q1 k2 p2 q2 k3 p3 q3 k4 p4 q4:Int} {x1 x2 x3 x4:ByteArray} {A1 A2 A3 A4:Option Addr} {n1 c1 n2 c2 n3 c3 n4 c4:Nat} (E:Env w0 ws w rb tb cap L s0 s t u (pre++(g,⟨k,x,p,q,A,n,c⟩)::post) (⟨k1,x1,p1,q1,A1,n1,c1⟩::⟨k2,x2,p2,q2,A2,n2,c2⟩::⟨k3,x3,p3,q3,A3,n3,c3⟩::⟨k4,x4,p4,q4,A4,n4,c4⟩::hs)):
  Env w0 ws ((w.setCell ⟨g,4,none⟩ (.slice (some ⟨w.heap.size,0,none⟩) 4 4)).alloc (.cells #[.int .i64 k1,.string x1,.int .i64 p1,.int .i64 q1,.slice A1 n1 c1,.int .i64 k2,.string x2,.int .i64 p2,.int .i64 q2,.slice A2 n2 c2,.int .i64 k3,.string x3,.int .i64 p3,.int .i64 q3,.slice A3 n3 c3,.int .i64 k4,.string x4,.int .i64 p4,.int .i64 q4,.slice A4 n4 c4] 24)) rb tb cap L s0 s t u (pre++(g,⟨k,x,p,q,some ⟨w.heap.size,0,none⟩,4,4⟩)::post) hs:=E.lit4 pre [⟨k1,x1,p1,q1,A1,n1,c1⟩,⟨k2,x2,p2,q2,A2,n2,c2⟩,⟨k3,x3,p3,q3,A3,n3,c3⟩,⟨k4,x4,p4,q4,A4,n4,c4⟩] rfl rfl (by decide)
theorem Env.one5 (pre:List (Nat × Nv)) {g:Nat} {k p q:Int} {x:ByteArray} {A:Option Addr} {n c:Nat} {k' p' q':Int} {x':ByteArray} {k1 p1 q1:Int} {x1:ByteArray} {A1:Option Addr} {n1 c1:Nat} (E:Env w0 ws w rb tb cap L s0 s t u (pre++(g,⟨k,x,p,q,A,n,c⟩)::post) (⟨k1,x1,p1,q1,A1,n1,c1⟩::hs)) (hx:x'.size≤1000000):
  Env w0 ws ((((((w.setCell ⟨g,0,none⟩ (.int .i64 k')).setCell ⟨g,1,none⟩ (.string x')).setCell ⟨g,2,none⟩ (.int .i64 p')).setCell ⟨g,3,none⟩ (.int .i64 q')).setCell ⟨g,4,none⟩ (.slice (some ⟨w.heap.size,0,none⟩) 1 1)).alloc (.cells #[.int .i64 k1,.string x1,.int .i64 p1,.int .i64 q1,.slice A1 n1 c1] 24)) rb tb cap L s0 s t u (pre++(g,⟨k',x',p',q',some ⟨w.heap.size,0,none⟩,1,1⟩)::post) hs:=E.lit5 pre [⟨k1,x1,p1,q1,A1,n1,c1⟩] rfl rfl (by decide) hx
theorem Env.two5 (pre:List (Nat × Nv)) {g:Nat} {k p q:Int} {x:ByteArray} {A:Option Addr} {n c:Nat} {k' p' q':Int} {x':ByteArray} {k1 p1 q1 k2 p2 q2:Int} {x1 x2:ByteArray} {A1 A2:Option Addr} {n1 c1 n2 c2:Nat} (E:Env w0 ws w rb tb cap L s0 s t u (pre++(g,⟨k,x,p,q,A,n,c⟩)::post) (⟨k1,x1,p1,q1,A1,n1,c1⟩::⟨k2,x2,p2,q2,A2,n2,c2⟩::hs)) (hx:x'.size≤1000000):
  Env w0 ws ((((((w.setCell ⟨g,0,none⟩ (.int .i64 k')).setCell ⟨g,1,none⟩ (.string x')).setCell ⟨g,2,none⟩ (.int .i64 p')).setCell ⟨g,3,none⟩ (.int .i64 q')).setCell ⟨g,4,none⟩ (.slice (some ⟨w.heap.size,0,none⟩) 2 2)).alloc (.cells #[.int .i64 k1,.string x1,.int .i64 p1,.int .i64 q1,.slice A1 n1 c1,.int .i64 k2,.string x2,.int .i64 p2,.int .i64 q2,.slice A2 n2 c2] 24)) rb tb cap L s0 s t u (pre++(g,⟨k',x',p',q',some ⟨w.heap.size,0,none⟩,2,2⟩)::post) hs:=E.lit5 pre [⟨k1,x1,p1,q1,A1,n1,c1⟩,⟨k2,x2,p2,q2,A2,n2,c2⟩] rfl rfl (by decide) hx
theorem Env.one {k1 p1 q1:Int} {x1:ByteArray} {A1:Option Addr} {n1 c1:Nat} (E:Env w0 ws w rb tb cap L s0 s t u vs (⟨k1,x1,p1,q1,A1,n1,c1⟩::hs)):Env w0 ws (w.alloc (.cells #[.int .i64 k1,.string x1,.int .i64 p1,.int .i64 q1,.slice A1 n1 c1] 24)) rb tb cap L s0 s t u vs (sl (some ⟨w.heap.size,0,none⟩) 1 1::hs):=E.lit' [⟨k1,x1,p1,q1,A1,n1,c1⟩] rfl rfl (by decide)
theorem Env.two {k1 p1 q1 k2 p2 q2:Int} {x1 x2:ByteArray} {A1 A2:Option Addr} {n1 c1 n2 c2:Nat} (E:Env w0 ws w rb tb cap L s0 s t u vs (⟨k1,x1,p1,q1,A1,n1,c1⟩::⟨k2,x2,p2,q2,A2,n2,c2⟩::hs)):Env w0 ws (w.alloc (.cells #[.int .i64 k1,.string x1,.int .i64 p1,.int .i64 q1,.slice A1 n1 c1,.int .i64 k2,.string x2,.int .i64 p2,.int .i64 q2,.slice A2 n2 c2] 24)) rb tb cap L s0 s t u vs (sl (some ⟨w.heap.size,0,none⟩) 2 2::hs):=E.lit' [⟨k1,x1,p1,q1,A1,n1,c1⟩,⟨k2,x2,p2,q2,A2,n2,c2⟩] rfl rfl (by decide)
theorem Env.four {k1 p1 q1 k2 p2 q2 k3 p3 q3 k4 p4 q4:Int} {x1 x2 x3 x4:ByteArray} {A1 A2 A3 A4:Option Addr} {n1 c1 n2 c2 n3 c3 n4 c4:Nat} (E:Env w0 ws w rb tb cap L s0 s t u vs (⟨k1,x1,p1,q1,A1,n1,c1⟩::⟨k2,x2,p2,q2,A2,n2,c2⟩::⟨k3,x3,p3,q3,A3,n3,c3⟩::⟨k4,x4,p4,q4,A4,n4,c4⟩::hs)):Env w0 ws (w.alloc (.cells #[.int .i64 k1,.string x1,.int .i64 p1,.int .i64 q1,.slice A1 n1 c1,.int .i64 k2,.string x2,.int .i64 p2,.int .i64 q2,.slice A2 n2 c2,.int .i64 k3,.string x3,.int .i64 p3,.int .i64 q3,.slice A3 n3 c3,.int .i64 k4,.string x4,.int .i64 p4,.int .i64 q4,.slice A4 n4 c4] 24)) rb tb cap L s0 s t u vs (sl (some ⟨w.heap.size,0,none⟩) 4 4::hs):=E.lit' [⟨k1,x1,p1,q1,A1,n1,c1⟩,⟨k2,x2,p2,q2,A2,n2,c2⟩,⟨k3,x3,p3,q3,A3,n3,c3⟩,⟨k4,x4,p4,q4,A4,n4,c4⟩] rfl rfl (by decide)
/-- A new variable behind a list written out. -/
theorem Env.onenew {k p q:Int} {x:ByteArray} {k1 p1 q1:Int} {x1:ByteArray} {A1:Option Addr} {n1 c1:Nat} (E:Env w0 ws w rb tb cap L s0 s t u vs (⟨k1,x1,p1,q1,A1,n1,c1⟩::hs)) (hx:x.size≤maxLen):Env w0 ws ((w.alloc (.cells #[.int .i64 k1,.string x1,.int .i64 p1,.int .i64 q1,.slice A1 n1 c1] 24)).alloc (row5 k x p q (some ⟨w.heap.size,0,none⟩) 1 1)) rb tb cap L s0 s t u ((w.heap.size+1,⟨k,x,p,q,some ⟨w.heap.size,0,none⟩,1,1⟩)::vs) hs:=by
 have:=E.one.new (k:=k) (p:=p) (q:=q) hx
 rwa [show (w.alloc (.cells #[.int .i64 k1,.string x1,.int .i64 p1,.int .i64 q1,.slice A1 n1 c1] 24)).heap.size=w.heap.size+1 by simp] at this
/-- A new variable for the node that came last. -/
theorem Env.var {k p q:Int} {x:ByteArray} {A:Option Addr} {n c:Nat} (E:Env w0 ws w rb tb cap L s0 s t u vs (⟨k,x,p,q,A,n,c⟩::hs)):Env w0 ws (w.alloc (row5 k x p q A n c)) rb tb cap L s0 s t u ((w.heap.size,⟨k,x,p,q,A,n,c⟩)::vs) hs:=E.new (E.okh _ (List.mem_cons_self ..)).sm
theorem Env.on {ws' wr:World} {sr:St} {vs':List (Nat × Nv)} {hs':List Nv} (E:Env w0 ws' wr rb tb cap L s0 sr t' u' vs' hs') (E':Env w0 ws w rb tb cap L sr s t u vs hs):Env w0 ws w rb tb cap L s0 s t' u' vs hs:=
 { E' with p1:=by have:=E.p1;have:=E'.p1;omega,p2:=fun h=>by have a:=E'.p2 h;have b:=E.p2 a.1;exact ⟨b.1,by omega⟩ }
theorem Env.isin (E:Env w0 ws w rb tb cap L s0 s t u vs hs) (x:ByteArray) (l:List (List UInt8)) (hl:(wordsOf l).length≤65536) (hn:∀y∈l,y≠[]) {c:Nat} {arr:Array Value} {T:TypeId} (ha:arr=((wordsOf l).map Value.string).toArray):Calls Tryz.prog 77 #[.string x,.slice (some ⟨w.heap.size,0,none⟩) (wordsOf l).length c] (w.alloc (.cells arr T)) fun e w'=>
  ∃b,e=.returned (.bool b)∧Hid (b=true→x≠⟨#[]⟩)∧Hid (Env w0 ws w' rb tb cap L s0 s t u vs hs):=
 (in_any x w.heap.size 0 c (wordsOf l) _ hl (lit_cells w (wordsOf l) arr T ha)).mono fun _ _ ⟨h1,h2⟩=>⟨_,h1,hid fun hb e=>by
  subst e;obtain ⟨y,hy,he⟩:=List.any_eq_true.1 hb;obtain ⟨z,hz,rfl⟩:=List.mem_map.1 hy;rw [beq_iff_eq] at he;have:=congrArg (fun b:ByteArray=>b.data.toList) he;simp at this;exact hn z hz this,hid (h2 ▸ E.quiet (bBw _ _))⟩
/-- The world gets a name. -/
theorem Env.nm (E:Env w0 ws w rb tb cap L s0 s t u vs hs):∃w9,w=w9∧Hid (Env w0 ws w9 rb tb cap L s0 s t u vs hs):=⟨w,rfl,hid E⟩
theorem Env.dec (E:Env w0 ws w rb tb cap L s0 s t u vs hs):Env w0 ws (w.setCell ⟨rb,2,none⟩ (.int .i64 (wrap64 (s.dp - 1)))) rb tb cap L s0 { s with dp:=wrap64 (s.dp - 1) } t u vs hs:=E.mv (E.rd.put2 _) (grown_setCell w rb 2 _) E.p1 E.p2
theorem Env.rds (E:Env w0 ws w rb tb cap L s0 s t u vs hs):(w.cell? ⟨rb,1,none⟩=some (.int .i64 s.i)∧w.cell? ⟨rb,2,none⟩=some (.int .i64 s.dp))∧w.frozen? ⟨rb,1,none⟩=false∧w.frozen? ⟨rb,2,none⟩=false:=⟨⟨E.rd.c1,E.rd.c2⟩,E.rd.fz 1,E.rd.fz 2⟩
theorem Env.bad (E:Env w0 ws w rb tb cap L s0 s t u vs hs) (h:s.er≠0):Env w0 ws w rb tb cap L s0 s t (u+1) vs hs:={ E with p2:=fun e=>absurd e h }
/-- A variable is forgotten. -/
theorem Env.drop {v:Nat × Nv} (E:Env w0 ws w rb tb cap L s0 s t u (v::vs) hs):Env w0 ws w rb tb cap L s0 s t u vs []:=
 ⟨E.rd,E.gr,E.rlt,E.tlt,fun v hv=>E.va v (List.mem_cons_of_mem _ hv),(List.nodup_cons.1 E.ndp).2,fun v hv=>have h:=E.okv v (List.mem_cons_of_mem _ hv);⟨h.sm,h.gd,fun b e=>⟨(h.at' b e).1,(h.at' b e).2.1,fun hm=>(h.at' b e).2.2 (List.mem_cons_of_mem _ hm)⟩⟩,(fun x hx=>by cases hx),E.p1,E.p2⟩
/-- How long a list is that is being gathered. -/
def Ln (n:Nat) (s:St):Prop:=(s.er=0→n≤2*s.i)∧n≤2*s.i+2
theorem Ln.push {n m:Nat} {sr:St} (h:Ln n sr) (he:sr.er=0) (E:Env w0 ws w rb tb cap L sr s t u vs hs) (hu:1≤u) (hm:m≤2):Ln (n+m) s:=by
 have a:=h.1 he;have b:=E.p1;exact ⟨fun h=>by have:=E.p2 h;omega,by omega⟩
theorem Ln.le {n:Nat} (h:Ln n s) (E:Env w0 ws w rb tb cap L s0 s t u vs hs):n≤3000000:=by have:=h.2;have:=E.rd.lt;have:=E.rd.toks.len;omega
theorem Env.lpost {k p q:Int} {x:ByteArray} {A:Option Addr} {n c:Nat} (E:Env w0 ws w rb tb cap L s0 s t u vs (⟨k,x,p,q,A,n,c⟩::hs)) (hn:n≤3000000):LPost w0 ws rb tb cap L s0 (.returned (.slice A n c)) w:=
 have h:=E.okh _ (List.mem_cons_self ..)
 ⟨E.gr,A,n,c,s,rfl,E.rd,by have:=E.p1;omega,fun h=>(E.p2 h).1,hn,h.gd,fun b e=>⟨(h.at' b e).1,(h.at' b e).2.1⟩⟩
/-- The next operation stores a node into the result's variable. -/
theorem Env.store {ops:Array Oper} {rest:List Oper} {x y:Tmp} {ty:TypeId} {pos:String} {after:Array Edge} {a:Act} {Q:Exit→Act→World→Prop} {k p q:Int} {m:ByteArray} {A:Option Addr} {n c:Nat} (E:Env w0 ws w rb tb cap L s0 s t u vs hs) (hm:(ws.heap.size,sl none 0 0)∈vs) (hx:a.eval (.tmp x)=.pointer (some ⟨ws.heap.size,0,none⟩)) (hy:a.eval (.tmp y)=nd k m p q A n c)
  (h:wpList Tryz.prog ops Q rest a (w.setRow ws.heap.size #[.int .i64 k,.string m,.int .i64 p,.int .i64 q,.slice A n c])):wpList Tryz.prog ops Q (⟨none,.store 24 (.tmp x) (.tmp y),ty,pos,after,none⟩::rest) a w:=by
 have:=(E.ze hm).store ⟨k,m,p,q,List.replicate n ⟨0,m,0,0,[]⟩⟩ A c (ops:=ops) (rest:=rest) (x:=x) (y:=y) (ty:=ty) (pos:=pos) (after:=after) (a:=a) (Q:=Q) hx;simp only [List.length_replicate] at this;exact this hy h
theorem Ln.init (n:Nat) (E:Env w0 ws w rb tb cap L s0 s t u vs hs) (h1:n≤2*u) (h2:n≤2):Ln n s:=⟨fun h=>by have:=E.p2 h;omega,by omega⟩
/-- What a method that makes a node leaves, if it may take no word. -/
def MPost (w0 ws:World) (rb tb cap:Nat) (L:List (ByteArray × Int)) (s0:St) (e:Ending) (w:World):Prop:=
 ws.grownBy w (some rb)∧∃k s p q A n c s',e=.returned (nd k s p q A n c)∧Rd w0 w rb tb cap L s'∧s0.i≤s'.i∧(s'.er=0→s0.er=0)∧s.size≤maxLen∧Gd (rb+1) w A n c∧∀b,A=some ⟨b,0,none⟩→ws.heap.size≤b∧b<w.heap.size
theorem Env.retR {R:Ending→World→Prop} {k p q:Int} {m:ByteArray} {A:Option Addr} {n c:Nat} (E:Env w0 ws w rb tb cap L s0 s t u vs (⟨k,m,p,q,A,n,c⟩::hs)) {fn:Func} {r:Tmp} (h:fn.results=#[.cell r 24]) {a:Act} (hp:a.tmps.getD r undef=.pointer (some ⟨ws.heap.size,0,none⟩)) (hd:a.defers=[]) (hm:(ws.heap.size,sl none 0 0)∈vs)
  (hR:∀W,ws.grownBy W (some rb)→Rd w0 W rb tb cap L s→m.size≤maxLen→Gd (rb+1) W A n c→(∀b,A=some ⟨b,0,none⟩→ws.heap.size≤b∧b<W.heap.size)→R (.returned (nd k m p q A n c)) W):
  bodyPost Tryz.prog fn R .ret a (w.setRow ws.heap.size #[.int .i64 k,.string m,.int .i64 p,.int .i64 q,.slice A n c]):=by
 have e:(List.replicate n (⟨0,m,0,0,[]⟩:Nd)).length=n:=List.length_replicate ..;have hg:w.grownBy (w.setRow ws.heap.size #[.int .i64 k,.string m,.int .i64 p,.int .i64 q,.slice A n c]) (some ws.heap.size):=⟨rfl,rfl,rfl,by simp,fun k _ hne=>setRow_other w _ _ (by simpa using hne)⟩;have h1:=ret_node (fn:=fn) (p:=r) h a.tmps _ hp ((E.ze hm).node ⟨k,m,p,q,List.replicate n ⟨0,m,0,0,[]⟩⟩ A c);rw [e] at h1;have ho:=E.okh _ (List.mem_cons_self ..);have hrl:=E.rlt;have htl:=E.tlt;have hlo:=E.rd.lo
 have up:Up (rb+1) w (w.setRow ws.heap.size #[.int .i64 k,.string m,.int .i64 p,.int .i64 q,.slice A n c]):=by
  obtain ⟨a0,a1,a2,a3,a4,hz⟩:=(E.ze hm).row;have hz':=setRow_heap w ws.heap.size _ #[.int .i64 k,.string m,.int .i64 p,.int .i64 q,.slice A n c] _ _ hz;refine .but hg fun g e _ _=>?_;injection e with e;subst e;refine ⟨fun _ j=>frozen_of_row _ _ _ _ _ hz',fun j hj=>?_,fun i k2 s2 p2 q2 A2 n2 c2 r hs2=>?_⟩
  ·rw [cell_of_row _ _ _ _ _ _ hz] at hj;rw [cell_of_row _ _ _ _ _ _ hz'];rcases Nat.lt_or_ge j 5 with h5 | h5
   ·simp [h5]
   ·simp [show ¬j<5 by omega] at hj
  ·have h4:=r.c4;rw [cell_of_row _ _ _ _ _ _ hz] at h4
   have hi:i=0:=by
    rcases Nat.lt_or_ge (i*5+4) 5 with h5 | h5
    ·omega
    ·rw [Array.getElem?_eq_none (by simpa using h5)] at h4;cases h4
   subst hi;exact ⟨_,_,_,_,_,_,_,r5_of_row hz',ho.sm,.inr ho.gd⟩
 exact bodyPost_ret h1 hd (hR _ ⟨E.gr.os,E.gr.tape,E.gr.output,by simpa using E.gr.size,fun b hb hne=>(setRow_other w _ _ (by omega)).trans (E.gr.block b hb hne)⟩ (E.rd.grown hg (by simp;omega) (by simp;omega) (by simp;omega)) ho.sm (up.gd ho.gd) fun b e=>⟨(ho.at' b e).1,by simpa using (ho.at' b e).2.1⟩)
theorem Env.ret {k p q:Int} {m:ByteArray} {A:Option Addr} {n c:Nat} (E:Env w0 ws w rb tb cap L s0 s t u vs (⟨k,m,p,q,A,n,c⟩::hs)) {fn:Func} {r:Tmp} (h:fn.results=#[.cell r 24]) {a:Act} (hp:a.tmps.getD r undef=.pointer (some ⟨ws.heap.size,0,none⟩)) (hd:a.defers=[]) (hm:(ws.heap.size,sl none 0 0)∈vs) (hu:1≤u):
  bodyPost Tryz.prog fn (NPost w0 ws rb tb cap L s0) .ret a (w.setRow ws.heap.size #[.int .i64 k,.string m,.int .i64 p,.int .i64 q,.slice A n c]):=
 E.retR h hp hd hm fun W h1 h2 h3 h4 h5=>⟨h1,k,m,p,q,A,n,c,s,rfl,h2,by have:=E.p1;omega,fun h=>⟨(E.p2 h).1,by have:=(E.p2 h).2;omega⟩,h3,h4,h5⟩
theorem Env.mret {k p q:Int} {m:ByteArray} {A:Option Addr} {n c:Nat} (E:Env w0 ws w rb tb cap L s0 s t u vs (⟨k,m,p,q,A,n,c⟩::hs)) {fn:Func} {r:Tmp} (h:fn.results=#[.cell r 24]) {a:Act} (hp:a.tmps.getD r undef=.pointer (some ⟨ws.heap.size,0,none⟩)) (hd:a.defers=[]) (hm:(ws.heap.size,sl none 0 0)∈vs):
  bodyPost Tryz.prog fn (MPost w0 ws rb tb cap L s0) .ret a (w.setRow ws.heap.size #[.int .i64 k,.string m,.int .i64 p,.int .i64 q,.slice A n c]):=
 E.retR h hp hd hm fun W h1 h2 h3 h4 h5=>⟨h1,k,m,p,q,A,n,c,s,rfl,h2,by have:=E.p1;omega,fun h=>(E.p2 h).1,h3,h4,h5⟩
theorem Env.mcall (E:Env w0 ws w rb tb cap L s0 s t u vs hs) {f:FuncId} {args:Array Value} (h:Calls Tryz.prog f args w (MPost w0 w rb tb cap L s)):Calls Tryz.prog f args w fun e w'=>∃k x p q A n c s',e=.returned (nd k x p q A n c)∧Hid (Env w0 ws w' rb tb cap L s0 s' t u vs (⟨k,x,p,q,A,n,c⟩::hs))∧Hid (s'.er=0→s.er=0):=
 h.mono fun _ _ ⟨hg,k,x,p,q,A,n,c,s',e,hr,h1,h2,hx,hd,ha⟩=>⟨k,x,p,q,A,n,c,s',e,hid (E.fetch hr hg (by have:=E.p1;omega) (fun h=>by have h3:=h2 h;have:=E.p2 h3;exact ⟨this.1,by omega⟩) hx hd ha),hid h2⟩
end
theorem m0 {α:Type} {x:α} {l:List α}:x∈x::l:=List.mem_cons_self ..
theorem m1 {α:Type} {x y:α} {l:List α}:x∈y::x::l:=List.mem_cons_of_mem _ m0
theorem m2 {α:Type} {x y z:α} {l:List α}:x∈y::z::x::l:=List.mem_cons_of_mem _ m1
/-- A method serves where fewer than m words are left. -/
def Srv (f:FuncId) (w0:World) (rb tb cap:Nat) (L:List (ByteArray × Int)) (m:Nat):Prop:=
 ∀(w:World) (s:St),Rd w0 w rb tb cap L s→L.length - s.i<m→Calls Tryz.prog f #[.pointer (some ⟨rb,0,none⟩)] w (NPost w0 w rb tb cap L s)
/-- The reader's place, read off its memory; more where nothing is wrong. -/
def mOf (L:List (ByteArray × Int)) (w:World) (rb:Nat):Nat:=
 match w.cell? ⟨rb,1,none⟩,w.cell? ⟨rb,3,none⟩ with
 | some (.int _ n),some (.int _ e)=>2*(L.length - n.toNat)+(if e=0 then 1 else 0)
 | _,_=>0
theorem mOf_eq {w0 w:World} {rb tb cap:Nat} {L:List (ByteArray × Int)} {s:St} (h:Rd w0 w rb tb cap L s):mOf L w rb=2*(L.length - s.i)+(if s.er=0 then 1 else 0):=by simp [mOf,h.c1,h.c3]
theorem mOf_lt {w0 ws w wr ws':World} {rb tb cap:Nat} {L:List (ByteArray × Int)} {s0 sr s:St} {t u t' u':Nat} {vs vs':List (Nat × Nv)} {hs hs':List Nv} (E:Env w0 ws wr rb tb cap L s0 sr t' u' vs' hs') (E':Env w0 ws' w rb tb cap L sr s t u vs hs) (hu:1≤u) (he:sr.er=0):mOf L w rb<mOf L wr rb:=by
 rw [mOf_eq E.rd,mOf_eq E'.rd,if_pos he];have h1:=E'.p1;have h2:=E'.rd.lt;have h3:=E.rd.lt;split
 ·rename_i h;have:=E'.p2 h;omega
 ·omega
end
section
open Go.RowKit Go.BigFrame
set_option maxRecDepth 100000 in
set_option maxHeartbeats 2000000 in
theorem typeName_srv {w0:World} {rb tb cap:Nat} {L:List (ByteArray × Int)} {m:Nat} (hl:KeptLaid w0):Srv 129 w0 rb tb cap L m:=by
 intro w s hr _;have E0:=hid (env_start hr);have HL:=hid hl;clear hr hl;go_enter Tryz.func129,Tryz.ntmps129;go_wp2_with fail;refine E0.out.at.mono ?_;rintro e w2 ⟨rfl,E2⟩;go_wp2_with fail;refine ((E2.out.nil.new (Nat.zero_le _)).name HL.out).mono ?_;rintro e w4 ⟨x,s4,rfl,hx,E4,H4⟩;have v:=E4.out.facts [];go_wp2_with fail;refine ((E4.out.put1 [] x hx.out).is ⟨#[46]⟩ nofun).mono ?_;rintro e w6 (⟨s6,rfl,E6,H6⟩ | ⟨rfl,E6,H6⟩)
 all_goals have v:=E6.out.facts []
 ·go_wp2_with fail;refine ((((E6.out.nil.as (Nat.le_trans hx.out (Nat.le_refl _))).one4 [])).name HL.out).mono ?_;rintro e w8 ⟨y,s8,rfl,hy,E8,H8⟩;have v:=E8.out.facts [];have E9:=hid (E8.out.put1 [] y hy.out);have v9:=E9.out.facts [];go_wp2_with (with_reducible refine at_store2 ?_;refine E9.out.store (by simp) rfl rfl ?_);exact (E9.out.get []).ret rfl rfl rfl (by simp) (Nat.le_add_left ..)
 ·go_wp2_with (with_reducible refine at_store2 ?_;refine E6.out.store (by simp) rfl rfl ?_);exact (E6.out.get []).ret rfl rfl rfl (by simp) (Nat.le_add_left ..)
end
section
open Go.RowKit Go.BigFrame
/-- A method serves, however many words are left. -/
def Srt (f:FuncId) (args:List Value) (w0:World) (rb tb cap:Nat) (L:List (ByteArray × Int)):Prop:=
 ∀(w:World) (s:St),Rd w0 w rb tb cap L s→Calls Tryz.prog f (.pointer (some ⟨rb,0,none⟩)::args).toArray w (NPost w0 w rb tb cap L s)
theorem Srv.all {f:FuncId} {w0:World} {rb tb cap:Nat} {L:List (ByteArray × Int)} (h:∀m,Srv f w0 rb tb cap L m):Srt f [] w0 rb tb cap L:=fun w s hr=>h (L.length - s.i+1) w s hr (Nat.lt_succ_self _)
def SrvM (f:FuncId) (w0:World) (rb tb cap:Nat) (L:List (ByteArray × Int)) (m:Nat):Prop:=
 ∀(w:World) (s:St),Rd w0 w rb tb cap L s→L.length - s.i<m→Calls Tryz.prog f #[.pointer (some ⟨rb,0,none⟩)] w (MPost w0 w rb tb cap L s)
/-- r.i++ -/
theorem Env.inc {w0 ws w:World} {rb tb cap:Nat} {L:List (ByteArray × Int)} {s0 s:St} {t u:Nat} {vs:List (Nat × Nv)} {hs:List Nv} (E:Env w0 ws w rb tb cap L s0 s t u vs hs) (hw:wdN L s.i≠⟨#[]⟩):Env w0 ws (w.setCell ⟨rb,1,none⟩ (.int .i64 ((s.i:Int)+1))) rb tb cap L s0 { s with i:=s.i+1 } (t+1) (u+1) vs hs:=
 E.mv (E.rd.put1 (s.i+1) (word_more E.rd.toks E.rd.lt hw)) (grown_setCell w rb 1 _) (by have:=E.p1;simp only;omega) fun h=>⟨(E.p2 h).1,by have:=(E.p2 h).2;simp only;omega⟩
theorem ne_of_list {x:ByteArray} {a:UInt8} {l:List UInt8} (h:x.toList=a::l):x≠⟨#[]⟩:=by
 rintro rfl;simp [ByteArray.toList_eq] at h
section
variable {w0 ws w w' : World} {rb tb cap : Nat} {L : List (ByteArray × Int)} {s0 s : St} {t u : Nat} {vs : List (Nat × Nv)} {hs : List Nv}
/-- 'is', whatever it finds. -/
theorem Env.isb (E:Env w0 ws w rb tb cap L s0 s t u vs hs) (x:ByteArray) (hx:x≠⟨#[]⟩):Calls Tryz.prog 87 #[.pointer (some ⟨rb,0,none⟩),.string x] w fun e w'=>∃b s',e=.returned (.bool b)∧Hid (Env w0 ws w' rb tb cap L s0 s' t u vs hs)∧Hid (b=true→s.er=0∧s'.er=0∧s.i+1≤s'.i):=
 (E.re.is x hx).mono fun _ _ h=>by
  rcases h with ⟨s',e,E1,H⟩ | ⟨e,E1,_⟩
  ·exact ⟨true,s',e,hid (E.on E1.out),hid fun _=>⟨H.out.1,H.out.2,E1.out.p1⟩⟩
  ·exact ⟨false,s,e,hid (E.on E1.out),hid fun h=>by cases h⟩
theorem Env.took (E:Env w0 ws w rb tb cap L s0 s t u vs hs) (h:s0.i+1≤s.i):Env w0 ws w rb tb cap L s0 s 1 1 vs hs:={ E with p1:=h,p2:=fun e=>⟨(E.p2 e).1,h⟩ }
theorem Ln.on {n:Nat} {sr:St} (h:Ln n sr) (E:Env w0 ws w rb tb cap L sr s t u vs hs):Ln n s:=
 ⟨fun e=>by have:=h.1 (E.p2 e).1;have:=E.p1;omega,by have:=h.2;have:=E.p1;omega⟩
def mS (L:List (ByteArray × Int)) (s:St):Nat:=2*(L.length - s.i)+(if s.er=0 then 1 else 0)
theorem mS_lt {sr:St} (E:Env w0 ws w rb tb cap L sr s t u vs hs) (hu:1≤u) (he:sr.er=0):mS L s<mS L sr:=by
 unfold mS;rw [if_pos he];have h1:=E.p1;have h2:=E.rd.lt;split
 ·rename_i h;have:=E.p2 h;omega
 ·omega
end
end
end Go.Proofs.YtneohanphabneaaGreatDoor
