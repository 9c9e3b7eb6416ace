/-
The document's tree of a text, the walk: it ends, and a tree without an error lies in memory, however deep one looks. Conditions: the variable with the kept words is as it is laid.
-/
import Derived.Test.YtneohanphabneaaGreatDoorWd
import Derived.Test.YtneohanphabneaaGreatDoorRdR
import Derived.Test.YtneohanphabneaaGreatDoorHuge
namespace Go.Proofs.YtneohanphabneaaGreatDoor
set_option linter.unusedSimpArgs false
set_option linter.unusedVariables false
open Go.RowKit Go.BigFrame
/-- A good list, cut off at a depth, is a tree's. -/
theorem kt_of_gd {lo:Nat} {w:World}:∀(d:Nat) {A:Option Addr} {n c:Nat} (k:Int) (s:ByteArray) (p q:Int),s.size≤maxLen→Gd lo w A n c→∃subs:List Nd,subs.length=n∧KT w d ⟨k,s,p,q,subs⟩ A c
 | 0,_,n,_,k,s,p,q,_,_=>⟨List.replicate n ⟨k,s,p,q,[]⟩,by simp,trivial⟩
 | d+1,A,n,c,k,s,p,q,hs,g=>by
  have hle:=g.le
  have row:∀i,i<n→∃x:Nd,∃b o Ax cx,A=some ⟨b,o,none⟩∧NdAt w b (o+i*5) x Ax cx∧KT w d x Ax cx:=fun i hi=>by
   rcases g.form with ⟨_,h,_⟩ | ⟨b,rfl,_⟩
   ·omega
   ·obtain ⟨k',s',p',q',A',n',c',r,hs',g'⟩:=g.row hi;obtain ⟨subs,rfl,hk⟩:=kt_of_gd d k' s' p' q' hs' g';refine ⟨⟨k',s',p',q',subs⟩,b,0,A',c',rfl,?_,hk⟩;rw [Nat.zero_add];exact ⟨r.c0,r.c1,r.c2,r.c3,r.c4⟩
  have go:∀m,m≤n→∃subs:List Nd,subs.length=m∧∀i x,subs[i]?=some x→∃b o Ax cx,A=some ⟨b,o,none⟩∧NdAt w b (o+i*5) x Ax cx∧KT w d x Ax cx:=fun m=>by
   induction m with
   | zero=>exact fun _=>⟨[],rfl,fun i x h=>by simp at h⟩
   | succ m ih=>
    intro hm;obtain ⟨l,hl,h⟩:=ih (by omega);obtain ⟨x,hx⟩:=row m (by omega);refine ⟨l++[x],by simp [hl],fun i y hy=>?_⟩;rcases Nat.lt_or_ge i l.length with h1 | h1
    ·rw [List.getElem?_append_left h1] at hy;exact h i y hy
    ·rw [List.getElem?_append_right h1] at hy
     have e:i - l.length=0:=by
      rcases Nat.eq_zero_or_pos (i - l.length) with h2 | h2
      ·exact h2
      ·rw [List.getElem?_eq_none (by simp;omega)] at hy;cases hy
     rw [e] at hy;obtain rfl:x=y:=(by simpa using hy);rw [show i=m by omega];exact hx
  obtain ⟨subs,hl,h⟩:=go n (Nat.le_refl _);exact ⟨subs,hl,hs,by simpa [hl] using hle.1,hle.2,h⟩
/-- What Tree leaves. -/
def TPost (w:World) (e:Ending) (w':World):Prop:=
 Below w.heap.size w w'∧∃(k:Int) (s:ByteArray) (p q:Int) (A:Option Addr) (n c:Nat) (E t a:Int),e=.returned (.tuple #[nd k s p q A n c,.agg #[.int .i64 E,.int .i64 t,.int .i64 a]])∧(E=0→s.size≤maxLen∧∃lo,Gd lo w' A n c)
abbrev zN:Obj:=.cells #[.int .i64 0,.string ⟨#[]⟩,.int .i64 0,.int .i64 0,.slice none 0 0] 24 (0,0)
abbrev ch5 (w:World) (g:Nat) (k:Int) (x:ByteArray) (p q:Int) (A:Option Addr) (n c:Nat):World:=((((w.setCell ⟨g,0,none⟩ (.int .i64 k)).setCell ⟨g,1,none⟩ (.string x)).setCell ⟨g,2,none⟩ (.int .i64 p)).setCell ⟨g,3,none⟩ (.int .i64 q)).setCell ⟨g,4,none⟩ (.slice A n c)
abbrev ch3 (w:World) (g:Nat) (E t a:Int):World:=((w.setCell ⟨g,0,none⟩ (.int .i64 E)).setCell ⟨g,1,none⟩ (.int .i64 t)).setCell ⟨g,2,none⟩ (.int .i64 a)
theorem ch5_at {w:World} {g:Nat} (h:w.heap[g]?=some zN) (k:Int) (x:ByteArray) (p q:Int) (A:Option Addr) (n c:Nat):(ch5 w g k x p q A n c).heap[g]?=some (row5 k x p q A n c)∧w.grownBy (ch5 w g k x p q A n c) (some g):=by
 have e0:=heap_setCell_same w g 0 _ _ (.int .i64 k) h;have e1:=heap_setCell_same _ g 1 _ _ (.string x) e0;have e2:=heap_setCell_same _ g 2 _ _ (.int .i64 p) e1;have e3:=heap_setCell_same _ g 3 _ _ (.int .i64 q) e2;exact ⟨heap_setCell_same _ g 4 _ _ (.slice A n c) e3,grown_trans (grown_trans (grown_trans (grown_trans (grown_setCell w g 0 _) (grown_setCell _ g 1 _)) (grown_setCell _ g 2 _)) (grown_setCell _ g 3 _)) (grown_setCell _ g 4 _)⟩
theorem ch3_at {w:World} {g:Nat} (h:w.heap[g]?=some zB) (E t a:Int):(ch3 w g E t a).heap[g]?=some (.cells #[.int .i64 E,.int .i64 t,.int .i64 a] 34 (0,0))∧w.grownBy (ch3 w g E t a) (some g):=by
 have e0:=heap_setCell_same w g 0 _ _ (.int .i64 E) h;have e1:=heap_setCell_same _ g 1 _ _ (.int .i64 t) e0;exact ⟨heap_setCell_same _ g 2 _ _ (.int .i64 a) e1,grown_trans (grown_trans (grown_setCell w g 0 _) (grown_setCell _ g 1 _)) (grown_setCell _ g 2 _)⟩
theorem tret {fn:Func} (h:fn.results=#[.cell 2 24,.cell 3 34]) {a:Act} {W:World} {R:Ending→World→Prop} {g g' n c:Nat} {k p q E t b:Int} {x:ByteArray} {A:Option Addr} (hp:a.tmps.getD 2 undef=.pointer (some ⟨g,0,none⟩)) (hp3:a.tmps.getD 3 undef=.pointer (some ⟨g',0,none⟩)) (hd:a.defers=[])
  (h5:W.heap[g]?=some (row5 k x p q A n c)) (h3:W.heap[g']?=some (.cells #[.int .i64 E,.int .i64 t,.int .i64 b] 34 (0,0))) (hR:R (.returned (.tuple #[nd k x p q A n c,.agg #[.int .i64 E,.int .i64 t,.int .i64 b]])) W):bodyPost Tryz.prog fn R .ret a W:=by
 have r:=r5_of_row h5;have c0:=r.c0;have c1:=r.c1;have c2:=r.c2;have c3:=r.c3;have c4:=r.c4;simp only [Nat.zero_add] at c1 c2 c3 c4;have d0:W.cell? ⟨g',0,none⟩=some (.int .i64 E):=(by rw [cell_of_row _ _ _ _ _ _ h3];rfl);have d1:W.cell? ⟨g',1,none⟩=some (.int .i64 t):=(by rw [cell_of_row _ _ _ _ _ _ h3];rfl);have d2:W.cell? ⟨g',2,none⟩=some (.int .i64 b):=(by rw [cell_of_row _ _ _ _ _ _ h3];rfl);have hp':a.tmps[2]?.getD undef=.pointer (some ⟨g,0,none⟩):=(by simpa using hp);have hp3':a.tmps[3]?.getD undef=.pointer (some ⟨g',0,none⟩):=(by simpa using hp3);exact bodyPost_ret (v:=.tuple #[nd k x p q A n c,.agg #[.int .i64 E,.int .i64 t,.int .i64 b]]) (by simp [results,h,hp',hp3',go_sem,c0,c1,c2,c3,c4,d0,d1,d2]) hd hR
/-- The results' variables, as they were laid, in a world later on. -/
structure Rv (w W:World):Prop where
 e5:W.heap[w.heap.size]?=some zN
 e3:W.heap[w.heap.size+1]?=some zB
 bl:Below w.heap.size w W
abbrev zR (tb n c:Nat):Obj:=.cells #[.slice (some ⟨tb,0,none⟩) n c,.int .i64 0,.int .i64 0,.int .i64 0,.int .i64 (-1),.int .i64 (-1)] 71 (0,0)
theorem rd_start {w w1 w3:World} {tb c:Nat} {L:List (ByteArray × Int)} (h1:Below w1.heap.size w1 w3) (h0:Below w.heap.size w w1) (hT:Toks L) (hL:0<L.length) (hc:L.length≤c) (hcell:∀j,j<L.length→w1.cell? ⟨tb,j*2,none⟩=some (.string (wdN L j))∧w1.cell? ⟨tb,j*2+1,none⟩=some (.int .i64 (plN L j))):
  Rd w (w3.alloc (zR tb L.length c)) w3.heap.size tb c L ⟨0,0,0,-1,-1⟩:=by
 have e:=heap_alloc_new w3 (zR tb L.length c);have ht:=lt_of_cell (hcell 0 hL).1;have hs:=h1.size;have hk:∀{a:Addr} {v:Value},w1.cell? a=some v→(w3.alloc (zR tb L.length c)).cell? a=some v:=fun h=>(World.grownBy_alloc w3 _ none).cell (keep_cell h1 h) (by simp);refine ⟨?_,?_,?_,?_,?_,?_,fun j=>frozen_of_row _ _ _ _ _ e,fun j hj=>⟨hk (hcell j hj).1,hk (hcell j hj).2⟩,hL,by simp only at ht;omega,hc,hT,Nat.le_trans h0.size hs,(h0.trans (h1.mono h0.size)).alloc (Nat.le_trans h0.size hs) _⟩
 all_goals (rw [cell_of_row _ _ _ _ _ _ e];rfl)
theorem Rv.drew {w W:World} (h:Rv w W):Rv w W.drew:=⟨h.e5,h.e3,h.bl.drew⟩
theorem Rv.env {w w0 ws W:World} {rb tb cap:Nat} {L:List (ByteArray × Int)} {s0 s:St} {t u:Nat} {vs:List (Nat × Nv)} {hs:List Nv} (h:Rv w ws) (E:Env w0 ws W rb tb cap L s0 s t u vs hs) (hr:w.heap.size+1<rb):Rv w W:=
 ⟨grown_old E.gr h.e5 (by simp;omega),grown_old E.gr h.e3 (by simp;omega),h.bl.grown E.gr h.bl.size fun k e=>by injection e;omega⟩
theorem Rv.facts {w W:World} (h:Rv w W):((W.cell? ⟨w.heap.size,0,none⟩=some (.int .i64 0)∧W.cell? ⟨w.heap.size,1,none⟩=some (.string ⟨#[]⟩)∧W.cell? ⟨w.heap.size,2,none⟩=some (.int .i64 0)∧W.cell? ⟨w.heap.size,3,none⟩=some (.int .i64 0)∧W.cell? ⟨w.heap.size,4,none⟩=some (.slice none 0 0)) ∧
  W.cell? ⟨w.heap.size+1,0,none⟩=some (.int .i64 0)∧W.cell? ⟨w.heap.size+1,1,none⟩=some (.int .i64 0)∧W.cell? ⟨w.heap.size+1,2,none⟩=some (.int .i64 0)) ∧
  ((∀j,W.frozen? ⟨w.heap.size,j,none⟩=false)∧∀j,W.frozen? ⟨w.heap.size+1,j,none⟩=false)∧w.heap.size<W.heap.size∧w.heap.size+1<W.heap.size:=by
 have r:=r5_of_row h.e5;refine ⟨⟨⟨r.c0,by simpa using r.c1,by simpa using r.c2,by simpa using r.c3,by simpa using r.c4⟩,?_,?_,?_⟩,⟨fun j=>frozen_of_row _ _ _ _ _ h.e5,fun j=>frozen_of_row _ _ _ _ _ h.e3⟩,(Array.getElem?_eq_some_iff.1 h.e5).1,(Array.getElem?_eq_some_iff.1 h.e3).1⟩
 all_goals (rw [cell_of_row _ _ _ _ _ _ h.e3];rfl)
theorem drew_out {w W X:World} {g g' n c:Nat} {o o':Option Obj} {A:Option Addr} (h:(X.heap[g]?=o∧X.heap[g']?=o'∧Below w.heap.size w X)∧∀lo,w.heap.size+1<lo→Gd lo W A n c→Gd lo X A n c):(X.drew.heap[g]?=o∧X.drew.heap[g']?=o'∧Below w.heap.size w X.drew)∧∀lo,w.heap.size+1<lo→Gd lo W A n c→Gd lo X.drew A n c:=
 ⟨⟨h.1.1,h.1.2.1,h.1.2.2.drew⟩,fun lo hlo g=>(Up.grown (grown_drew X none) (by simp)).gd (h.2 lo hlo g)⟩
theorem Rv.out5 {w W:World} (h:Rv w W) (k:Int) (x:ByteArray) (p q:Int) (A:Option Addr) (n c:Nat) (E t a:Int):
  ((ch3 (ch5 W w.heap.size k x p q A n c) (w.heap.size+1) E t a).heap[w.heap.size]?=some (row5 k x p q A n c)∧(ch3 (ch5 W w.heap.size k x p q A n c) (w.heap.size+1) E t a).heap[w.heap.size+1]?=some (.cells #[.int .i64 E,.int .i64 t,.int .i64 a] 34 (0,0)) ∧
   Below w.heap.size w (ch3 (ch5 W w.heap.size k x p q A n c) (w.heap.size+1) E t a))∧∀lo,w.heap.size+1<lo→Gd lo W A n c→Gd lo (ch3 (ch5 W w.heap.size k x p q A n c) (w.heap.size+1) E t a) A n c:=by
 have h5:=ch5_at h.e5 k x p q A n c;have h3:=ch3_at (grown_old h5.2 h.e3 (by simp)) E t a;refine ⟨⟨grown_old h3.2 h5.1 (by simp),h3.1,?_⟩,fun lo hlo g=>(Up.grown h3.2 fun k e=>by injection e;omega).gd ((Up.grown h5.2 fun k e=>by injection e;omega).gd g)⟩;exact (h.bl.grown h5.2 h.bl.size fun k e=>by injection e;omega).grown h3.2 (Nat.le_trans h.bl.size h5.2.size) fun k e=>by injection e;omega
theorem Rv.out3 {w W:World} (h:Rv w W) (k:Int) (x:ByteArray) (p q:Int) (A:Option Addr) (n c:Nat) (E t a:Int):
  ((ch5 (ch3 W (w.heap.size+1) E t a) w.heap.size k x p q A n c).heap[w.heap.size]?=some (row5 k x p q A n c)∧(ch5 (ch3 W (w.heap.size+1) E t a) w.heap.size k x p q A n c).heap[w.heap.size+1]?=some (.cells #[.int .i64 E,.int .i64 t,.int .i64 a] 34 (0,0)) ∧
   Below w.heap.size w (ch5 (ch3 W (w.heap.size+1) E t a) w.heap.size k x p q A n c))∧∀lo,w.heap.size+1<lo→Gd lo W A n c→Gd lo (ch5 (ch3 W (w.heap.size+1) E t a) w.heap.size k x p q A n c) A n c:=by
 have h3:=ch3_at h.e3 E t a;have h5:=ch5_at (grown_old h3.2 h.e5 (by simp)) k x p q A n c;refine ⟨⟨h5.1,grown_old h5.2 h3.1 (by simp),?_⟩,fun lo hlo g=>(Up.grown h5.2 fun k e=>by injection e;omega).gd ((Up.grown h3.2 fun k e=>by injection e;omega).gd g)⟩;exact (h.bl.grown h3.2 h.bl.size fun k e=>by injection e;omega).grown h5.2 (Nat.le_trans h.bl.size h3.2.size) fun k e=>by injection e;omega
set_option maxRecDepth 100000 in
set_option maxHeartbeats 4000000 in
theorem Tree_any (x:ByteArray) (w:World) (hl:KeptLaid w):Calls Tryz.prog 15 #[.string x] w (TPost w):=by
 have HL:=hid hl;clear hl;go_enter Tryz.func15,Tryz.ntmps15;go_wp2_with fail;refine (Words_any x _).mono ?_;rintro e w1 ⟨hb,A,n,c,E,t,a,rfl,hE⟩;have h0:Rv w ((w.alloc zN).alloc zB):=⟨heap_alloc2_old w zN zB,heap_alloc2_new w zN zB,(bBw w zN).trans ((bBw _ zB).mono (by simp))⟩;have h1:Rv w w1:=⟨(hb.block _ (by simp;omega)).trans h0.e5,(hb.block _ (by simp)).trans h0.e3,h0.bl.trans (hb.mono (by simp;omega))⟩;have HB:=hid hb;have HE:=hid hE
 obtain ⟨w2,e2,H2,hv⟩:∃w2,w1.alloc (.cells #[.int .i64 E,.int .i64 t,.int .i64 a] 34)=w2∧Hid (Rv w w2)∧w2.heap[w1.heap.size]?=some (.cells #[.int .i64 E,.int .i64 t,.int .i64 a] 34 (0,0)):=
  ⟨_,rfl,hid ⟨grown_old (World.grownBy_alloc w1 _ none) h1.e5 (by simp),grown_old (World.grownBy_alloc w1 _ none) h1.e3 (by simp),h1.bl.alloc h1.bl.size _⟩,heap_alloc_new w1 _⟩
 have f2:=H2.out.facts;have f1:=h1.facts.2.2;have b0:w2.cell? ⟨w1.heap.size,0,none⟩=some (.int .i64 E):=(by rw [cell_of_row _ _ _ _ _ _ hv];rfl);have b1:w2.cell? ⟨w1.heap.size,1,none⟩=some (.int .i64 t):=(by rw [cell_of_row _ _ _ _ _ _ hv];rfl);have b2:w2.cell? ⟨w1.heap.size,2,none⟩=some (.int .i64 a):=(by rw [cell_of_row _ _ _ _ _ _ hv];rfl);have HX1:=hid h1.bl;clear hb hE h0 h1 hv;by_cases he:E=0
 ·subst he;obtain ⟨tb,L,rfl,rfl,hT,hL0,hc,htb,hcell⟩:=HE.out rfl;have HT:=hid hT;have HC:=hid hcell;have hT2:=f2.2.2;clear hT hcell;go_wp2_with fail;refine (Fine_any w2).mono ?_;rintro e w3 ⟨rfl,hb3⟩;have hb13:Below w1.heap.size w1 w3:=(by rw [← e2] at hb3;exact (bBw w1 _).trans (hb3.mono (by simp)));have HR3:=hid (rd_start hb13 HX1.out HT.out hL0 hc HC.out);have E0:=hid (env_start0 HR3.out);have H3:=hid (show Rv w (w3.alloc (zR tb L.length c)) from ⟨grown_old (World.grownBy_alloc w3 _ none) ((hb3.block _ hT2.1).trans H2.out.e5) (by simp),grown_old (World.grownBy_alloc w3 _ none) ((hb3.block _ hT2.2).trans H2.out.e3) (by simp),(H2.out.bl.trans (hb3.mono H2.out.bl.size)).alloc (Nat.le_trans H2.out.bl.size hb3.size) _⟩);have hlo:w.heap.size+1<w3.heap.size:=(by have:=hb3.size;omega);clear hb3;go_wp2_with fail;refine (E0.out.call (module_srt HL.out _ _ HR3.out)).mono ?_;rintro e w4 ⟨k4,x4,p4,q4,A4,n4,c4,s4,rfl,E4,-⟩;go_wp2_with fail;refine (rOk_any _ E4.out.var.rd).mono ?_;rintro e w' ⟨rfl,rfl⟩;cases ho:(s4.er==0)
  case' false=>obtain ⟨s6,E6⟩:=(⟨_,hid E4.out.var⟩:∃s6,Hid (Env _ _ _ _ _ _ _ _ s6 _ _ _ _))
  case' true=>
   go_wp2_with fail;refine E4.out.var.word.mono ?_;rintro e w5 ⟨rfl,E5⟩;cases hw:(wdN L s4.i).toList.isEmpty
   case' true=>obtain ⟨s6,E6⟩:=(⟨_,E5⟩:∃s6,Hid (Env _ _ _ _ _ _ _ _ s6 _ _ _ _))
   case' false=>
    go_wp2_with fail;refine E5.out.other.mono ?_;rintro e w6 ⟨rfl,s6,E6,-⟩
  all_goals
   have H6:=hid (H3.out.env E6.out hlo);go_wp2_with fail;refine (rOk_any _ E6.out.rd).mono ?_;rintro e w' ⟨rfl,rfl⟩;cases ho6:(s6.er==0)
   ·have HNE:=hid (show s6.er≠0 by simpa using ho6);have f6:=H6.out.facts;have r3:=E6.out.rd.c3;have r4:=E6.out.rd.c4;have r5:=E6.out.rd.c5;go_wp2_with fail;go_region
    all_goals
     go_wp2_with fail
     first
      | (obtain ⟨⟨h5,h3,hb⟩,-⟩:=drew_out (H6.out.out5 0 ⟨#[]⟩ 0 0 none 0 0 s6.er s6.tx s6.pl);exact tret rfl rfl rfl rfl h5 h3 ⟨hb,_,_,_,_,_,_,_,_,_,_,rfl,fun h=>absurd h HNE.out⟩)
      | (obtain ⟨⟨h5,h3,hb⟩,-⟩:=drew_out (H6.out.out3 0 ⟨#[]⟩ 0 0 none 0 0 s6.er s6.tx s6.pl);exact tret rfl rfl rfl rfl h5 h3 ⟨hb,_,_,_,_,_,_,_,_,_,_,rfl,fun h=>absurd h HNE.out⟩)
   ·have v6:=E6.out.facts [];go_wp2_with fail;go_region_law (first | (go_simp;go_at_call 34;refine (Fine_any _).mono ?_;rintro e w8 ⟨rfl,hb8⟩;have E8:=hid (E6.out.drew.quiet hb8);have v8:=E8.out.facts [];have f8:=(H3.out.env E8.out hlo).facts;clear hb8))
    all_goals
     have H8:=hid (H3.out.env E8.out hlo);have hok:=E8.out.okv _ m0;have HO:=hid (And.intro hok.sm hok.gd);clear hok;go_wp2_with fail
     first
      | (obtain ⟨⟨h5,h3,hb⟩,hg⟩:=H8.out.out5 k4 x4 p4 q4 A4 n4 c4 0 (-1) (-1);exact tret rfl rfl rfl rfl h5 h3 ⟨hb,_,_,_,_,_,_,_,_,_,_,rfl,fun _=>⟨HO.out.1,_,hg _ (Nat.lt_succ_of_lt hlo) HO.out.2⟩⟩)
      | (obtain ⟨⟨h5,h3,hb⟩,hg⟩:=H8.out.out3 k4 x4 p4 q4 A4 n4 c4 0 (-1) (-1);exact tret rfl rfl rfl rfl h5 h3 ⟨hb,_,_,_,_,_,_,_,_,_,_,rfl,fun _=>⟨HO.out.1,_,hg _ (Nat.lt_succ_of_lt hlo) HO.out.2⟩⟩)
 ·have be:(E != 0)=true:=(by simpa using he);have HNE:=hid he;clear he;go_wp2_with fail;go_region
  all_goals
   go_wp2_with fail
   first
    | (obtain ⟨⟨h5,h3,hb⟩,-⟩:=drew_out (H2.out.out5 0 ⟨#[]⟩ 0 0 none 0 0 E t a);exact tret rfl rfl rfl rfl h5 h3 ⟨hb,_,_,_,_,_,_,_,_,_,_,rfl,fun h=>absurd h HNE.out⟩)
    | (obtain ⟨⟨h5,h3,hb⟩,-⟩:=drew_out (H2.out.out3 0 ⟨#[]⟩ 0 0 none 0 0 E t a);exact tret rfl rfl rfl rfl h5 h3 ⟨hb,_,_,_,_,_,_,_,_,_,_,rfl,fun h=>absurd h HNE.out⟩)
end Go.Proofs.YtneohanphabneaaGreatDoor
