/-
The document's reader of words in memory: its state, its small methods. Conditions: the reader lies in memory.
-/
import Derived.Test.YtneohanphabneaaGreatDoorFold
import Derived.Lib.QuietBelow
import Derived.BigQuiet
import Derived.RegionTactic
namespace Go.Proofs.YtneohanphabneaaGreatDoor
set_option linter.unusedSimpArgs false
set_option linter.unusedVariables false
section
open Go.RowKit Go.BigFrame
/-- What of the reader changes: the next word, how deep it is, what is wrong. -/
structure St where
 i:Nat
 dp:Int
 er:Int
 tx:Int
 pl:Int
def wdN (L:List (ByteArray × Int)) (i:Nat):ByteArray:=(L.getD i (⟨#[]⟩,0)).1
def plN (L:List (ByteArray × Int)) (i:Nat):Int:=(L.getD i (⟨#[]⟩,0)).2
/-- The words of a text: the last one is empty. -/
structure Toks (L:List (ByteArray × Int)):Prop where
 last:wdN L (L.length - 1)=⟨#[]⟩
 len:L.length≤1000000
 small:∀i,(wdN L i).size≤1000000
/-- The reader lies at rb, its words at tb. -/
structure Rd (w0 w:World) (rb tb cap:Nat) (L:List (ByteArray × Int)) (s:St):Prop where
 c0:w.cell? ⟨rb,0,none⟩=some (.slice (some ⟨tb,0,none⟩) L.length cap)
 c1:w.cell? ⟨rb,1,none⟩=some (.int .i64 s.i)
 c2:w.cell? ⟨rb,2,none⟩=some (.int .i64 s.dp)
 c3:w.cell? ⟨rb,3,none⟩=some (.int .i64 s.er)
 c4:w.cell? ⟨rb,4,none⟩=some (.int .i64 s.tx)
 c5:w.cell? ⟨rb,5,none⟩=some (.int .i64 s.pl)
 fz:∀j,w.frozen? ⟨rb,j,none⟩=false
 tok:∀j,j<L.length→w.cell? ⟨tb,j*2,none⟩=some (.string (wdN L j))∧w.cell? ⟨tb,j*2+1,none⟩=some (.int .i64 (plN L j))
 lt:s.i<L.length
 ne:rb≠tb
 cap_le:L.length≤cap
 toks:Toks L
 lo:w0.heap.size≤rb
 bl:Below w0.heap.size w0 w
theorem Rd.all {w0 w:World} {rb tb cap:Nat} {L:List (ByteArray × Int)} {s:St} (h:Rd w0 w rb tb cap L s):
  w.cell? ⟨rb,0,none⟩=some (.slice (some ⟨tb,0,none⟩) L.length cap)∧w.cell? ⟨rb,1,none⟩=some (.int .i64 s.i)∧w.cell? ⟨rb,2,none⟩=some (.int .i64 s.dp)∧w.cell? ⟨rb,3,none⟩=some (.int .i64 s.er)∧w.cell? ⟨rb,4,none⟩=some (.int .i64 s.tx)∧w.cell? ⟨rb,5,none⟩=some (.int .i64 s.pl) ∧
  w.cell? ⟨tb,s.i*2,none⟩=some (.string (wdN L s.i))∧w.cell? ⟨tb,s.i*2+1,none⟩=some (.int .i64 (plN L s.i)):=
 ⟨h.c0,h.c1,h.c2,h.c3,h.c4,h.c5,(h.tok s.i h.lt).1,(h.tok s.i h.lt).2⟩
theorem Rd.size {w0 w:World} {rb tb cap:Nat} {L:List (ByteArray × Int)} {s:St} (h:Rd w0 w rb tb cap L s):rb<w.heap.size∧tb<w.heap.size:=⟨lt_of_cell h.c0,lt_of_cell (h.tok s.i h.lt).1⟩
theorem Rd.grown {w0 w w':World} {rb tb cap:Nat} {L:List (ByteArray × Int)} {s:St} {row:Option Nat} (h:Rd w0 w rb tb cap L s) (hg:w.grownBy w' row) (h1:some rb≠row) (h2:some tb≠row) (h3:∀k,row=some k→w0.heap.size≤k):Rd w0 w' rb tb cap L s:=
 ⟨hg.cell h.c0 h1,hg.cell h.c1 h1,hg.cell h.c2 h1,hg.cell h.c3 h1,hg.cell h.c4 h1,hg.cell h.c5 h1,fun j=>by rw [frozen_kept (a:=⟨rb,j,none⟩) (hg.block rb h.size.1 h1)];exact h.fz j,
  fun j hj=>⟨hg.cell (h.tok j hj).1 h2,hg.cell (h.tok j hj).2 h2⟩,h.lt,h.ne,h.cap_le,h.toks,h.lo,h.bl.grown hg h.bl.size h3⟩
theorem Rd.below {w0 w w':World} {rb tb cap:Nat} {L:List (ByteArray × Int)} {s:St} (h:Rd w0 w rb tb cap L s) (hb:Below w.heap.size w w'):Rd w0 w' rb tb cap L s:=
 h.grown (grown_of_below hb none) (by simp) (by simp) (by simp)
theorem word_more {L:List (ByteArray × Int)} (h:Toks L) {i:Nat} (hi:i<L.length) (hw:wdN L i≠⟨#[]⟩):i+1<L.length:=by
 rcases Nat.lt_or_ge (i+1) L.length with h1 | h1
 ·exact h1
 ·exact absurd (by rw [← h.last,show L.length - 1=i by omega]) hw
theorem rOk_any {w0:World} {rb tb cap:Nat} {L:List (ByteArray × Int)} {s:St} (w:World) (hr:Rd w0 w rb tb cap L s):
  Calls Tryz.prog 36 #[.pointer (some ⟨rb,0,none⟩)] w fun e w'=>e=.returned (.bool (s.er==0))∧w=w':=by
 have h:=hr.all;clear hr;go_enter Tryz.func36,Tryz.ntmps36;go_wp2;go_ret;exact ⟨rfl,rfl⟩
set_option maxRecDepth 100000 in
theorem rWord_any {w0:World} {rb tb cap:Nat} {L:List (ByteArray × Int)} {s:St} (w:World) (hr:Rd w0 w rb tb cap L s):
  Calls Tryz.prog 37 #[.pointer (some ⟨rb,0,none⟩)] w fun e w'=>e=.returned (.string (wdN L s.i))∧Below w.heap.size w w':=by
 have h:=hr.all;have hlt:=hr.lt;have hlen:=hr.toks.len;have hcap:=hr.cap_le;have r0:=cell_regrown hr.c0;have r1:=cell_regrown hr.c1;have r2:=cell_regrown (hr.tok s.i hr.lt).1;have hi1:(s.i:Int)<(L.length:Int):=(by omega);have hi0:(0:Int)≤(s.i:Int):=(by omega);clear hr;go_enter Tryz.func37,Tryz.ntmps37;go_wp2;refine wp_region_quiet_below (by kernel_rfl) (by kernel_rfl) ?_
 repeat (go_big_quiet_step (fail))
 refine wpQuiet_nil ?_;intro _ hw';obtain ⟨⟨dq,osq⟩,hw''⟩:=hw';subst hw'';clear r0 r1 r2;have HG:=hid (below_regrown w dq osq);generalize hG:Go.Sort.grow (redrawn w dq) osq=G at *;clear hG;go_wp2;go_ret;exact ⟨rfl,HG.out⟩
set_option maxRecDepth 100000 in
theorem rAt_any {w0:World} {rb tb cap:Nat} {L:List (ByteArray × Int)} {s:St} (w:World) (hr:Rd w0 w rb tb cap L s):
  Calls Tryz.prog 84 #[.pointer (some ⟨rb,0,none⟩)] w fun e w'=>e=.returned (.int .i64 (plN L s.i))∧Below w.heap.size w w':=by
 have h:=hr.all;have hlt:=hr.lt;have hlen:=hr.toks.len;have hcap:=hr.cap_le;have r0:=cell_regrown hr.c0;have r1:=cell_regrown hr.c1;have r2:=cell_regrown (hr.tok s.i hr.lt).2;have hi1:(s.i:Int)<(L.length:Int):=(by omega);have hi0:(0:Int)≤(s.i:Int):=(by omega);clear hr;go_enter Tryz.func84,Tryz.ntmps84;go_wp2;refine wp_region_quiet_below (by kernel_rfl) (by kernel_rfl) ?_
 repeat (go_big_quiet_step (fail))
 refine wpQuiet_nil ?_;intro _ hw';obtain ⟨⟨dq,osq⟩,hw''⟩:=hw';subst hw'';clear r0 r1 r2;have HG:=hid (below_regrown w dq osq);generalize hG:Go.Sort.grow (redrawn w dq) osq=G at *;clear hG;go_wp2;go_ret;exact ⟨rfl,HG.out⟩
theorem set_other {w:World} {b j k:Nat} {u v:Value} {b':Nat} (h:w.cell? ⟨b',j,none⟩=some v) (hne:b≠b'∨k≠j):(w.setCell ⟨b,k,none⟩ u).cell? ⟨b',j,none⟩=some v:=by
 have ha:(⟨b,k,none⟩:Addr)≠⟨b',j,none⟩:=(by intro e;injection e with e1 e2 _;omega);exact (World.cell?_setCell_other w _ _ _ ha).trans h
theorem set_same {w:World} {b k:Nat} {u v:Value} (h:w.cell? ⟨b,k,none⟩=some v):(w.setCell ⟨b,k,none⟩ u).cell? ⟨b,k,none⟩=some u:=World.cell?_setCell_same w _ _ h
theorem Rd.put1 {w0 w:World} {rb tb cap:Nat} {L:List (ByteArray × Int)} {s:St} (h:Rd w0 w rb tb cap L s) (x:Nat) (hx:x<L.length):Rd w0 (w.setCell ⟨rb,1,none⟩ (.int .i64 x)) rb tb cap L { s with i:=x }:=
 ⟨set_other h.c0 (.inr (by omega)),set_same h.c1,set_other h.c2 (.inr (by omega)),set_other h.c3 (.inr (by omega)),set_other h.c4 (.inr (by omega)),set_other h.c5 (.inr (by omega)),fun j=>by simpa using h.fz j,fun j hj=>⟨set_other (h.tok j hj).1 (.inl h.ne),set_other (h.tok j hj).2 (.inl h.ne)⟩,hx,h.ne,h.cap_le,h.toks,h.lo,h.bl.setCell h.lo _⟩
theorem Rd.put2 {w0 w:World} {rb tb cap:Nat} {L:List (ByteArray × Int)} {s:St} (h:Rd w0 w rb tb cap L s) (x:Int):Rd w0 (w.setCell ⟨rb,2,none⟩ (.int .i64 x)) rb tb cap L { s with dp:=x }:=
 ⟨set_other h.c0 (.inr (by omega)),set_other h.c1 (.inr (by omega)),set_same h.c2,set_other h.c3 (.inr (by omega)),set_other h.c4 (.inr (by omega)),set_other h.c5 (.inr (by omega)),fun j=>by simpa using h.fz j,fun j hj=>⟨set_other (h.tok j hj).1 (.inl h.ne),set_other (h.tok j hj).2 (.inl h.ne)⟩,h.lt,h.ne,h.cap_le,h.toks,h.lo,h.bl.setCell h.lo _⟩
theorem Rd.put3 {w0 w:World} {rb tb cap:Nat} {L:List (ByteArray × Int)} {s:St} (h:Rd w0 w rb tb cap L s) (x:Int):Rd w0 (w.setCell ⟨rb,3,none⟩ (.int .i64 x)) rb tb cap L { s with er:=x }:=
 ⟨set_other h.c0 (.inr (by omega)),set_other h.c1 (.inr (by omega)),set_other h.c2 (.inr (by omega)),set_same h.c3,set_other h.c4 (.inr (by omega)),set_other h.c5 (.inr (by omega)),fun j=>by simpa using h.fz j,fun j hj=>⟨set_other (h.tok j hj).1 (.inl h.ne),set_other (h.tok j hj).2 (.inl h.ne)⟩,h.lt,h.ne,h.cap_le,h.toks,h.lo,h.bl.setCell h.lo _⟩
theorem Rd.put4 {w0 w:World} {rb tb cap:Nat} {L:List (ByteArray × Int)} {s:St} (h:Rd w0 w rb tb cap L s) (x:Int):Rd w0 (w.setCell ⟨rb,4,none⟩ (.int .i64 x)) rb tb cap L { s with tx:=x }:=
 ⟨set_other h.c0 (.inr (by omega)),set_other h.c1 (.inr (by omega)),set_other h.c2 (.inr (by omega)),set_other h.c3 (.inr (by omega)),set_same h.c4,set_other h.c5 (.inr (by omega)),fun j=>by simpa using h.fz j,fun j hj=>⟨set_other (h.tok j hj).1 (.inl h.ne),set_other (h.tok j hj).2 (.inl h.ne)⟩,h.lt,h.ne,h.cap_le,h.toks,h.lo,h.bl.setCell h.lo _⟩
theorem Rd.put5 {w0 w:World} {rb tb cap:Nat} {L:List (ByteArray × Int)} {s:St} (h:Rd w0 w rb tb cap L s) (x:Int):Rd w0 (w.setCell ⟨rb,5,none⟩ (.int .i64 x)) rb tb cap L { s with pl:=x }:=
 ⟨set_other h.c0 (.inr (by omega)),set_other h.c1 (.inr (by omega)),set_other h.c2 (.inr (by omega)),set_other h.c3 (.inr (by omega)),set_other h.c4 (.inr (by omega)),set_same h.c5,fun j=>by simpa using h.fz j,fun j hj=>⟨set_other (h.tok j hj).1 (.inl h.ne),set_other (h.tok j hj).2 (.inl h.ne)⟩,h.lt,h.ne,h.cap_le,h.toks,h.lo,h.bl.setCell h.lo _⟩
theorem grown_trans {a b c:World} {row:Option Nat} (h:a.grownBy b row) (k:b.grownBy c row):a.grownBy c row:=
 ⟨k.os.trans h.os,k.tape.trans h.tape,k.output.trans h.output,Nat.le_trans h.size k.size,fun q hq hne=>(k.block q (Nat.lt_of_lt_of_le hq h.size) hne).trans (h.block q hq hne)⟩
theorem grown_refl (w:World) (row:Option Nat):w.grownBy w row:=⟨rfl,rfl,rfl,Nat.le_refl _,fun _ _ _=>rfl⟩
theorem grown_drew (w:World) (row:Option Nat):w.grownBy w.drew row:=⟨rfl,rfl,rfl,Nat.le_refl _,fun _ _ _=>rfl⟩
theorem Rd.drew {w0 w:World} {rb tb cap:Nat} {L:List (ByteArray × Int)} {s:St} (h:Rd w0 w rb tb cap L s):Rd w0 w.drew rb tb cap L s:=h.grown (grown_drew w none) (by simp) (by simp) (by simp)
set_option maxRecDepth 100000 in
theorem rStop_any {w0:World} {rb tb cap:Nat} {L:List (ByteArray × Int)} {s:St} (n:Int) (w:World) (hr:Rd w0 w rb tb cap L s) (hn:n≠0):
  Calls Tryz.prog 91 #[.pointer (some ⟨rb,0,none⟩),.int .i64 n] w fun e w'=>e=.returned (.tuple #[])∧w.grownBy w' (some rb)∧∃s',Rd w0 w' rb tb cap L s'∧s'.i=s.i∧s'.er≠0:=by
 have HR:=hid hr;have h:=hr.all;have hlt:=hr.lt;have hlen:=hr.toks.len;have hcap:=hr.cap_le;have hi1:(s.i:Int)<(L.length:Int):=(by omega);have hi0:(0:Int)≤(s.i:Int):=(by omega);have u3:=hr.fz 3;have u4:=hr.fz 4;have u5:=hr.fz 5;clear hr
 cases ho:(s.er==0) with
 | false=>
  have HE:=hid (show s.er≠0 by simpa using ho);go_enter Tryz.func91,Tryz.ntmps91;go_wp2_with fail;refine (rOk_any w HR.out).mono ?_;rintro e w' ⟨rfl,rfl⟩;go_wp2;go_end0;exact ⟨rfl,grown_refl _ _,s,HR.out,rfl,HE.out⟩
 | true=>
  go_enter Tryz.func91,Tryz.ntmps91;go_wp2_with fail;refine (rOk_any w HR.out).mono ?_;rintro e w' ⟨rfl,rfl⟩;go_wp2;go_region
  all_goals
   go_wp2;go_end0;exact ⟨rfl,grown_trans (grown_trans (grown_trans (grown_setCell w rb 3 _) (grown_setCell _ rb 4 _)) (grown_setCell _ rb 5 _)) (grown_drew _ _),_,(((HR.out.put3 n).put4 0).put5 _).drew,rfl,hn⟩
theorem ba_sz (a:Array UInt8):(⟨a⟩:ByteArray).size=a.size:=rfl
theorem empty_of {s:ByteArray} (h:s.toList.isEmpty=false):s≠⟨#[]⟩:=by
 rintro rfl;simp [ByteArray.toList_eq] at h
set_option maxRecDepth 100000 in
theorem rOther_any {w0:World} {rb tb cap:Nat} {L:List (ByteArray × Int)} {s:St} (w:World) (hr:Rd w0 w rb tb cap L s):
  Calls Tryz.prog 38 #[.pointer (some ⟨rb,0,none⟩)] w fun e w'=>e=.returned (.tuple #[])∧w.grownBy w' (some rb)∧∃s',Rd w0 w' rb tb cap L s'∧s'.i=s.i∧s'.er≠0:=by
 have HR:=hid hr;clear hr;cases ho:(wdN L s.i).toList.isEmpty
 all_goals
  go_enter Tryz.func38,Tryz.ntmps38;go_wp2_with fail;refine (rWord_any w HR.out).mono ?_;rintro e w1 ⟨rfl,hb⟩;have HR1:=hid (HR.out.below hb);have HG1:=hid (grown_of_below hb (some rb));clear hb;go_wp2_with fail;refine (rStop_any _ w1 HR1.out (by omega)).mono ?_;rintro e w2 ⟨rfl,hg,hs⟩;have HG2:=hid (grown_trans HG1.out hg);have HS:=hid hs;clear hg hs;go_wp2;go_end0;exact ⟨rfl,HG2.out,HS.out⟩
set_option maxRecDepth 100000 in
theorem rIs_any {w0:World} {rb tb cap:Nat} {L:List (ByteArray × Int)} {s:St} (x:ByteArray) (w:World) (hr:Rd w0 w rb tb cap L s) (hx:s.er=0→x≠⟨#[]⟩):
  Calls Tryz.prog 87 #[.pointer (some ⟨rb,0,none⟩),.string x] w fun e w'=>w.grownBy w' (some rb)∧∃b s',e=.returned (.bool b)∧Rd w0 w' rb tb cap L s'∧s'.er=s.er∧(b=true→s.er=0∧wdN L s.i=x∧s'.i=s.i+1)∧(b=false→s'=s∧(s.er=0→wdN L s.i≠x)):=by
 have HR:=hid hr;have hlt:=hr.lt;have hlen:=hr.toks.len;clear hr
 cases ho:(s.er==0) with
 | false=>
  have HE:=hid (show s.er≠0 by simpa using ho);go_enter Tryz.func87,Tryz.ntmps87;go_wp2_with fail;refine (rOk_any w HR.out).mono ?_;rintro e w' ⟨rfl,rfl⟩;go_wp2;go_ret;exact ⟨grown_refl _ _,false,s,rfl,HR.out,rfl,fun h=>(by cases h),fun _=>⟨rfl,fun h=>absurd h HE.out⟩⟩
 | true=>
  have HE:=hid (show s.er=0 by simpa using ho)
  cases hw:((wdN L s.i).toList==x.toList) with
  | false=>
   have HNE:=hid (show wdN L s.i≠x by rintro e;rw [e] at hw;simp at hw);go_enter Tryz.func87,Tryz.ntmps87;go_wp2_with fail;refine (rOk_any w HR.out).mono ?_;rintro e w' ⟨rfl,rfl⟩;go_wp2_with fail;refine (rWord_any w HR.out).mono ?_;rintro e w1 ⟨rfl,hb⟩;have HR1:=hid (HR.out.below hb);have HG1:=hid (grown_of_below hb (some rb));clear hb;go_wp2;go_ret;exact ⟨HG1.out,false,s,rfl,HR1.out,rfl,fun h=>(by cases h),fun _=>⟨rfl,fun _=>HNE.out⟩⟩
  | true=>
   have heq:wdN L s.i=x:=by
    have h:=hw;rw [beq_iff_eq] at h;rw [ByteArray.toList_eq,ByteArray.toList_eq] at h;exact ByteArray.ext (Array.toList_inj.1 h)
   have hmore:=word_more HR.out.toks hlt (by rw [heq];exact hx HE.out);have HEQ:=hid heq;clear heq;go_enter Tryz.func87,Tryz.ntmps87;go_wp2_with fail;refine (rOk_any w HR.out).mono ?_;rintro e w' ⟨rfl,rfl⟩;go_wp2_with fail;refine (rWord_any w HR.out).mono ?_;rintro e w1 ⟨rfl,hb⟩;have HR1:=hid (HR.out.below hb);have HG1:=hid (grown_of_below hb (some rb));have h:=HR1.out.all;have u1:=HR1.out.fz 1;clear hb;go_wp2;go_ret;exact ⟨grown_trans HG1.out (grown_setCell w1 rb 1 _),true,_,rfl,HR1.out.put1 (s.i+1) hmore,rfl,fun _=>⟨HE.out,HEQ.out,rfl⟩,fun h=>(by cases h)⟩
end
section
open Go.RowKit Go.BigFrame
set_option maxRecDepth 100000 in
theorem rNeed_any {w0:World} {rb tb cap:Nat} {L:List (ByteArray × Int)} {s:St} (x:ByteArray) (w:World) (hr:Rd w0 w rb tb cap L s) (hx:s.er=0→x≠⟨#[]⟩):
  Calls Tryz.prog 85 #[.pointer (some ⟨rb,0,none⟩),.string x] w fun e w'=>e=.returned (.tuple #[])∧w.grownBy w' (some rb)∧∃s',Rd w0 w' rb tb cap L s'∧s.i≤s'.i∧(s'.er=0→s.er=0∧s.i<s'.i):=by
 have HR:=hid hr;clear hr;go_enter Tryz.func85,Tryz.ntmps85;go_wp2_with fail;refine (rIs_any x w HR.out hx).mono ?_;rintro e w1 ⟨hg,b,s1,rfl,hr1,he,ht,hf⟩;have HG1:=hid hg;have HR1:=hid hr1;clear hg hr1
 cases b with
 | true=>
  obtain ⟨h1,_,h3⟩:=ht rfl;have HE:=hid (And.intro h1 h3);clear ht hf he h1 h3;go_wp2;go_end0;exact ⟨rfl,HG1.out,s1,HR1.out,by have:=HE.out.2;omega,fun _=>⟨HE.out.1,by have:=HE.out.2;omega⟩⟩
 | false=>
  obtain ⟨h1,_⟩:=hf rfl;have HE:=hid h1;clear ht hf he h1;go_wp2_with fail;refine (rOther_any w1 HR1.out).mono ?_;rintro e w2 ⟨rfl,hg,s2,hr2,h2,h3⟩;have HS:=hid (And.intro hg (And.intro hr2 (And.intro h2 h3)));clear hg hr2 h2 h3;go_wp2;go_end0;exact ⟨rfl,grown_trans HG1.out HS.out.1,s2,HS.out.2.1,by have:=HS.out.2.2.1;rw [HE.out] at this;omega,fun h=>absurd h HS.out.2.2.2⟩
set_option maxRecDepth 100000 in
theorem rDeeper_any {w0:World} {rb tb cap:Nat} {L:List (ByteArray × Int)} {s:St} (w:World) (hr:Rd w0 w rb tb cap L s):
  Calls Tryz.prog 130 #[.pointer (some ⟨rb,0,none⟩)] w fun e w'=>e=.returned (.tuple #[])∧w.grownBy w' (some rb)∧∃s',Rd w0 w' rb tb cap L s'∧s'.i=s.i∧(s'.er=0→s.er=0):=by
 have HR:=hid hr;have h:=hr.all;have u2:=hr.fz 2;clear hr;have HP:=hid (HR.out.put2 (wrap64 (s.dp+1)));have HG:=hid (grown_setCell w rb 2 (.int .i64 (wrap64 (s.dp+1))));by_cases hd:20<wrap64 (s.dp+1)
 ·go_enter Tryz.func130,Tryz.ntmps130;go_wp2_with fail;refine (rStop_any 3 _ HP.out (by omega)).mono ?_;rintro e w2 ⟨rfl,hg,s2,hr2,h2,h3⟩;have HS:=hid (And.intro hg (And.intro hr2 (And.intro h2 h3)));clear hg hr2 h2 h3;go_wp2;go_end0;exact ⟨rfl,grown_trans HG.out HS.out.1,s2,HS.out.2.1,HS.out.2.2.1,fun h=>absurd h HS.out.2.2.2⟩
 ·go_enter Tryz.func130,Tryz.ntmps130;go_wp2;go_end0;exact ⟨rfl,HG.out,_,HP.out,rfl,fun h=>h⟩
set_option maxRecDepth 100000 in
theorem rName_any {w0:World} {rb tb cap:Nat} {L:List (ByteArray × Int)} {s:St} (w:World) (hl:KeptLaid w0) (hr:Rd w0 w rb tb cap L s):
  Calls Tryz.prog 86 #[.pointer (some ⟨rb,0,none⟩)] w fun e w'=>w.grownBy w' (some rb)∧∃nm s',e=.returned (.string nm)∧nm.size≤1000000∧Rd w0 w' rb tb cap L s'∧s.i≤s'.i∧(s'.er=0→s.er=0∧s.i<s'.i∧nm≠⟨#[]⟩):=by
 have HR:=hid hr;have HL:=hid hl;have hlt:=hr.lt;have hlen:=hr.toks.len;clear hr hl
 cases ho:(s.er==0) with
 | false=>
  go_enter Tryz.func86,Tryz.ntmps86;go_wp2_with fail;refine (rOk_any w HR.out).mono ?_;rintro e w' ⟨rfl,rfl⟩;go_wp2_with fail;refine (rOther_any w HR.out).mono ?_;rintro e w2 ⟨rfl,hg,s2,hr2,h2,h3⟩;have HS:=hid (And.intro hg (And.intro hr2 (And.intro h2 h3)));clear hg hr2 h2 h3;go_wp2;go_ret;exact ⟨HS.out.1,_,s2,rfl,by simp [ba_sz],HS.out.2.1,by have:=HS.out.2.2.1;omega,fun h=>absurd h HS.out.2.2.2⟩
 | true=>
  have HE:=hid (show s.er=0 by simpa using ho)
  cases hn:nameB (wdN L s.i) with
  | false=>
   have HN:=hid hn;clear hn;go_enter Tryz.func86,Tryz.ntmps86;go_wp2_with fail;refine (rOk_any w HR.out).mono ?_;rintro e w' ⟨rfl,rfl⟩;go_wp2_with fail;refine (rWord_any w HR.out).mono ?_;rintro e w1 ⟨rfl,hb⟩;have HR1:=hid (HR.out.below hb);have HG1:=hid (grown_of_below hb (some rb));clear hb;go_wp2_with fail;refine (refName_any (wdN L s.i) w1 (HL.out.below HR1.out.bl)).mono ?_;rintro e w' ⟨rfl,rfl⟩;rw [HN.out];go_wp2_with fail;refine (rOther_any w1 HR1.out).mono ?_;rintro e w2 ⟨rfl,hg,s2,hr2,h2,h3⟩;have HS:=hid (And.intro hg (And.intro hr2 (And.intro h2 h3)));clear hg hr2 h2 h3;go_wp2;go_ret;exact ⟨grown_trans HG1.out HS.out.1,_,s2,rfl,by simp [ba_sz],HS.out.2.1,by have:=HS.out.2.2.1;omega,fun h=>absurd h HS.out.2.2.2⟩
  | true=>
   have hwe:wdN L s.i≠⟨#[]⟩:=by
    intro e;rw [e] at hn;have h0:nameB ⟨#[]⟩=false:=(by first | rfl | decide +kernel);rw [h0] at hn;cases hn
   have hmore:=word_more HR.out.toks hlt hwe;have HWE:=hid hwe;have HN:=hid hn;clear hn hwe;go_enter Tryz.func86,Tryz.ntmps86;go_wp2_with fail;refine (rOk_any w HR.out).mono ?_;rintro e w' ⟨rfl,rfl⟩;go_wp2_with fail;refine (rWord_any w HR.out).mono ?_;rintro e w1 ⟨rfl,hb⟩;have HR1:=hid (HR.out.below hb);have HG1:=hid (grown_of_below hb (some rb));clear hb;go_wp2_with fail;refine (refName_any (wdN L s.i) w1 (HL.out.below HR1.out.bl)).mono ?_;rintro e w' ⟨rfl,rfl⟩;rw [HN.out];have h:=HR1.out.all;have u1:=HR1.out.fz 1;go_wp2;generalize hW2:w1.setCell ⟨rb,1,none⟩ (.int .i64 ((s.i:Int)+1))=w2;have hr2:Rd w0 w2 rb tb cap L { s with i:=s.i+1 }:=(by rw [← hW2];exact HR1.out.put1 (s.i+1) hmore);have hg2:w.grownBy w2 (some rb):=(by rw [← hW2];exact grown_trans HG1.out (grown_setCell w1 rb 1 _));have HR2:=hid hr2;have HG2:=hid hg2;clear hr2 hg2 hW2 h u1;have r0:=cell_regrown HR2.out.c0;have r1:=cell_regrown (show w2.cell? ⟨rb,1,none⟩=some (.int .i64 ((s.i:Int)+1)) from by simpa using HR2.out.c1);have r2:=cell_regrown (HR2.out.tok s.i hlt).1;have hi1:(s.i:Int)<(L.length:Int):=(by omega);have hi0:(0:Int)≤(s.i:Int):=(by omega);have hsm:=HR2.out.toks.small s.i;have HSM:=hid hsm;clear hsm;refine wp_region_quiet_below (by kernel_rfl) (by kernel_rfl) ?_
   repeat (go_big_quiet_step (fail))
   refine wpQuiet_nil ?_;intro _ hw';obtain ⟨⟨dq,osq⟩,hw''⟩:=hw';subst hw'';clear r0 r1 r2;have HG:=hid (below_regrown w2 dq osq);generalize hG:Go.Sort.grow (redrawn w2 dq) osq=G at *;clear hG;go_wp2;go_ret;exact ⟨grown_trans HG2.out (grown_of_below HG.out _),_,_,rfl,HSM.out,HR2.out.below HG.out,Nat.le_succ _,fun _=>⟨HE.out,Nat.lt_succ_self _,HWE.out⟩⟩
end
section
open Go.RowKit Go.BigFrame
theorem behind_any (x:ByteArray) (w:World):Calls Tryz.prog 131 #[.string x] w fun e w'=>(∃b,e=.returned (.bool b)∧(b=false→x≠⟨#[]⟩))∧w=w':=by
 cases h0:x.toList.isEmpty with
 | true=>
  go_enter Tryz.func131,Tryz.ntmps131;go_wp2;go_ret;exact ⟨⟨true,rfl,fun h=>by cases h⟩,rfl⟩
 | false=>
  have HE:=hid (empty_of h0)
  cases h1:(x.toList==[69,78,68]) with
  | true=>
   go_enter Tryz.func131,Tryz.ntmps131;go_wp2;go_ret;exact ⟨⟨_,rfl,fun _=>HE.out⟩,rfl⟩
  | false=>
   cases h2:(x.toList==[69,76,83,73,70]) with
   | true=>
    go_enter Tryz.func131,Tryz.ntmps131;go_wp2;go_ret;exact ⟨⟨_,rfl,fun _=>HE.out⟩,rfl⟩
   | false=>
    cases h3:(x.toList==[69,76,83,69]) with
    | true=>
     go_enter Tryz.func131,Tryz.ntmps131;go_wp2;go_ret;exact ⟨⟨_,rfl,fun _=>HE.out⟩,rfl⟩
    | false=>
     go_enter Tryz.func131,Tryz.ntmps131;go_wp2;go_ret;exact ⟨⟨_,rfl,fun _=>HE.out⟩,rfl⟩
set_option maxRecDepth 100000 in
theorem rValue_any {w0:World} {rb tb cap:Nat} {L:List (ByteArray × Int)} {s:St} (w:World) (hr:Rd w0 w rb tb cap L s):
  Calls Tryz.prog 158 #[.pointer (some ⟨rb,0,none⟩)] w fun e w'=>w.grownBy w' (some rb)∧∃v s',e=.returned (.int .i64 v)∧Rd w0 w' rb tb cap L s'∧s.i≤s'.i∧(s'.er=0→s.er=0∧s.i<s'.i):=by
 have HR:=hid hr;have hlt:=hr.lt;have hlen:=hr.toks.len;clear hr
 cases ho:(s.er==0) with
 | false=>
  go_enter Tryz.func158,Tryz.ntmps158;go_wp2_with fail;refine (rWord_any w HR.out).mono ?_;rintro e w1 ⟨rfl,hb⟩;have HR1:=hid (HR.out.below hb);have HG1:=hid (grown_of_below hb (some rb));clear hb;go_wp2_with fail;refine (rOk_any w1 HR1.out).mono ?_;rintro e w' ⟨rfl,rfl⟩;go_wp2_with fail;refine (rOther_any w1 HR1.out).mono ?_;rintro e w2 ⟨rfl,hg,s2,hr2,h2,h3⟩;have HS:=hid (And.intro hg (And.intro hr2 (And.intro h2 h3)));clear hg hr2 h2 h3;go_wp2;go_ret;exact ⟨grown_trans HG1.out HS.out.1,_,s2,rfl,HS.out.2.1,by have:=HS.out.2.2.1;omega,fun h=>absurd h HS.out.2.2.2⟩
 | true=>
  have HE:=hid (show s.er=0 by simpa using ho)
  cases hw:(wdN L s.i).toList.isEmpty with
  | true=>
   go_enter Tryz.func158,Tryz.ntmps158;go_wp2_with fail;refine (rWord_any w HR.out).mono ?_;rintro e w1 ⟨rfl,hb⟩;have HR1:=hid (HR.out.below hb);have HG1:=hid (grown_of_below hb (some rb));clear hb;go_wp2_with fail;refine (rOk_any w1 HR1.out).mono ?_;rintro e w' ⟨rfl,rfl⟩;go_wp2_with fail;refine (rOther_any w1 HR1.out).mono ?_;rintro e w2 ⟨rfl,hg,s2,hr2,h2,h3⟩;have HS:=hid (And.intro hg (And.intro hr2 (And.intro h2 h3)));clear hg hr2 h2 h3;go_wp2;go_ret;exact ⟨grown_trans HG1.out HS.out.1,_,s2,rfl,HS.out.2.1,by have:=HS.out.2.2.1;omega,fun h=>absurd h HS.out.2.2.2⟩
  | false=>
   have hwe:=empty_of hw;have hmore:=word_more HR.out.toks hlt hwe;have hsm:=HR.out.toks.small s.i
   have hpos:0<(wdN L s.i).size:=by
    rcases Nat.eq_zero_or_pos (wdN L s.i).size with h | h
    ·exact absurd (ByteArray.ext (Array.eq_empty_of_size_eq_zero h)) hwe
    ·exact h
   clear hwe;go_enter Tryz.func158,Tryz.ntmps158;go_wp2_with fail;refine (rWord_any w HR.out).mono ?_;rintro e w1 ⟨rfl,hb⟩;have HR1:=hid (HR.out.below hb);have HG1:=hid (grown_of_below hb (some rb));clear hb;go_wp2_with fail;refine (rOk_any w1 HR1.out).mono ?_;rintro e w' ⟨rfl,rfl⟩;go_wp2_with fail;refine (isDigit_any _ _).mono ?_;rintro e w' ⟨rfl,rfl⟩
   cases hd:digB ((wdN L s.i)[0].toNat:Int) with
   | false=>
    go_wp2_with fail;refine (rOther_any w1 HR1.out).mono ?_;rintro e w2 ⟨rfl,hg,s2,hr2,h2,h3⟩;have HS:=hid (And.intro hg (And.intro hr2 (And.intro h2 h3)));clear hg hr2 h2 h3;go_wp2;go_ret;exact ⟨grown_trans HG1.out HS.out.1,_,s2,rfl,HS.out.2.1,by have:=HS.out.2.2.1;omega,fun h=>absurd h HS.out.2.2.2⟩
   | true=>
    have h:=HR1.out.all;have u1:=HR1.out.fz 1;have HP:=hid (HR1.out.put1 (s.i+1) hmore);have HG:=hid (grown_trans HG1.out (grown_setCell w1 rb 1 (.int .i64 ((s.i:Int)+1))));go_wp2;generalize hW2:w1.setCell ⟨rb,1,none⟩ (.int .i64 ((s.i:Int)+1))=w2 at *;have HP2:=hid (show Rd w0 w2 rb tb cap L { s with i:=s.i+1 } by rw [← hW2];exact HP.out);clear hW2 HP h u1;go_loopw [4,5] (fun nn ii wr=>∃(j:Nat) (v:Int),j≤(wdN L s.i).size∧ii=.int .i64 j∧nn=.int .i64 v∧wr=w2) (fun _ ii _=>(wdN L s.i).size - (intOf ii).toNat)
    case atStart=>exact ⟨0,0,Nat.zero_le _,rfl,rfl,rfl⟩
    case round=>
     obtain ⟨j,v,hj,rfl,rfl,rfl⟩:=hrel;by_cases hlj:j<(wdN L s.i).size
     ·go_wp2;go_roundw
      case rel=>exact ⟨j+1,_,by omega,by go_num,rfl,by first | rfl | trivial⟩
      case measure=>simp [intOf];omega
     ·go_wp2;go_ret;exact ⟨HG.out,_,_,rfl,HP2.out,Nat.le_succ _,fun _=>⟨HE.out,Nat.lt_succ_self _⟩⟩
end
end Go.Proofs.YtneohanphabneaaGreatDoor
