/-
The document's answer on shapes, the walks: declarations. Conditions: the tree lies in memory; the variable with the kept words is as it is laid.
-/
import Derived.Test.YtneohanphabneaaGreatDoorShapeR3
namespace Go.Proofs.YtneohanphabneaaGreatDoor
set_option linter.unusedSimpArgs false
set_option linter.unusedVariables false
open Go.RowKit
theorem len4 {l:List Nd} (h:(l.length:Int)=4):∃x y z v,l=[x,y,z,v]:=by
 match l,h with
 | [x,y,z,v],_=>exact ⟨x,y,z,v,rfl⟩
 | [],h=>simp at h
 | [_],h=>simp at h
 | [_,_],h=>simp at h
 | [_,_,_],h=>simp at h
 | _::_::_::_::_::_,h=>simp at h;omega
theorem len6 {l:List Nd} (h:(l.length:Int)=6):∃x y z v u t,l=[x,y,z,v,u,t]:=by
 match l,h with
 | [x,y,z,v,u,t],_=>exact ⟨x,y,z,v,u,t,rfl⟩
 | [],h=>simp at h
 | [_],h=>simp at h
 | [_,_],h=>simp at h
 | [_,_,_],h=>simp at h
 | [_,_,_,_],h=>simp at h
 | [_,_,_,_,_],h=>simp at h
 | _::_::_::_::_::_::_::_,h=>simp at h;omega
theorem st_any:∀d:Nat,Asks_stmtShaped d∧Asks_stmtsShaped d
 | 0=>⟨fun _ _ _ _ _ hk=>hk.elim,fun _ _ _ _ _ hk=>hk.elim⟩
 | d+1=>⟨stmt_step d (ed_any d).1 (ed_any d).2 (st_any d).2,stmts_step d (st_any d).1⟩
theorem declS_succ (d:Nat) (n:Nd):declS (d+1) n=declStep d n:=rfl
set_option maxRecDepth 100000 in
set_option maxHeartbeats 16000000 in
theorem declShaped_any (d:Nat) (n:Nd) (A:Option Addr) (c:Nat) (w:World) (hl:KeptLaid w) (hk:Kids w d n A c):
  Calls Tryz.prog 19 #[.agg #[.int .i64 n.kind,.string n.name,.int .i64 n.num,.int .i64 n.pos,.slice A n.subs.length c]] w fun e w'=>e=.returned (.bool (declS d n))∧Below w.heap.size w w':=by
 obtain ⟨d,rfl⟩:∃d',d=d'+1:=(by cases d with | zero=>exact hk.elim | succ d=>exact ⟨d,rfl⟩);by_cases hvar:n.kind=6∨n.kind=8∨n.kind=11
 ·have hv:declS (d+1) n=varS n n.kind:=(by rcases hvar with h | h | h <;> simp [declS_succ,declStep,h]);rw [hv];exact declVar_any _ n A c w hl hk hvar
 obtain ⟨k,s,num,pos,subs⟩:=n;have hlen:=hk.len;unfold maxLen at hlen;simp only at hlen;simp only [not_or] at hvar;obtain ⟨k6,k8,k11⟩:=hvar;have b6:(k==6)=false:=(by simpa using k6);have b8:(k==8)=false:=(by simpa using k8);have b11:(k==11)=false:=(by simpa using k11);by_cases k3:k=3
 ·subst k3;clear k6 k8 k11 b6 b8 b11;have HAT:=hid (bAt w ⟨3,s,num,pos,subs⟩ A c 24);have HL:=hid (hl.below (bBw w (.cells #[.int .i64 3,.string s,.int .i64 num,.int .i64 pos,.slice A subs.length c] 24)));clear hl hk;go_enter Tryz.func19,Tryz.ntmps19;go_wp2_with fail;generalize hW0:w.alloc (.cells #[.int .i64 3,.string s,.int .i64 num,.int .i64 pos,.slice A subs.length c] 24)=W0 at *;have HBOX:=hid (show Below w.heap.size w W0 by rw [← hW0];exact bBw _ _);clear hW0;refine (head_any ⟨3,s,num,pos,subs⟩ A c 3 true 0 0 _ HL.out (by unfold maxLen;simp only [List.length_cons,List.length_nil];omega)).mono ?_;rintro e w1 ⟨rfl,hb1⟩;have HC1:=hid hb1;clear hb1;have x_:=(nb HAT HC1).all;go_wp2;go_ret;exact ⟨rBo (by simp [declS_succ,declStep,Nd.sub]),bTh HBOX.out HC1.out⟩
 ·have b3:(k==3)=false:=(by simpa using k3);by_cases k4:k=4
  ·subst k4;clear k6 k8 k11 b6 b8 b11
   cases hh:headB ⟨4,s,num,pos,subs⟩ 4 true 1 1 with
   | false=>
    have HAT:=hid (bAt w ⟨4,s,num,pos,subs⟩ A c 24);have HL:=hid (hl.below (bBw w (.cells #[.int .i64 4,.string s,.int .i64 num,.int .i64 pos,.slice A subs.length c] 24)));clear hl hk;have HH:=hid hh;clear hh;go_enter Tryz.func19,Tryz.ntmps19;go_wp2_with fail;generalize hW0:w.alloc (.cells #[.int .i64 4,.string s,.int .i64 num,.int .i64 pos,.slice A subs.length c] 24)=W0 at *;have HBOX:=hid (show Below w.heap.size w W0 by rw [← hW0];exact bBw _ _);clear hW0;refine (head_any ⟨4,s,num,pos,subs⟩ A c 4 true 1 1 _ HL.out (by unfold maxLen;simp only [List.length_cons,List.length_nil];omega)).mono ?_;rintro e w1 ⟨rfl,hb1⟩;have HC1:=hid hb1;clear hb1;have x_:=(nb HAT HC1).all;rw [HH.out];go_wp2;go_ret;exact ⟨rBo (by simp [declS_succ,declStep,Nd.sub,HH.out]),bTh HBOX.out HC1.out⟩
   | true=>
    obtain ⟨x,rfl⟩:=len1 (headB_len hh (by omega));obtain ⟨b,o,Ax,cx,rfl,hx_x,hk_x⟩:=hk.one (x:=x) (r:=[]) rfl;simp only [List.length_cons,List.length_nil,Nat.zero_add] at hlen;have HAT:=hid (bAt w ⟨4,s,num,pos,[x]⟩ (some ⟨b,o,none⟩) c 24);have HL:=hid (hl.below (bBw w (.cells #[.int .i64 4,.string s,.int .i64 num,.int .i64 pos,.slice (some ⟨b,o,none⟩) 1 c] 24)));have HX_x:=hid (hx_x.below (bBw w (.cells #[.int .i64 4,.string s,.int .i64 num,.int .i64 pos,.slice (some ⟨b,o,none⟩) 1 c] 24)));have HK_x:=hid (hk_x.below (bBw w (.cells #[.int .i64 4,.string s,.int .i64 num,.int .i64 pos,.slice (some ⟨b,o,none⟩) 1 c] 24)));clear hx_x hk_x;clear hl hk;have HH:=hid hh;clear hh;have fx:=HX_x.out.all;go_enter Tryz.func19,Tryz.ntmps19;go_wp2_with fail;generalize hW0:w.alloc (.cells #[.int .i64 4,.string s,.int .i64 num,.int .i64 pos,.slice (some ⟨b,o,none⟩) 1 c] 24)=W0 at *;have HBOX:=hid (show Below w.heap.size w W0 by rw [← hW0];exact bBw _ _);clear hW0;refine (head_any ⟨4,s,num,pos,[x]⟩ (some ⟨b,o,none⟩) c 4 true 1 1 _ HL.out (by unfold maxLen;simp only [List.length_cons,List.length_nil];omega)).mono ?_;rintro e w1 ⟨rfl,hb1⟩;have HC1:=hid hb1;clear hb1;clear fx;have x_:=(nb HAT HC1).all;have fx:=(nb HX_x HC1).all;rw [HH.out];go_wp2_with fail;refine ((ed_any d).1 x Ax cx _ (HL.out.below HC1.out) (kb HK_x HC1)).mono ?_;rintro e w2 ⟨rfl,hb2⟩;have HC2:=hid (bTh HC1.out hb2);clear hb2;clear x_ fx;have x_:=(nb HAT HC2).all;have fx:=(nb HX_x HC2).all;go_wp2;go_ret;exact ⟨rBo (by simp [declS_succ,declStep,Nd.sub,HH.out]),bTh HBOX.out HC2.out⟩
  ·have b4:(k==4)=false:=(by simpa using k4);by_cases k5:k=5
   ·subst k5;clear k6 k8 k11 b6 b8 b11
    cases hh:headB ⟨5,s,num,pos,subs⟩ 5 true 1 1 with
    | false=>
     have HAT:=hid (bAt w ⟨5,s,num,pos,subs⟩ A c 24);have HL:=hid (hl.below (bBw w (.cells #[.int .i64 5,.string s,.int .i64 num,.int .i64 pos,.slice A subs.length c] 24)));clear hl hk;have HH:=hid hh;clear hh;go_enter Tryz.func19,Tryz.ntmps19;go_wp2_with fail;generalize hW0:w.alloc (.cells #[.int .i64 5,.string s,.int .i64 num,.int .i64 pos,.slice A subs.length c] 24)=W0 at *;have HBOX:=hid (show Below w.heap.size w W0 by rw [← hW0];exact bBw _ _);clear hW0;refine (head_any ⟨5,s,num,pos,subs⟩ A c 5 true 1 1 _ HL.out (by unfold maxLen;simp only [List.length_cons,List.length_nil];omega)).mono ?_;rintro e w1 ⟨rfl,hb1⟩;have HC1:=hid hb1;clear hb1;have x_:=(nb HAT HC1).all;rw [HH.out];go_wp2;go_ret;exact ⟨rBo (by simp [declS_succ,declStep,Nd.sub,HH.out]),bTh HBOX.out HC1.out⟩
    | true=>
     obtain ⟨x,rfl⟩:=len1 (headB_len hh (by omega));obtain ⟨b,o,Ax,cx,rfl,hx_x,hk_x⟩:=hk.one (x:=x) (r:=[]) rfl;simp only [List.length_cons,List.length_nil,Nat.zero_add] at hlen;have HAT:=hid (bAt w ⟨5,s,num,pos,[x]⟩ (some ⟨b,o,none⟩) c 24);have HL:=hid (hl.below (bBw w (.cells #[.int .i64 5,.string s,.int .i64 num,.int .i64 pos,.slice (some ⟨b,o,none⟩) 1 c] 24)));have HX_x:=hid (hx_x.below (bBw w (.cells #[.int .i64 5,.string s,.int .i64 num,.int .i64 pos,.slice (some ⟨b,o,none⟩) 1 c] 24)));have HK_x:=hid (hk_x.below (bBw w (.cells #[.int .i64 5,.string s,.int .i64 num,.int .i64 pos,.slice (some ⟨b,o,none⟩) 1 c] 24)));clear hx_x hk_x;clear hl hk;have HH:=hid hh;clear hh;have fx:=HX_x.out.all;go_enter Tryz.func19,Tryz.ntmps19;go_wp2_with fail;generalize hW0:w.alloc (.cells #[.int .i64 5,.string s,.int .i64 num,.int .i64 pos,.slice (some ⟨b,o,none⟩) 1 c] 24)=W0 at *;have HBOX:=hid (show Below w.heap.size w W0 by rw [← hW0];exact bBw _ _);clear hW0;refine (head_any ⟨5,s,num,pos,[x]⟩ (some ⟨b,o,none⟩) c 5 true 1 1 _ HL.out (by unfold maxLen;simp only [List.length_cons,List.length_nil];omega)).mono ?_;rintro e w1 ⟨rfl,hb1⟩;have HC1:=hid hb1;clear hb1;clear fx;have x_:=(nb HAT HC1).all;have fx:=(nb HX_x HC1).all;rw [HH.out];go_wp2_with fail;refine (typeShaped_any d x Ax cx _ (HL.out.below HC1.out) (kb HK_x HC1)).mono ?_;rintro e w2 ⟨rfl,hb2⟩;have HC2:=hid (bTh HC1.out hb2);clear hb2;clear x_ fx;have x_:=(nb HAT HC2).all;have fx:=(nb HX_x HC2).all;go_wp2;go_ret;exact ⟨rBo (by simp [declS_succ,declStep,Nd.sub,HH.out]),bTh HBOX.out HC2.out⟩
   ·have b5:(k==5)=false:=(by simpa using k5)
    cases hh:headB ⟨k,s,num,pos,subs⟩ 7 true 1 4 with
    | false=>
     have HAT:=hid (bAt w ⟨k,s,num,pos,subs⟩ A c 24);have HL:=hid (hl.below (bBw w (.cells #[.int .i64 k,.string s,.int .i64 num,.int .i64 pos,.slice A subs.length c] 24)));clear hl hk;have HH:=hid hh;clear hh;go_enter Tryz.func19,Tryz.ntmps19;go_wp2_with fail;generalize hW0:w.alloc (.cells #[.int .i64 k,.string s,.int .i64 num,.int .i64 pos,.slice A subs.length c] 24)=W0 at *;have HBOX:=hid (show Below w.heap.size w W0 by rw [← hW0];exact bBw _ _);clear hW0;refine (head_any ⟨k,s,num,pos,subs⟩ A c 7 true 1 4 _ HL.out (by unfold maxLen;simp only [List.length_cons,List.length_nil];omega)).mono ?_;rintro e w1 ⟨rfl,hb1⟩;have HC1:=hid hb1;clear hb1;have x_:=(nb HAT HC1).all;rw [HH.out];go_wp2;go_ret;exact ⟨rBo (by simp [declS_succ,declStep,procS,Nd.sub,k6,k8,k11,HH.out,k3,k4,k5]),bTh HBOX.out HC1.out⟩
    | true=>
     obtain ⟨x,y,z,v,rfl⟩:=len4 (headB_len hh (by omega));obtain ⟨b,o,Ax,cx,rfl,hx_x,hk_x⟩:=hk.one (x:=x) (r:=[y,z,v]) rfl;obtain ⟨Ay,cy,hx_y,hk_y⟩:=hk.nth rfl (i:=1) (x:=y) rfl (p:=o+5) (by omega);obtain ⟨Az,cz,hx_z,hk_z⟩:=hk.nth rfl (i:=2) (x:=z) rfl (p:=o+10) (by omega);obtain ⟨Av,cv,hx_v,hk_v⟩:=hk.nth rfl (i:=3) (x:=v) rfl (p:=o+15) (by omega);obtain ⟨d,rfl⟩:∃d',d=d'+1:=(by cases d with | zero=>exact hk_x.elim | succ d=>exact ⟨d,rfl⟩);simp only [List.length_cons,List.length_nil,Nat.zero_add] at hlen;have HAT:=hid (bAt w ⟨k,s,num,pos,[x,y,z,v]⟩ (some ⟨b,o,none⟩) c 24);have HL:=hid (hl.below (bBw w (.cells #[.int .i64 k,.string s,.int .i64 num,.int .i64 pos,.slice (some ⟨b,o,none⟩) 4 c] 24)));have HX_x:=hid (hx_x.below (bBw w (.cells #[.int .i64 k,.string s,.int .i64 num,.int .i64 pos,.slice (some ⟨b,o,none⟩) 4 c] 24)));have HK_x:=hid (hk_x.below (bBw w (.cells #[.int .i64 k,.string s,.int .i64 num,.int .i64 pos,.slice (some ⟨b,o,none⟩) 4 c] 24)));clear hx_x hk_x;have HX_y:=hid (hx_y.below (bBw w (.cells #[.int .i64 k,.string s,.int .i64 num,.int .i64 pos,.slice (some ⟨b,o,none⟩) 4 c] 24)));have HK_y:=hid (hk_y.below (bBw w (.cells #[.int .i64 k,.string s,.int .i64 num,.int .i64 pos,.slice (some ⟨b,o,none⟩) 4 c] 24)));clear hx_y hk_y;have HX_z:=hid (hx_z.below (bBw w (.cells #[.int .i64 k,.string s,.int .i64 num,.int .i64 pos,.slice (some ⟨b,o,none⟩) 4 c] 24)));have HK_z:=hid (hk_z.below (bBw w (.cells #[.int .i64 k,.string s,.int .i64 num,.int .i64 pos,.slice (some ⟨b,o,none⟩) 4 c] 24)));clear hx_z hk_z;have HX_v:=hid (hx_v.below (bBw w (.cells #[.int .i64 k,.string s,.int .i64 num,.int .i64 pos,.slice (some ⟨b,o,none⟩) 4 c] 24)));have HK_v:=hid (hk_v.below (bBw w (.cells #[.int .i64 k,.string s,.int .i64 num,.int .i64 pos,.slice (some ⟨b,o,none⟩) 4 c] 24)));clear hx_v hk_v;clear hl hk;have HH:=hid hh;clear hh;have HKLX:=hid HK_x.out.list;have HKLZ:=hid HK_z.out.list;have fx:=HX_x.out.all;have fy:=HX_y.out.all;have fz:=HX_z.out.all;have fv:=HX_v.out.all;go_enter Tryz.func19,Tryz.ntmps19;go_wp2_with fail;generalize hW0:w.alloc (.cells #[.int .i64 k,.string s,.int .i64 num,.int .i64 pos,.slice (some ⟨b,o,none⟩) 4 c] 24)=W0 at *;have HBOX:=hid (show Below w.heap.size w W0 by rw [← hW0];exact bBw _ _);clear hW0;refine (head_any ⟨k,s,num,pos,[x,y,z,v]⟩ (some ⟨b,o,none⟩) c 7 true 1 4 _ HL.out (by unfold maxLen;simp only [List.length_cons,List.length_nil];omega)).mono ?_;rintro e w1 ⟨rfl,hb1⟩;have HC1:=hid hb1;clear hb1;clear fx fy fz fv;have x_:=(nb HAT HC1).all;have fx:=(nb HX_x HC1).all;have fy:=(nb HX_y HC1).all;have fz:=(nb HX_z HC1).all;have fv:=(nb HX_v HC1).all;rw [HH.out];go_wp2_with fail;refine (head_any x Ax cx 1 false 0 (-1) _ (HL.out.below HC1.out) (kb HK_x HC1).len).mono ?_;rintro e w2 ⟨rfl,hb2⟩;have HC2:=hid (bTh HC1.out hb2);clear hb2;clear x_ fx fy fz fv;have x_:=(nb HAT HC2).all;have fx:=(nb HX_x HC2).all;have fy:=(nb HX_y HC2).all;have fz:=(nb HX_z HC2).all;have fv:=(nb HX_v HC2).all
     cases hH1:headB x 1 false 0 (-1) with
     | false=>
      have H1:=hid hH1;clear hH1;go_wp2;go_ret;exact ⟨rBo (by simp [declS_succ,declStep,procS,Nd.sub,k6,k8,k11,HH.out,k3,k4,k5,H1.out]),bTh HBOX.out HC2.out⟩
     | true=>
      have H1:=hid hH1;clear hH1;go_wp2_with fail;refine (head_any z Az cz 1 false 0 (-1) _ (HL.out.below HC2.out) (kb HK_z HC2).len).mono ?_;rintro e w3 ⟨rfl,hb3⟩;have HC3:=hid (bTh HC2.out hb3);clear hb3;clear x_ fx fy fz fv;have x_:=(nb HAT HC3).all;have fx:=(nb HX_x HC3).all;have fy:=(nb HX_y HC3).all;have fz:=(nb HX_z HC3).all;have fv:=(nb HX_v HC3).all
      cases hH2:headB z 1 false 0 (-1) with
      | false=>
       have H2:=hid hH2;clear hH2;go_wp2;go_ret;exact ⟨rBo (by simp [declS_succ,declStep,procS,Nd.sub,k6,k8,k11,HH.out,k3,k4,k5,H1.out,H2.out]),bTh HBOX.out HC3.out⟩
      | true=>
       have H2:=hid hH2;clear hH2;have hlx:=HK_x.out.len;unfold maxLen at hlx;go_wp2;go_loopw [3] (fun ii wr=>∃j:Nat,j≤x.subs.length∧ii=.int .i64 j∧(x.subs.take j).all (fun x=>decide (x.kind=8) && varS x 8)=true∧Below W0.heap.size W0 wr) (fun ii _=>x.subs.length - (intOf ii).toNat)
       case atStart=>exact ⟨0,by simp,rfl,by simp,HC3.out⟩
       case round=>
        obtain ⟨j,hj,rfl,hall,hbr⟩:=hrel;have HC4:=hid hbr;have HALL:=hid hall;clear hbr hall;clear x_ fx fy fz fv;have x_:=(nb HAT HC4).all;have fx:=(nb HX_x HC4).all;have fy:=(nb HX_y HC4).all;have fz:=(nb HX_z HC4).all;have fv:=(nb HX_v HC4).all;by_cases hlt:j<x.subs.length
        ·skip;obtain ⟨e,hy⟩:∃y,x.subs[j]?=some y:=⟨_,List.getElem?_eq_getElem (by simpa using hlt)⟩;obtain ⟨be_,oe_,Ae,ce,hA,hx,hky⟩:=HKLX.out.2.2 j e hy;subst hA;have HX_e:=hid hx;have HK_e:=hid hky;have HY:=hid hy;clear hx hky hy;clear x_ fx fy fz fv;have x_:=(nb HAT HC4).all;have fx:=(nb HX_x HC4).all;have fy:=(nb HX_y HC4).all;have fz:=(nb HX_z HC4).all;have fv:=(nb HX_v HC4).all;have fe:=(nb HX_e HC4).all;obtain ⟨yk,ys,yn,yp,yl⟩:=e;by_cases hky:yk=8
         ·subst hky;go_wp2_with fail;refine (declVar_any _ ⟨8,ys,yn,yp,yl⟩ Ae ce _ (HL.out.below HC4.out) (kb HK_e HC4) (Or.inr (Or.inl rfl))).mono ?_;rintro e w5 ⟨rfl,hb5⟩;have HC5:=hid (bTh HC4.out hb5);clear hb5;clear x_ fx fy fz fv fe;have x_:=(nb HAT HC5).all;have fx:=(nb HX_x HC5).all;have fy:=(nb HX_y HC5).all;have fz:=(nb HX_z HC5).all;have fv:=(nb HX_v HC5).all;have fe:=(nb HX_e HC5).all
          cases hHV:varS ⟨8,ys,yn,yp,yl⟩ 8 with
          | false=>
           have HV:=hid hHV;clear hHV;have FIN:=hid (bad_at (p:=fun x=>decide (x.kind=8) && varS x 8) HY.out (by simp [HV.out]));go_wp2;go_ret;exact ⟨rBo (by simp [declS_succ,declStep,procS,Nd.sub,k6,k8,k11,HH.out,k3,k4,k5,H1.out,H2.out,FIN.out]),bTh HBOX.out HC5.out⟩
          | true=>
           have HV:=hid hHV;clear hHV;have STEP:=hid (step_at (p:=fun x=>decide (x.kind=8) && varS x 8) HY.out HALL.out (by simp [HV.out]));go_wp2;go_roundw
           case rel=>exact ⟨j+1,by omega,by go_num,STEP.out,HC5.out⟩
           case measure=>simp [intOf];omega
         ·have hkb:(yk==8)=false:=(by simpa using hky);have FIN:=hid (bad_at (p:=fun x=>decide (x.kind=8) && varS x 8) HY.out (by simp [hky]));go_wp2;go_ret;exact ⟨rBo (by simp [declS_succ,declStep,procS,Nd.sub,k6,k8,k11,HH.out,k3,k4,k5,H1.out,H2.out,FIN.out]),bTh HBOX.out HC4.out⟩
        ·skip;have FIN1:=hid (all_end hlt HALL.out);clear HALL;have hlz:=HK_z.out.len;unfold maxLen at hlz;obtain ⟨wo,rfl⟩:∃wo:World,wo=wr:=⟨_,rfl⟩;go_wp2;clear hlt hj;go_loopw [4] (fun ii wr=>∃j:Nat,j≤z.subs.length∧ii=.int .i64 j∧(z.subs.take j).all (fun x=>decide (x.kind=6) && decide (x.num=0) && varS x 6)=true∧Below W0.heap.size W0 wr) (fun ii _=>z.subs.length - (intOf ii).toNat)
         case atStart=>exact ⟨0,by simp,rfl,by simp,HC4.out⟩
         case round=>
          obtain ⟨j,hj,rfl,hall,hbr⟩:=hrel;have HC6:=hid hbr;have HALL:=hid hall;clear hbr hall;clear x_ fx fy fz fv;have x_:=(nb HAT HC6).all;have fx:=(nb HX_x HC6).all;have fy:=(nb HX_y HC6).all;have fz:=(nb HX_z HC6).all;have fv:=(nb HX_v HC6).all;by_cases hlt:j<z.subs.length
          ·skip;obtain ⟨e,hy⟩:∃y,z.subs[j]?=some y:=⟨_,List.getElem?_eq_getElem (by simpa using hlt)⟩;obtain ⟨be_,oe_,Ae,ce,hA,hx,hky⟩:=HKLZ.out.2.2 j e hy;subst hA;have HX_e:=hid hx;have HK_e:=hid hky;have HY:=hid hy;clear hx hky hy;clear x_ fx fy fz fv;have x_:=(nb HAT HC6).all;have fx:=(nb HX_x HC6).all;have fy:=(nb HX_y HC6).all;have fz:=(nb HX_z HC6).all;have fv:=(nb HX_v HC6).all;have fe:=(nb HX_e HC6).all;obtain ⟨yk,ys,yn,yp,yl⟩:=e;by_cases hky:yk=6
           ·subst hky;by_cases hn:yn=0
            ·subst hn;go_wp2_with fail;generalize hV:wr.alloc (.cells #[.int .i64 6,.string ys,.int .i64 0,.int .i64 yp,.slice Ae yl.length ce] 24)=V at *;have HC7:=hid (show Below W0.heap.size W0 V by rw [← hV];exact bTh HC6.out (bBw _ _));clear hV;clear x_ fx fy fz fv fe;have x_:=(nb HAT HC7).all;have fx:=(nb HX_x HC7).all;have fy:=(nb HX_y HC7).all;have fz:=(nb HX_z HC7).all;have fv:=(nb HX_v HC7).all;have fe:=(nb HX_e HC7).all;refine (declVar_any _ ⟨6,ys,0,yp,yl⟩ Ae ce _ (HL.out.below HC7.out) (kb HK_e HC7) (Or.inl rfl)).mono ?_;rintro e w8 ⟨rfl,hb8⟩;have HC8:=hid (bTh HC7.out hb8);clear hb8;clear x_ fx fy fz fv fe;have x_:=(nb HAT HC8).all;have fx:=(nb HX_x HC8).all;have fy:=(nb HX_y HC8).all;have fz:=(nb HX_z HC8).all;have fv:=(nb HX_v HC8).all;have fe:=(nb HX_e HC8).all
             cases hHV:varS ⟨6,ys,0,yp,yl⟩ 6 with
             | false=>
              have HV:=hid hHV;clear hHV;have FIN:=hid (bad_at (p:=fun x=>decide (x.kind=6) && decide (x.num=0) && varS x 6) HY.out (by simp [HV.out]));go_wp2;go_ret;exact ⟨rBo (by simp [declS_succ,declStep,procS,Nd.sub,k6,k8,k11,HH.out,k3,k4,k5,H1.out,H2.out,FIN1.out,FIN.out]),bTh HBOX.out HC8.out⟩
             | true=>
              have HV:=hid hHV;clear hHV;have STEP:=hid (step_at (p:=fun x=>decide (x.kind=6) && decide (x.num=0) && varS x 6) HY.out HALL.out (by simp [HV.out]));go_wp2;go_roundw
              case rel=>exact ⟨j+1,by omega,by go_num,STEP.out,HC8.out⟩
              case measure=>simp [intOf];omega
            ·have hnb:(yn==0)=false:=(by simpa using hn);have FIN:=hid (bad_at (p:=fun x=>decide (x.kind=6) && decide (x.num=0) && varS x 6) HY.out (by simp [hn]));go_wp2;go_ret;exact ⟨rBo (by simp [declS_succ,declStep,procS,Nd.sub,k6,k8,k11,HH.out,k3,k4,k5,H1.out,H2.out,FIN1.out,FIN.out]),bTh HBOX.out (bTh HC6.out (bBw _ _))⟩
           ·have hkb:(yk==6)=false:=(by simpa using hky);have FIN:=hid (bad_at (p:=fun x=>decide (x.kind=6) && decide (x.num=0) && varS x 6) HY.out (by simp [hky]));go_wp2;go_ret;exact ⟨rBo (by simp [declS_succ,declStep,procS,Nd.sub,k6,k8,k11,HH.out,k3,k4,k5,H1.out,H2.out,FIN1.out,FIN.out]),bTh HBOX.out (bTh HC6.out (bBw _ _))⟩
          ·skip;have FIN2:=hid (all_end hlt HALL.out);clear HALL;go_wp2_with fail;refine (head_any y Ay cy 0 false 0 0 _ (HL.out.below HC6.out) (kb HK_y HC6).len).mono ?_;rintro e w9 ⟨rfl,hb9⟩;have HC9:=hid (bTh HC6.out hb9);clear hb9;clear x_ fx fy fz fv;have x_:=(nb HAT HC9).all;have fx:=(nb HX_x HC9).all;have fy:=(nb HX_y HC9).all;have fz:=(nb HX_z HC9).all;have fv:=(nb HX_v HC9).all
           cases hH5:headB y 0 false 0 0 with
           | false=>
            have H5:=hid hH5;clear hH5;go_wp2_with fail;refine (nameShaped_any _ y Ay cy _ (HL.out.below HC9.out) (kb HK_y HC9)).mono ?_;rintro e w10 ⟨rfl,hb10⟩;have HC10:=hid (bTh HC9.out hb10);clear hb10;clear x_ fx fy fz fv;have x_:=(nb HAT HC10).all;have fx:=(nb HX_x HC10).all;have fy:=(nb HX_y HC10).all;have fz:=(nb HX_z HC10).all;have fv:=(nb HX_v HC10).all
            cases hH6:nameS y with
            | false=>
             have H6:=hid hH6;clear hH6;go_wp2;go_ret;exact ⟨rBo (by simp [declS_succ,declStep,procS,Nd.sub,k6,k8,k11,HH.out,k3,k4,k5,H1.out,H2.out,FIN1.out,FIN2.out,H5.out,H6.out]),bTh HBOX.out HC10.out⟩
            | true=>
             have H6:=hid hH6;clear hH6;go_wp2_with fail;refine ((st_any _).2 v Av cv _ (HL.out.below HC10.out) (kb HK_v HC10)).mono ?_;rintro e w11 ⟨rfl,hb11⟩;have HC11:=hid (bTh HC10.out hb11);clear hb11;clear x_ fx fy fz fv;have x_:=(nb HAT HC11).all;have fx:=(nb HX_x HC11).all;have fy:=(nb HX_y HC11).all;have fz:=(nb HX_z HC11).all;have fv:=(nb HX_v HC11).all;go_wp2;go_ret;exact ⟨rBo (by simp [declS_succ,declStep,procS,Nd.sub,k6,k8,k11,HH.out,k3,k4,k5,H1.out,H2.out,FIN1.out,FIN2.out,H5.out,H6.out]),bTh HBOX.out HC11.out⟩
           | true=>
            have H5:=hid hH5;clear hH5;go_wp2_with fail;refine ((st_any _).2 v Av cv _ (HL.out.below HC9.out) (kb HK_v HC9)).mono ?_;rintro e w12 ⟨rfl,hb12⟩;have HC12:=hid (bTh HC9.out hb12);clear hb12;clear x_ fx fy fz fv;have x_:=(nb HAT HC12).all;have fx:=(nb HX_x HC12).all;have fy:=(nb HX_y HC12).all;have fz:=(nb HX_z HC12).all;have fv:=(nb HX_v HC12).all;go_wp2;go_ret;exact ⟨rBo (by simp [declS_succ,declStep,procS,Nd.sub,k6,k8,k11,HH.out,k3,k4,k5,H1.out,H2.out,FIN1.out,FIN2.out,H5.out]),bTh HBOX.out HC12.out⟩
end Go.Proofs.YtneohanphabneaaGreatDoor
