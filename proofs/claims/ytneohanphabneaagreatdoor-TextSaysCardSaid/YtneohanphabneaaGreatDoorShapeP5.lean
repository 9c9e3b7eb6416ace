/-
The program's answer on shapes, the walks: statements. Conditions: the tree lies in memory.
-/
import Derived.Test.YtneohanphabneaaGreatDoorShapeP4
namespace Go.Proofs.YtneohanphabneaaGreatDoor
set_option linter.unusedSimpArgs false
set_option linter.unusedVariables false
open Go.RowKit
set_option maxRecDepth 100000 in
set_option maxHeartbeats 4000000 in
theorem stmtsP_step (d:Nat) (hS:AskFn 110 d (stmtS d)):AskFn 61 (d+1) (stmtsS (d+1)):=by
 refine ⟨fun args w=>enters_fn Tryz.func61 (by kernel_rfl) rfl args w,?_⟩;intro n A c w hk;obtain ⟨k,s,num,pos,subs⟩:=n;have hlen:=hk.len;have hsz:=hk.name_le;unfold maxLen at hlen hsz;simp only at hlen hsz;have HKN:=hid (hk.below (bBw w (.cells #[.int .i64 k,.string s,.int .i64 num,.int .i64 pos,.slice A subs.length c] 24)));have HAT:=hid (bAt w ⟨k,s,num,pos,subs⟩ A c 24);clear hk;go_enter Tryz.func61,Tryz.ntmps61;go_wp2_with fail;generalize hW0:w.alloc (.cells #[.int .i64 k,.string s,.int .i64 num,.int .i64 pos,.slice A subs.length c] 24)=W0 at *;have HBOX:=hid (show Below w.heap.size w W0 by rw [← hW0];exact bBw _ _);clear hW0;refine (list_any _ d _ hS ⟨k,s,num,pos,subs⟩ A c _ HKN.out).mono ?_;rintro e w1 ⟨rfl,hb1⟩;have HC1:=hid hb1;clear hb1;have x:=(nb HAT HC1).all;go_wp2;go_ret;exact ⟨rBo (by simp [stmtsS_succ,listStep,headL,listB]),bTh HBOX.out HC1.out⟩
set_option maxRecDepth 100000 in
set_option maxHeartbeats 32000000 in
theorem stmtP_step (d:Nat) (hE:AskFn 55 d (exprS d)) (hD:AskFn 103 d (desigS d)) (hL:AskFn 61 d (stmtsS d)):AskFn 110 (d+1) (stmtS (d+1)):=by
 refine ⟨fun args w=>enters_fn Tryz.func110 (by kernel_rfl) rfl args w,?_⟩;intro n A c w hk;obtain ⟨k,s,num,pos,subs⟩:=n;have hlen:=hk.len;have hsz:=hk.name_le;unfold maxLen at hlen hsz;simp only at hlen hsz;by_cases k14:k=14
 ·subst k14
  cases g1:s.toList.isEmpty with
  | false=>
   have Eg1:=hid ((empty_eq s).symm.trans g1);have HAT:=hid (bAt w ⟨14,s,num,pos,subs⟩ A c 24);clear hk;go_enter Tryz.func110,Tryz.ntmps110;go_wp2;go_ret;exact ⟨rBo (by simp [stmtS_succ,stmtStep,headB_zero,Nd.sub,Eg1.out]),bBw _ _⟩
  | true=>
   have Eg1:=hid ((empty_eq s).symm.trans g1)
   cases g2:(num != 0) with
   | true=>
    have HAT:=hid (bAt w ⟨14,s,num,pos,subs⟩ A c 24);clear hk;go_enter Tryz.func110,Tryz.ntmps110;go_wp2;go_ret;exact ⟨rBo (by (try simp only [beq_iff_eq,beq_eq_false_iff_ne,bne_iff_ne,bne_eq_false_iff_eq,ne_eq] at g2);simp [stmtS_succ,stmtStep,headB_zero,Nd.sub,Eg1.out,g2]),bBw _ _⟩
   | false=>
    cases lg3_2:((subs.length:Int)==2) with
    | false=>
     have HAT:=hid (bAt w ⟨14,s,num,pos,subs⟩ A c 24);clear hk;go_enter Tryz.func110,Tryz.ntmps110;go_wp2;go_ret;exact ⟨rBo (by (try simp only [beq_iff_eq,beq_eq_false_iff_ne,bne_iff_ne,bne_eq_false_iff_eq,ne_eq] at g2);have lg3_2':¬subs.length=2∧¬(subs.length:Int)=2:=(by constructor <;> intro hh <;> simp [hh] at lg3_2);simp [stmtS_succ,stmtStep,headB_zero,Nd.sub,Eg1.out,g2,lg3_2'.1,lg3_2'.2]),bBw _ _⟩
    | true=>
     obtain ⟨x,y,rfl⟩:=len2 (l:=subs) ((by simpa using lg3_2));obtain ⟨b,o,Ax,cx,rfl,hx_x,hk_x⟩:=hk.one (x:=x) (r:=[y]) rfl;obtain ⟨Ay,cy,hx_y,hk_y⟩:=hk.nth rfl (i:=1) (x:=y) rfl (p:=o+5) (by omega);simp only [List.length_cons,List.length_nil,Nat.zero_add] at hlen;clear lg3_2;have HAT:=hid (bAt w ⟨14,s,num,pos,[x,y]⟩ (some ⟨b,o,none⟩) c 24);have HX_x:=hid (hx_x.below (bBw w (.cells #[.int .i64 14,.string s,.int .i64 num,.int .i64 pos,.slice (some ⟨b,o,none⟩) 2 c] 24)));have HK_x:=hid (hk_x.below (bBw w (.cells #[.int .i64 14,.string s,.int .i64 num,.int .i64 pos,.slice (some ⟨b,o,none⟩) 2 c] 24)));clear hx_x hk_x;have HX_y:=hid (hx_y.below (bBw w (.cells #[.int .i64 14,.string s,.int .i64 num,.int .i64 pos,.slice (some ⟨b,o,none⟩) 2 c] 24)));have HK_y:=hid (hk_y.below (bBw w (.cells #[.int .i64 14,.string s,.int .i64 num,.int .i64 pos,.slice (some ⟨b,o,none⟩) 2 c] 24)));clear hx_y hk_y;clear hk;have fx:=HX_x.out.all;have fy:=HX_y.out.all;go_enter Tryz.func110,Tryz.ntmps110;go_wp2_with fail;generalize hW0:w.alloc (.cells #[.int .i64 14,.string s,.int .i64 num,.int .i64 pos,.slice (some ⟨b,o,none⟩) 2 c] 24)=W0 at *;have HBOX:=hid (show Below w.heap.size w W0 by rw [← hW0];exact bBw _ _);clear hW0;refine (hD.calls x Ax cx _ HK_x.out).mono ?_;rintro e w1 ⟨rfl,hb1⟩;have HC1:=hid hb1;clear hb1;clear fx fy;have x_:=(nb HAT HC1).all;have fx:=(nb HX_x HC1).all;have fy:=(nb HX_y HC1).all
     cases g4:desigS d x with
     | false=>
      try rw [g4]
      go_wp2;go_ret;exact ⟨rBo (by (try simp only [beq_iff_eq,beq_eq_false_iff_ne,bne_iff_ne,bne_eq_false_iff_eq,ne_eq] at g2);(try simp only [beq_iff_eq,beq_eq_false_iff_ne,bne_iff_ne,bne_eq_false_iff_eq,ne_eq] at g4);simp [stmtS_succ,stmtStep,headB_zero,Nd.sub,Eg1.out,g2,g4]),bTh HBOX.out HC1.out⟩
     | true=>
      try rw [g4]
      go_wp2_with fail;refine (hE.calls y Ay cy _ (kb HK_y HC1)).mono ?_;rintro e w2 ⟨rfl,hb2⟩;have HC2:=hid (bTh HC1.out hb2);clear hb2;clear x_ fx fy;have x_:=(nb HAT HC2).all;have fx:=(nb HX_x HC2).all;have fy:=(nb HX_y HC2).all;go_wp2;go_ret;exact ⟨rBo (by (try simp only [beq_iff_eq,beq_eq_false_iff_ne,bne_iff_ne,bne_eq_false_iff_eq,ne_eq] at g2);(try simp only [beq_iff_eq,beq_eq_false_iff_ne,bne_iff_ne,bne_eq_false_iff_eq,ne_eq] at g4);simp [stmtS_succ,stmtStep,headB_zero,Nd.sub,Eg1.out,g2,g4]),bTh HBOX.out HC2.out⟩
 ·have b14:(k==14)=false:=(by simpa using k14);by_cases k15:k=15
  ·subst k15
   cases g1:s.toList.isEmpty with
   | false=>
    have Eg1:=hid ((empty_eq s).symm.trans g1);have HAT:=hid (bAt w ⟨15,s,num,pos,subs⟩ A c 24);clear hk;go_enter Tryz.func110,Tryz.ntmps110;go_wp2;go_ret;exact ⟨rBo (by simp [stmtS_succ,stmtStep,headB_zero,Nd.sub,Eg1.out]),bBw _ _⟩
   | true=>
    have Eg1:=hid ((empty_eq s).symm.trans g1)
    cases g2:(num != 0) with
    | true=>
     have HAT:=hid (bAt w ⟨15,s,num,pos,subs⟩ A c 24);clear hk;go_enter Tryz.func110,Tryz.ntmps110;go_wp2;go_ret;exact ⟨rBo (by (try simp only [beq_iff_eq,beq_eq_false_iff_ne,bne_iff_ne,bne_eq_false_iff_eq,ne_eq] at g2);simp [stmtS_succ,stmtStep,headB_zero,Nd.sub,Eg1.out,g2]),bBw _ _⟩
    | false=>
     rcases subs with _ | ⟨x,r⟩
     ·skip;have HAT:=hid (bAt w ⟨15,s,num,pos,[]⟩ A c 24);clear hk;go_enter Tryz.func110,Tryz.ntmps110;go_wp2;go_ret;exact ⟨rBo (by (try simp only [beq_iff_eq,beq_eq_false_iff_ne,bne_iff_ne,bne_eq_false_iff_eq,ne_eq] at g2);simp [stmtS_succ,stmtStep,headB_zero,Nd.sub,Eg1.out,g2]),bBw _ _⟩
     ·skip;simp only [List.length_cons] at hlen;obtain ⟨b,o,Ax,cx,rfl,hx_x,hk_x⟩:=hk.one (x:=x) (r:=r) rfl;obtain ⟨A',hA',hsl⟩:=slice_tail b o r.length c (by have:=hk.list.1;simpa using this);have HAT:=hid (bAt w ⟨15,s,num,pos,x::r⟩ (some ⟨b,o,none⟩) c 24);have HX_x:=hid (hx_x.below (bBw w (.cells #[.int .i64 15,.string s,.int .i64 num,.int .i64 pos,.slice (some ⟨b,o,none⟩) (r.length+1) c] 24)));have HK_x:=hid (hk_x.below (bBw w (.cells #[.int .i64 15,.string s,.int .i64 num,.int .i64 pos,.slice (some ⟨b,o,none⟩) (r.length+1) c] 24)));clear hx_x hk_x;have HR:=hid ((hk.list.tail hA').below (bBw w (.cells #[.int .i64 15,.string s,.int .i64 num,.int .i64 pos,.slice (some ⟨b,o,none⟩) (r.length+1) c] 24)));clear hk;clear hA';have fx:=HX_x.out.all;go_enter Tryz.func110,Tryz.ntmps110;go_wp2_with fail;generalize hW0:w.alloc (.cells #[.int .i64 15,.string s,.int .i64 num,.int .i64 pos,.slice (some ⟨b,o,none⟩) (r.length+1) c] 24)=W0 at *;have HBOX:=hid (show Below w.heap.size w W0 by rw [← hW0];exact bBw _ _);clear hW0;refine (hD.calls x Ax cx _ HK_x.out).mono ?_;rintro e w1 ⟨rfl,hb1⟩;have HC1:=hid hb1;clear hb1;clear fx;have x_:=(nb HAT HC1).all;have fx:=(nb HX_x HC1).all
      cases g3:desigS d x with
      | false=>
       try rw [g3]
       go_wp2;go_ret;exact ⟨rBo (by (try simp only [beq_iff_eq,beq_eq_false_iff_ne,bne_iff_ne,bne_eq_false_iff_eq,ne_eq] at g2);(try simp only [beq_iff_eq,beq_eq_false_iff_ne,bne_iff_ne,bne_eq_false_iff_eq,ne_eq] at g3);simp [stmtS_succ,stmtStep,headB_zero,Nd.sub,Eg1.out,g2,g3]),bTh HBOX.out HC1.out⟩
      | true=>
       try rw [g3]
       go_wp2_with fail;refine (each_any _ d _ hE r A' (c - 1) _ (HR.out.below HC1.out)).mono ?_;rintro e w2 ⟨rfl,hb2⟩;have HC2:=hid (bTh HC1.out hb2);clear hb2;clear x_ fx;have x_:=(nb HAT HC2).all;have fx:=(nb HX_x HC2).all;go_wp2;go_ret;exact ⟨rBo (by (try simp only [beq_iff_eq,beq_eq_false_iff_ne,bne_iff_ne,bne_eq_false_iff_eq,ne_eq] at g2);(try simp only [beq_iff_eq,beq_eq_false_iff_ne,bne_iff_ne,bne_eq_false_iff_eq,ne_eq] at g3);simp [stmtS_succ,stmtStep,headB_zero,Nd.sub,Eg1.out,g2,g3]),bTh HBOX.out HC2.out⟩
  ·have b15:(k==15)=false:=(by simpa using k15);by_cases k17:k=17
   ·subst k17
    cases g1:s.toList.isEmpty with
    | false=>
     have Eg1:=hid ((empty_eq s).symm.trans g1);have HAT:=hid (bAt w ⟨17,s,num,pos,subs⟩ A c 24);clear hk;go_enter Tryz.func110,Tryz.ntmps110;go_wp2;go_ret;exact ⟨rBo (by simp [stmtS_succ,stmtStep,headB_zero,Nd.sub,Eg1.out]),bBw _ _⟩
    | true=>
     have Eg1:=hid ((empty_eq s).symm.trans g1)
     cases g2:(num != 0) with
     | true=>
      have HAT:=hid (bAt w ⟨17,s,num,pos,subs⟩ A c 24);clear hk;go_enter Tryz.func110,Tryz.ntmps110;go_wp2;go_ret;exact ⟨rBo (by (try simp only [beq_iff_eq,beq_eq_false_iff_ne,bne_iff_ne,bne_eq_false_iff_eq,ne_eq] at g2);simp [stmtS_succ,stmtStep,headB_zero,Nd.sub,Eg1.out,g2]),bBw _ _⟩
     | false=>
      cases lg3_2:((subs.length:Int)==2) with
      | false=>
       have HAT:=hid (bAt w ⟨17,s,num,pos,subs⟩ A c 24);clear hk;go_enter Tryz.func110,Tryz.ntmps110;go_wp2;go_ret;exact ⟨rBo (by (try simp only [beq_iff_eq,beq_eq_false_iff_ne,bne_iff_ne,bne_eq_false_iff_eq,ne_eq] at g2);have lg3_2':¬subs.length=2∧¬(subs.length:Int)=2:=(by constructor <;> intro hh <;> simp [hh] at lg3_2);simp [stmtS_succ,stmtStep,headB_zero,Nd.sub,Eg1.out,g2,lg3_2'.1,lg3_2'.2]),bBw _ _⟩
      | true=>
       obtain ⟨x,y,rfl⟩:=len2 (l:=subs) ((by simpa using lg3_2));obtain ⟨b,o,Ax,cx,rfl,hx_x,hk_x⟩:=hk.one (x:=x) (r:=[y]) rfl;obtain ⟨Ay,cy,hx_y,hk_y⟩:=hk.nth rfl (i:=1) (x:=y) rfl (p:=o+5) (by omega);simp only [List.length_cons,List.length_nil,Nat.zero_add] at hlen;clear lg3_2;have HAT:=hid (bAt w ⟨17,s,num,pos,[x,y]⟩ (some ⟨b,o,none⟩) c 24);have HX_x:=hid (hx_x.below (bBw w (.cells #[.int .i64 17,.string s,.int .i64 num,.int .i64 pos,.slice (some ⟨b,o,none⟩) 2 c] 24)));have HK_x:=hid (hk_x.below (bBw w (.cells #[.int .i64 17,.string s,.int .i64 num,.int .i64 pos,.slice (some ⟨b,o,none⟩) 2 c] 24)));clear hx_x hk_x;have HX_y:=hid (hx_y.below (bBw w (.cells #[.int .i64 17,.string s,.int .i64 num,.int .i64 pos,.slice (some ⟨b,o,none⟩) 2 c] 24)));have HK_y:=hid (hk_y.below (bBw w (.cells #[.int .i64 17,.string s,.int .i64 num,.int .i64 pos,.slice (some ⟨b,o,none⟩) 2 c] 24)));clear hx_y hk_y;clear hk;have fx:=HX_x.out.all;have fy:=HX_y.out.all;go_enter Tryz.func110,Tryz.ntmps110;go_wp2_with fail;generalize hW0:w.alloc (.cells #[.int .i64 17,.string s,.int .i64 num,.int .i64 pos,.slice (some ⟨b,o,none⟩) 2 c] 24)=W0 at *;have HBOX:=hid (show Below w.heap.size w W0 by rw [← hW0];exact bBw _ _);clear hW0;refine (hE.calls x Ax cx _ HK_x.out).mono ?_;rintro e w1 ⟨rfl,hb1⟩;have HC1:=hid hb1;clear hb1;clear fx fy;have x_:=(nb HAT HC1).all;have fx:=(nb HX_x HC1).all;have fy:=(nb HX_y HC1).all
       cases g4:exprS d x with
       | false=>
        try rw [g4]
        go_wp2;go_ret;exact ⟨rBo (by (try simp only [beq_iff_eq,beq_eq_false_iff_ne,bne_iff_ne,bne_eq_false_iff_eq,ne_eq] at g2);(try simp only [beq_iff_eq,beq_eq_false_iff_ne,bne_iff_ne,bne_eq_false_iff_eq,ne_eq] at g4);simp [stmtS_succ,stmtStep,headB_zero,Nd.sub,Eg1.out,g2,g4]),bTh HBOX.out HC1.out⟩
       | true=>
        try rw [g4]
        go_wp2_with fail;refine (hL.calls y Ay cy _ (kb HK_y HC1)).mono ?_;rintro e w2 ⟨rfl,hb2⟩;have HC2:=hid (bTh HC1.out hb2);clear hb2;clear x_ fx fy;have x_:=(nb HAT HC2).all;have fx:=(nb HX_x HC2).all;have fy:=(nb HX_y HC2).all;go_wp2;go_ret;exact ⟨rBo (by (try simp only [beq_iff_eq,beq_eq_false_iff_ne,bne_iff_ne,bne_eq_false_iff_eq,ne_eq] at g2);(try simp only [beq_iff_eq,beq_eq_false_iff_ne,bne_iff_ne,bne_eq_false_iff_eq,ne_eq] at g4);simp [stmtS_succ,stmtStep,headB_zero,Nd.sub,Eg1.out,g2,g4]),bTh HBOX.out HC2.out⟩
   ·have b17:(k==17)=false:=(by simpa using k17);by_cases k18:k=18
    ·subst k18
     cases g1:s.toList.isEmpty with
     | false=>
      have Eg1:=hid ((empty_eq s).symm.trans g1);have HAT:=hid (bAt w ⟨18,s,num,pos,subs⟩ A c 24);clear hk;go_enter Tryz.func110,Tryz.ntmps110;go_wp2;go_ret;exact ⟨rBo (by simp [stmtS_succ,stmtStep,headB_zero,Nd.sub,Eg1.out]),bBw _ _⟩
     | true=>
      have Eg1:=hid ((empty_eq s).symm.trans g1)
      cases g2:(num != 0) with
      | true=>
       have HAT:=hid (bAt w ⟨18,s,num,pos,subs⟩ A c 24);clear hk;go_enter Tryz.func110,Tryz.ntmps110;go_wp2;go_ret;exact ⟨rBo (by (try simp only [beq_iff_eq,beq_eq_false_iff_ne,bne_iff_ne,bne_eq_false_iff_eq,ne_eq] at g2);simp [stmtS_succ,stmtStep,headB_zero,Nd.sub,Eg1.out,g2]),bBw _ _⟩
      | false=>
       cases lg3_2:((subs.length:Int)==2) with
       | false=>
        have HAT:=hid (bAt w ⟨18,s,num,pos,subs⟩ A c 24);clear hk;go_enter Tryz.func110,Tryz.ntmps110;go_wp2;go_ret;exact ⟨rBo (by (try simp only [beq_iff_eq,beq_eq_false_iff_ne,bne_iff_ne,bne_eq_false_iff_eq,ne_eq] at g2);have lg3_2':¬subs.length=2∧¬(subs.length:Int)=2:=(by constructor <;> intro hh <;> simp [hh] at lg3_2);simp [stmtS_succ,stmtStep,headB_zero,Nd.sub,Eg1.out,g2,lg3_2'.1,lg3_2'.2]),bBw _ _⟩
       | true=>
        obtain ⟨x,y,rfl⟩:=len2 (l:=subs) ((by simpa using lg3_2));obtain ⟨b,o,Ax,cx,rfl,hx_x,hk_x⟩:=hk.one (x:=x) (r:=[y]) rfl;obtain ⟨Ay,cy,hx_y,hk_y⟩:=hk.nth rfl (i:=1) (x:=y) rfl (p:=o+5) (by omega);simp only [List.length_cons,List.length_nil,Nat.zero_add] at hlen;clear lg3_2;have HAT:=hid (bAt w ⟨18,s,num,pos,[x,y]⟩ (some ⟨b,o,none⟩) c 24);have HX_x:=hid (hx_x.below (bBw w (.cells #[.int .i64 18,.string s,.int .i64 num,.int .i64 pos,.slice (some ⟨b,o,none⟩) 2 c] 24)));have HK_x:=hid (hk_x.below (bBw w (.cells #[.int .i64 18,.string s,.int .i64 num,.int .i64 pos,.slice (some ⟨b,o,none⟩) 2 c] 24)));clear hx_x hk_x;have HX_y:=hid (hx_y.below (bBw w (.cells #[.int .i64 18,.string s,.int .i64 num,.int .i64 pos,.slice (some ⟨b,o,none⟩) 2 c] 24)));have HK_y:=hid (hk_y.below (bBw w (.cells #[.int .i64 18,.string s,.int .i64 num,.int .i64 pos,.slice (some ⟨b,o,none⟩) 2 c] 24)));clear hx_y hk_y;clear hk;have fx:=HX_x.out.all;have fy:=HX_y.out.all;go_enter Tryz.func110,Tryz.ntmps110;go_wp2_with fail;generalize hW0:w.alloc (.cells #[.int .i64 18,.string s,.int .i64 num,.int .i64 pos,.slice (some ⟨b,o,none⟩) 2 c] 24)=W0 at *;have HBOX:=hid (show Below w.heap.size w W0 by rw [← hW0];exact bBw _ _);clear hW0;refine (hL.calls x Ax cx _ HK_x.out).mono ?_;rintro e w1 ⟨rfl,hb1⟩;have HC1:=hid hb1;clear hb1;clear fx fy;have x_:=(nb HAT HC1).all;have fx:=(nb HX_x HC1).all;have fy:=(nb HX_y HC1).all
        cases g4:stmtsS d x with
        | false=>
         try rw [g4]
         go_wp2;go_ret;exact ⟨rBo (by (try simp only [beq_iff_eq,beq_eq_false_iff_ne,bne_iff_ne,bne_eq_false_iff_eq,ne_eq] at g2);(try simp only [beq_iff_eq,beq_eq_false_iff_ne,bne_iff_ne,bne_eq_false_iff_eq,ne_eq] at g4);simp [stmtS_succ,stmtStep,headB_zero,Nd.sub,Eg1.out,g2,g4]),bTh HBOX.out HC1.out⟩
        | true=>
         try rw [g4]
         go_wp2_with fail;refine (hE.calls y Ay cy _ (kb HK_y HC1)).mono ?_;rintro e w2 ⟨rfl,hb2⟩;have HC2:=hid (bTh HC1.out hb2);clear hb2;clear x_ fx fy;have x_:=(nb HAT HC2).all;have fx:=(nb HX_x HC2).all;have fy:=(nb HX_y HC2).all;go_wp2;go_ret;exact ⟨rBo (by (try simp only [beq_iff_eq,beq_eq_false_iff_ne,bne_iff_ne,bne_eq_false_iff_eq,ne_eq] at g2);(try simp only [beq_iff_eq,beq_eq_false_iff_ne,bne_iff_ne,bne_eq_false_iff_eq,ne_eq] at g4);simp [stmtS_succ,stmtStep,headB_zero,Nd.sub,Eg1.out,g2,g4]),bTh HBOX.out HC2.out⟩
    ·have b18:(k==18)=false:=(by simpa using k18);by_cases k19:k=19
     ·subst k19
      cases g1:s.toList.isEmpty with
      | false=>
       have Eg1:=hid ((empty_eq s).symm.trans g1);have HAT:=hid (bAt w ⟨19,s,num,pos,subs⟩ A c 24);clear hk;go_enter Tryz.func110,Tryz.ntmps110;go_wp2;go_ret;exact ⟨rBo (by simp [stmtS_succ,stmtStep,headB_zero,Nd.sub,Eg1.out]),bBw _ _⟩
      | true=>
       have Eg1:=hid ((empty_eq s).symm.trans g1)
       cases g2:(num != 0) with
       | true=>
        have HAT:=hid (bAt w ⟨19,s,num,pos,subs⟩ A c 24);clear hk;go_enter Tryz.func110,Tryz.ntmps110;go_wp2;go_ret;exact ⟨rBo (by (try simp only [beq_iff_eq,beq_eq_false_iff_ne,bne_iff_ne,bne_eq_false_iff_eq,ne_eq] at g2);simp [stmtS_succ,stmtStep,headB_zero,Nd.sub,Eg1.out,g2]),bBw _ _⟩
       | false=>
        rcases subs with _ | ⟨x,_ | ⟨y,r⟩⟩
        ·skip;have HAT:=hid (bAt w ⟨19,s,num,pos,[]⟩ A c 24);clear hk;go_enter Tryz.func110,Tryz.ntmps110;go_wp2;go_ret;exact ⟨rBo (by (try simp only [beq_iff_eq,beq_eq_false_iff_ne,bne_iff_ne,bne_eq_false_iff_eq,ne_eq] at g2);simp [stmtS_succ,stmtStep,headB_zero,Nd.sub,Eg1.out,g2]),bBw _ _⟩
        ·skip;simp only [List.length_cons,List.length_nil,Nat.zero_add] at hlen;obtain ⟨b,o,Ax,cx,rfl,hx_x,hk_x⟩:=hk.one (x:=x) (r:=[]) rfl;have HAT:=hid (bAt w ⟨19,s,num,pos,[x]⟩ (some ⟨b,o,none⟩) c 24);have HX_x:=hid (hx_x.below (bBw w (.cells #[.int .i64 19,.string s,.int .i64 num,.int .i64 pos,.slice (some ⟨b,o,none⟩) 1 c] 24)));have HK_x:=hid (hk_x.below (bBw w (.cells #[.int .i64 19,.string s,.int .i64 num,.int .i64 pos,.slice (some ⟨b,o,none⟩) 1 c] 24)));clear hx_x hk_x;clear hk;have fx:=HX_x.out.all;go_enter Tryz.func110,Tryz.ntmps110;go_wp2_with fail;generalize hW0:w.alloc (.cells #[.int .i64 19,.string s,.int .i64 num,.int .i64 pos,.slice (some ⟨b,o,none⟩) 1 c] 24)=W0 at *;have HBOX:=hid (show Below w.heap.size w W0 by rw [← hW0];exact bBw _ _);clear hW0;refine (hE.calls x Ax cx _ HK_x.out).mono ?_;rintro e w1 ⟨rfl,hb1⟩;have HC1:=hid hb1;clear hb1;clear fx;have x_:=(nb HAT HC1).all;have fx:=(nb HX_x HC1).all;go_wp2;go_ret;exact ⟨rBo (by (try simp only [beq_iff_eq,beq_eq_false_iff_ne,bne_iff_ne,bne_eq_false_iff_eq,ne_eq] at g2);simp [stmtS_succ,stmtStep,headB_zero,Nd.sub,Eg1.out,g2]),bTh HBOX.out HC1.out⟩
        ·skip;simp only [List.length_cons] at hlen;have z0:((r.length:Int)+1+1==0)=false:=(by simp only [beq_eq_false_iff_ne,ne_eq];omega);have z1:((r.length:Int)+1+1==1)=false:=(by simp only [beq_eq_false_iff_ne,ne_eq];omega);have HAT:=hid (bAt w ⟨19,s,num,pos,x::y::r⟩ A c 24);clear hk;go_enter Tryz.func110,Tryz.ntmps110;go_wp2;go_ret;exact ⟨rBo (by (try simp only [beq_iff_eq,beq_eq_false_iff_ne,bne_iff_ne,bne_eq_false_iff_eq,ne_eq] at g2);simp [stmtS_succ,stmtStep,headB_zero,Nd.sub,Eg1.out,g2,eq_false (show ¬(r.length+1+1<2) by omega)]),bBw _ _⟩
     ·have b19:(k==19)=false:=(by simpa using k19);by_cases k20:k=20
      ·subst k20
       cases g1:s.toList.isEmpty with
       | false=>
        have Eg1:=hid ((empty_eq s).symm.trans g1);have HAT:=hid (bAt w ⟨20,s,num,pos,subs⟩ A c 24);clear hk;go_enter Tryz.func110,Tryz.ntmps110;go_wp2;go_ret;exact ⟨rBo (by simp [stmtS_succ,stmtStep,headB_zero,Nd.sub,Eg1.out]),bBw _ _⟩
       | true=>
        have Eg1:=hid ((empty_eq s).symm.trans g1)
        cases g2:(num != 0) with
        | true=>
         have HAT:=hid (bAt w ⟨20,s,num,pos,subs⟩ A c 24);clear hk;go_enter Tryz.func110,Tryz.ntmps110;go_wp2;go_ret;exact ⟨rBo (by (try simp only [beq_iff_eq,beq_eq_false_iff_ne,bne_iff_ne,bne_eq_false_iff_eq,ne_eq] at g2);simp [stmtS_succ,stmtStep,headB_zero,Nd.sub,Eg1.out,g2]),bBw _ _⟩
        | false=>
         cases lg3_1:((subs.length:Int)==1) with
         | false=>
          have HAT:=hid (bAt w ⟨20,s,num,pos,subs⟩ A c 24);clear hk;go_enter Tryz.func110,Tryz.ntmps110;go_wp2;go_ret;exact ⟨rBo (by (try simp only [beq_iff_eq,beq_eq_false_iff_ne,bne_iff_ne,bne_eq_false_iff_eq,ne_eq] at g2);have lg3_1':¬subs.length=1∧¬(subs.length:Int)=1:=(by constructor <;> intro hh <;> simp [hh] at lg3_1);simp [stmtS_succ,stmtStep,headB_zero,Nd.sub,Eg1.out,g2,lg3_1'.1,lg3_1'.2]),bBw _ _⟩
         | true=>
          obtain ⟨x,rfl⟩:=len1 (l:=subs) ((by simpa using lg3_1));obtain ⟨b,o,Ax,cx,rfl,hx_x,hk_x⟩:=hk.one (x:=x) (r:=[]) rfl;simp only [List.length_cons,List.length_nil,Nat.zero_add] at hlen;clear lg3_1;have HAT:=hid (bAt w ⟨20,s,num,pos,[x]⟩ (some ⟨b,o,none⟩) c 24);have HX_x:=hid (hx_x.below (bBw w (.cells #[.int .i64 20,.string s,.int .i64 num,.int .i64 pos,.slice (some ⟨b,o,none⟩) 1 c] 24)));have HK_x:=hid (hk_x.below (bBw w (.cells #[.int .i64 20,.string s,.int .i64 num,.int .i64 pos,.slice (some ⟨b,o,none⟩) 1 c] 24)));clear hx_x hk_x;clear hk;have fx:=HX_x.out.all;go_enter Tryz.func110,Tryz.ntmps110;go_wp2_with fail;generalize hW0:w.alloc (.cells #[.int .i64 20,.string s,.int .i64 num,.int .i64 pos,.slice (some ⟨b,o,none⟩) 1 c] 24)=W0 at *;have HBOX:=hid (show Below w.heap.size w W0 by rw [← hW0];exact bBw _ _);clear hW0;refine (hD.calls x Ax cx _ HK_x.out).mono ?_;rintro e w1 ⟨rfl,hb1⟩;have HC1:=hid hb1;clear hb1;clear fx;have x_:=(nb HAT HC1).all;have fx:=(nb HX_x HC1).all;go_wp2;go_ret;exact ⟨rBo (by (try simp only [beq_iff_eq,beq_eq_false_iff_ne,bne_iff_ne,bne_eq_false_iff_eq,ne_eq] at g2);simp [stmtS_succ,stmtStep,headB_zero,Nd.sub,Eg1.out,g2]),bTh HBOX.out HC1.out⟩
      ·have b20:(k==20)=false:=(by simpa using k20);by_cases k22:k=22
       ·subst k22
        cases g1:s.toList.isEmpty with
        | false=>
         have Eg1:=hid ((empty_eq s).symm.trans g1);have HAT:=hid (bAt w ⟨22,s,num,pos,subs⟩ A c 24);clear hk;go_enter Tryz.func110,Tryz.ntmps110;go_wp2;go_ret;exact ⟨rBo (by simp [stmtS_succ,stmtStep,headB_zero,Nd.sub,Eg1.out]),bBw _ _⟩
        | true=>
         have Eg1:=hid ((empty_eq s).symm.trans g1)
         cases g2:(num != 0) with
         | true=>
          have HAT:=hid (bAt w ⟨22,s,num,pos,subs⟩ A c 24);clear hk;go_enter Tryz.func110,Tryz.ntmps110;go_wp2;go_ret;exact ⟨rBo (by (try simp only [beq_iff_eq,beq_eq_false_iff_ne,bne_iff_ne,bne_eq_false_iff_eq,ne_eq] at g2);simp [stmtS_succ,stmtStep,headB_zero,Nd.sub,Eg1.out,g2]),bBw _ _⟩
         | false=>
          cases lg3_1:((subs.length:Int)==1) with
          | false=>
           have HAT:=hid (bAt w ⟨22,s,num,pos,subs⟩ A c 24);clear hk;go_enter Tryz.func110,Tryz.ntmps110;go_wp2;go_ret;exact ⟨rBo (by (try simp only [beq_iff_eq,beq_eq_false_iff_ne,bne_iff_ne,bne_eq_false_iff_eq,ne_eq] at g2);have lg3_1':¬subs.length=1∧¬(subs.length:Int)=1:=(by constructor <;> intro hh <;> simp [hh] at lg3_1);simp [stmtS_succ,stmtStep,headB_zero,Nd.sub,Eg1.out,g2,lg3_1'.1,lg3_1'.2]),bBw _ _⟩
          | true=>
           obtain ⟨x,rfl⟩:=len1 (l:=subs) ((by simpa using lg3_1));obtain ⟨b,o,Ax,cx,rfl,hx_x,hk_x⟩:=hk.one (x:=x) (r:=[]) rfl;simp only [List.length_cons,List.length_nil,Nat.zero_add] at hlen;clear lg3_1;have HAT:=hid (bAt w ⟨22,s,num,pos,[x]⟩ (some ⟨b,o,none⟩) c 24);have HX_x:=hid (hx_x.below (bBw w (.cells #[.int .i64 22,.string s,.int .i64 num,.int .i64 pos,.slice (some ⟨b,o,none⟩) 1 c] 24)));have HK_x:=hid (hk_x.below (bBw w (.cells #[.int .i64 22,.string s,.int .i64 num,.int .i64 pos,.slice (some ⟨b,o,none⟩) 1 c] 24)));clear hx_x hk_x;clear hk;have fx:=HX_x.out.all;go_enter Tryz.func110,Tryz.ntmps110;go_wp2_with fail;generalize hW0:w.alloc (.cells #[.int .i64 22,.string s,.int .i64 num,.int .i64 pos,.slice (some ⟨b,o,none⟩) 1 c] 24)=W0 at *;have HBOX:=hid (show Below w.heap.size w W0 by rw [← hW0];exact bBw _ _);clear hW0;refine (hD.calls x Ax cx _ HK_x.out).mono ?_;rintro e w1 ⟨rfl,hb1⟩;have HC1:=hid hb1;clear hb1;clear fx;have x_:=(nb HAT HC1).all;have fx:=(nb HX_x HC1).all;go_wp2;go_ret;exact ⟨rBo (by (try simp only [beq_iff_eq,beq_eq_false_iff_ne,bne_iff_ne,bne_eq_false_iff_eq,ne_eq] at g2);simp [stmtS_succ,stmtStep,headB_zero,Nd.sub,Eg1.out,g2]),bTh HBOX.out HC1.out⟩
       ·have b22:(k==22)=false:=(by simpa using k22);by_cases k21:k=21
        ·subst k21
         cases g1:s.toList.isEmpty with
         | false=>
          have Eg1:=hid ((empty_eq s).symm.trans g1);have HAT:=hid (bAt w ⟨21,s,num,pos,subs⟩ A c 24);clear hk;go_enter Tryz.func110,Tryz.ntmps110;go_wp2;go_ret;exact ⟨rBo (by simp [stmtS_succ,stmtStep,headB_zero,Nd.sub,Eg1.out]),bBw _ _⟩
         | true=>
          have Eg1:=hid ((empty_eq s).symm.trans g1)
          cases g2:(num != 0) with
          | true=>
           have HAT:=hid (bAt w ⟨21,s,num,pos,subs⟩ A c 24);clear hk;go_enter Tryz.func110,Tryz.ntmps110;go_wp2;go_ret;exact ⟨rBo (by (try simp only [beq_iff_eq,beq_eq_false_iff_ne,bne_iff_ne,bne_eq_false_iff_eq,ne_eq] at g2);simp [stmtS_succ,stmtStep,headB_zero,Nd.sub,Eg1.out,g2]),bBw _ _⟩
          | false=>
           cases lg3_1:((subs.length:Int)==1) with
           | false=>
            have HAT:=hid (bAt w ⟨21,s,num,pos,subs⟩ A c 24);clear hk;go_enter Tryz.func110,Tryz.ntmps110;go_wp2;go_ret;exact ⟨rBo (by (try simp only [beq_iff_eq,beq_eq_false_iff_ne,bne_iff_ne,bne_eq_false_iff_eq,ne_eq] at g2);have lg3_1':¬subs.length=1∧¬(subs.length:Int)=1:=(by constructor <;> intro hh <;> simp [hh] at lg3_1);simp [stmtS_succ,stmtStep,headB_zero,Nd.sub,Eg1.out,g2,lg3_1'.1,lg3_1'.2]),bBw _ _⟩
           | true=>
            obtain ⟨x,rfl⟩:=len1 (l:=subs) ((by simpa using lg3_1));obtain ⟨b,o,Ax,cx,rfl,hx_x,hk_x⟩:=hk.one (x:=x) (r:=[]) rfl;simp only [List.length_cons,List.length_nil,Nat.zero_add] at hlen;clear lg3_1;have HAT:=hid (bAt w ⟨21,s,num,pos,[x]⟩ (some ⟨b,o,none⟩) c 24);have HX_x:=hid (hx_x.below (bBw w (.cells #[.int .i64 21,.string s,.int .i64 num,.int .i64 pos,.slice (some ⟨b,o,none⟩) 1 c] 24)));have HK_x:=hid (hk_x.below (bBw w (.cells #[.int .i64 21,.string s,.int .i64 num,.int .i64 pos,.slice (some ⟨b,o,none⟩) 1 c] 24)));clear hx_x hk_x;clear hk;have fx:=HX_x.out.all;go_enter Tryz.func110,Tryz.ntmps110;go_wp2_with fail;generalize hW0:w.alloc (.cells #[.int .i64 21,.string s,.int .i64 num,.int .i64 pos,.slice (some ⟨b,o,none⟩) 1 c] 24)=W0 at *;have HBOX:=hid (show Below w.heap.size w W0 by rw [← hW0];exact bBw _ _);clear hW0;refine (hE.calls x Ax cx _ HK_x.out).mono ?_;rintro e w1 ⟨rfl,hb1⟩;have HC1:=hid hb1;clear hb1;clear fx;have x_:=(nb HAT HC1).all;have fx:=(nb HX_x HC1).all;go_wp2;go_ret;exact ⟨rBo (by (try simp only [beq_iff_eq,beq_eq_false_iff_ne,bne_iff_ne,bne_eq_false_iff_eq,ne_eq] at g2);simp [stmtS_succ,stmtStep,headB_zero,Nd.sub,Eg1.out,g2]),bTh HBOX.out HC1.out⟩
        ·have b21:(k==21)=false:=(by simpa using k21);by_cases k23:k=23
         ·subst k23
          cases g1:s.toList.isEmpty with
          | false=>
           have Eg1:=hid ((empty_eq s).symm.trans g1);have HAT:=hid (bAt w ⟨23,s,num,pos,subs⟩ A c 24);clear hk;go_enter Tryz.func110,Tryz.ntmps110;go_wp2;go_ret;exact ⟨rBo (by simp [stmtS_succ,stmtStep,headB_zero,Nd.sub,Eg1.out]),bBw _ _⟩
          | true=>
           have Eg1:=hid ((empty_eq s).symm.trans g1)
           cases g2:(num != 0) with
           | true=>
            have HAT:=hid (bAt w ⟨23,s,num,pos,subs⟩ A c 24);clear hk;go_enter Tryz.func110,Tryz.ntmps110;go_wp2;go_ret;exact ⟨rBo (by (try simp only [beq_iff_eq,beq_eq_false_iff_ne,bne_iff_ne,bne_eq_false_iff_eq,ne_eq] at g2);simp [stmtS_succ,stmtStep,headB_zero,Nd.sub,Eg1.out,g2]),bBw _ _⟩
           | false=>
            cases lg3_1:((subs.length:Int)==1) with
            | false=>
             have HAT:=hid (bAt w ⟨23,s,num,pos,subs⟩ A c 24);clear hk;go_enter Tryz.func110,Tryz.ntmps110;go_wp2;go_ret;exact ⟨rBo (by (try simp only [beq_iff_eq,beq_eq_false_iff_ne,bne_iff_ne,bne_eq_false_iff_eq,ne_eq] at g2);have lg3_1':¬subs.length=1∧¬(subs.length:Int)=1:=(by constructor <;> intro hh <;> simp [hh] at lg3_1);simp [stmtS_succ,stmtStep,headB_zero,Nd.sub,Eg1.out,g2,lg3_1'.1,lg3_1'.2]),bBw _ _⟩
            | true=>
             obtain ⟨x,rfl⟩:=len1 (l:=subs) ((by simpa using lg3_1));obtain ⟨b,o,Ax,cx,rfl,hx_x,hk_x⟩:=hk.one (x:=x) (r:=[]) rfl;simp only [List.length_cons,List.length_nil,Nat.zero_add] at hlen;clear lg3_1;have HAT:=hid (bAt w ⟨23,s,num,pos,[x]⟩ (some ⟨b,o,none⟩) c 24);have HX_x:=hid (hx_x.below (bBw w (.cells #[.int .i64 23,.string s,.int .i64 num,.int .i64 pos,.slice (some ⟨b,o,none⟩) 1 c] 24)));have HK_x:=hid (hk_x.below (bBw w (.cells #[.int .i64 23,.string s,.int .i64 num,.int .i64 pos,.slice (some ⟨b,o,none⟩) 1 c] 24)));clear hx_x hk_x;clear hk;have fx:=HX_x.out.all;go_enter Tryz.func110,Tryz.ntmps110;go_wp2_with fail;generalize hW0:w.alloc (.cells #[.int .i64 23,.string s,.int .i64 num,.int .i64 pos,.slice (some ⟨b,o,none⟩) 1 c] 24)=W0 at *;have HBOX:=hid (show Below w.heap.size w W0 by rw [← hW0];exact bBw _ _);clear hW0;refine (hE.calls x Ax cx _ HK_x.out).mono ?_;rintro e w1 ⟨rfl,hb1⟩;have HC1:=hid hb1;clear hb1;clear fx;have x_:=(nb HAT HC1).all;have fx:=(nb HX_x HC1).all;go_wp2;go_ret;exact ⟨rBo (by (try simp only [beq_iff_eq,beq_eq_false_iff_ne,bne_iff_ne,bne_eq_false_iff_eq,ne_eq] at g2);simp [stmtS_succ,stmtStep,headB_zero,Nd.sub,Eg1.out,g2]),bTh HBOX.out HC1.out⟩
         ·have b23:(k==23)=false:=(by simpa using k23);by_cases k16:k=16
          ·subst k16
           cases g1:s.toList.isEmpty with
           | false=>
            have HE:=hid ((empty_eq s).symm.trans g1);have HAT:=hid (bAt w ⟨16,s,num,pos,subs⟩ A c 24);clear hk;go_enter Tryz.func110,Tryz.ntmps110;go_wp2;go_ret;exact ⟨rBo (by simp [stmtS_succ,stmtStep,headB_one,Nd.sub,HE.out]),bBw _ _⟩
           | true=>
            have HE:=hid ((empty_eq s).symm.trans g1)
            cases g2:(num != 0) with
            | false=>
             by_cases h2:2≤subs.length
             ·have h2b:decide ((subs.length:Int)<2)=false:=decide_eq_false (by omega);by_cases h3:(subs.length:Int) % 2=num
              ·skip;have h3n:(num != (subs.length:Int) % 2)=false:=(by simp [h3])
               have hnum:headB ⟨16,s,num,pos,subs⟩ 16 false 1 (-1)=true:=by
                have:num=0∨num=1:=(by omega);rw [headB_one];simp [HE.out,this]
               have HAT:=hid (bAt w ⟨16,s,num,pos,subs⟩ A c 24);have HKL:=hid ((hk.list).below (bBw w (.cells #[.int .i64 16,.string s,.int .i64 num,.int .i64 pos,.slice A subs.length c] 24)));clear hk;have HNUM:=hid hnum;clear hnum;have H2:=hid h2;clear h2;have H3:=hid h3;clear h3;go_enter Tryz.func110,Tryz.ntmps110;go_wp2;generalize hW0:w.alloc (.cells #[.int .i64 16,.string s,.int .i64 num,.int .i64 pos,.slice A subs.length c] 24)=W0 at *;have HBOX:=hid (show Below w.heap.size w W0 by rw [← hW0];exact bBw _ _);clear hW0;go_loopw [74] (fun ii wr=>∃j:Nat,j≤subs.length∧ii=.int .i64 j∧ifAll (exprS d) (stmtsS d) num subs.length subs 0=ifAll (exprS d) (stmtsS d) num subs.length (subs.drop j) j∧Below W0.heap.size W0 wr) (fun ii _=>subs.length - (intOf ii).toNat)
               case atStart=>exact ⟨0,Nat.zero_le _,rfl,rfl,Below.refl _ _⟩
               case round=>
                obtain ⟨j,hj,rfl,hall,hbr⟩:=hrel;have HALL:=hid hall;clear hall;have HC1:=hid hbr;clear hbr;have x_:=(nb HAT HC1).all;by_cases hlt:j<subs.length
                ·skip;obtain ⟨y,hy⟩:∃y,subs[j]?=some y:=⟨_,List.getElem?_eq_getElem hlt⟩;obtain ⟨by_,oy,Ay,cy,hA,hx,hky⟩:=HKL.out.2.2 j y hy;subst hA;have HX_y:=hid hx;have HK_y:=hid hky;have HY:=hid hy;clear hx hky hy;clear x_;have x_:=(nb HAT HC1).all;have fy:=(nb HX_y HC1).all;by_cases hodd:j % 2=1
                 ·skip;have hob:((j:Int) % 2==0)=false:=(by simp only [beq_eq_false_iff_ne,ne_eq];omega);have COND:=hid (show (if j % 2=1∨(j+1=subs.length∧num=1) then stmtsS d y else exprS d y)=stmtsS d y from by simp [hodd]);go_wp2_with fail;generalize hV:wr.alloc (.cells #[.int .i64 y.kind,.string y.name,.int .i64 y.num,.int .i64 y.pos,.slice Ay y.subs.length cy] 24)=V at *;have HC2:=hid (show Below W0.heap.size W0 V by rw [← hV];exact bTh HC1.out (bBw _ _));clear hV;clear x_ fy;have x_:=(nb HAT HC2).all;have fy:=(nb HX_y HC2).all;refine (hL.calls y Ay cy _ (kb HK_y HC2)).mono ?_;rintro e w3 ⟨rfl,hb3⟩;have HC3:=hid (bTh HC2.out hb3);clear hb3;clear x_ fy;have x_:=(nb HAT HC3).all;have fy:=(nb HX_y HC3).all
                  cases hHV:stmtsS d y with
                  | false=>
                   have HV:=hid hHV;clear hHV;have STEP:=hid (HALL.out.trans ((ifAll_at (exprS d) (stmtsS d) num subs.length HY.out).trans (by rw [COND.out,HV.out])));go_wp2;go_ret;exact ⟨rBo (by simp [stmtS_succ,stmtStep,Nd.sub,HNUM.out,H2.out,H3.out,STEP.out]),bTh HBOX.out HC3.out⟩
                  | true=>
                   have HV:=hid hHV;clear hHV;have STEP:=hid (HALL.out.trans ((ifAll_at (exprS d) (stmtsS d) num subs.length HY.out).trans (by rw [COND.out,HV.out])));go_wp2;go_roundw
                   case rel=>exact ⟨j+1,by omega,by go_num,STEP.out.trans (Bool.true_and _),HC3.out⟩
                   case measure=>simp [intOf];omega
                 ·skip;have hob:((j:Int) % 2==0)=true:=(by simp only [beq_iff_eq];omega);by_cases hlast:j+1=subs.length
                  ·skip;have hlb:decide ((j:Int)<(subs.length:Int) - 1)=false:=decide_eq_false (by omega);have COND:=hid (show (if j % 2=1∨(j+1=subs.length∧num=1) then stmtsS d y else exprS d y)=stmtsS d y from by (have h5:=H3.out;rw [if_pos (Or.inr ⟨hlast,by omega⟩)]));go_wp2_with fail;generalize hV:wr.alloc (.cells #[.int .i64 y.kind,.string y.name,.int .i64 y.num,.int .i64 y.pos,.slice Ay y.subs.length cy] 24)=V at *;have HC4:=hid (show Below W0.heap.size W0 V by rw [← hV];exact bTh HC1.out (bBw _ _));clear hV;clear x_ fy;have x_:=(nb HAT HC4).all;have fy:=(nb HX_y HC4).all;refine (hL.calls y Ay cy _ (kb HK_y HC4)).mono ?_;rintro e w5 ⟨rfl,hb5⟩;have HC5:=hid (bTh HC4.out hb5);clear hb5;clear x_ fy;have x_:=(nb HAT HC5).all;have fy:=(nb HX_y HC5).all
                   cases hHV:stmtsS d y with
                   | false=>
                    have HV:=hid hHV;clear hHV;have STEP:=hid (HALL.out.trans ((ifAll_at (exprS d) (stmtsS d) num subs.length HY.out).trans (by rw [COND.out,HV.out])));go_wp2;go_ret;exact ⟨rBo (by simp [stmtS_succ,stmtStep,Nd.sub,HNUM.out,H2.out,H3.out,STEP.out]),bTh HBOX.out HC5.out⟩
                   | true=>
                    have HV:=hid hHV;clear hHV;have STEP:=hid (HALL.out.trans ((ifAll_at (exprS d) (stmtsS d) num subs.length HY.out).trans (by rw [COND.out,HV.out])));go_wp2;go_roundw
                    case rel=>exact ⟨j+1,by omega,by go_num,STEP.out.trans (Bool.true_and _),HC5.out⟩
                    case measure=>simp [intOf];omega
                  ·skip;have hlb:decide ((j:Int)<(subs.length:Int) - 1)=true:=decide_eq_true (by omega);have COND:=hid (show (if j % 2=1∨(j+1=subs.length∧num=1) then stmtsS d y else exprS d y)=exprS d y from by simp [hodd,hlast]);go_wp2_with fail;generalize hV:wr.alloc (.cells #[.int .i64 y.kind,.string y.name,.int .i64 y.num,.int .i64 y.pos,.slice Ay y.subs.length cy] 24)=V at *;have HC6:=hid (show Below W0.heap.size W0 V by rw [← hV];exact bTh HC1.out (bBw _ _));clear hV;clear x_ fy;have x_:=(nb HAT HC6).all;have fy:=(nb HX_y HC6).all;refine (hE.calls y Ay cy _ (kb HK_y HC6)).mono ?_;rintro e w7 ⟨rfl,hb7⟩;have HC7:=hid (bTh HC6.out hb7);clear hb7;clear x_ fy;have x_:=(nb HAT HC7).all;have fy:=(nb HX_y HC7).all
                   cases hHV:exprS d y with
                   | false=>
                    have HV:=hid hHV;clear hHV;have STEP:=hid (HALL.out.trans ((ifAll_at (exprS d) (stmtsS d) num subs.length HY.out).trans (by rw [COND.out,HV.out])));go_wp2;go_ret;exact ⟨rBo (by simp [stmtS_succ,stmtStep,Nd.sub,HNUM.out,H2.out,H3.out,STEP.out]),bTh HBOX.out HC7.out⟩
                   | true=>
                    have HV:=hid hHV;clear hHV;have STEP:=hid (HALL.out.trans ((ifAll_at (exprS d) (stmtsS d) num subs.length HY.out).trans (by rw [COND.out,HV.out])));go_wp2;go_roundw
                    case rel=>exact ⟨j+1,by omega,by go_num,STEP.out.trans (Bool.true_and _),HC7.out⟩
                    case measure=>simp [intOf];omega
                ·skip;have FIN:=hid (show ifAll (exprS d) (stmtsS d) num subs.length subs 0=true by rw [HALL.out,List.drop_eq_nil_of_le (by omega)];rfl);go_wp2;go_ret;exact ⟨rBo (by simp [stmtS_succ,stmtStep,Nd.sub,HNUM.out,H2.out,H3.out,FIN.out]),bTh HBOX.out HC1.out⟩
              ·skip;have h3n:(num != (subs.length:Int) % 2)=true:=(by simp only [bne_iff_ne,ne_eq];exact fun h=>h3 h.symm);have HAT:=hid (bAt w ⟨16,s,num,pos,subs⟩ A c 24);clear hk;have H2:=hid h2;clear h2;go_enter Tryz.func110,Tryz.ntmps110;go_wp2;go_ret;exact ⟨rBo (by simp [stmtS_succ,stmtStep,headB_one,Nd.sub,HE.out,H2.out,h3]),bBw _ _⟩
             ·have h2b:decide ((subs.length:Int)<2)=true:=decide_eq_true (by omega);have HAT:=hid (bAt w ⟨16,s,num,pos,subs⟩ A c 24);clear hk;have H2:=hid h2;clear h2;go_enter Tryz.func110,Tryz.ntmps110;go_wp2;go_ret;exact ⟨rBo (by simp [stmtS_succ,stmtStep,headB_one,Nd.sub,HE.out,eq_false H2.out]),bBw _ _⟩
            | true=>
             by_cases h2:2≤subs.length
             ·have h2b:decide ((subs.length:Int)<2)=false:=decide_eq_false (by omega);by_cases h3:(subs.length:Int) % 2=num
              ·skip;have h3n:(num != (subs.length:Int) % 2)=false:=(by simp [h3])
               have hnum:headB ⟨16,s,num,pos,subs⟩ 16 false 1 (-1)=true:=by
                have:num=0∨num=1:=(by omega);rw [headB_one];simp [HE.out,this]
               have HAT:=hid (bAt w ⟨16,s,num,pos,subs⟩ A c 24);have HKL:=hid ((hk.list).below (bBw w (.cells #[.int .i64 16,.string s,.int .i64 num,.int .i64 pos,.slice A subs.length c] 24)));clear hk;have HNUM:=hid hnum;clear hnum;have H2:=hid h2;clear h2;have H3:=hid h3;clear h3;go_enter Tryz.func110,Tryz.ntmps110;go_wp2;generalize hW0:w.alloc (.cells #[.int .i64 16,.string s,.int .i64 num,.int .i64 pos,.slice A subs.length c] 24)=W0 at *;have HBOX:=hid (show Below w.heap.size w W0 by rw [← hW0];exact bBw _ _);clear hW0;go_loopw [74] (fun ii wr=>∃j:Nat,j≤subs.length∧ii=.int .i64 j∧ifAll (exprS d) (stmtsS d) num subs.length subs 0=ifAll (exprS d) (stmtsS d) num subs.length (subs.drop j) j∧Below W0.heap.size W0 wr) (fun ii _=>subs.length - (intOf ii).toNat)
               case atStart=>exact ⟨0,Nat.zero_le _,rfl,rfl,Below.refl _ _⟩
               case round=>
                obtain ⟨j,hj,rfl,hall,hbr⟩:=hrel;have HALL:=hid hall;clear hall;have HC1:=hid hbr;clear hbr;have x_:=(nb HAT HC1).all;by_cases hlt:j<subs.length
                ·skip;obtain ⟨y,hy⟩:∃y,subs[j]?=some y:=⟨_,List.getElem?_eq_getElem hlt⟩;obtain ⟨by_,oy,Ay,cy,hA,hx,hky⟩:=HKL.out.2.2 j y hy;subst hA;have HX_y:=hid hx;have HK_y:=hid hky;have HY:=hid hy;clear hx hky hy;clear x_;have x_:=(nb HAT HC1).all;have fy:=(nb HX_y HC1).all;by_cases hodd:j % 2=1
                 ·skip;have hob:((j:Int) % 2==0)=false:=(by simp only [beq_eq_false_iff_ne,ne_eq];omega);have COND:=hid (show (if j % 2=1∨(j+1=subs.length∧num=1) then stmtsS d y else exprS d y)=stmtsS d y from by simp [hodd]);go_wp2_with fail;generalize hV:wr.alloc (.cells #[.int .i64 y.kind,.string y.name,.int .i64 y.num,.int .i64 y.pos,.slice Ay y.subs.length cy] 24)=V at *;have HC2:=hid (show Below W0.heap.size W0 V by rw [← hV];exact bTh HC1.out (bBw _ _));clear hV;clear x_ fy;have x_:=(nb HAT HC2).all;have fy:=(nb HX_y HC2).all;refine (hL.calls y Ay cy _ (kb HK_y HC2)).mono ?_;rintro e w3 ⟨rfl,hb3⟩;have HC3:=hid (bTh HC2.out hb3);clear hb3;clear x_ fy;have x_:=(nb HAT HC3).all;have fy:=(nb HX_y HC3).all
                  cases hHV:stmtsS d y with
                  | false=>
                   have HV:=hid hHV;clear hHV;have STEP:=hid (HALL.out.trans ((ifAll_at (exprS d) (stmtsS d) num subs.length HY.out).trans (by rw [COND.out,HV.out])));go_wp2;go_ret;exact ⟨rBo (by simp [stmtS_succ,stmtStep,Nd.sub,HNUM.out,H2.out,H3.out,STEP.out]),bTh HBOX.out HC3.out⟩
                  | true=>
                   have HV:=hid hHV;clear hHV;have STEP:=hid (HALL.out.trans ((ifAll_at (exprS d) (stmtsS d) num subs.length HY.out).trans (by rw [COND.out,HV.out])));go_wp2;go_roundw
                   case rel=>exact ⟨j+1,by omega,by go_num,STEP.out.trans (Bool.true_and _),HC3.out⟩
                   case measure=>simp [intOf];omega
                 ·skip;have hob:((j:Int) % 2==0)=true:=(by simp only [beq_iff_eq];omega);by_cases hlast:j+1=subs.length
                  ·skip;have hlb:decide ((j:Int)<(subs.length:Int) - 1)=false:=decide_eq_false (by omega);have COND:=hid (show (if j % 2=1∨(j+1=subs.length∧num=1) then stmtsS d y else exprS d y)=stmtsS d y from by (have h5:=H3.out;rw [if_pos (Or.inr ⟨hlast,by omega⟩)]));go_wp2_with fail;generalize hV:wr.alloc (.cells #[.int .i64 y.kind,.string y.name,.int .i64 y.num,.int .i64 y.pos,.slice Ay y.subs.length cy] 24)=V at *;have HC4:=hid (show Below W0.heap.size W0 V by rw [← hV];exact bTh HC1.out (bBw _ _));clear hV;clear x_ fy;have x_:=(nb HAT HC4).all;have fy:=(nb HX_y HC4).all;refine (hL.calls y Ay cy _ (kb HK_y HC4)).mono ?_;rintro e w5 ⟨rfl,hb5⟩;have HC5:=hid (bTh HC4.out hb5);clear hb5;clear x_ fy;have x_:=(nb HAT HC5).all;have fy:=(nb HX_y HC5).all
                   cases hHV:stmtsS d y with
                   | false=>
                    have HV:=hid hHV;clear hHV;have STEP:=hid (HALL.out.trans ((ifAll_at (exprS d) (stmtsS d) num subs.length HY.out).trans (by rw [COND.out,HV.out])));go_wp2;go_ret;exact ⟨rBo (by simp [stmtS_succ,stmtStep,Nd.sub,HNUM.out,H2.out,H3.out,STEP.out]),bTh HBOX.out HC5.out⟩
                   | true=>
                    have HV:=hid hHV;clear hHV;have STEP:=hid (HALL.out.trans ((ifAll_at (exprS d) (stmtsS d) num subs.length HY.out).trans (by rw [COND.out,HV.out])));go_wp2;go_roundw
                    case rel=>exact ⟨j+1,by omega,by go_num,STEP.out.trans (Bool.true_and _),HC5.out⟩
                    case measure=>simp [intOf];omega
                  ·skip;have hlb:decide ((j:Int)<(subs.length:Int) - 1)=true:=decide_eq_true (by omega);have COND:=hid (show (if j % 2=1∨(j+1=subs.length∧num=1) then stmtsS d y else exprS d y)=exprS d y from by simp [hodd,hlast]);go_wp2_with fail;generalize hV:wr.alloc (.cells #[.int .i64 y.kind,.string y.name,.int .i64 y.num,.int .i64 y.pos,.slice Ay y.subs.length cy] 24)=V at *;have HC6:=hid (show Below W0.heap.size W0 V by rw [← hV];exact bTh HC1.out (bBw _ _));clear hV;clear x_ fy;have x_:=(nb HAT HC6).all;have fy:=(nb HX_y HC6).all;refine (hE.calls y Ay cy _ (kb HK_y HC6)).mono ?_;rintro e w7 ⟨rfl,hb7⟩;have HC7:=hid (bTh HC6.out hb7);clear hb7;clear x_ fy;have x_:=(nb HAT HC7).all;have fy:=(nb HX_y HC7).all
                   cases hHV:exprS d y with
                   | false=>
                    have HV:=hid hHV;clear hHV;have STEP:=hid (HALL.out.trans ((ifAll_at (exprS d) (stmtsS d) num subs.length HY.out).trans (by rw [COND.out,HV.out])));go_wp2;go_ret;exact ⟨rBo (by simp [stmtS_succ,stmtStep,Nd.sub,HNUM.out,H2.out,H3.out,STEP.out]),bTh HBOX.out HC7.out⟩
                   | true=>
                    have HV:=hid hHV;clear hHV;have STEP:=hid (HALL.out.trans ((ifAll_at (exprS d) (stmtsS d) num subs.length HY.out).trans (by rw [COND.out,HV.out])));go_wp2;go_roundw
                    case rel=>exact ⟨j+1,by omega,by go_num,STEP.out.trans (Bool.true_and _),HC7.out⟩
                    case measure=>simp [intOf];omega
                ·skip;have FIN:=hid (show ifAll (exprS d) (stmtsS d) num subs.length subs 0=true by rw [HALL.out,List.drop_eq_nil_of_le (by omega)];rfl);go_wp2;go_ret;exact ⟨rBo (by simp [stmtS_succ,stmtStep,Nd.sub,HNUM.out,H2.out,H3.out,FIN.out]),bTh HBOX.out HC1.out⟩
              ·skip;have h3n:(num != (subs.length:Int) % 2)=true:=(by simp only [bne_iff_ne,ne_eq];exact fun h=>h3 h.symm);have HAT:=hid (bAt w ⟨16,s,num,pos,subs⟩ A c 24);clear hk;have H2:=hid h2;clear h2;go_enter Tryz.func110,Tryz.ntmps110;go_wp2;go_ret;exact ⟨rBo (by simp [stmtS_succ,stmtStep,headB_one,Nd.sub,HE.out,H2.out,h3]),bBw _ _⟩
             ·have h2b:decide ((subs.length:Int)<2)=true:=decide_eq_true (by omega);have HAT:=hid (bAt w ⟨16,s,num,pos,subs⟩ A c 24);clear hk;have H2:=hid h2;clear h2;go_enter Tryz.func110,Tryz.ntmps110;go_wp2;go_ret;exact ⟨rBo (by simp [stmtS_succ,stmtStep,headB_one,Nd.sub,HE.out,eq_false H2.out]),bBw _ _⟩
          ·have b16:(k==16)=false:=(by simpa using k16)
           cases g1:s.toList.isEmpty with
           | false=>
            have Eg1:=hid ((empty_eq s).symm.trans g1);have HAT:=hid (bAt w ⟨k,s,num,pos,subs⟩ A c 24);clear hk;go_enter Tryz.func110,Tryz.ntmps110;go_wp2;go_ret;exact ⟨rBo (by simp [stmtS_succ,stmtStep,k14,k15,k17,k18,k19,k20,k22,k21,k23,k16]),bBw _ _⟩
           | true=>
            have Eg1:=hid ((empty_eq s).symm.trans g1)
            cases g2:(num != 0) with
            | true=>
             have HAT:=hid (bAt w ⟨k,s,num,pos,subs⟩ A c 24);clear hk;go_enter Tryz.func110,Tryz.ntmps110;go_wp2;go_ret;exact ⟨rBo (by simp [stmtS_succ,stmtStep,k14,k15,k17,k18,k19,k20,k22,k21,k23,k16]),bBw _ _⟩
            | false=>
             have HAT:=hid (bAt w ⟨k,s,num,pos,subs⟩ A c 24);clear hk;go_enter Tryz.func110,Tryz.ntmps110;go_wp2;go_ret;exact ⟨rBo (by simp [stmtS_succ,stmtStep,k14,k15,k17,k18,k19,k20,k22,k21,k23,k16]),bBw _ _⟩
theorem stP_any:∀d:Nat,AskFn 110 d (stmtS d)∧AskFn 61 d (stmtsS d)
 | 0=>⟨⟨fun args w=>enters_fn Tryz.func110 (by kernel_rfl) rfl args w,fun _ _ _ _ hk=>hk.elim⟩,⟨fun args w=>enters_fn Tryz.func61 (by kernel_rfl) rfl args w,fun _ _ _ _ hk=>hk.elim⟩⟩
 | d+1=>⟨stmtP_step d (edP_any d).1 (edP_any d).2 (stP_any d).2,stmtsP_step d (stP_any d).1⟩
end Go.Proofs.YtneohanphabneaaGreatDoor
