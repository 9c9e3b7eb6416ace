/-
The program's answer on shapes, the walks: expressions. Conditions: the tree lies in memory.
-/
import Derived.Test.YtneohanphabneaaGreatDoorShapeOp
namespace Go.Proofs.YtneohanphabneaaGreatDoor
set_option linter.unusedSimpArgs false
set_option linter.unusedVariables false
open Go.RowKit Go.MapKept
set_option maxRecDepth 100000 in
set_option maxHeartbeats 16000000 in
theorem exprP_step (d:Nat) (hE:AskFn 55 d (exprS d)) (hD:AskFn 103 d (desigS d)) (hD1:AskFn 103 (d+1) (desigS (d+1))):AskFn 55 (d+1) (exprS (d+1)):=by
 refine ⟨fun args w=>enters_fn Tryz.func55 (by kernel_rfl) rfl args w,?_⟩;intro n A c w hk;obtain ⟨k,s,num,pos,subs⟩:=n;have hlen:=hk.len;have hsz:=hk.name_le;unfold maxLen at hlen hsz;simp only at hlen hsz;by_cases k29:k=29
 ·subst k29
  cases g1:s.toList.isEmpty with
  | false=>
   have Eg1:=hid ((empty_eq s).symm.trans g1);have HAT:=hid (bAt w ⟨29,s,num,pos,subs⟩ A c 24);clear hk;go_enter Tryz.func55,Tryz.ntmps55;go_wp2;go_ret;exact ⟨rBo (by simp [exprS_succ,exprStep,headB,Nd.sub,Eg1.out]),bBw _ _⟩
  | true=>
   have Eg1:=hid ((empty_eq s).symm.trans g1);by_cases g2:0≤num
   ·skip;by_cases g3:num≤2147483647
    ·skip
     cases lg4_0:((subs.length:Int)==0) with
     | false=>
      have HAT:=hid (bAt w ⟨29,s,num,pos,subs⟩ A c 24);clear hk;go_enter Tryz.func55,Tryz.ntmps55;go_wp2;go_ret;exact ⟨rBo (by (try simp only [beq_iff_eq,beq_eq_false_iff_ne,bne_iff_ne,bne_eq_false_iff_eq,ne_eq] at g2);(try simp only [beq_iff_eq,beq_eq_false_iff_ne,bne_iff_ne,bne_eq_false_iff_eq,ne_eq] at g3);have lg4_0':¬subs.length=0∧¬(subs.length:Int)=0:=(by constructor <;> intro hh <;> simp [hh] at lg4_0);simp [exprS_succ,exprStep,headB,Nd.sub,Eg1.out,g2,g3,lg4_0'.1,lg4_0'.2]),bBw _ _⟩
     | true=>
      have zlg4_0:subs.length=0:=(by simp only [beq_iff_eq] at lg4_0;omega);have Zlg4_0:=hid zlg4_0;clear zlg4_0;have HAT:=hid (bAt w ⟨29,s,num,pos,subs⟩ A c 24);clear hk;go_enter Tryz.func55,Tryz.ntmps55;go_wp2;go_ret;exact ⟨rBo (by (try simp only [beq_iff_eq,beq_eq_false_iff_ne,bne_iff_ne,bne_eq_false_iff_eq,ne_eq] at g2);(try simp only [beq_iff_eq,beq_eq_false_iff_ne,bne_iff_ne,bne_eq_false_iff_eq,ne_eq] at g3);simp [exprS_succ,exprStep,headB,Nd.sub,Eg1.out,g2,g3,Zlg4_0.out]),bBw _ _⟩
    ·skip;have HAT:=hid (bAt w ⟨29,s,num,pos,subs⟩ A c 24);clear hk;go_enter Tryz.func55,Tryz.ntmps55;go_wp2;go_ret;exact ⟨rBo (by (try simp only [beq_iff_eq,beq_eq_false_iff_ne,bne_iff_ne,bne_eq_false_iff_eq,ne_eq] at g2);simp [exprS_succ,exprStep,headB,Nd.sub,Eg1.out,g2,eq_false (show ¬(num≤2147483647) by omega)]),bBw _ _⟩
   ·skip;have HAT:=hid (bAt w ⟨29,s,num,pos,subs⟩ A c 24);clear hk;go_enter Tryz.func55,Tryz.ntmps55;go_wp2;go_ret;exact ⟨rBo (by simp [exprS_succ,exprStep,headB,Nd.sub,Eg1.out,eq_false (show ¬(0≤num) by omega)]),bBw _ _⟩
 ·have b29:(k==29)=false:=(by simpa using k29);by_cases k30:k=30
  ·subst k30;have HAT:=hid (bAt w ⟨30,s,num,pos,subs⟩ A c 24);clear hk;go_enter Tryz.func55,Tryz.ntmps55;go_wp2_with fail;generalize hW0:w.alloc (.cells #[.int .i64 30,.string s,.int .i64 num,.int .i64 pos,.slice A subs.length c] 24)=W0 at *;have HBOX:=hid (show Below w.heap.size w W0 by rw [← hW0];exact bBw _ _);clear hW0;refine (plain_any ⟨30,s,num,pos,subs⟩ A c 30 0 _ (by unfold maxLen;omega)).mono ?_;rintro e w1 ⟨rfl,hb1⟩;have HC1:=hid hb1;clear hb1;have x_:=(nb HAT HC1).all;go_wp2;go_ret;exact ⟨rBo (by simp [exprS_succ,exprStep,head0,head1,head2,headL,Nd.sub]),bTh HBOX.out HC1.out⟩
  ·have b30:(k==30)=false:=(by simpa using k30);by_cases k31:k=31
   ·subst k31;have HAT:=hid (bAt w ⟨31,s,num,pos,subs⟩ A c 24);clear hk;go_enter Tryz.func55,Tryz.ntmps55;go_wp2_with fail;generalize hW0:w.alloc (.cells #[.int .i64 31,.string s,.int .i64 num,.int .i64 pos,.slice A subs.length c] 24)=W0 at *;have HBOX:=hid (show Below w.heap.size w W0 by rw [← hW0];exact bBw _ _);clear hW0;refine (plain_any ⟨31,s,num,pos,subs⟩ A c 31 0 _ (by unfold maxLen;omega)).mono ?_;rintro e w1 ⟨rfl,hb1⟩;have HC1:=hid hb1;clear hb1;have x_:=(nb HAT HC1).all;go_wp2;go_ret;exact ⟨rBo (by simp [exprS_succ,exprStep,head0,head1,head2,headL,Nd.sub]),bTh HBOX.out HC1.out⟩
   ·have b31:(k==31)=false:=(by simpa using k31);by_cases k32:k=32
    ·subst k32;have HAT:=hid (bAt w ⟨32,s,num,pos,subs⟩ A c 24);clear hk;go_enter Tryz.func55,Tryz.ntmps55;go_wp2_with fail;generalize hW0:w.alloc (.cells #[.int .i64 32,.string s,.int .i64 num,.int .i64 pos,.slice A subs.length c] 24)=W0 at *;have HBOX:=hid (show Below w.heap.size w W0 by rw [← hW0];exact bBw _ _);clear hW0;refine (plain_any ⟨32,s,num,pos,subs⟩ A c 32 0 _ (by unfold maxLen;omega)).mono ?_;rintro e w1 ⟨rfl,hb1⟩;have HC1:=hid hb1;clear hb1;have x_:=(nb HAT HC1).all;go_wp2;go_ret;exact ⟨rBo (by simp [exprS_succ,exprStep,head0,head1,head2,headL,Nd.sub]),bTh HBOX.out HC1.out⟩
    ·have b32:(k==32)=false:=(by simpa using k32);by_cases k33:k=33
     ·subst k33;rcases subs with _ | ⟨x,r⟩
      ·skip;have HAT:=hid (bAt w ⟨33,s,num,pos,[]⟩ A c 24);clear hk;go_enter Tryz.func55,Tryz.ntmps55;go_wp2;go_ret;exact ⟨rBo (by simp [exprS_succ,exprStep,head0,head1,head2,headL,Nd.sub]),bBw _ _⟩
      ·skip;simp only [List.length_cons] at hlen;obtain ⟨b,o,Ax,cx,rfl,hx_x,hk_x⟩:=hk.one (x:=x) (r:=r) rfl;obtain ⟨A',hA',hsl⟩:=slice_tail b o r.length c (by have:=hk.list.1;simpa using this);have HAT:=hid (bAt w ⟨33,s,num,pos,x::r⟩ (some ⟨b,o,none⟩) c 24);have HX_x:=hid (hx_x.below (bBw w (.cells #[.int .i64 33,.string s,.int .i64 num,.int .i64 pos,.slice (some ⟨b,o,none⟩) (r.length+1) c] 24)));have HK_x:=hid (hk_x.below (bBw w (.cells #[.int .i64 33,.string s,.int .i64 num,.int .i64 pos,.slice (some ⟨b,o,none⟩) (r.length+1) c] 24)));clear hx_x hk_x;have HR:=hid ((hk.list.tail hA').below (bBw w (.cells #[.int .i64 33,.string s,.int .i64 num,.int .i64 pos,.slice (some ⟨b,o,none⟩) (r.length+1) c] 24)));clear hk;clear hA';have fx:=HX_x.out.all;go_enter Tryz.func55,Tryz.ntmps55;go_wp2_with fail;generalize hW0:w.alloc (.cells #[.int .i64 33,.string s,.int .i64 num,.int .i64 pos,.slice (some ⟨b,o,none⟩) (r.length+1) c] 24)=W0 at *;have HBOX:=hid (show Below w.heap.size w W0 by rw [← hW0];exact bBw _ _);clear hW0;refine (plain_any ⟨33,s,num,pos,x::r⟩ (some ⟨b,o,none⟩) c 33 (r.length+1:Int) _ (by unfold maxLen;simp only [List.length_cons,List.length_nil];omega)).mono ?_;rintro e w1 ⟨rfl,hb1⟩;have HC1:=hid hb1;clear hb1;clear fx;have x_:=(nb HAT HC1).all;have fx:=(nb HX_x HC1).all
       cases g1:plainB ⟨33,s,num,pos,x::r⟩ 33 (r.length+1:Int) with
       | false=>
        try rw [g1]
        go_wp2;go_ret;exact ⟨rBo (by (try simp only [beq_iff_eq,beq_eq_false_iff_ne,bne_iff_ne,bne_eq_false_iff_eq,ne_eq] at g1);simp [exprS_succ,exprStep,head0,head1,head2,headL,Nd.sub,g1]),bTh HBOX.out HC1.out⟩
       | true=>
        try rw [g1]
        go_wp2_with fail;refine (hD.calls x Ax cx _ (kb HK_x HC1)).mono ?_;rintro e w2 ⟨rfl,hb2⟩;have HC2:=hid (bTh HC1.out hb2);clear hb2;clear x_ fx;have x_:=(nb HAT HC2).all;have fx:=(nb HX_x HC2).all
        cases g2:desigS d x with
        | false=>
         try rw [g2]
         go_wp2;go_ret;exact ⟨rBo (by (try simp only [beq_iff_eq,beq_eq_false_iff_ne,bne_iff_ne,bne_eq_false_iff_eq,ne_eq] at g1);(try simp only [beq_iff_eq,beq_eq_false_iff_ne,bne_iff_ne,bne_eq_false_iff_eq,ne_eq] at g2);simp [exprS_succ,exprStep,head0,head1,head2,headL,Nd.sub,g1,g2]),bTh HBOX.out HC2.out⟩
        | true=>
         try rw [g2]
         go_wp2_with fail;refine (each_any _ d _ hE r A' (c - 1) _ (HR.out.below HC2.out)).mono ?_;rintro e w3 ⟨rfl,hb3⟩;have HC3:=hid (bTh HC2.out hb3);clear hb3;clear x_ fx;have x_:=(nb HAT HC3).all;have fx:=(nb HX_x HC3).all;go_wp2;go_ret;exact ⟨rBo (by (try simp only [beq_iff_eq,beq_eq_false_iff_ne,bne_iff_ne,bne_eq_false_iff_eq,ne_eq] at g1);(try simp only [beq_iff_eq,beq_eq_false_iff_ne,bne_iff_ne,bne_eq_false_iff_eq,ne_eq] at g2);simp [exprS_succ,exprStep,head0,head1,head2,headL,Nd.sub,g1,g2]),bTh HBOX.out HC3.out⟩
     ·have b33:(k==33)=false:=(by simpa using k33);by_cases k34:k=34
      ·subst k34
       cases g1:plainB ⟨34,s,num,pos,subs⟩ 34 1 with
       | false=>
        have HAT:=hid (bAt w ⟨34,s,num,pos,subs⟩ A c 24);clear hk;go_enter Tryz.func55,Tryz.ntmps55;go_wp2_with fail;generalize hW0:w.alloc (.cells #[.int .i64 34,.string s,.int .i64 num,.int .i64 pos,.slice A subs.length c] 24)=W0 at *;have HBOX:=hid (show Below w.heap.size w W0 by rw [← hW0];exact bBw _ _);clear hW0;refine (plain_any ⟨34,s,num,pos,subs⟩ A c 34 1 _ (by unfold maxLen;simp only [List.length_cons,List.length_nil];omega)).mono ?_;rintro e w1 ⟨rfl,hb1⟩;have HC1:=hid hb1;clear hb1;have x_:=(nb HAT HC1).all
        try rw [g1]
        go_wp2;go_ret;exact ⟨rBo (by (try simp only [beq_iff_eq,beq_eq_false_iff_ne,bne_iff_ne,bne_eq_false_iff_eq,ne_eq] at g1);simp [exprS_succ,exprStep,head0,head1,head2,headL,Nd.sub,g1]),bTh HBOX.out HC1.out⟩
       | true=>
        obtain ⟨x,rfl⟩:=len1 (l:=subs) (plainB_len g1);obtain ⟨b,o,Ax,cx,rfl,hx_x,hk_x⟩:=hk.one (x:=x) (r:=[]) rfl;simp only [List.length_cons,List.length_nil,Nat.zero_add] at hlen;have HAT:=hid (bAt w ⟨34,s,num,pos,[x]⟩ (some ⟨b,o,none⟩) c 24);have HX_x:=hid (hx_x.below (bBw w (.cells #[.int .i64 34,.string s,.int .i64 num,.int .i64 pos,.slice (some ⟨b,o,none⟩) 1 c] 24)));have HK_x:=hid (hk_x.below (bBw w (.cells #[.int .i64 34,.string s,.int .i64 num,.int .i64 pos,.slice (some ⟨b,o,none⟩) 1 c] 24)));clear hx_x hk_x;clear hk;have fx:=HX_x.out.all;go_enter Tryz.func55,Tryz.ntmps55;go_wp2_with fail;generalize hW0:w.alloc (.cells #[.int .i64 34,.string s,.int .i64 num,.int .i64 pos,.slice (some ⟨b,o,none⟩) 1 c] 24)=W0 at *;have HBOX:=hid (show Below w.heap.size w W0 by rw [← hW0];exact bBw _ _);clear hW0;refine (plain_any ⟨34,s,num,pos,[x]⟩ (some ⟨b,o,none⟩) c 34 1 _ (by unfold maxLen;simp only [List.length_cons,List.length_nil];omega)).mono ?_;rintro e w1 ⟨rfl,hb1⟩;have HC1:=hid hb1;clear hb1;clear fx;have x_:=(nb HAT HC1).all;have fx:=(nb HX_x HC1).all
        try rw [g1]
        go_wp2_with fail;refine (hE.calls x Ax cx _ (kb HK_x HC1)).mono ?_;rintro e w2 ⟨rfl,hb2⟩;have HC2:=hid (bTh HC1.out hb2);clear hb2;clear x_ fx;have x_:=(nb HAT HC2).all;have fx:=(nb HX_x HC2).all;go_wp2;go_ret;exact ⟨rBo (by (try simp only [beq_iff_eq,beq_eq_false_iff_ne,bne_iff_ne,bne_eq_false_iff_eq,ne_eq] at g1);simp [exprS_succ,exprStep,head0,head1,head2,headL,Nd.sub,g1]),bTh HBOX.out HC2.out⟩
      ·have b34:(k==34)=false:=(by simpa using k34);by_cases k35:k=35
       ·subst k35
        cases g1:plainB ⟨35,s,num,pos,subs⟩ 35 1 with
        | false=>
         have HAT:=hid (bAt w ⟨35,s,num,pos,subs⟩ A c 24);clear hk;go_enter Tryz.func55,Tryz.ntmps55;go_wp2_with fail;generalize hW0:w.alloc (.cells #[.int .i64 35,.string s,.int .i64 num,.int .i64 pos,.slice A subs.length c] 24)=W0 at *;have HBOX:=hid (show Below w.heap.size w W0 by rw [← hW0];exact bBw _ _);clear hW0;refine (plain_any ⟨35,s,num,pos,subs⟩ A c 35 1 _ (by unfold maxLen;simp only [List.length_cons,List.length_nil];omega)).mono ?_;rintro e w1 ⟨rfl,hb1⟩;have HC1:=hid hb1;clear hb1;have x_:=(nb HAT HC1).all
         try rw [g1]
         go_wp2;go_ret;exact ⟨rBo (by (try simp only [beq_iff_eq,beq_eq_false_iff_ne,bne_iff_ne,bne_eq_false_iff_eq,ne_eq] at g1);simp [exprS_succ,exprStep,head0,head1,head2,headL,Nd.sub,g1]),bTh HBOX.out HC1.out⟩
        | true=>
         obtain ⟨x,rfl⟩:=len1 (l:=subs) (plainB_len g1);obtain ⟨b,o,Ax,cx,rfl,hx_x,hk_x⟩:=hk.one (x:=x) (r:=[]) rfl;simp only [List.length_cons,List.length_nil,Nat.zero_add] at hlen;have HAT:=hid (bAt w ⟨35,s,num,pos,[x]⟩ (some ⟨b,o,none⟩) c 24);have HX_x:=hid (hx_x.below (bBw w (.cells #[.int .i64 35,.string s,.int .i64 num,.int .i64 pos,.slice (some ⟨b,o,none⟩) 1 c] 24)));have HK_x:=hid (hk_x.below (bBw w (.cells #[.int .i64 35,.string s,.int .i64 num,.int .i64 pos,.slice (some ⟨b,o,none⟩) 1 c] 24)));clear hx_x hk_x;clear hk;have fx:=HX_x.out.all;go_enter Tryz.func55,Tryz.ntmps55;go_wp2_with fail;generalize hW0:w.alloc (.cells #[.int .i64 35,.string s,.int .i64 num,.int .i64 pos,.slice (some ⟨b,o,none⟩) 1 c] 24)=W0 at *;have HBOX:=hid (show Below w.heap.size w W0 by rw [← hW0];exact bBw _ _);clear hW0;refine (plain_any ⟨35,s,num,pos,[x]⟩ (some ⟨b,o,none⟩) c 35 1 _ (by unfold maxLen;simp only [List.length_cons,List.length_nil];omega)).mono ?_;rintro e w1 ⟨rfl,hb1⟩;have HC1:=hid hb1;clear hb1;clear fx;have x_:=(nb HAT HC1).all;have fx:=(nb HX_x HC1).all
         try rw [g1]
         go_wp2_with fail;refine (hE.calls x Ax cx _ (kb HK_x HC1)).mono ?_;rintro e w2 ⟨rfl,hb2⟩;have HC2:=hid (bTh HC1.out hb2);clear hb2;clear x_ fx;have x_:=(nb HAT HC2).all;have fx:=(nb HX_x HC2).all;go_wp2;go_ret;exact ⟨rBo (by (try simp only [beq_iff_eq,beq_eq_false_iff_ne,bne_iff_ne,bne_eq_false_iff_eq,ne_eq] at g1);simp [exprS_succ,exprStep,head0,head1,head2,headL,Nd.sub,g1]),bTh HBOX.out HC2.out⟩
       ·have b35:(k==35)=false:=(by simpa using k35);by_cases k36:k=36
        ·subst k36;exact opP_any d hE s num pos subs A c w hk
        ·have b36:(k==36)=false:=(by simpa using k36);by_cases k37:k=37
         ·subst k37
          cases g1:plainB ⟨37,s,num,pos,subs⟩ 37 2 with
          | false=>
           have HAT:=hid (bAt w ⟨37,s,num,pos,subs⟩ A c 24);clear hk;go_enter Tryz.func55,Tryz.ntmps55;go_wp2_with fail;generalize hW0:w.alloc (.cells #[.int .i64 37,.string s,.int .i64 num,.int .i64 pos,.slice A subs.length c] 24)=W0 at *;have HBOX:=hid (show Below w.heap.size w W0 by rw [← hW0];exact bBw _ _);clear hW0;refine (plain_any ⟨37,s,num,pos,subs⟩ A c 37 2 _ (by unfold maxLen;simp only [List.length_cons,List.length_nil];omega)).mono ?_;rintro e w1 ⟨rfl,hb1⟩;have HC1:=hid hb1;clear hb1;have x_:=(nb HAT HC1).all
           try rw [g1]
           go_wp2;go_ret;exact ⟨rBo (by (try simp only [beq_iff_eq,beq_eq_false_iff_ne,bne_iff_ne,bne_eq_false_iff_eq,ne_eq] at g1);simp [exprS_succ,exprStep,head0,head1,head2,headL,Nd.sub,g1]),bTh HBOX.out HC1.out⟩
          | true=>
           obtain ⟨x,y,rfl⟩:=len2 (l:=subs) (plainB_len g1);obtain ⟨b,o,Ax,cx,rfl,hx_x,hk_x⟩:=hk.one (x:=x) (r:=[y]) rfl;obtain ⟨Ay,cy,hx_y,hk_y⟩:=hk.nth rfl (i:=1) (x:=y) rfl (p:=o+5) (by omega);simp only [List.length_cons,List.length_nil,Nat.zero_add] at hlen;have HAT:=hid (bAt w ⟨37,s,num,pos,[x,y]⟩ (some ⟨b,o,none⟩) c 24);have HX_x:=hid (hx_x.below (bBw w (.cells #[.int .i64 37,.string s,.int .i64 num,.int .i64 pos,.slice (some ⟨b,o,none⟩) 2 c] 24)));have HK_x:=hid (hk_x.below (bBw w (.cells #[.int .i64 37,.string s,.int .i64 num,.int .i64 pos,.slice (some ⟨b,o,none⟩) 2 c] 24)));clear hx_x hk_x;have HX_y:=hid (hx_y.below (bBw w (.cells #[.int .i64 37,.string s,.int .i64 num,.int .i64 pos,.slice (some ⟨b,o,none⟩) 2 c] 24)));have HK_y:=hid (hk_y.below (bBw w (.cells #[.int .i64 37,.string s,.int .i64 num,.int .i64 pos,.slice (some ⟨b,o,none⟩) 2 c] 24)));clear hx_y hk_y;clear hk;have fx:=HX_x.out.all;have fy:=HX_y.out.all;go_enter Tryz.func55,Tryz.ntmps55;go_wp2_with fail;generalize hW0:w.alloc (.cells #[.int .i64 37,.string s,.int .i64 num,.int .i64 pos,.slice (some ⟨b,o,none⟩) 2 c] 24)=W0 at *;have HBOX:=hid (show Below w.heap.size w W0 by rw [← hW0];exact bBw _ _);clear hW0;refine (plain_any ⟨37,s,num,pos,[x,y]⟩ (some ⟨b,o,none⟩) c 37 2 _ (by unfold maxLen;simp only [List.length_cons,List.length_nil];omega)).mono ?_;rintro e w1 ⟨rfl,hb1⟩;have HC1:=hid hb1;clear hb1;clear fx fy;have x_:=(nb HAT HC1).all;have fx:=(nb HX_x HC1).all;have fy:=(nb HX_y HC1).all
           try rw [g1]
           go_wp2_with fail;refine (hE.calls x Ax cx _ (kb HK_x HC1)).mono ?_;rintro e w2 ⟨rfl,hb2⟩;have HC2:=hid (bTh HC1.out hb2);clear hb2;clear x_ fx fy;have x_:=(nb HAT HC2).all;have fx:=(nb HX_x HC2).all;have fy:=(nb HX_y HC2).all
           cases g2:exprS d x with
           | false=>
            try rw [g2]
            go_wp2;go_ret;exact ⟨rBo (by (try simp only [beq_iff_eq,beq_eq_false_iff_ne,bne_iff_ne,bne_eq_false_iff_eq,ne_eq] at g1);(try simp only [beq_iff_eq,beq_eq_false_iff_ne,bne_iff_ne,bne_eq_false_iff_eq,ne_eq] at g2);simp [exprS_succ,exprStep,head0,head1,head2,headL,Nd.sub,g1,g2]),bTh HBOX.out HC2.out⟩
           | true=>
            try rw [g2]
            go_wp2_with fail;refine ((isTypeName_any d).calls y Ay cy _ (kb HK_y HC2)).mono ?_;rintro e w3 ⟨rfl,hb3⟩;have HC3:=hid (bTh HC2.out hb3);clear hb3;clear x_ fx fy;have x_:=(nb HAT HC3).all;have fx:=(nb HX_x HC3).all;have fy:=(nb HX_y HC3).all;go_wp2;go_ret;exact ⟨rBo (by (try simp only [beq_iff_eq,beq_eq_false_iff_ne,bne_iff_ne,bne_eq_false_iff_eq,ne_eq] at g1);(try simp only [beq_iff_eq,beq_eq_false_iff_ne,bne_iff_ne,bne_eq_false_iff_eq,ne_eq] at g2);simp [exprS_succ,exprStep,head0,head1,head2,headL,Nd.sub,g1,g2]),bTh HBOX.out HC3.out⟩
         ·have b37:(k==37)=false:=(by simpa using k37);have HKN:=hid (hk.below (bBw w (.cells #[.int .i64 k,.string s,.int .i64 num,.int .i64 pos,.slice A subs.length c] 24)));have HAT:=hid (bAt w ⟨k,s,num,pos,subs⟩ A c 24);clear hk;go_enter Tryz.func55,Tryz.ntmps55;go_wp2_with fail;generalize hW0:w.alloc (.cells #[.int .i64 k,.string s,.int .i64 num,.int .i64 pos,.slice A subs.length c] 24)=W0 at *;have HBOX:=hid (show Below w.heap.size w W0 by rw [← hW0];exact bBw _ _);clear hW0;refine (hD1.calls ⟨k,s,num,pos,subs⟩ A c _ HKN.out).mono ?_;rintro e w1 ⟨rfl,hb1⟩;have HC1:=hid hb1;clear hb1;have x_:=(nb HAT HC1).all;go_wp2;go_ret;exact ⟨rBo (by simp [exprS_succ,desigS_succ,exprStep,k29,k30,k31,k32,k33,k34,k35,k36,k37]),bTh HBOX.out HC1.out⟩
theorem edP_any:∀d:Nat,AskFn 55 d (exprS d)∧AskFn 103 d (desigS d)
 | 0=>⟨⟨fun args w=>enters_fn Tryz.func55 (by kernel_rfl) rfl args w,fun _ _ _ _ hk=>hk.elim⟩,⟨fun args w=>enters_fn Tryz.func103 (by kernel_rfl) rfl args w,fun _ _ _ _ hk=>hk.elim⟩⟩
 | d+1=>by
  obtain ⟨hE,hD⟩:=edP_any d;have hD1:=desigP_step d hE hD;exact ⟨exprP_step d hE hD hD1,hD1⟩
end Go.Proofs.YtneohanphabneaaGreatDoor
