/-
The program's answer on shapes, the walks: types, designators, expressions. Conditions: the tree lies in memory.
-/
import Derived.Test.YtneohanphabneaaGreatDoorShapeP
namespace Go.Proofs.YtneohanphabneaaGreatDoor
set_option linter.unusedSimpArgs false
set_option linter.unusedVariables false
open Go.RowKit
theorem plainB_ne {n:Nd} {K m:Int} (h:¬n.kind=K):plainB n K m=false:=by simp [plainB,h]
set_option maxRecDepth 100000 in
set_option maxHeartbeats 4000000 in
theorem isType_any (d:Nat):AskFn 57 d typeS:=by
 refine ⟨fun args w=>enters_fn Tryz.func57 (by kernel_rfl) rfl args w,?_⟩;intro n A c w hk;obtain ⟨d,rfl⟩:∃d',d=d'+1:=(by cases d with | zero=>exact hk.elim | succ d=>exact ⟨d,rfl⟩);obtain ⟨k,s,num,pos,subs⟩:=n;have hlen:=hk.len;have hsz:=hk.name_le;unfold maxLen at hlen hsz;simp only at hlen hsz;by_cases k9:k=9
 ·subst k9
  cases g1:s.toList.isEmpty with
  | false=>
   have Eg1:=hid ((empty_eq s).symm.trans g1);have HAT:=hid (bAt w ⟨9,s,num,pos,subs⟩ A c 24);clear hk;go_enter Tryz.func57,Tryz.ntmps57;go_wp2;go_ret;exact ⟨rBo (by simp [typeS,headB,Nd.sub,Eg1.out]),bBw _ _⟩
  | true=>
   have Eg1:=hid ((empty_eq s).symm.trans g1);by_cases g2:0≤num
   ·skip;by_cases g3:num≤2147483647
    ·skip
     cases lg4_1:((subs.length:Int)==1) with
     | false=>
      have HAT:=hid (bAt w ⟨9,s,num,pos,subs⟩ A c 24);clear hk;go_enter Tryz.func57,Tryz.ntmps57;go_wp2;go_ret;exact ⟨rBo (by (try simp only [beq_iff_eq,beq_eq_false_iff_ne,bne_iff_ne,bne_eq_false_iff_eq,ne_eq] at g2);(try simp only [beq_iff_eq,beq_eq_false_iff_ne,bne_iff_ne,bne_eq_false_iff_eq,ne_eq] at g3);have lg4_1':¬subs.length=1∧¬(subs.length:Int)=1:=(by constructor <;> intro hh <;> simp [hh] at lg4_1);simp [typeS,headB,Nd.sub,Eg1.out,g2,g3,lg4_1'.1,lg4_1'.2]),bBw _ _⟩
     | true=>
      obtain ⟨x,rfl⟩:=len1 (l:=subs) ((by simpa using lg4_1));obtain ⟨b,o,Ax,cx,rfl,hx_x,hk_x⟩:=hk.one (x:=x) (r:=[]) rfl;simp only [List.length_cons,List.length_nil,Nat.zero_add] at hlen;clear lg4_1;have HAT:=hid (bAt w ⟨9,s,num,pos,[x]⟩ (some ⟨b,o,none⟩) c 24);have HX_x:=hid (hx_x.below (bBw w (.cells #[.int .i64 9,.string s,.int .i64 num,.int .i64 pos,.slice (some ⟨b,o,none⟩) 1 c] 24)));have HK_x:=hid (hk_x.below (bBw w (.cells #[.int .i64 9,.string s,.int .i64 num,.int .i64 pos,.slice (some ⟨b,o,none⟩) 1 c] 24)));clear hx_x hk_x;clear hk;have fx:=HX_x.out.all;go_enter Tryz.func57,Tryz.ntmps57;go_wp2_with fail;generalize hW0:w.alloc (.cells #[.int .i64 9,.string s,.int .i64 num,.int .i64 pos,.slice (some ⟨b,o,none⟩) 1 c] 24)=W0 at *;have HBOX:=hid (show Below w.heap.size w W0 by rw [← hW0];exact bBw _ _);clear hW0;refine ((isTypeName_any d).calls x Ax cx _ HK_x.out).mono ?_;rintro e w1 ⟨rfl,hb1⟩;have HC1:=hid hb1;clear hb1;clear fx;have x_:=(nb HAT HC1).all;have fx:=(nb HX_x HC1).all;go_wp2;go_ret;exact ⟨rBo (by (try simp only [beq_iff_eq,beq_eq_false_iff_ne,bne_iff_ne,bne_eq_false_iff_eq,ne_eq] at g2);(try simp only [beq_iff_eq,beq_eq_false_iff_ne,bne_iff_ne,bne_eq_false_iff_eq,ne_eq] at g3);simp [typeS,headB,Nd.sub,Eg1.out,g2,g3]),bTh HBOX.out HC1.out⟩
    ·skip;have HAT:=hid (bAt w ⟨9,s,num,pos,subs⟩ A c 24);clear hk;go_enter Tryz.func57,Tryz.ntmps57;go_wp2;go_ret;exact ⟨rBo (by (try simp only [beq_iff_eq,beq_eq_false_iff_ne,bne_iff_ne,bne_eq_false_iff_eq,ne_eq] at g2);simp [typeS,headB,Nd.sub,Eg1.out,g2,eq_false (show ¬(num≤2147483647) by omega)]),bBw _ _⟩
   ·skip;have HAT:=hid (bAt w ⟨9,s,num,pos,subs⟩ A c 24);clear hk;go_enter Tryz.func57,Tryz.ntmps57;go_wp2;go_ret;exact ⟨rBo (by simp [typeS,headB,Nd.sub,Eg1.out,eq_false (show ¬(0≤num) by omega)]),bBw _ _⟩
 ·have b9:(k==9)=false:=(by simpa using k9);by_cases k12:k=12
  ·subst k12
   cases g1:plainB ⟨12,s,num,pos,subs⟩ 12 1 with
   | false=>
    have HAT:=hid (bAt w ⟨12,s,num,pos,subs⟩ A c 24);clear hk;go_enter Tryz.func57,Tryz.ntmps57;go_wp2_with fail;generalize hW0:w.alloc (.cells #[.int .i64 12,.string s,.int .i64 num,.int .i64 pos,.slice A subs.length c] 24)=W0 at *;have HBOX:=hid (show Below w.heap.size w W0 by rw [← hW0];exact bBw _ _);clear hW0;refine (plain_any ⟨12,s,num,pos,subs⟩ A c 12 1 _ (by unfold maxLen;simp only [List.length_cons,List.length_nil];omega)).mono ?_;rintro e w1 ⟨rfl,hb1⟩;have HC1:=hid hb1;clear hb1;have x_:=(nb HAT HC1).all
    try rw [g1]
    go_wp2;go_ret;exact ⟨rBo (by (try simp only [beq_iff_eq,beq_eq_false_iff_ne,bne_iff_ne,bne_eq_false_iff_eq,ne_eq] at g1);simp [typeS,head1,Nd.sub,g1]),bTh HBOX.out HC1.out⟩
   | true=>
    obtain ⟨x,rfl⟩:=len1 (l:=subs) (plainB_len g1);obtain ⟨b,o,Ax,cx,rfl,hx_x,hk_x⟩:=hk.one (x:=x) (r:=[]) rfl;simp only [List.length_cons,List.length_nil,Nat.zero_add] at hlen;have HAT:=hid (bAt w ⟨12,s,num,pos,[x]⟩ (some ⟨b,o,none⟩) c 24);have HX_x:=hid (hx_x.below (bBw w (.cells #[.int .i64 12,.string s,.int .i64 num,.int .i64 pos,.slice (some ⟨b,o,none⟩) 1 c] 24)));have HK_x:=hid (hk_x.below (bBw w (.cells #[.int .i64 12,.string s,.int .i64 num,.int .i64 pos,.slice (some ⟨b,o,none⟩) 1 c] 24)));clear hx_x hk_x;clear hk;have fx:=HX_x.out.all;go_enter Tryz.func57,Tryz.ntmps57;go_wp2_with fail;generalize hW0:w.alloc (.cells #[.int .i64 12,.string s,.int .i64 num,.int .i64 pos,.slice (some ⟨b,o,none⟩) 1 c] 24)=W0 at *;have HBOX:=hid (show Below w.heap.size w W0 by rw [← hW0];exact bBw _ _);clear hW0;refine (plain_any ⟨12,s,num,pos,[x]⟩ (some ⟨b,o,none⟩) c 12 1 _ (by unfold maxLen;simp only [List.length_cons,List.length_nil];omega)).mono ?_;rintro e w1 ⟨rfl,hb1⟩;have HC1:=hid hb1;clear hb1;clear fx;have x_:=(nb HAT HC1).all;have fx:=(nb HX_x HC1).all
    try rw [g1]
    go_wp2_with fail;refine ((isTypeName_any d).calls x Ax cx _ (kb HK_x HC1)).mono ?_;rintro e w2 ⟨rfl,hb2⟩;have HC2:=hid (bTh HC1.out hb2);clear hb2;clear x_ fx;have x_:=(nb HAT HC2).all;have fx:=(nb HX_x HC2).all;go_wp2;go_ret;exact ⟨rBo (by (try simp only [beq_iff_eq,beq_eq_false_iff_ne,bne_iff_ne,bne_eq_false_iff_eq,ne_eq] at g1);simp [typeS,head1,Nd.sub,g1]),bTh HBOX.out HC2.out⟩
  ·have b12:(k==12)=false:=(by simpa using k12);by_cases k10:k=10
   ·subst k10;rcases subs with _ | ⟨x,r⟩
    ·skip;have HAT:=hid (bAt w ⟨10,s,num,pos,[]⟩ A c 24);clear hk;go_enter Tryz.func57,Tryz.ntmps57;go_wp2;go_ret;exact ⟨rBo (by simp [typeS,headL,Nd.sub]),bBw _ _⟩
    ·skip;simp only [List.length_cons] at hlen;obtain ⟨b,o,Ax,cx,rfl,hx_x,hk_x⟩:=hk.one (x:=x) (r:=r) rfl;obtain ⟨A',hA',hsl⟩:=slice_tail b o r.length c (by have:=hk.list.1;simpa using this);have HAT:=hid (bAt w ⟨10,s,num,pos,x::r⟩ (some ⟨b,o,none⟩) c 24);have HX_x:=hid (hx_x.below (bBw w (.cells #[.int .i64 10,.string s,.int .i64 num,.int .i64 pos,.slice (some ⟨b,o,none⟩) (r.length+1) c] 24)));have HK_x:=hid (hk_x.below (bBw w (.cells #[.int .i64 10,.string s,.int .i64 num,.int .i64 pos,.slice (some ⟨b,o,none⟩) (r.length+1) c] 24)));clear hx_x hk_x;have HR:=hid ((hk.list.tail hA').below (bBw w (.cells #[.int .i64 10,.string s,.int .i64 num,.int .i64 pos,.slice (some ⟨b,o,none⟩) (r.length+1) c] 24)));clear hk;clear hA';have fx:=HX_x.out.all;go_enter Tryz.func57,Tryz.ntmps57;go_wp2_with fail;generalize hW0:w.alloc (.cells #[.int .i64 10,.string s,.int .i64 num,.int .i64 pos,.slice (some ⟨b,o,none⟩) (r.length+1) c] 24)=W0 at *;have HBOX:=hid (show Below w.heap.size w W0 by rw [← hW0];exact bBw _ _);clear hW0;refine (plain_any ⟨10,s,num,pos,x::r⟩ (some ⟨b,o,none⟩) c 10 (r.length+1:Int) _ (by unfold maxLen;simp only [List.length_cons,List.length_nil];omega)).mono ?_;rintro e w1 ⟨rfl,hb1⟩;have HC1:=hid hb1;clear hb1;clear fx;have x_:=(nb HAT HC1).all;have fx:=(nb HX_x HC1).all
     cases g1:plainB ⟨10,s,num,pos,x::r⟩ 10 (r.length+1:Int) with
     | false=>
      try rw [g1]
      go_wp2;go_ret;exact ⟨rBo (by (try simp only [beq_iff_eq,beq_eq_false_iff_ne,bne_iff_ne,bne_eq_false_iff_eq,ne_eq] at g1);simp [typeS,headL,Nd.sub,g1]),bTh HBOX.out HC1.out⟩
     | true=>
      try rw [g1]
      go_wp2_with fail;refine ((perhaps_any d).calls x Ax cx _ (kb HK_x HC1)).mono ?_;rintro e w2 ⟨rfl,hb2⟩;have HC2:=hid (bTh HC1.out hb2);clear hb2;clear x_ fx;have x_:=(nb HAT HC2).all;have fx:=(nb HX_x HC2).all
      cases g2:(headB x 0 false 0 0 || nameS x) with
      | false=>
       try rw [g2]
       go_wp2;go_ret;exact ⟨rBo (by (try simp only [beq_iff_eq,beq_eq_false_iff_ne,bne_iff_ne,bne_eq_false_iff_eq,ne_eq] at g1);(try simp only [beq_iff_eq,beq_eq_false_iff_ne,bne_iff_ne,bne_eq_false_iff_eq,ne_eq] at g2);simp [typeS,headL,Nd.sub,g1,g2]),bTh HBOX.out HC2.out⟩
      | true=>
       try rw [g2]
       go_wp2_with fail;refine (each_any _ d _ (isField_any d) r A' (c - 1) _ (HR.out.below HC2.out)).mono ?_;rintro e w3 ⟨rfl,hb3⟩;have HC3:=hid (bTh HC2.out hb3);clear hb3;clear x_ fx;have x_:=(nb HAT HC3).all;have fx:=(nb HX_x HC3).all;go_wp2;go_ret;exact ⟨rBo (by (try simp only [beq_iff_eq,beq_eq_false_iff_ne,bne_iff_ne,bne_eq_false_iff_eq,ne_eq] at g1);(try simp only [beq_iff_eq,beq_eq_false_iff_ne,bne_iff_ne,bne_eq_false_iff_eq,ne_eq] at g2);simp [typeS,headL,Nd.sub,g1,g2]),bTh HBOX.out HC3.out⟩
   ·have b10:(k==10)=false:=(by simpa using k10);have P10:=hid (fun m=>plainB_ne (n:=⟨k,s,num,pos,subs⟩) (m:=m) k10);have HAT:=hid (bAt w ⟨k,s,num,pos,subs⟩ A c 24);clear hk;go_enter Tryz.func57,Tryz.ntmps57;go_wp2;go_ret;exact ⟨rBo (by simp [typeS,headL,k9,k12,P10.out]),bBw _ _⟩
set_option maxRecDepth 100000 in
set_option maxHeartbeats 4000000 in
theorem desigP_step (d:Nat) (hE:AskFn 55 d (exprS d)) (hD:AskFn 103 d (desigS d)):AskFn 103 (d+1) (desigS (d+1)):=by
 refine ⟨fun args w=>enters_fn Tryz.func103 (by kernel_rfl) rfl args w,?_⟩;intro n A c w hk;obtain ⟨k,s,num,pos,subs⟩:=n;have hlen:=hk.len;have hsz:=hk.name_le;unfold maxLen at hlen hsz;simp only at hlen hsz;by_cases k24:k=24
 ·subst k24;have HAT:=hid (bAt w ⟨24,s,num,pos,subs⟩ A c 24);clear hk;go_enter Tryz.func103,Tryz.ntmps103;go_wp2_with fail;generalize hW0:w.alloc (.cells #[.int .i64 24,.string s,.int .i64 num,.int .i64 pos,.slice A subs.length c] 24)=W0 at *;have HBOX:=hid (show Below w.heap.size w W0 by rw [← hW0];exact bBw _ _);clear hW0;refine (leaf_any ⟨24,s,num,pos,subs⟩ A c 24 _ (by unfold maxLen;omega)).mono ?_;rintro e w1 ⟨rfl,hb1⟩;have HC1:=hid hb1;clear hb1;have x_:=(nb HAT HC1).all
  cases g1:leafB ⟨24,s,num,pos,subs⟩ 24 with
  | false=>
   try rw [g1]
   go_wp2;go_ret;exact ⟨rBo (by (try simp only [beq_iff_eq,beq_eq_false_iff_ne,bne_iff_ne,bne_eq_false_iff_eq,ne_eq] at g1);simp [desigS_succ,desigStep,head1,head2,← leafName,Nd.sub,g1]),bTh HBOX.out HC1.out⟩
  | true=>
   try rw [g1]
   go_wp2_with fail;refine (scanName_any s _ (by unfold maxLen;omega)).mono ?_;rintro e w2 ⟨rfl,hb2⟩;have HC2:=hid (bTh HC1.out hb2);clear hb2;clear x_;have x_:=(nb HAT HC2).all;go_wp2;go_ret;exact ⟨rBo (by (try simp only [beq_iff_eq,beq_eq_false_iff_ne,bne_iff_ne,bne_eq_false_iff_eq,ne_eq] at g1);simp [desigS_succ,desigStep,head1,head2,← leafName,Nd.sub,g1]),bTh HBOX.out HC2.out⟩
 ·have b24:(k==24)=false:=(by simpa using k24);by_cases k25:k=25
  ·subst k25
   cases g1:nameB s with
   | false=>
    have HAT:=hid (bAt w ⟨25,s,num,pos,subs⟩ A c 24);clear hk;go_enter Tryz.func103,Tryz.ntmps103;go_wp2_with fail;generalize hW0:w.alloc (.cells #[.int .i64 25,.string s,.int .i64 num,.int .i64 pos,.slice A subs.length c] 24)=W0 at *;have HBOX:=hid (show Below w.heap.size w W0 by rw [← hW0];exact bBw _ _);clear hW0;refine (scanName_any s _ (by unfold maxLen;omega)).mono ?_;rintro e w1 ⟨rfl,hb1⟩;have HC1:=hid hb1;clear hb1;have x_:=(nb HAT HC1).all
    try rw [g1]
    go_wp2;go_ret;exact ⟨rBo (by (try simp only [beq_iff_eq,beq_eq_false_iff_ne,bne_iff_ne,bne_eq_false_iff_eq,ne_eq] at g1);simp [desigS_succ,desigStep,headB_zero,Nd.sub,g1]),bTh HBOX.out HC1.out⟩
   | true=>
    cases g2:(num==0) with
    | false=>
     have HAT:=hid (bAt w ⟨25,s,num,pos,subs⟩ A c 24);clear hk;go_enter Tryz.func103,Tryz.ntmps103;go_wp2_with fail;generalize hW0:w.alloc (.cells #[.int .i64 25,.string s,.int .i64 num,.int .i64 pos,.slice A subs.length c] 24)=W0 at *;have HBOX:=hid (show Below w.heap.size w W0 by rw [← hW0];exact bBw _ _);clear hW0;refine (scanName_any s _ (by unfold maxLen;omega)).mono ?_;rintro e w1 ⟨rfl,hb1⟩;have HC1:=hid hb1;clear hb1;have x_:=(nb HAT HC1).all
     try rw [g1]
     go_wp2;go_ret;exact ⟨rBo (by (try simp only [beq_iff_eq,beq_eq_false_iff_ne,bne_iff_ne,bne_eq_false_iff_eq,ne_eq] at g1);(try simp only [beq_iff_eq,beq_eq_false_iff_ne,bne_iff_ne,bne_eq_false_iff_eq,ne_eq] at g2);simp [desigS_succ,desigStep,headB_zero,Nd.sub,g1,g2]),bTh HBOX.out HC1.out⟩
    | true=>
     cases lg3_1:((subs.length:Int)==1) with
     | false=>
      have HAT:=hid (bAt w ⟨25,s,num,pos,subs⟩ A c 24);clear hk;go_enter Tryz.func103,Tryz.ntmps103;go_wp2_with fail;generalize hW0:w.alloc (.cells #[.int .i64 25,.string s,.int .i64 num,.int .i64 pos,.slice A subs.length c] 24)=W0 at *;have HBOX:=hid (show Below w.heap.size w W0 by rw [← hW0];exact bBw _ _);clear hW0;refine (scanName_any s _ (by unfold maxLen;omega)).mono ?_;rintro e w1 ⟨rfl,hb1⟩;have HC1:=hid hb1;clear hb1;have x_:=(nb HAT HC1).all
      try rw [g1]
      go_wp2;go_ret;exact ⟨rBo (by (try simp only [beq_iff_eq,beq_eq_false_iff_ne,bne_iff_ne,bne_eq_false_iff_eq,ne_eq] at g1);(try simp only [beq_iff_eq,beq_eq_false_iff_ne,bne_iff_ne,bne_eq_false_iff_eq,ne_eq] at g2);have lg3_1':¬subs.length=1∧¬(subs.length:Int)=1:=(by constructor <;> intro hh <;> simp [hh] at lg3_1);simp [desigS_succ,desigStep,headB_zero,Nd.sub,g1,g2,lg3_1'.1,lg3_1'.2]),bTh HBOX.out HC1.out⟩
     | true=>
      obtain ⟨x,rfl⟩:=len1 (l:=subs) ((by simpa using lg3_1));obtain ⟨b,o,Ax,cx,rfl,hx_x,hk_x⟩:=hk.one (x:=x) (r:=[]) rfl;simp only [List.length_cons,List.length_nil,Nat.zero_add] at hlen;clear lg3_1;have HAT:=hid (bAt w ⟨25,s,num,pos,[x]⟩ (some ⟨b,o,none⟩) c 24);have HX_x:=hid (hx_x.below (bBw w (.cells #[.int .i64 25,.string s,.int .i64 num,.int .i64 pos,.slice (some ⟨b,o,none⟩) 1 c] 24)));have HK_x:=hid (hk_x.below (bBw w (.cells #[.int .i64 25,.string s,.int .i64 num,.int .i64 pos,.slice (some ⟨b,o,none⟩) 1 c] 24)));clear hx_x hk_x;clear hk;have fx:=HX_x.out.all;go_enter Tryz.func103,Tryz.ntmps103;go_wp2_with fail;generalize hW0:w.alloc (.cells #[.int .i64 25,.string s,.int .i64 num,.int .i64 pos,.slice (some ⟨b,o,none⟩) 1 c] 24)=W0 at *;have HBOX:=hid (show Below w.heap.size w W0 by rw [← hW0];exact bBw _ _);clear hW0;refine (scanName_any s _ (by unfold maxLen;omega)).mono ?_;rintro e w1 ⟨rfl,hb1⟩;have HC1:=hid hb1;clear hb1;clear fx;have x_:=(nb HAT HC1).all;have fx:=(nb HX_x HC1).all
      try rw [g1]
      go_wp2_with fail;refine (hD.calls x Ax cx _ (kb HK_x HC1)).mono ?_;rintro e w2 ⟨rfl,hb2⟩;have HC2:=hid (bTh HC1.out hb2);clear hb2;clear x_ fx;have x_:=(nb HAT HC2).all;have fx:=(nb HX_x HC2).all;go_wp2;go_ret;exact ⟨rBo (by (try simp only [beq_iff_eq,beq_eq_false_iff_ne,bne_iff_ne,bne_eq_false_iff_eq,ne_eq] at g1);(try simp only [beq_iff_eq,beq_eq_false_iff_ne,bne_iff_ne,bne_eq_false_iff_eq,ne_eq] at g2);simp [desigS_succ,desigStep,headB_zero,Nd.sub,g1,g2]),bTh HBOX.out HC2.out⟩
  ·have b25:(k==25)=false:=(by simpa using k25);by_cases k27:k=27
   ·subst k27
    cases g1:plainB ⟨27,s,num,pos,subs⟩ 27 1 with
    | false=>
     have HAT:=hid (bAt w ⟨27,s,num,pos,subs⟩ A c 24);clear hk;go_enter Tryz.func103,Tryz.ntmps103;go_wp2_with fail;generalize hW0:w.alloc (.cells #[.int .i64 27,.string s,.int .i64 num,.int .i64 pos,.slice A subs.length c] 24)=W0 at *;have HBOX:=hid (show Below w.heap.size w W0 by rw [← hW0];exact bBw _ _);clear hW0;refine (plain_any ⟨27,s,num,pos,subs⟩ A c 27 1 _ (by unfold maxLen;simp only [List.length_cons,List.length_nil];omega)).mono ?_;rintro e w1 ⟨rfl,hb1⟩;have HC1:=hid hb1;clear hb1;have x_:=(nb HAT HC1).all
     try rw [g1]
     go_wp2;go_ret;exact ⟨rBo (by (try simp only [beq_iff_eq,beq_eq_false_iff_ne,bne_iff_ne,bne_eq_false_iff_eq,ne_eq] at g1);simp [desigS_succ,desigStep,head1,head2,← leafName,Nd.sub,g1]),bTh HBOX.out HC1.out⟩
    | true=>
     obtain ⟨x,rfl⟩:=len1 (l:=subs) (plainB_len g1);obtain ⟨b,o,Ax,cx,rfl,hx_x,hk_x⟩:=hk.one (x:=x) (r:=[]) rfl;simp only [List.length_cons,List.length_nil,Nat.zero_add] at hlen;have HAT:=hid (bAt w ⟨27,s,num,pos,[x]⟩ (some ⟨b,o,none⟩) c 24);have HX_x:=hid (hx_x.below (bBw w (.cells #[.int .i64 27,.string s,.int .i64 num,.int .i64 pos,.slice (some ⟨b,o,none⟩) 1 c] 24)));have HK_x:=hid (hk_x.below (bBw w (.cells #[.int .i64 27,.string s,.int .i64 num,.int .i64 pos,.slice (some ⟨b,o,none⟩) 1 c] 24)));clear hx_x hk_x;clear hk;have fx:=HX_x.out.all;go_enter Tryz.func103,Tryz.ntmps103;go_wp2_with fail;generalize hW0:w.alloc (.cells #[.int .i64 27,.string s,.int .i64 num,.int .i64 pos,.slice (some ⟨b,o,none⟩) 1 c] 24)=W0 at *;have HBOX:=hid (show Below w.heap.size w W0 by rw [← hW0];exact bBw _ _);clear hW0;refine (plain_any ⟨27,s,num,pos,[x]⟩ (some ⟨b,o,none⟩) c 27 1 _ (by unfold maxLen;simp only [List.length_cons,List.length_nil];omega)).mono ?_;rintro e w1 ⟨rfl,hb1⟩;have HC1:=hid hb1;clear hb1;clear fx;have x_:=(nb HAT HC1).all;have fx:=(nb HX_x HC1).all
     try rw [g1]
     go_wp2_with fail;refine (hD.calls x Ax cx _ (kb HK_x HC1)).mono ?_;rintro e w2 ⟨rfl,hb2⟩;have HC2:=hid (bTh HC1.out hb2);clear hb2;clear x_ fx;have x_:=(nb HAT HC2).all;have fx:=(nb HX_x HC2).all;go_wp2;go_ret;exact ⟨rBo (by (try simp only [beq_iff_eq,beq_eq_false_iff_ne,bne_iff_ne,bne_eq_false_iff_eq,ne_eq] at g1);simp [desigS_succ,desigStep,head1,head2,← leafName,Nd.sub,g1]),bTh HBOX.out HC2.out⟩
   ·have b27:(k==27)=false:=(by simpa using k27);by_cases k26:k=26
    ·subst k26
     cases g1:plainB ⟨26,s,num,pos,subs⟩ 26 2 with
     | false=>
      have HAT:=hid (bAt w ⟨26,s,num,pos,subs⟩ A c 24);clear hk;go_enter Tryz.func103,Tryz.ntmps103;go_wp2_with fail;generalize hW0:w.alloc (.cells #[.int .i64 26,.string s,.int .i64 num,.int .i64 pos,.slice A subs.length c] 24)=W0 at *;have HBOX:=hid (show Below w.heap.size w W0 by rw [← hW0];exact bBw _ _);clear hW0;refine (plain_any ⟨26,s,num,pos,subs⟩ A c 26 2 _ (by unfold maxLen;simp only [List.length_cons,List.length_nil];omega)).mono ?_;rintro e w1 ⟨rfl,hb1⟩;have HC1:=hid hb1;clear hb1;have x_:=(nb HAT HC1).all
      try rw [g1]
      go_wp2;go_ret;exact ⟨rBo (by (try simp only [beq_iff_eq,beq_eq_false_iff_ne,bne_iff_ne,bne_eq_false_iff_eq,ne_eq] at g1);simp [desigS_succ,desigStep,head1,head2,← leafName,Nd.sub,g1]),bTh HBOX.out HC1.out⟩
     | true=>
      obtain ⟨x,y,rfl⟩:=len2 (l:=subs) (plainB_len g1);obtain ⟨b,o,Ax,cx,rfl,hx_x,hk_x⟩:=hk.one (x:=x) (r:=[y]) rfl;obtain ⟨Ay,cy,hx_y,hk_y⟩:=hk.nth rfl (i:=1) (x:=y) rfl (p:=o+5) (by omega);simp only [List.length_cons,List.length_nil,Nat.zero_add] at hlen;have HAT:=hid (bAt w ⟨26,s,num,pos,[x,y]⟩ (some ⟨b,o,none⟩) c 24);have HX_x:=hid (hx_x.below (bBw w (.cells #[.int .i64 26,.string s,.int .i64 num,.int .i64 pos,.slice (some ⟨b,o,none⟩) 2 c] 24)));have HK_x:=hid (hk_x.below (bBw w (.cells #[.int .i64 26,.string s,.int .i64 num,.int .i64 pos,.slice (some ⟨b,o,none⟩) 2 c] 24)));clear hx_x hk_x;have HX_y:=hid (hx_y.below (bBw w (.cells #[.int .i64 26,.string s,.int .i64 num,.int .i64 pos,.slice (some ⟨b,o,none⟩) 2 c] 24)));have HK_y:=hid (hk_y.below (bBw w (.cells #[.int .i64 26,.string s,.int .i64 num,.int .i64 pos,.slice (some ⟨b,o,none⟩) 2 c] 24)));clear hx_y hk_y;clear hk;have fx:=HX_x.out.all;have fy:=HX_y.out.all;go_enter Tryz.func103,Tryz.ntmps103;go_wp2_with fail;generalize hW0:w.alloc (.cells #[.int .i64 26,.string s,.int .i64 num,.int .i64 pos,.slice (some ⟨b,o,none⟩) 2 c] 24)=W0 at *;have HBOX:=hid (show Below w.heap.size w W0 by rw [← hW0];exact bBw _ _);clear hW0;refine (plain_any ⟨26,s,num,pos,[x,y]⟩ (some ⟨b,o,none⟩) c 26 2 _ (by unfold maxLen;simp only [List.length_cons,List.length_nil];omega)).mono ?_;rintro e w1 ⟨rfl,hb1⟩;have HC1:=hid hb1;clear hb1;clear fx fy;have x_:=(nb HAT HC1).all;have fx:=(nb HX_x HC1).all;have fy:=(nb HX_y HC1).all
      try rw [g1]
      go_wp2_with fail;refine (hD.calls x Ax cx _ (kb HK_x HC1)).mono ?_;rintro e w2 ⟨rfl,hb2⟩;have HC2:=hid (bTh HC1.out hb2);clear hb2;clear x_ fx fy;have x_:=(nb HAT HC2).all;have fx:=(nb HX_x HC2).all;have fy:=(nb HX_y HC2).all
      cases g2:desigS d x with
      | false=>
       try rw [g2]
       go_wp2;go_ret;exact ⟨rBo (by (try simp only [beq_iff_eq,beq_eq_false_iff_ne,bne_iff_ne,bne_eq_false_iff_eq,ne_eq] at g1);(try simp only [beq_iff_eq,beq_eq_false_iff_ne,bne_iff_ne,bne_eq_false_iff_eq,ne_eq] at g2);simp [desigS_succ,desigStep,head1,head2,← leafName,Nd.sub,g1,g2]),bTh HBOX.out HC2.out⟩
      | true=>
       try rw [g2]
       go_wp2_with fail;refine (hE.calls y Ay cy _ (kb HK_y HC2)).mono ?_;rintro e w3 ⟨rfl,hb3⟩;have HC3:=hid (bTh HC2.out hb3);clear hb3;clear x_ fx fy;have x_:=(nb HAT HC3).all;have fx:=(nb HX_x HC3).all;have fy:=(nb HX_y HC3).all;go_wp2;go_ret;exact ⟨rBo (by (try simp only [beq_iff_eq,beq_eq_false_iff_ne,bne_iff_ne,bne_eq_false_iff_eq,ne_eq] at g1);(try simp only [beq_iff_eq,beq_eq_false_iff_ne,bne_iff_ne,bne_eq_false_iff_eq,ne_eq] at g2);simp [desigS_succ,desigStep,head1,head2,← leafName,Nd.sub,g1,g2]),bTh HBOX.out HC3.out⟩
    ·have b26:(k==26)=false:=(by simpa using k26)
     cases g1:plainB ⟨k,s,num,pos,subs⟩ 28 2 with
     | false=>
      have HAT:=hid (bAt w ⟨k,s,num,pos,subs⟩ A c 24);clear hk;go_enter Tryz.func103,Tryz.ntmps103;go_wp2_with fail;generalize hW0:w.alloc (.cells #[.int .i64 k,.string s,.int .i64 num,.int .i64 pos,.slice A subs.length c] 24)=W0 at *;have HBOX:=hid (show Below w.heap.size w W0 by rw [← hW0];exact bBw _ _);clear hW0;refine (plain_any ⟨k,s,num,pos,subs⟩ A c 28 2 _ (by unfold maxLen;simp only [List.length_cons,List.length_nil];omega)).mono ?_;rintro e w1 ⟨rfl,hb1⟩;have HC1:=hid hb1;clear hb1;have x_:=(nb HAT HC1).all
      try rw [g1]
      go_wp2;go_ret;exact ⟨rBo (by (try simp only [beq_iff_eq,beq_eq_false_iff_ne,bne_iff_ne,bne_eq_false_iff_eq,ne_eq] at g1);simp [desigS_succ,desigStep,head2,Nd.sub,k24,k25,k26,k27,g1]),bTh HBOX.out HC1.out⟩
     | true=>
      obtain rfl:k=28:=plainB_kind g1;obtain ⟨x,y,rfl⟩:=len2 (l:=subs) (plainB_len g1);obtain ⟨b,o,Ax,cx,rfl,hx_x,hk_x⟩:=hk.one (x:=x) (r:=[y]) rfl;obtain ⟨Ay,cy,hx_y,hk_y⟩:=hk.nth rfl (i:=1) (x:=y) rfl (p:=o+5) (by omega);simp only [List.length_cons,List.length_nil,Nat.zero_add] at hlen;have HAT:=hid (bAt w ⟨28,s,num,pos,[x,y]⟩ (some ⟨b,o,none⟩) c 24);have HX_x:=hid (hx_x.below (bBw w (.cells #[.int .i64 28,.string s,.int .i64 num,.int .i64 pos,.slice (some ⟨b,o,none⟩) 2 c] 24)));have HK_x:=hid (hk_x.below (bBw w (.cells #[.int .i64 28,.string s,.int .i64 num,.int .i64 pos,.slice (some ⟨b,o,none⟩) 2 c] 24)));clear hx_x hk_x;have HX_y:=hid (hx_y.below (bBw w (.cells #[.int .i64 28,.string s,.int .i64 num,.int .i64 pos,.slice (some ⟨b,o,none⟩) 2 c] 24)));have HK_y:=hid (hk_y.below (bBw w (.cells #[.int .i64 28,.string s,.int .i64 num,.int .i64 pos,.slice (some ⟨b,o,none⟩) 2 c] 24)));clear hx_y hk_y;clear hk;have fx:=HX_x.out.all;have fy:=HX_y.out.all;go_enter Tryz.func103,Tryz.ntmps103;go_wp2_with fail;generalize hW0:w.alloc (.cells #[.int .i64 28,.string s,.int .i64 num,.int .i64 pos,.slice (some ⟨b,o,none⟩) 2 c] 24)=W0 at *;have HBOX:=hid (show Below w.heap.size w W0 by rw [← hW0];exact bBw _ _);clear hW0;refine (plain_any ⟨28,s,num,pos,[x,y]⟩ (some ⟨b,o,none⟩) c 28 2 _ (by unfold maxLen;simp only [List.length_cons,List.length_nil];omega)).mono ?_;rintro e w1 ⟨rfl,hb1⟩;have HC1:=hid hb1;clear hb1;clear fx fy;have x_:=(nb HAT HC1).all;have fx:=(nb HX_x HC1).all;have fy:=(nb HX_y HC1).all
      try rw [g1]
      go_wp2_with fail;refine (hD.calls x Ax cx _ (kb HK_x HC1)).mono ?_;rintro e w2 ⟨rfl,hb2⟩;have HC2:=hid (bTh HC1.out hb2);clear hb2;clear x_ fx fy;have x_:=(nb HAT HC2).all;have fx:=(nb HX_x HC2).all;have fy:=(nb HX_y HC2).all
      cases g2:desigS d x with
      | false=>
       try rw [g2]
       go_wp2;go_ret;exact ⟨rBo (by (try simp only [beq_iff_eq,beq_eq_false_iff_ne,bne_iff_ne,bne_eq_false_iff_eq,ne_eq] at g1);(try simp only [beq_iff_eq,beq_eq_false_iff_ne,bne_iff_ne,bne_eq_false_iff_eq,ne_eq] at g2);simp [desigS_succ,desigStep,head2,Nd.sub,k24,k25,k26,k27,g1,g2]),bTh HBOX.out HC2.out⟩
      | true=>
       try rw [g2]
       go_wp2_with fail;refine ((isTypeName_any d).calls y Ay cy _ (kb HK_y HC2)).mono ?_;rintro e w3 ⟨rfl,hb3⟩;have HC3:=hid (bTh HC2.out hb3);clear hb3;clear x_ fx fy;have x_:=(nb HAT HC3).all;have fx:=(nb HX_x HC3).all;have fy:=(nb HX_y HC3).all;go_wp2;go_ret;exact ⟨rBo (by (try simp only [beq_iff_eq,beq_eq_false_iff_ne,bne_iff_ne,bne_eq_false_iff_eq,ne_eq] at g1);(try simp only [beq_iff_eq,beq_eq_false_iff_ne,bne_iff_ne,bne_eq_false_iff_eq,ne_eq] at g2);simp [desigS_succ,desigStep,head2,Nd.sub,k24,k25,k26,k27,g1,g2]),bTh HBOX.out HC3.out⟩
end Go.Proofs.YtneohanphabneaaGreatDoor
