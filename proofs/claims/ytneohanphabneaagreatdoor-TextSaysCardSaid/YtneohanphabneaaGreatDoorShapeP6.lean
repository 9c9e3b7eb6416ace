/-
The program's answer on shapes, the walks: declarations, the whole. Conditions: the tree lies in memory.
-/
import Derived.Test.YtneohanphabneaaGreatDoorShapeP5
namespace Go.Proofs.YtneohanphabneaaGreatDoor
set_option linter.unusedSimpArgs false
set_option linter.unusedVariables false
open Go.RowKit
theorem listB_eq (n:Nd) (q:Nd→Bool):listB n q=(headB n 1 false 0 (-1) && n.subs.all q):=by rw [headL];rfl
theorem AskFn.congr {g d:Nat} {p q:Nd→Bool} (h:AskFn g d p) (e:∀x,p x=q x):AskFn g d q:=by
 have:p=q:=funext e;rw [← this];exact h
theorem askZero {g:Nat} {q:Nd→Bool} (h:∀args w,(callFunc g args).run Tryz.prog w=.ok (.enter g args) w):AskFn g 0 q:=⟨h,fun _ _ _ _ hk=>hk.elim⟩
def isParam (x:Nd):Bool:=decide (x.kind=8) && varS x 8
def isLocal (x:Nd):Bool:=decide (x.kind=6) && decide (x.num=0) && varS x 6
theorem procS_eq (d:Nat) (n:Nd):procS d n=(headB n 7 true 1 4 && listB (n.sub 0) isParam && (headB (n.sub 1) 0 false 0 0 || nameS (n.sub 1)) && listB (n.sub 2) isLocal && stmtsS d (n.sub 3)):=by
 simp only [procS,listB_eq];rw [show (fun x:Nd=>decide (x.kind=8) && varS x 8)=isParam from rfl,show (fun x:Nd=>decide (x.kind=6) && decide (x.num=0) && varS x 6)=isLocal from rfl];generalize headB n 7 true 1 4=a0;generalize headB (n.sub 0) 1 false 0 (-1)=a1;generalize headB (n.sub 2) 1 false 0 (-1)=a2;generalize (n.sub 0).subs.all isParam=a3;generalize (n.sub 2).subs.all isLocal=a4;generalize (headB (n.sub 1) 0 false 0 0 || nameS (n.sub 1))=a5;generalize stmtsS d (n.sub 3)=a6;cases a0 <;> cases a1 <;> cases a2 <;> cases a3 <;> cases a4 <;> cases a5 <;> cases a6 <;> rfl
def isPart (d:Nat) (K:Int) (x:Nd):Bool:=decide (x.kind=K) && declS d x
theorem partS_eq (d:Nat) (K:Int) (l:Nd):partS d K l=listB l (isPart d K):=by rw [listB_eq];rfl
theorem isPart3 (d:Nat) (x:Nd):headB x 3 true 0 0=isPart (d+1) 3 x:=by
 simp only [isPart,declS_succ,declStep];by_cases h:x.kind=3
 ·simp [h]
 ·simp [headB,h]
theorem isPart4 (d:Nat) (x:Nd):declaredB x 4 (exprS d)=isPart (d+1) 4 x:=by
 simp only [isPart,declS_succ,declStep,declVar];by_cases h:x.kind=4
 ·simp [h]
 ·simp [headB,h]
theorem isPart5 (d:Nat) (x:Nd):declaredB x 5 typeS=isPart (d+1) 5 x:=by
 simp only [isPart,declS_succ,declStep,declVar];by_cases h:x.kind=5
 ·simp [h]
 ·simp [headB,h]
theorem isPart6 (d:Nat) (x:Nd):declaredB x 6 nameS=isPart (d+1) 6 x:=by
 simp only [isPart,declS_succ,declStep,declVar];by_cases h:x.kind=6
 ·simp [h,varS]
 ·simp [headB,h]
theorem isParam_eq (x:Nd):declaredB x 8 nameS=isParam x:=by
 simp only [isParam,varS,declVar];by_cases h:x.kind=8
 ·simp [h]
 ·simp [headB,h]
theorem isLocal_eq (x:Nd):(decide (x.num=0) && declaredB x 6 nameS)=isLocal x:=by
 simp only [isLocal,varS,declVar];by_cases h:x.kind=6
 ·simp [h]
 ·simp [headB,h]
theorem isPart7 (d:Nat) (x:Nd):(decide (x.kind=7) && procS d x)=isPart (d+1) 7 x:=by
 simp only [isPart,declS_succ,declStep];by_cases h:x.kind=7
 ·simp [h]
 ·simp [h]
set_option maxRecDepth 100000 in
set_option maxHeartbeats 4000000 in
theorem import_any (d:Nat):AskFn 51 d (fun x=>headB x 3 true 0 0):=by
 refine ⟨fun args w=>enters_fn Tryz.func51 (by kernel_rfl) rfl args w,?_⟩;intro n A c w hk;obtain ⟨k,s,num,pos,subs⟩:=n;have hlen:=hk.len;have hsz:=hk.name_le;unfold maxLen at hlen hsz;simp only at hlen hsz;have HAT:=hid (bAt w ⟨k,s,num,pos,subs⟩ A c 24);clear hk;go_enter Tryz.func51,Tryz.ntmps51;go_wp2_with fail;generalize hW0:w.alloc (.cells #[.int .i64 k,.string s,.int .i64 num,.int .i64 pos,.slice A subs.length c] 24)=W0 at *;have HBOX:=hid (show Below w.heap.size w W0 by rw [← hW0];exact bBw _ _);clear hW0;refine (leaf_any ⟨k,s,num,pos,subs⟩ A c 3 _ (by unfold maxLen;omega)).mono ?_;rintro e w1 ⟨rfl,hb1⟩;have HC1:=hid hb1;clear hb1;have x_:=(nb HAT HC1).all
 cases g1:leafB ⟨k,s,num,pos,subs⟩ 3 with
 | false=>
  try rw [g1]
  go_wp2;go_ret;exact ⟨rBo (by (try simp only [beq_iff_eq,beq_eq_false_iff_ne,bne_iff_ne,bne_eq_false_iff_eq,ne_eq] at g1);simp [← leafName,g1]),bTh HBOX.out HC1.out⟩
 | true=>
  try rw [g1]
  go_wp2_with fail;refine (scanName_any s _ (by unfold maxLen;omega)).mono ?_;rintro e w2 ⟨rfl,hb2⟩;have HC2:=hid (bTh HC1.out hb2);clear hb2;clear x_;have x_:=(nb HAT HC2).all;go_wp2;go_ret;exact ⟨rBo (by (try simp only [beq_iff_eq,beq_eq_false_iff_ne,bne_iff_ne,bne_eq_false_iff_eq,ne_eq] at g1);simp [← leafName,g1]),bTh HBOX.out HC2.out⟩
set_option maxRecDepth 100000 in
set_option maxHeartbeats 4000000 in
theorem const_any (d:Nat):AskFn 53 (d+1) (fun x=>declaredB x 4 (exprS d)):=by
 refine ⟨fun args w=>enters_fn Tryz.func53 (by kernel_rfl) rfl args w,?_⟩;intro n A c w hk;obtain ⟨k,s,num,pos,subs⟩:=n;have hlen:=hk.len;have hsz:=hk.name_le;unfold maxLen at hlen hsz;simp only at hlen hsz;have HKN:=hid (hk.below (bBw w (.cells #[.int .i64 k,.string s,.int .i64 num,.int .i64 pos,.slice A subs.length c] 24)));have HAT:=hid (bAt w ⟨k,s,num,pos,subs⟩ A c 24);clear hk;go_enter Tryz.func53,Tryz.ntmps53;go_wp2_with fail;generalize hW0:w.alloc (.cells #[.int .i64 k,.string s,.int .i64 num,.int .i64 pos,.slice A subs.length c] 24)=W0 at *;have HBOX:=hid (show Below w.heap.size w W0 by rw [← hW0];exact bBw _ _);clear hW0;refine (declared_any _ d _ (edP_any d).1 ⟨k,s,num,pos,subs⟩ A c 4 _ HKN.out).mono ?_;rintro e w1 ⟨rfl,hb1⟩;have HC1:=hid hb1;clear hb1;have x_:=(nb HAT HC1).all;go_wp2;go_ret;exact ⟨rfl,bTh HBOX.out HC1.out⟩
set_option maxRecDepth 100000 in
set_option maxHeartbeats 4000000 in
theorem named_any (d:Nat):AskFn 56 (d+1) (fun x=>declaredB x 5 typeS):=by
 refine ⟨fun args w=>enters_fn Tryz.func56 (by kernel_rfl) rfl args w,?_⟩;intro n A c w hk;obtain ⟨k,s,num,pos,subs⟩:=n;have hlen:=hk.len;have hsz:=hk.name_le;unfold maxLen at hlen hsz;simp only at hlen hsz;have HKN:=hid (hk.below (bBw w (.cells #[.int .i64 k,.string s,.int .i64 num,.int .i64 pos,.slice A subs.length c] 24)));have HAT:=hid (bAt w ⟨k,s,num,pos,subs⟩ A c 24);clear hk;go_enter Tryz.func56,Tryz.ntmps56;go_wp2_with fail;generalize hW0:w.alloc (.cells #[.int .i64 k,.string s,.int .i64 num,.int .i64 pos,.slice A subs.length c] 24)=W0 at *;have HBOX:=hid (show Below w.heap.size w W0 by rw [← hW0];exact bBw _ _);clear hW0;refine (declared_any _ d _ (isType_any d) ⟨k,s,num,pos,subs⟩ A c 5 _ HKN.out).mono ?_;rintro e w1 ⟨rfl,hb1⟩;have HC1:=hid hb1;clear hb1;have x_:=(nb HAT HC1).all;go_wp2;go_ret;exact ⟨rfl,bTh HBOX.out HC1.out⟩
set_option maxRecDepth 100000 in
set_option maxHeartbeats 4000000 in
theorem var_any (d:Nat):AskFn 58 (d+1) (fun x=>declaredB x 6 nameS):=by
 refine ⟨fun args w=>enters_fn Tryz.func58 (by kernel_rfl) rfl args w,?_⟩;intro n A c w hk;obtain ⟨k,s,num,pos,subs⟩:=n;have hlen:=hk.len;have hsz:=hk.name_le;unfold maxLen at hlen hsz;simp only at hlen hsz;have HKN:=hid (hk.below (bBw w (.cells #[.int .i64 k,.string s,.int .i64 num,.int .i64 pos,.slice A subs.length c] 24)));have HAT:=hid (bAt w ⟨k,s,num,pos,subs⟩ A c 24);clear hk;go_enter Tryz.func58,Tryz.ntmps58;go_wp2_with fail;generalize hW0:w.alloc (.cells #[.int .i64 k,.string s,.int .i64 num,.int .i64 pos,.slice A subs.length c] 24)=W0 at *;have HBOX:=hid (show Below w.heap.size w W0 by rw [← hW0];exact bBw _ _);clear hW0;refine (declared_any _ d _ (isTypeName_any d) ⟨k,s,num,pos,subs⟩ A c 6 _ HKN.out).mono ?_;rintro e w1 ⟨rfl,hb1⟩;have HC1:=hid hb1;clear hb1;have x_:=(nb HAT HC1).all;go_wp2;go_ret;exact ⟨rfl,bTh HBOX.out HC1.out⟩
set_option maxRecDepth 100000 in
set_option maxHeartbeats 4000000 in
theorem param_any (d:Nat):AskFn 108 (d+1) (fun x=>declaredB x 8 nameS):=by
 refine ⟨fun args w=>enters_fn Tryz.func108 (by kernel_rfl) rfl args w,?_⟩;intro n A c w hk;obtain ⟨k,s,num,pos,subs⟩:=n;have hlen:=hk.len;have hsz:=hk.name_le;unfold maxLen at hlen hsz;simp only at hlen hsz;have HKN:=hid (hk.below (bBw w (.cells #[.int .i64 k,.string s,.int .i64 num,.int .i64 pos,.slice A subs.length c] 24)));have HAT:=hid (bAt w ⟨k,s,num,pos,subs⟩ A c 24);clear hk;go_enter Tryz.func108,Tryz.ntmps108;go_wp2_with fail;generalize hW0:w.alloc (.cells #[.int .i64 k,.string s,.int .i64 num,.int .i64 pos,.slice A subs.length c] 24)=W0 at *;have HBOX:=hid (show Below w.heap.size w W0 by rw [← hW0];exact bBw _ _);clear hW0;refine (declared_any _ d _ (isTypeName_any d) ⟨k,s,num,pos,subs⟩ A c 8 _ HKN.out).mono ?_;rintro e w1 ⟨rfl,hb1⟩;have HC1:=hid hb1;clear hb1;have x_:=(nb HAT HC1).all;go_wp2;go_ret;exact ⟨rfl,bTh HBOX.out HC1.out⟩
set_option maxRecDepth 100000 in
set_option maxHeartbeats 4000000 in
theorem local_any (d:Nat):AskFn 109 (d+1) (fun x=>decide (x.num=0) && declaredB x 6 nameS):=by
 refine ⟨fun args w=>enters_fn Tryz.func109 (by kernel_rfl) rfl args w,?_⟩;intro n A c w hk;obtain ⟨k,s,num,pos,subs⟩:=n;have hlen:=hk.len;have hsz:=hk.name_le;unfold maxLen at hlen hsz;simp only at hlen hsz
 cases g1:(num==0) with
 | false=>
  have HKN:=hid (hk.below (bBw w (.cells #[.int .i64 k,.string s,.int .i64 num,.int .i64 pos,.slice A subs.length c] 24)));have HAT:=hid (bAt w ⟨k,s,num,pos,subs⟩ A c 24);clear hk;go_enter Tryz.func109,Tryz.ntmps109;go_wp2;go_ret;exact ⟨rBo (by simp only [beq_eq_false_iff_ne,ne_eq] at g1;simp [g1]),bBw _ _⟩
 | true=>
  obtain rfl:num=0:=(by simpa using g1);clear g1;have HKN:=hid (hk.below (bBw w (.cells #[.int .i64 k,.string s,.int .i64 0,.int .i64 pos,.slice A subs.length c] 24)));have HAT:=hid (bAt w ⟨k,s,0,pos,subs⟩ A c 24);clear hk;go_enter Tryz.func109,Tryz.ntmps109;go_wp2_with fail;generalize hW0:w.alloc (.cells #[.int .i64 k,.string s,.int .i64 0,.int .i64 pos,.slice A subs.length c] 24)=W0 at *;have HBOX:=hid (show Below w.heap.size w W0 by rw [← hW0];exact bBw _ _);clear hW0;refine (declared_any _ d _ (isTypeName_any d) ⟨k,s,0,pos,subs⟩ A c 6 _ HKN.out).mono ?_;rintro e w1 ⟨rfl,hb1⟩;have HC1:=hid hb1;clear hb1;have x_:=(nb HAT HC1).all;go_wp2;go_ret;exact ⟨rBo (by simp),bTh HBOX.out HC1.out⟩
theorem param_ask:∀d:Nat,AskFn 108 d isParam
 | 0=>askZero (param_any 0).enters
 | d+1=>(param_any d).congr isParam_eq
theorem local_ask:∀d:Nat,AskFn 109 d isLocal
 | 0=>askZero (local_any 0).enters
 | d+1=>(local_any d).congr isLocal_eq
set_option maxRecDepth 100000 in
set_option maxHeartbeats 8000000 in
theorem proc_any (d:Nat):AskFn 60 (d+1) (fun x=>decide (x.kind=7) && procS d x):=by
 refine ⟨fun args w=>enters_fn Tryz.func60 (by kernel_rfl) rfl args w,?_⟩;intro n A c w hk;obtain ⟨k,s,num,pos,subs⟩:=n;have hlen:=hk.len;have hsz:=hk.name_le;unfold maxLen at hlen hsz;simp only at hlen hsz
 cases g1:(k==7) with
 | false=>
  have HAT:=hid (bAt w ⟨k,s,num,pos,subs⟩ A c 24);clear hk;go_enter Tryz.func60,Tryz.ntmps60;go_wp2;go_ret;exact ⟨rBo (by (try simp only [beq_iff_eq,beq_eq_false_iff_ne,bne_iff_ne,bne_eq_false_iff_eq,ne_eq] at g1);simp [procS_eq,headB_one,Nd.sub,g1]),bBw _ _⟩
 | true=>
  cases g2:nameB s with
  | false=>
   have HAT:=hid (bAt w ⟨k,s,num,pos,subs⟩ A c 24);clear hk;go_enter Tryz.func60,Tryz.ntmps60;go_wp2_with fail;generalize hW0:w.alloc (.cells #[.int .i64 k,.string s,.int .i64 num,.int .i64 pos,.slice A subs.length c] 24)=W0 at *;have HBOX:=hid (show Below w.heap.size w W0 by rw [← hW0];exact bBw _ _);clear hW0;refine (scanName_any s _ (by unfold maxLen;omega)).mono ?_;rintro e w1 ⟨rfl,hb1⟩;have HC1:=hid hb1;clear hb1;have x_:=(nb HAT HC1).all
   try rw [g2]
   go_wp2;go_ret;exact ⟨rBo (by (try simp only [beq_iff_eq,beq_eq_false_iff_ne,bne_iff_ne,bne_eq_false_iff_eq,ne_eq] at g1);(try simp only [beq_iff_eq,beq_eq_false_iff_ne,bne_iff_ne,bne_eq_false_iff_eq,ne_eq] at g2);simp [procS_eq,headB_one,Nd.sub,g1,g2]),bTh HBOX.out HC1.out⟩
  | true=>
   cases g3:(num==0) with
   | true=>
    cases lg5_4:((subs.length:Int)==4) with
    | false=>
     have HAT:=hid (bAt w ⟨k,s,num,pos,subs⟩ A c 24);clear hk;go_enter Tryz.func60,Tryz.ntmps60;go_wp2_with fail;generalize hW0:w.alloc (.cells #[.int .i64 k,.string s,.int .i64 num,.int .i64 pos,.slice A subs.length c] 24)=W0 at *;have HBOX:=hid (show Below w.heap.size w W0 by rw [← hW0];exact bBw _ _);clear hW0;refine (scanName_any s _ (by unfold maxLen;omega)).mono ?_;rintro e w1 ⟨rfl,hb1⟩;have HC1:=hid hb1;clear hb1;have x_:=(nb HAT HC1).all
     try rw [g2]
     go_wp2;go_ret;exact ⟨rBo (by (try simp only [beq_iff_eq,beq_eq_false_iff_ne,bne_iff_ne,bne_eq_false_iff_eq,ne_eq] at g1);(try simp only [beq_iff_eq,beq_eq_false_iff_ne,bne_iff_ne,bne_eq_false_iff_eq,ne_eq] at g2);(try simp only [beq_iff_eq,beq_eq_false_iff_ne,bne_iff_ne,bne_eq_false_iff_eq,ne_eq] at g3);have lg5_4':¬subs.length=4∧¬(subs.length:Int)=4:=(by constructor <;> intro hh <;> simp [hh] at lg5_4);simp [procS_eq,headB_one,Nd.sub,g1,g2,g3,lg5_4'.1,lg5_4'.2]),bTh HBOX.out HC1.out⟩
    | true=>
     obtain ⟨x,y,z,v,rfl⟩:=len4 (l:=subs) ((by simpa using lg5_4));obtain ⟨b,o,Ax,cx,rfl,hx_x,hk_x⟩:=hk.one (x:=x) (r:=[y,z,v]) rfl;obtain ⟨Ay,cy,hx_y,hk_y⟩:=hk.nth rfl (i:=1) (x:=y) rfl (p:=o+5) (by omega);obtain ⟨Az,cz,hx_z,hk_z⟩:=hk.nth rfl (i:=2) (x:=z) rfl (p:=o+10) (by omega);obtain ⟨Av,cv,hx_v,hk_v⟩:=hk.nth rfl (i:=3) (x:=v) rfl (p:=o+15) (by omega);simp only [List.length_cons,List.length_nil,Nat.zero_add] at hlen;clear lg5_4;obtain ⟨d,rfl⟩:∃d',d=d'+1:=(by cases d with | zero=>exact hk_x.elim | succ d=>exact ⟨d,rfl⟩);have HAT:=hid (bAt w ⟨k,s,num,pos,[x,y,z,v]⟩ (some ⟨b,o,none⟩) c 24);have HX_x:=hid (hx_x.below (bBw w (.cells #[.int .i64 k,.string s,.int .i64 num,.int .i64 pos,.slice (some ⟨b,o,none⟩) 4 c] 24)));have HK_x:=hid (hk_x.below (bBw w (.cells #[.int .i64 k,.string s,.int .i64 num,.int .i64 pos,.slice (some ⟨b,o,none⟩) 4 c] 24)));clear hx_x hk_x;have HX_y:=hid (hx_y.below (bBw w (.cells #[.int .i64 k,.string s,.int .i64 num,.int .i64 pos,.slice (some ⟨b,o,none⟩) 4 c] 24)));have HK_y:=hid (hk_y.below (bBw w (.cells #[.int .i64 k,.string s,.int .i64 num,.int .i64 pos,.slice (some ⟨b,o,none⟩) 4 c] 24)));clear hx_y hk_y;have HX_z:=hid (hx_z.below (bBw w (.cells #[.int .i64 k,.string s,.int .i64 num,.int .i64 pos,.slice (some ⟨b,o,none⟩) 4 c] 24)));have HK_z:=hid (hk_z.below (bBw w (.cells #[.int .i64 k,.string s,.int .i64 num,.int .i64 pos,.slice (some ⟨b,o,none⟩) 4 c] 24)));clear hx_z hk_z;have HX_v:=hid (hx_v.below (bBw w (.cells #[.int .i64 k,.string s,.int .i64 num,.int .i64 pos,.slice (some ⟨b,o,none⟩) 4 c] 24)));have HK_v:=hid (hk_v.below (bBw w (.cells #[.int .i64 k,.string s,.int .i64 num,.int .i64 pos,.slice (some ⟨b,o,none⟩) 4 c] 24)));clear hx_v hk_v;clear hk;have fx:=HX_x.out.all;have fy:=HX_y.out.all;have fz:=HX_z.out.all;have fv:=HX_v.out.all;go_enter Tryz.func60,Tryz.ntmps60;go_wp2_with fail;generalize hW0:w.alloc (.cells #[.int .i64 k,.string s,.int .i64 num,.int .i64 pos,.slice (some ⟨b,o,none⟩) 4 c] 24)=W0 at *;have HBOX:=hid (show Below w.heap.size w W0 by rw [← hW0];exact bBw _ _);clear hW0;refine (scanName_any s _ (by unfold maxLen;omega)).mono ?_;rintro e w1 ⟨rfl,hb1⟩;have HC1:=hid hb1;clear hb1;clear fx fy fz fv;have x_:=(nb HAT HC1).all;have fx:=(nb HX_x HC1).all;have fy:=(nb HX_y HC1).all;have fz:=(nb HX_z HC1).all;have fv:=(nb HX_v HC1).all
     try rw [g2]
     go_wp2_with fail;refine (list_any _ d _ (param_ask d) x Ax cx _ (kb HK_x HC1)).mono ?_;rintro e w2 ⟨rfl,hb2⟩;have HC2:=hid (bTh HC1.out hb2);clear hb2;clear x_ fx fy fz fv;have x_:=(nb HAT HC2).all;have fx:=(nb HX_x HC2).all;have fy:=(nb HX_y HC2).all;have fz:=(nb HX_z HC2).all;have fv:=(nb HX_v HC2).all
     cases g6:listB x isParam with
     | false=>
      try rw [g6]
      go_wp2;go_ret;exact ⟨rBo (by (try simp only [beq_iff_eq,beq_eq_false_iff_ne,bne_iff_ne,bne_eq_false_iff_eq,ne_eq] at g1);(try simp only [beq_iff_eq,beq_eq_false_iff_ne,bne_iff_ne,bne_eq_false_iff_eq,ne_eq] at g2);(try simp only [beq_iff_eq,beq_eq_false_iff_ne,bne_iff_ne,bne_eq_false_iff_eq,ne_eq] at g3);(try simp only [beq_iff_eq,beq_eq_false_iff_ne,bne_iff_ne,bne_eq_false_iff_eq,ne_eq] at g6);simp [procS_eq,headB_one,Nd.sub,g1,g2,g3,g6]),bTh HBOX.out HC2.out⟩
     | true=>
      try rw [g6]
      go_wp2_with fail;refine ((perhaps_any _).calls y Ay cy _ (kb HK_y HC2)).mono ?_;rintro e w3 ⟨rfl,hb3⟩;have HC3:=hid (bTh HC2.out hb3);clear hb3;clear x_ fx fy fz fv;have x_:=(nb HAT HC3).all;have fx:=(nb HX_x HC3).all;have fy:=(nb HX_y HC3).all;have fz:=(nb HX_z HC3).all;have fv:=(nb HX_v HC3).all
      cases g7:(headB y 0 false 0 0 || nameS y) with
      | false=>
       try rw [g7]
       go_wp2;go_ret;exact ⟨rBo (by (try simp only [beq_iff_eq,beq_eq_false_iff_ne,bne_iff_ne,bne_eq_false_iff_eq,ne_eq] at g1);(try simp only [beq_iff_eq,beq_eq_false_iff_ne,bne_iff_ne,bne_eq_false_iff_eq,ne_eq] at g2);(try simp only [beq_iff_eq,beq_eq_false_iff_ne,bne_iff_ne,bne_eq_false_iff_eq,ne_eq] at g3);(try simp only [beq_iff_eq,beq_eq_false_iff_ne,bne_iff_ne,bne_eq_false_iff_eq,ne_eq] at g6);(try simp only [beq_iff_eq,beq_eq_false_iff_ne,bne_iff_ne,bne_eq_false_iff_eq,ne_eq] at g7);simp [procS_eq,headB_one,Nd.sub,g1,g2,g3,g6,g7]),bTh HBOX.out HC3.out⟩
      | true=>
       try rw [g7]
       go_wp2_with fail;refine (list_any _ d _ (local_ask d) z Az cz _ (kb HK_z HC3)).mono ?_;rintro e w4 ⟨rfl,hb4⟩;have HC4:=hid (bTh HC3.out hb4);clear hb4;clear x_ fx fy fz fv;have x_:=(nb HAT HC4).all;have fx:=(nb HX_x HC4).all;have fy:=(nb HX_y HC4).all;have fz:=(nb HX_z HC4).all;have fv:=(nb HX_v HC4).all
       cases g8:listB z isLocal with
       | false=>
        try rw [g8]
        go_wp2;go_ret;exact ⟨rBo (by (try simp only [beq_iff_eq,beq_eq_false_iff_ne,bne_iff_ne,bne_eq_false_iff_eq,ne_eq] at g1);(try simp only [beq_iff_eq,beq_eq_false_iff_ne,bne_iff_ne,bne_eq_false_iff_eq,ne_eq] at g2);(try simp only [beq_iff_eq,beq_eq_false_iff_ne,bne_iff_ne,bne_eq_false_iff_eq,ne_eq] at g3);(try simp only [beq_iff_eq,beq_eq_false_iff_ne,bne_iff_ne,bne_eq_false_iff_eq,ne_eq] at g6);(try simp only [beq_iff_eq,beq_eq_false_iff_ne,bne_iff_ne,bne_eq_false_iff_eq,ne_eq] at g7);(try simp only [beq_iff_eq,beq_eq_false_iff_ne,bne_iff_ne,bne_eq_false_iff_eq,ne_eq] at g8);simp [procS_eq,headB_one,Nd.sub,g1,g2,g3,g6,g7,g8]),bTh HBOX.out HC4.out⟩
       | true=>
        try rw [g8]
        go_wp2_with fail;refine ((stP_any _).2.calls v Av cv _ (kb HK_v HC4)).mono ?_;rintro e w5 ⟨rfl,hb5⟩;have HC5:=hid (bTh HC4.out hb5);clear hb5;clear x_ fx fy fz fv;have x_:=(nb HAT HC5).all;have fx:=(nb HX_x HC5).all;have fy:=(nb HX_y HC5).all;have fz:=(nb HX_z HC5).all;have fv:=(nb HX_v HC5).all;go_wp2;go_ret;exact ⟨rBo (by (try simp only [beq_iff_eq,beq_eq_false_iff_ne,bne_iff_ne,bne_eq_false_iff_eq,ne_eq] at g1);(try simp only [beq_iff_eq,beq_eq_false_iff_ne,bne_iff_ne,bne_eq_false_iff_eq,ne_eq] at g2);(try simp only [beq_iff_eq,beq_eq_false_iff_ne,bne_iff_ne,bne_eq_false_iff_eq,ne_eq] at g3);(try simp only [beq_iff_eq,beq_eq_false_iff_ne,bne_iff_ne,bne_eq_false_iff_eq,ne_eq] at g6);(try simp only [beq_iff_eq,beq_eq_false_iff_ne,bne_iff_ne,bne_eq_false_iff_eq,ne_eq] at g7);(try simp only [beq_iff_eq,beq_eq_false_iff_ne,bne_iff_ne,bne_eq_false_iff_eq,ne_eq] at g8);simp [procS_eq,headB_one,Nd.sub,g1,g2,g3,g6,g7,g8]),bTh HBOX.out HC5.out⟩
   | false=>
    cases g4:(num==1) with
    | true=>
     cases lg9_4:((subs.length:Int)==4) with
     | false=>
      have HAT:=hid (bAt w ⟨k,s,num,pos,subs⟩ A c 24);clear hk;go_enter Tryz.func60,Tryz.ntmps60;go_wp2_with fail;generalize hW0:w.alloc (.cells #[.int .i64 k,.string s,.int .i64 num,.int .i64 pos,.slice A subs.length c] 24)=W0 at *;have HBOX:=hid (show Below w.heap.size w W0 by rw [← hW0];exact bBw _ _);clear hW0;refine (scanName_any s _ (by unfold maxLen;omega)).mono ?_;rintro e w1 ⟨rfl,hb1⟩;have HC1:=hid hb1;clear hb1;have x_:=(nb HAT HC1).all
      try rw [g2]
      go_wp2;go_ret;exact ⟨rBo (by (try simp only [beq_iff_eq,beq_eq_false_iff_ne,bne_iff_ne,bne_eq_false_iff_eq,ne_eq] at g1);(try simp only [beq_iff_eq,beq_eq_false_iff_ne,bne_iff_ne,bne_eq_false_iff_eq,ne_eq] at g2);(try simp only [beq_iff_eq,beq_eq_false_iff_ne,bne_iff_ne,bne_eq_false_iff_eq,ne_eq] at g3);(try simp only [beq_iff_eq,beq_eq_false_iff_ne,bne_iff_ne,bne_eq_false_iff_eq,ne_eq] at g4);have lg9_4':¬subs.length=4∧¬(subs.length:Int)=4:=(by constructor <;> intro hh <;> simp [hh] at lg9_4);simp [procS_eq,headB_one,Nd.sub,g1,g2,g3,g4,lg9_4'.1,lg9_4'.2]),bTh HBOX.out HC1.out⟩
     | true=>
      obtain ⟨x,y,z,v,rfl⟩:=len4 (l:=subs) ((by simpa using lg9_4));obtain ⟨b,o,Ax,cx,rfl,hx_x,hk_x⟩:=hk.one (x:=x) (r:=[y,z,v]) rfl;obtain ⟨Ay,cy,hx_y,hk_y⟩:=hk.nth rfl (i:=1) (x:=y) rfl (p:=o+5) (by omega);obtain ⟨Az,cz,hx_z,hk_z⟩:=hk.nth rfl (i:=2) (x:=z) rfl (p:=o+10) (by omega);obtain ⟨Av,cv,hx_v,hk_v⟩:=hk.nth rfl (i:=3) (x:=v) rfl (p:=o+15) (by omega);simp only [List.length_cons,List.length_nil,Nat.zero_add] at hlen;clear lg9_4;obtain ⟨d,rfl⟩:∃d',d=d'+1:=(by cases d with | zero=>exact hk_x.elim | succ d=>exact ⟨d,rfl⟩);have HAT:=hid (bAt w ⟨k,s,num,pos,[x,y,z,v]⟩ (some ⟨b,o,none⟩) c 24);have HX_x:=hid (hx_x.below (bBw w (.cells #[.int .i64 k,.string s,.int .i64 num,.int .i64 pos,.slice (some ⟨b,o,none⟩) 4 c] 24)));have HK_x:=hid (hk_x.below (bBw w (.cells #[.int .i64 k,.string s,.int .i64 num,.int .i64 pos,.slice (some ⟨b,o,none⟩) 4 c] 24)));clear hx_x hk_x;have HX_y:=hid (hx_y.below (bBw w (.cells #[.int .i64 k,.string s,.int .i64 num,.int .i64 pos,.slice (some ⟨b,o,none⟩) 4 c] 24)));have HK_y:=hid (hk_y.below (bBw w (.cells #[.int .i64 k,.string s,.int .i64 num,.int .i64 pos,.slice (some ⟨b,o,none⟩) 4 c] 24)));clear hx_y hk_y;have HX_z:=hid (hx_z.below (bBw w (.cells #[.int .i64 k,.string s,.int .i64 num,.int .i64 pos,.slice (some ⟨b,o,none⟩) 4 c] 24)));have HK_z:=hid (hk_z.below (bBw w (.cells #[.int .i64 k,.string s,.int .i64 num,.int .i64 pos,.slice (some ⟨b,o,none⟩) 4 c] 24)));clear hx_z hk_z;have HX_v:=hid (hx_v.below (bBw w (.cells #[.int .i64 k,.string s,.int .i64 num,.int .i64 pos,.slice (some ⟨b,o,none⟩) 4 c] 24)));have HK_v:=hid (hk_v.below (bBw w (.cells #[.int .i64 k,.string s,.int .i64 num,.int .i64 pos,.slice (some ⟨b,o,none⟩) 4 c] 24)));clear hx_v hk_v;clear hk;have fx:=HX_x.out.all;have fy:=HX_y.out.all;have fz:=HX_z.out.all;have fv:=HX_v.out.all;go_enter Tryz.func60,Tryz.ntmps60;go_wp2_with fail;generalize hW0:w.alloc (.cells #[.int .i64 k,.string s,.int .i64 num,.int .i64 pos,.slice (some ⟨b,o,none⟩) 4 c] 24)=W0 at *;have HBOX:=hid (show Below w.heap.size w W0 by rw [← hW0];exact bBw _ _);clear hW0;refine (scanName_any s _ (by unfold maxLen;omega)).mono ?_;rintro e w1 ⟨rfl,hb1⟩;have HC1:=hid hb1;clear hb1;clear fx fy fz fv;have x_:=(nb HAT HC1).all;have fx:=(nb HX_x HC1).all;have fy:=(nb HX_y HC1).all;have fz:=(nb HX_z HC1).all;have fv:=(nb HX_v HC1).all
      try rw [g2]
      go_wp2_with fail;refine (list_any _ d _ (param_ask d) x Ax cx _ (kb HK_x HC1)).mono ?_;rintro e w2 ⟨rfl,hb2⟩;have HC2:=hid (bTh HC1.out hb2);clear hb2;clear x_ fx fy fz fv;have x_:=(nb HAT HC2).all;have fx:=(nb HX_x HC2).all;have fy:=(nb HX_y HC2).all;have fz:=(nb HX_z HC2).all;have fv:=(nb HX_v HC2).all
      cases g10:listB x isParam with
      | false=>
       try rw [g10]
       go_wp2;go_ret;exact ⟨rBo (by (try simp only [beq_iff_eq,beq_eq_false_iff_ne,bne_iff_ne,bne_eq_false_iff_eq,ne_eq] at g1);(try simp only [beq_iff_eq,beq_eq_false_iff_ne,bne_iff_ne,bne_eq_false_iff_eq,ne_eq] at g2);(try simp only [beq_iff_eq,beq_eq_false_iff_ne,bne_iff_ne,bne_eq_false_iff_eq,ne_eq] at g3);(try simp only [beq_iff_eq,beq_eq_false_iff_ne,bne_iff_ne,bne_eq_false_iff_eq,ne_eq] at g4);(try simp only [beq_iff_eq,beq_eq_false_iff_ne,bne_iff_ne,bne_eq_false_iff_eq,ne_eq] at g10);simp [procS_eq,headB_one,Nd.sub,g1,g2,g3,g4,g10]),bTh HBOX.out HC2.out⟩
      | true=>
       try rw [g10]
       go_wp2_with fail;refine ((perhaps_any _).calls y Ay cy _ (kb HK_y HC2)).mono ?_;rintro e w3 ⟨rfl,hb3⟩;have HC3:=hid (bTh HC2.out hb3);clear hb3;clear x_ fx fy fz fv;have x_:=(nb HAT HC3).all;have fx:=(nb HX_x HC3).all;have fy:=(nb HX_y HC3).all;have fz:=(nb HX_z HC3).all;have fv:=(nb HX_v HC3).all
       cases g11:(headB y 0 false 0 0 || nameS y) with
       | false=>
        try rw [g11]
        go_wp2;go_ret;exact ⟨rBo (by (try simp only [beq_iff_eq,beq_eq_false_iff_ne,bne_iff_ne,bne_eq_false_iff_eq,ne_eq] at g1);(try simp only [beq_iff_eq,beq_eq_false_iff_ne,bne_iff_ne,bne_eq_false_iff_eq,ne_eq] at g2);(try simp only [beq_iff_eq,beq_eq_false_iff_ne,bne_iff_ne,bne_eq_false_iff_eq,ne_eq] at g3);(try simp only [beq_iff_eq,beq_eq_false_iff_ne,bne_iff_ne,bne_eq_false_iff_eq,ne_eq] at g4);(try simp only [beq_iff_eq,beq_eq_false_iff_ne,bne_iff_ne,bne_eq_false_iff_eq,ne_eq] at g10);(try simp only [beq_iff_eq,beq_eq_false_iff_ne,bne_iff_ne,bne_eq_false_iff_eq,ne_eq] at g11);simp [procS_eq,headB_one,Nd.sub,g1,g2,g3,g4,g10,g11]),bTh HBOX.out HC3.out⟩
       | true=>
        try rw [g11]
        go_wp2_with fail;refine (list_any _ d _ (local_ask d) z Az cz _ (kb HK_z HC3)).mono ?_;rintro e w4 ⟨rfl,hb4⟩;have HC4:=hid (bTh HC3.out hb4);clear hb4;clear x_ fx fy fz fv;have x_:=(nb HAT HC4).all;have fx:=(nb HX_x HC4).all;have fy:=(nb HX_y HC4).all;have fz:=(nb HX_z HC4).all;have fv:=(nb HX_v HC4).all
        cases g12:listB z isLocal with
        | false=>
         try rw [g12]
         go_wp2;go_ret;exact ⟨rBo (by (try simp only [beq_iff_eq,beq_eq_false_iff_ne,bne_iff_ne,bne_eq_false_iff_eq,ne_eq] at g1);(try simp only [beq_iff_eq,beq_eq_false_iff_ne,bne_iff_ne,bne_eq_false_iff_eq,ne_eq] at g2);(try simp only [beq_iff_eq,beq_eq_false_iff_ne,bne_iff_ne,bne_eq_false_iff_eq,ne_eq] at g3);(try simp only [beq_iff_eq,beq_eq_false_iff_ne,bne_iff_ne,bne_eq_false_iff_eq,ne_eq] at g4);(try simp only [beq_iff_eq,beq_eq_false_iff_ne,bne_iff_ne,bne_eq_false_iff_eq,ne_eq] at g10);(try simp only [beq_iff_eq,beq_eq_false_iff_ne,bne_iff_ne,bne_eq_false_iff_eq,ne_eq] at g11);(try simp only [beq_iff_eq,beq_eq_false_iff_ne,bne_iff_ne,bne_eq_false_iff_eq,ne_eq] at g12);simp [procS_eq,headB_one,Nd.sub,g1,g2,g3,g4,g10,g11,g12]),bTh HBOX.out HC4.out⟩
        | true=>
         try rw [g12]
         go_wp2_with fail;refine ((stP_any _).2.calls v Av cv _ (kb HK_v HC4)).mono ?_;rintro e w5 ⟨rfl,hb5⟩;have HC5:=hid (bTh HC4.out hb5);clear hb5;clear x_ fx fy fz fv;have x_:=(nb HAT HC5).all;have fx:=(nb HX_x HC5).all;have fy:=(nb HX_y HC5).all;have fz:=(nb HX_z HC5).all;have fv:=(nb HX_v HC5).all;go_wp2;go_ret;exact ⟨rBo (by (try simp only [beq_iff_eq,beq_eq_false_iff_ne,bne_iff_ne,bne_eq_false_iff_eq,ne_eq] at g1);(try simp only [beq_iff_eq,beq_eq_false_iff_ne,bne_iff_ne,bne_eq_false_iff_eq,ne_eq] at g2);(try simp only [beq_iff_eq,beq_eq_false_iff_ne,bne_iff_ne,bne_eq_false_iff_eq,ne_eq] at g3);(try simp only [beq_iff_eq,beq_eq_false_iff_ne,bne_iff_ne,bne_eq_false_iff_eq,ne_eq] at g4);(try simp only [beq_iff_eq,beq_eq_false_iff_ne,bne_iff_ne,bne_eq_false_iff_eq,ne_eq] at g10);(try simp only [beq_iff_eq,beq_eq_false_iff_ne,bne_iff_ne,bne_eq_false_iff_eq,ne_eq] at g11);(try simp only [beq_iff_eq,beq_eq_false_iff_ne,bne_iff_ne,bne_eq_false_iff_eq,ne_eq] at g12);simp [procS_eq,headB_one,Nd.sub,g1,g2,g3,g4,g10,g11,g12]),bTh HBOX.out HC5.out⟩
    | false=>
     have HAT:=hid (bAt w ⟨k,s,num,pos,subs⟩ A c 24);clear hk;go_enter Tryz.func60,Tryz.ntmps60;go_wp2_with fail;generalize hW0:w.alloc (.cells #[.int .i64 k,.string s,.int .i64 num,.int .i64 pos,.slice A subs.length c] 24)=W0 at *;have HBOX:=hid (show Below w.heap.size w W0 by rw [← hW0];exact bBw _ _);clear hW0;refine (scanName_any s _ (by unfold maxLen;omega)).mono ?_;rintro e w1 ⟨rfl,hb1⟩;have HC1:=hid hb1;clear hb1;have x_:=(nb HAT HC1).all
     try rw [g2]
     go_wp2;go_ret;exact ⟨rBo (by (try simp only [beq_iff_eq,beq_eq_false_iff_ne,bne_iff_ne,bne_eq_false_iff_eq,ne_eq] at g1);(try simp only [beq_iff_eq,beq_eq_false_iff_ne,bne_iff_ne,bne_eq_false_iff_eq,ne_eq] at g2);(try simp only [beq_iff_eq,beq_eq_false_iff_ne,bne_iff_ne,bne_eq_false_iff_eq,ne_eq] at g3);(try simp only [beq_iff_eq,beq_eq_false_iff_ne,bne_iff_ne,bne_eq_false_iff_eq,ne_eq] at g4);simp [procS_eq,headB_one,Nd.sub,g1,g2,g3,g4]),bTh HBOX.out HC1.out⟩
theorem part3_ask:∀d:Nat,AskFn 51 d (isPart d 3)
 | 0=>askZero (import_any 0).enters
 | d+1=>(import_any (d+1)).congr (isPart3 d)
theorem part4_ask:∀d:Nat,AskFn 53 d (isPart d 4)
 | 0=>askZero (const_any 0).enters
 | d+1=>(const_any d).congr (isPart4 d)
theorem part5_ask:∀d:Nat,AskFn 56 d (isPart d 5)
 | 0=>askZero (named_any 0).enters
 | d+1=>(named_any d).congr (isPart5 d)
theorem part6_ask:∀d:Nat,AskFn 58 d (isPart d 6)
 | 0=>askZero (var_any 0).enters
 | d+1=>(var_any d).congr (isPart6 d)
theorem part7_ask:∀d:Nat,AskFn 60 d (isPart d 7)
 | 0=>askZero (proc_any 0).enters
 | d+1=>(proc_any d).congr (isPart7 d)
set_option maxRecDepth 100000 in
set_option maxHeartbeats 8000000 in
theorem shapedP_any (d:Nat):AskFn 24 (d+2) (shapedS (d+2)):=by
 refine ⟨fun args w=>enters_fn Tryz.func24 (by kernel_rfl) rfl args w,?_⟩;intro n A c w hk;obtain ⟨k,s,num,pos,subs⟩:=n;have hlen:=hk.len;have hsz:=hk.name_le;unfold maxLen at hlen hsz;simp only at hlen hsz
 cases g1:(k==2) with
 | false=>
  have HAT:=hid (bAt w ⟨k,s,num,pos,subs⟩ A c 24);clear hk;go_enter Tryz.func24,Tryz.ntmps24;go_wp2;go_ret;exact ⟨rBo (by (try simp only [beq_iff_eq,beq_eq_false_iff_ne,bne_iff_ne,bne_eq_false_iff_eq,ne_eq] at g1);simp [shapedS_succ,partS_eq,headB_zero,Nd.sub,g1]),bBw _ _⟩
 | true=>
  cases g2:nameB s with
  | false=>
   have HAT:=hid (bAt w ⟨k,s,num,pos,subs⟩ A c 24);clear hk;go_enter Tryz.func24,Tryz.ntmps24;go_wp2_with fail;generalize hW0:w.alloc (.cells #[.int .i64 k,.string s,.int .i64 num,.int .i64 pos,.slice A subs.length c] 24)=W0 at *;have HBOX:=hid (show Below w.heap.size w W0 by rw [← hW0];exact bBw _ _);clear hW0;refine (scanName_any s _ (by unfold maxLen;omega)).mono ?_;rintro e w1 ⟨rfl,hb1⟩;have HC1:=hid hb1;clear hb1;have x_:=(nb HAT HC1).all
   try rw [g2]
   go_wp2;go_ret;exact ⟨rBo (by (try simp only [beq_iff_eq,beq_eq_false_iff_ne,bne_iff_ne,bne_eq_false_iff_eq,ne_eq] at g1);(try simp only [beq_iff_eq,beq_eq_false_iff_ne,bne_iff_ne,bne_eq_false_iff_eq,ne_eq] at g2);simp [shapedS_succ,partS_eq,headB_zero,Nd.sub,g1,g2]),bTh HBOX.out HC1.out⟩
  | true=>
   cases g3:(num==0) with
   | false=>
    have HAT:=hid (bAt w ⟨k,s,num,pos,subs⟩ A c 24);clear hk;go_enter Tryz.func24,Tryz.ntmps24;go_wp2_with fail;generalize hW0:w.alloc (.cells #[.int .i64 k,.string s,.int .i64 num,.int .i64 pos,.slice A subs.length c] 24)=W0 at *;have HBOX:=hid (show Below w.heap.size w W0 by rw [← hW0];exact bBw _ _);clear hW0;refine (scanName_any s _ (by unfold maxLen;omega)).mono ?_;rintro e w1 ⟨rfl,hb1⟩;have HC1:=hid hb1;clear hb1;have x_:=(nb HAT HC1).all
    try rw [g2]
    go_wp2;go_ret;exact ⟨rBo (by (try simp only [beq_iff_eq,beq_eq_false_iff_ne,bne_iff_ne,bne_eq_false_iff_eq,ne_eq] at g1);(try simp only [beq_iff_eq,beq_eq_false_iff_ne,bne_iff_ne,bne_eq_false_iff_eq,ne_eq] at g2);(try simp only [beq_iff_eq,beq_eq_false_iff_ne,bne_iff_ne,bne_eq_false_iff_eq,ne_eq] at g3);simp [shapedS_succ,partS_eq,headB_zero,Nd.sub,g1,g2,g3]),bTh HBOX.out HC1.out⟩
   | true=>
    cases lg4_6:((subs.length:Int)==6) with
    | false=>
     have HAT:=hid (bAt w ⟨k,s,num,pos,subs⟩ A c 24);clear hk;go_enter Tryz.func24,Tryz.ntmps24;go_wp2_with fail;generalize hW0:w.alloc (.cells #[.int .i64 k,.string s,.int .i64 num,.int .i64 pos,.slice A subs.length c] 24)=W0 at *;have HBOX:=hid (show Below w.heap.size w W0 by rw [← hW0];exact bBw _ _);clear hW0;refine (scanName_any s _ (by unfold maxLen;omega)).mono ?_;rintro e w1 ⟨rfl,hb1⟩;have HC1:=hid hb1;clear hb1;have x_:=(nb HAT HC1).all
     try rw [g2]
     go_wp2;go_ret;exact ⟨rBo (by (try simp only [beq_iff_eq,beq_eq_false_iff_ne,bne_iff_ne,bne_eq_false_iff_eq,ne_eq] at g1);(try simp only [beq_iff_eq,beq_eq_false_iff_ne,bne_iff_ne,bne_eq_false_iff_eq,ne_eq] at g2);(try simp only [beq_iff_eq,beq_eq_false_iff_ne,bne_iff_ne,bne_eq_false_iff_eq,ne_eq] at g3);have lg4_6':¬subs.length=6∧¬(subs.length:Int)=6:=(by constructor <;> intro hh <;> simp [hh] at lg4_6);simp [shapedS_succ,partS_eq,headB_zero,Nd.sub,g1,g2,g3,lg4_6'.1,lg4_6'.2]),bTh HBOX.out HC1.out⟩
    | true=>
     obtain ⟨x,y,z,v,u,t,rfl⟩:=len6 (l:=subs) ((by simpa using lg4_6));obtain ⟨b,o,Ax,cx,rfl,hx_x,hk_x⟩:=hk.one (x:=x) (r:=[y,z,v,u,t]) rfl;obtain ⟨Ay,cy,hx_y,hk_y⟩:=hk.nth rfl (i:=1) (x:=y) rfl (p:=o+5) (by omega);obtain ⟨Az,cz,hx_z,hk_z⟩:=hk.nth rfl (i:=2) (x:=z) rfl (p:=o+10) (by omega);obtain ⟨Av,cv,hx_v,hk_v⟩:=hk.nth rfl (i:=3) (x:=v) rfl (p:=o+15) (by omega);obtain ⟨Au,cu,hx_u,hk_u⟩:=hk.nth rfl (i:=4) (x:=u) rfl (p:=o+20) (by omega);obtain ⟨At,ct,hx_t,hk_t⟩:=hk.nth rfl (i:=5) (x:=t) rfl (p:=o+25) (by omega);simp only [List.length_cons,List.length_nil,Nat.zero_add] at hlen;clear lg4_6;have HAT:=hid (bAt w ⟨k,s,num,pos,[x,y,z,v,u,t]⟩ (some ⟨b,o,none⟩) c 24);have HX_x:=hid (hx_x.below (bBw w (.cells #[.int .i64 k,.string s,.int .i64 num,.int .i64 pos,.slice (some ⟨b,o,none⟩) 6 c] 24)));have HK_x:=hid (hk_x.below (bBw w (.cells #[.int .i64 k,.string s,.int .i64 num,.int .i64 pos,.slice (some ⟨b,o,none⟩) 6 c] 24)));clear hx_x hk_x;have HX_y:=hid (hx_y.below (bBw w (.cells #[.int .i64 k,.string s,.int .i64 num,.int .i64 pos,.slice (some ⟨b,o,none⟩) 6 c] 24)));have HK_y:=hid (hk_y.below (bBw w (.cells #[.int .i64 k,.string s,.int .i64 num,.int .i64 pos,.slice (some ⟨b,o,none⟩) 6 c] 24)));clear hx_y hk_y;have HX_z:=hid (hx_z.below (bBw w (.cells #[.int .i64 k,.string s,.int .i64 num,.int .i64 pos,.slice (some ⟨b,o,none⟩) 6 c] 24)));have HK_z:=hid (hk_z.below (bBw w (.cells #[.int .i64 k,.string s,.int .i64 num,.int .i64 pos,.slice (some ⟨b,o,none⟩) 6 c] 24)));clear hx_z hk_z;have HX_v:=hid (hx_v.below (bBw w (.cells #[.int .i64 k,.string s,.int .i64 num,.int .i64 pos,.slice (some ⟨b,o,none⟩) 6 c] 24)));have HK_v:=hid (hk_v.below (bBw w (.cells #[.int .i64 k,.string s,.int .i64 num,.int .i64 pos,.slice (some ⟨b,o,none⟩) 6 c] 24)));clear hx_v hk_v;have HX_u:=hid (hx_u.below (bBw w (.cells #[.int .i64 k,.string s,.int .i64 num,.int .i64 pos,.slice (some ⟨b,o,none⟩) 6 c] 24)));have HK_u:=hid (hk_u.below (bBw w (.cells #[.int .i64 k,.string s,.int .i64 num,.int .i64 pos,.slice (some ⟨b,o,none⟩) 6 c] 24)));clear hx_u hk_u;have HX_t:=hid (hx_t.below (bBw w (.cells #[.int .i64 k,.string s,.int .i64 num,.int .i64 pos,.slice (some ⟨b,o,none⟩) 6 c] 24)));have HK_t:=hid (hk_t.below (bBw w (.cells #[.int .i64 k,.string s,.int .i64 num,.int .i64 pos,.slice (some ⟨b,o,none⟩) 6 c] 24)));clear hx_t hk_t;clear hk;have fx:=HX_x.out.all;have fy:=HX_y.out.all;have fz:=HX_z.out.all;have fv:=HX_v.out.all;have fu:=HX_u.out.all;have ft:=HX_t.out.all;go_enter Tryz.func24,Tryz.ntmps24;go_wp2_with fail;generalize hW0:w.alloc (.cells #[.int .i64 k,.string s,.int .i64 num,.int .i64 pos,.slice (some ⟨b,o,none⟩) 6 c] 24)=W0 at *;have HBOX:=hid (show Below w.heap.size w W0 by rw [← hW0];exact bBw _ _);clear hW0;refine (scanName_any s _ (by unfold maxLen;omega)).mono ?_;rintro e w1 ⟨rfl,hb1⟩;have HC1:=hid hb1;clear hb1;clear fx fy fz fv fu ft;have x_:=(nb HAT HC1).all;have fx:=(nb HX_x HC1).all;have fy:=(nb HX_y HC1).all;have fz:=(nb HX_z HC1).all;have fv:=(nb HX_v HC1).all;have fu:=(nb HX_u HC1).all;have ft:=(nb HX_t HC1).all
     try rw [g2]
     go_wp2_with fail;refine (list_any _ d _ (part3_ask d) x Ax cx _ (kb HK_x HC1)).mono ?_;rintro e w2 ⟨rfl,hb2⟩;have HC2:=hid (bTh HC1.out hb2);clear hb2;clear x_ fx fy fz fv fu ft;have x_:=(nb HAT HC2).all;have fx:=(nb HX_x HC2).all;have fy:=(nb HX_y HC2).all;have fz:=(nb HX_z HC2).all;have fv:=(nb HX_v HC2).all;have fu:=(nb HX_u HC2).all;have ft:=(nb HX_t HC2).all
     cases g5:listB x (isPart d 3) with
     | false=>
      try rw [g5]
      go_wp2;go_ret;exact ⟨rBo (by (try simp only [beq_iff_eq,beq_eq_false_iff_ne,bne_iff_ne,bne_eq_false_iff_eq,ne_eq] at g1);(try simp only [beq_iff_eq,beq_eq_false_iff_ne,bne_iff_ne,bne_eq_false_iff_eq,ne_eq] at g2);(try simp only [beq_iff_eq,beq_eq_false_iff_ne,bne_iff_ne,bne_eq_false_iff_eq,ne_eq] at g3);(try simp only [beq_iff_eq,beq_eq_false_iff_ne,bne_iff_ne,bne_eq_false_iff_eq,ne_eq] at g5);simp [shapedS_succ,partS_eq,headB_zero,Nd.sub,g1,g2,g3,g5]),bTh HBOX.out HC2.out⟩
     | true=>
      try rw [g5]
      go_wp2_with fail;refine (list_any _ d _ (part4_ask d) y Ay cy _ (kb HK_y HC2)).mono ?_;rintro e w3 ⟨rfl,hb3⟩;have HC3:=hid (bTh HC2.out hb3);clear hb3;clear x_ fx fy fz fv fu ft;have x_:=(nb HAT HC3).all;have fx:=(nb HX_x HC3).all;have fy:=(nb HX_y HC3).all;have fz:=(nb HX_z HC3).all;have fv:=(nb HX_v HC3).all;have fu:=(nb HX_u HC3).all;have ft:=(nb HX_t HC3).all
      cases g6:listB y (isPart d 4) with
      | false=>
       try rw [g6]
       go_wp2;go_ret;exact ⟨rBo (by (try simp only [beq_iff_eq,beq_eq_false_iff_ne,bne_iff_ne,bne_eq_false_iff_eq,ne_eq] at g1);(try simp only [beq_iff_eq,beq_eq_false_iff_ne,bne_iff_ne,bne_eq_false_iff_eq,ne_eq] at g2);(try simp only [beq_iff_eq,beq_eq_false_iff_ne,bne_iff_ne,bne_eq_false_iff_eq,ne_eq] at g3);(try simp only [beq_iff_eq,beq_eq_false_iff_ne,bne_iff_ne,bne_eq_false_iff_eq,ne_eq] at g5);(try simp only [beq_iff_eq,beq_eq_false_iff_ne,bne_iff_ne,bne_eq_false_iff_eq,ne_eq] at g6);simp [shapedS_succ,partS_eq,headB_zero,Nd.sub,g1,g2,g3,g5,g6]),bTh HBOX.out HC3.out⟩
      | true=>
       try rw [g6]
       go_wp2_with fail;refine (list_any _ d _ (part5_ask d) z Az cz _ (kb HK_z HC3)).mono ?_;rintro e w4 ⟨rfl,hb4⟩;have HC4:=hid (bTh HC3.out hb4);clear hb4;clear x_ fx fy fz fv fu ft;have x_:=(nb HAT HC4).all;have fx:=(nb HX_x HC4).all;have fy:=(nb HX_y HC4).all;have fz:=(nb HX_z HC4).all;have fv:=(nb HX_v HC4).all;have fu:=(nb HX_u HC4).all;have ft:=(nb HX_t HC4).all
       cases g7:listB z (isPart d 5) with
       | false=>
        try rw [g7]
        go_wp2;go_ret;exact ⟨rBo (by (try simp only [beq_iff_eq,beq_eq_false_iff_ne,bne_iff_ne,bne_eq_false_iff_eq,ne_eq] at g1);(try simp only [beq_iff_eq,beq_eq_false_iff_ne,bne_iff_ne,bne_eq_false_iff_eq,ne_eq] at g2);(try simp only [beq_iff_eq,beq_eq_false_iff_ne,bne_iff_ne,bne_eq_false_iff_eq,ne_eq] at g3);(try simp only [beq_iff_eq,beq_eq_false_iff_ne,bne_iff_ne,bne_eq_false_iff_eq,ne_eq] at g5);(try simp only [beq_iff_eq,beq_eq_false_iff_ne,bne_iff_ne,bne_eq_false_iff_eq,ne_eq] at g6);(try simp only [beq_iff_eq,beq_eq_false_iff_ne,bne_iff_ne,bne_eq_false_iff_eq,ne_eq] at g7);simp [shapedS_succ,partS_eq,headB_zero,Nd.sub,g1,g2,g3,g5,g6,g7]),bTh HBOX.out HC4.out⟩
       | true=>
        try rw [g7]
        go_wp2_with fail;refine (list_any _ d _ (part6_ask d) v Av cv _ (kb HK_v HC4)).mono ?_;rintro e w5 ⟨rfl,hb5⟩;have HC5:=hid (bTh HC4.out hb5);clear hb5;clear x_ fx fy fz fv fu ft;have x_:=(nb HAT HC5).all;have fx:=(nb HX_x HC5).all;have fy:=(nb HX_y HC5).all;have fz:=(nb HX_z HC5).all;have fv:=(nb HX_v HC5).all;have fu:=(nb HX_u HC5).all;have ft:=(nb HX_t HC5).all
        cases g8:listB v (isPart d 6) with
        | false=>
         try rw [g8]
         go_wp2;go_ret;exact ⟨rBo (by (try simp only [beq_iff_eq,beq_eq_false_iff_ne,bne_iff_ne,bne_eq_false_iff_eq,ne_eq] at g1);(try simp only [beq_iff_eq,beq_eq_false_iff_ne,bne_iff_ne,bne_eq_false_iff_eq,ne_eq] at g2);(try simp only [beq_iff_eq,beq_eq_false_iff_ne,bne_iff_ne,bne_eq_false_iff_eq,ne_eq] at g3);(try simp only [beq_iff_eq,beq_eq_false_iff_ne,bne_iff_ne,bne_eq_false_iff_eq,ne_eq] at g5);(try simp only [beq_iff_eq,beq_eq_false_iff_ne,bne_iff_ne,bne_eq_false_iff_eq,ne_eq] at g6);(try simp only [beq_iff_eq,beq_eq_false_iff_ne,bne_iff_ne,bne_eq_false_iff_eq,ne_eq] at g7);(try simp only [beq_iff_eq,beq_eq_false_iff_ne,bne_iff_ne,bne_eq_false_iff_eq,ne_eq] at g8);simp [shapedS_succ,partS_eq,headB_zero,Nd.sub,g1,g2,g3,g5,g6,g7,g8]),bTh HBOX.out HC5.out⟩
        | true=>
         try rw [g8]
         go_wp2_with fail;refine (list_any _ d _ (part7_ask d) u Au cu _ (kb HK_u HC5)).mono ?_;rintro e w6 ⟨rfl,hb6⟩;have HC6:=hid (bTh HC5.out hb6);clear hb6;clear x_ fx fy fz fv fu ft;have x_:=(nb HAT HC6).all;have fx:=(nb HX_x HC6).all;have fy:=(nb HX_y HC6).all;have fz:=(nb HX_z HC6).all;have fv:=(nb HX_v HC6).all;have fu:=(nb HX_u HC6).all;have ft:=(nb HX_t HC6).all
         cases g9:listB u (isPart d 7) with
         | false=>
          try rw [g9]
          go_wp2;go_ret;exact ⟨rBo (by (try simp only [beq_iff_eq,beq_eq_false_iff_ne,bne_iff_ne,bne_eq_false_iff_eq,ne_eq] at g1);(try simp only [beq_iff_eq,beq_eq_false_iff_ne,bne_iff_ne,bne_eq_false_iff_eq,ne_eq] at g2);(try simp only [beq_iff_eq,beq_eq_false_iff_ne,bne_iff_ne,bne_eq_false_iff_eq,ne_eq] at g3);(try simp only [beq_iff_eq,beq_eq_false_iff_ne,bne_iff_ne,bne_eq_false_iff_eq,ne_eq] at g5);(try simp only [beq_iff_eq,beq_eq_false_iff_ne,bne_iff_ne,bne_eq_false_iff_eq,ne_eq] at g6);(try simp only [beq_iff_eq,beq_eq_false_iff_ne,bne_iff_ne,bne_eq_false_iff_eq,ne_eq] at g7);(try simp only [beq_iff_eq,beq_eq_false_iff_ne,bne_iff_ne,bne_eq_false_iff_eq,ne_eq] at g8);(try simp only [beq_iff_eq,beq_eq_false_iff_ne,bne_iff_ne,bne_eq_false_iff_eq,ne_eq] at g9);simp [shapedS_succ,partS_eq,headB_zero,Nd.sub,g1,g2,g3,g5,g6,g7,g8,g9]),bTh HBOX.out HC6.out⟩
         | true=>
          try rw [g9]
          go_wp2_with fail;refine ((stP_any _).2.calls t At ct _ (kb HK_t HC6)).mono ?_;rintro e w7 ⟨rfl,hb7⟩;have HC7:=hid (bTh HC6.out hb7);clear hb7;clear x_ fx fy fz fv fu ft;have x_:=(nb HAT HC7).all;have fx:=(nb HX_x HC7).all;have fy:=(nb HX_y HC7).all;have fz:=(nb HX_z HC7).all;have fv:=(nb HX_v HC7).all;have fu:=(nb HX_u HC7).all;have ft:=(nb HX_t HC7).all;go_wp2;go_ret;exact ⟨rBo (by (try simp only [beq_iff_eq,beq_eq_false_iff_ne,bne_iff_ne,bne_eq_false_iff_eq,ne_eq] at g1);(try simp only [beq_iff_eq,beq_eq_false_iff_ne,bne_iff_ne,bne_eq_false_iff_eq,ne_eq] at g2);(try simp only [beq_iff_eq,beq_eq_false_iff_ne,bne_iff_ne,bne_eq_false_iff_eq,ne_eq] at g3);(try simp only [beq_iff_eq,beq_eq_false_iff_ne,bne_iff_ne,bne_eq_false_iff_eq,ne_eq] at g5);(try simp only [beq_iff_eq,beq_eq_false_iff_ne,bne_iff_ne,bne_eq_false_iff_eq,ne_eq] at g6);(try simp only [beq_iff_eq,beq_eq_false_iff_ne,bne_iff_ne,bne_eq_false_iff_eq,ne_eq] at g7);(try simp only [beq_iff_eq,beq_eq_false_iff_ne,bne_iff_ne,bne_eq_false_iff_eq,ne_eq] at g8);(try simp only [beq_iff_eq,beq_eq_false_iff_ne,bne_iff_ne,bne_eq_false_iff_eq,ne_eq] at g9);simp [shapedS_succ,partS_eq,headB_zero,Nd.sub,g1,g2,g3,g5,g6,g7,g8,g9]),bTh HBOX.out HC7.out⟩
end Go.Proofs.YtneohanphabneaaGreatDoor
