/-
The program's test of a tree's shape, the walks. Conditions: the tree lies in memory.
-/
import Derived.Test.YtneohanphabneaaGreatDoorShapeR5
namespace Go.Proofs.YtneohanphabneaaGreatDoor
set_option linter.unusedSimpArgs false
set_option linter.unusedVariables false
section
open Go.RowKit
theorem headB_zero (n:Nd) (kind:Int) (named:Bool) (many:Int):headB n kind named 0 many=(decide (n.kind=kind) && decide (n.num=0) && (decide (many<0) || decide ((n.subs.length:Int)=many)) && (if named then nameB n.name else emptyB n.name)):=by
 simp only [headB]
 have:(decide (0≤n.num) && decide (n.num≤0))=decide (n.num=0):=by
  rw [← Bool.decide_and];congr 1;apply propext;omega
 rw [Bool.and_assoc (decide (n.kind=kind)),this]
theorem headB_one (n:Nd) (kind:Int) (named:Bool) (many:Int):headB n kind named 1 many=(decide (n.kind=kind) && (decide (n.num=0) || decide (n.num=1)) && (decide (many<0) || decide ((n.subs.length:Int)=many)) && (if named then nameB n.name else emptyB n.name)):=by
 simp only [headB]
 have:(decide (0≤n.num) && decide (n.num≤1))=(decide (n.num=0) || decide (n.num=1)):=by
  rw [← Bool.decide_and,← Bool.decide_or];congr 1;apply propext;omega
 rw [Bool.and_assoc (decide (n.kind=kind)),this]
/-- 'plain', 'leaf'. -/
def plainB (n:Nd) (kind many:Int):Bool:=decide (n.kind=kind) && emptyB n.name && decide (n.num=0) && decide ((n.subs.length:Int)=many)
def leafB (n:Nd) (kind:Int):Bool:=decide (n.kind=kind) && decide (n.num=0) && decide (n.subs.length=0)
def declaredB (n:Nd) (kind:Int) (p:Nd→Bool):Bool:=decide (n.kind=kind) && nameB n.name && (decide (n.num=0) || decide (n.num=1)) && decide (n.subs.length=1) && p (n.sub 0)
def listB (n:Nd) (p:Nd→Bool):Bool:=plainB n 1 n.subs.length && n.subs.all p
/-- What a function of the program says of a tree, d levels deep. -/
structure AskFn (g:Nat) (d:Nat) (p:Nd→Bool):Prop where
 enters:∀args w,(callFunc g args).run Tryz.prog w=.ok (.enter g args) w
 calls:∀(n:Nd) (A:Option Addr) (c:Nat) (w:World),Kids w d n A c→Calls Tryz.prog g #[.agg #[.int .i64 n.kind,.string n.name,.int .i64 n.num,.int .i64 n.pos,.slice A n.subs.length c]] w fun e w'=>e=.returned (.bool (p n))∧Below w.heap.size w w'
set_option maxHeartbeats 1000000 in
theorem plain_any (n:Nd) (A:Option Addr) (c:Nat) (kind many:Int) (w:World) (hlen:n.subs.length≤maxLen):
  Calls Tryz.prog 101 #[.agg #[.int .i64 n.kind,.string n.name,.int .i64 n.num,.int .i64 n.pos,.slice A n.subs.length c],.int .i64 kind,.int .i64 many] w fun e w'=>e=.returned (.bool (plainB n kind many))∧Below w.heap.size w w':=by
 obtain ⟨k,s,num,pos,subs⟩:=n;unfold maxLen at hlen;simp only at hlen;have HBX:=hid (bBw w (.cells #[.int .i64 k,.string s,.int .i64 num,.int .i64 pos,.slice A subs.length c] 24))
 cases h1:(k==kind) with
 | false=>
  have H1:=hid h1;go_enter Tryz.func101,Tryz.ntmps101;go_wp2;go_ret;exact ⟨rBo (by simp_all [plainB,← empty_eq]),HBX.out⟩
 | true=>
  have H1:=hid h1
  cases h2:s.toList.isEmpty with
  | false=>
   have H2:=hid h2;go_enter Tryz.func101,Tryz.ntmps101;go_wp2;go_ret;exact ⟨rBo (by simp_all [plainB,← empty_eq]),HBX.out⟩
  | true=>
   have H2:=hid h2
   cases h3:(num==0) with
   | false=>
    have H3:=hid h3;go_enter Tryz.func101,Tryz.ntmps101;go_wp2;go_ret;exact ⟨rBo (by simp_all [plainB,← empty_eq]),HBX.out⟩
   | true=>
    have H3:=hid h3
    cases h4:((subs.length:Int)==many) with
    | false=>
     have H4:=hid h4;go_enter Tryz.func101,Tryz.ntmps101;go_wp2;go_ret;exact ⟨rBo (by simp_all [plainB,← empty_eq]),HBX.out⟩
    | true=>
     have H4:=hid h4;go_enter Tryz.func101,Tryz.ntmps101;go_wp2;go_ret;exact ⟨rBo (by simp_all [plainB,← empty_eq]),HBX.out⟩
set_option maxHeartbeats 1000000 in
theorem leaf_any (n:Nd) (A:Option Addr) (c:Nat) (kind:Int) (w:World) (hlen:n.subs.length≤maxLen):
  Calls Tryz.prog 52 #[.agg #[.int .i64 n.kind,.string n.name,.int .i64 n.num,.int .i64 n.pos,.slice A n.subs.length c],.int .i64 kind] w fun e w'=>e=.returned (.bool (leafB n kind))∧Below w.heap.size w w':=by
 obtain ⟨k,s,num,pos,subs⟩:=n;unfold maxLen at hlen;simp only at hlen;have HBX:=hid (bBw w (.cells #[.int .i64 k,.string s,.int .i64 num,.int .i64 pos,.slice A subs.length c] 24))
 cases h1:(k==kind) with
 | false=>
  have H1:=hid h1;go_enter Tryz.func52,Tryz.ntmps52;go_wp2;go_ret;exact ⟨rBo (by simp_all [leafB]),HBX.out⟩
 | true=>
  have H1:=hid h1
  cases h3:(num==0) with
  | false=>
   have H3:=hid h3;go_enter Tryz.func52,Tryz.ntmps52;go_wp2;go_ret;exact ⟨rBo (by simp_all [leafB]),HBX.out⟩
  | true=>
   have H3:=hid h3
   cases h4:((subs.length:Int)==0) with
   | false=>
    have H4:=hid h4;go_enter Tryz.func52,Tryz.ntmps52;go_wp2;go_ret;exact ⟨rBo (by simp_all [leafB]),HBX.out⟩
   | true=>
    have H4:=hid h4;go_enter Tryz.func52,Tryz.ntmps52;go_wp2;go_ret;exact ⟨rBo (by simp_all [leafB]),HBX.out⟩
set_option maxRecDepth 100000 in
set_option maxHeartbeats 1000000 in
theorem each_any (g d:Nat) (q:Nd→Bool) (hg:AskFn g d q) (l:List Nd) (A:Option Addr) (c:Nat) (w:World) (hk:KidsL w d l A c):
  Calls Tryz.prog 102 #[.slice A l.length c,.func (.func g) #[] #[]] w fun e w'=>e=.returned (.bool (l.all q))∧Below w.heap.size w w':=by
 have hlen:=hk.len;unfold maxLen at hlen;have eg:=hg.enters;have HG:=hid hg;have HK:=hid hk;clear hk hg;go_enter Tryz.func102,Tryz.ntmps102;go_wp2;go_loopw [9] (fun ii wr=>∃j:Nat,j≤l.length∧ii=.int .i64 j∧(l.take j).all q=true∧Below w.heap.size w wr) (fun ii _=>l.length - (intOf ii).toNat)
 case atStart=>exact ⟨0,Nat.zero_le _,rfl,rfl,Below.refl _ _⟩
 case round=>
  obtain ⟨j,hj,rfl,hall,hbr⟩:=hrel;have HBR:=hid hbr;have HALL:=hid hall;clear hbr hall;by_cases hlt:j<l.length
  ·obtain ⟨y,hy⟩:∃y,l[j]?=some y:=⟨_,List.getElem?_eq_getElem hlt⟩;obtain ⟨b,o,Ax,cx,hA,hx,hkx⟩:=HK.out.2.2 j y hy;subst hA;have HY:=hid hy;have HKX:=hid hkx;have HX:=hid hx;clear hy hkx hx;have x:=(HX.out.below HBR.out).all;go_wp2_with fail;generalize hV:wr.alloc (.cells #[.int .i64 y.kind,.string y.name,.int .i64 y.num,.int .i64 y.pos,.slice Ax y.subs.length cx] 24)=V at *;have HV:=hid (show Below w.heap.size w V by rw [← hV];exact bTh HBR.out (bBw _ _));clear hV;refine (HG.out.calls y Ax cx V (HKX.out.below HV.out)).mono ?_;rintro e w2 ⟨rfl,hb2⟩;have HB2:=hid (bTh HV.out hb2);clear hb2
   cases hp:q y with
   | false=>
    have FIN:=hid (bad_at (p:=q) HY.out hp);clear hp;go_wp2;go_ret;exact ⟨rBo FIN.out.symm,HB2.out⟩
   | true=>
    have STEP:=hid (step_at (p:=q) HY.out HALL.out hp);clear hp;go_wp2;go_roundw
    case rel=>exact ⟨j+1,by omega,by go_num,STEP.out,HB2.out⟩
    case measure=>simp [intOf];omega
  ·go_wp2;go_ret;exact ⟨rBo (all_end hlt HALL.out).symm,HBR.out⟩
theorem plainB_len {n:Nd} {kind many:Int} (h:plainB n kind many=true):(n.subs.length:Int)=many:=by
 simp only [plainB,Bool.and_eq_true,decide_eq_true_eq] at h;exact h.2
set_option maxHeartbeats 1000000 in
theorem list_any (g d:Nat) (q:Nd→Bool) (hg:AskFn g d q) (n:Nd) (A:Option Addr) (c:Nat) (w:World) (hk:Kids w (d+1) n A c):
  Calls Tryz.prog 50 #[.agg #[.int .i64 n.kind,.string n.name,.int .i64 n.num,.int .i64 n.pos,.slice A n.subs.length c],.func (.func g) #[] #[]] w fun e w'=>e=.returned (.bool (listB n q))∧Below w.heap.size w w':=by
 obtain ⟨k,s,num,pos,subs⟩:=n;have hlen:=hk.len;have hsz:=hk.name_le;unfold maxLen at hlen hsz;simp only at hlen hsz;have HAT:=hid (bAt w ⟨k,s,num,pos,subs⟩ A c 24);have HKL:=hid ((hk.list).below (bBw w (.cells #[.int .i64 k,.string s,.int .i64 num,.int .i64 pos,.slice A subs.length c] 24)));clear hk;go_enter Tryz.func50,Tryz.ntmps50;go_wp2_with fail;generalize hW0:w.alloc (.cells #[.int .i64 k,.string s,.int .i64 num,.int .i64 pos,.slice A subs.length c] 24)=W0 at *;have HBOX:=hid (show Below w.heap.size w W0 by rw [← hW0];exact bBw _ _);clear hW0;refine (plain_any ⟨k,s,num,pos,subs⟩ A c 1 subs.length _ (by unfold maxLen;omega)).mono ?_;rintro e w1 ⟨rfl,hb1⟩;have HC1:=hid hb1;clear hb1;have x:=(nb HAT HC1).all
 cases g1:plainB ⟨k,s,num,pos,subs⟩ 1 subs.length with
 | false=>
  try rw [g1]
  go_wp2;go_ret;exact ⟨rBo (by (try simp only [beq_iff_eq,beq_eq_false_iff_ne,bne_iff_ne,bne_eq_false_iff_eq,ne_eq] at g1);simp [listB,g1]),bTh HBOX.out HC1.out⟩
 | true=>
  try rw [g1]
  go_wp2_with fail;refine (each_any g d q hg subs A c _ (HKL.out.below HC1.out)).mono ?_;rintro e w2 ⟨rfl,hb2⟩;have HC2:=hid (bTh HC1.out hb2);clear hb2;clear x;have x:=(nb HAT HC2).all;go_wp2;go_ret;exact ⟨rBo (by (try simp only [beq_iff_eq,beq_eq_false_iff_ne,bne_iff_ne,bne_eq_false_iff_eq,ne_eq] at g1);simp [listB,g1]),bTh HBOX.out HC2.out⟩
set_option maxHeartbeats 1000000 in
theorem declared_any (g d:Nat) (q:Nd→Bool) (hg:AskFn g d q) (n:Nd) (A:Option Addr) (c:Nat) (kind:Int) (w:World) (hk:Kids w (d+1) n A c):
  Calls Tryz.prog 54 #[.agg #[.int .i64 n.kind,.string n.name,.int .i64 n.num,.int .i64 n.pos,.slice A n.subs.length c],.int .i64 kind,.func (.func g) #[] #[]] w fun e w'=>e=.returned (.bool (declaredB n kind q))∧Below w.heap.size w w':=by
 have eg:=hg.enters;have HG:=hid hg;clear hg;obtain ⟨k,s,num,pos,subs⟩:=n;have hlen:=hk.len;have hsz:=hk.name_le;unfold maxLen at hlen hsz;simp only at hlen hsz
 cases g1:(k==kind) with
 | false=>
  have HAT:=hid (bAt w ⟨k,s,num,pos,subs⟩ A c 24);clear hk;go_enter Tryz.func54,Tryz.ntmps54;go_wp2;go_ret;exact ⟨rBo (by (try simp only [beq_iff_eq,beq_eq_false_iff_ne,bne_iff_ne,bne_eq_false_iff_eq,ne_eq] at g1);simp [declaredB,Nd.sub,g1]),bBw _ _⟩
 | true=>
  cases g2:nameB s with
  | false=>
   have HAT:=hid (bAt w ⟨k,s,num,pos,subs⟩ A c 24);clear hk;go_enter Tryz.func54,Tryz.ntmps54;go_wp2_with fail;generalize hW0:w.alloc (.cells #[.int .i64 k,.string s,.int .i64 num,.int .i64 pos,.slice A subs.length c] 24)=W0 at *;have HBOX:=hid (show Below w.heap.size w W0 by rw [← hW0];exact bBw _ _);clear hW0;refine (scanName_any s _ (by unfold maxLen;omega)).mono ?_;rintro e w1 ⟨rfl,hb1⟩;have HC1:=hid hb1;clear hb1;have x_:=(nb HAT HC1).all
   try rw [g2]
   go_wp2;go_ret;exact ⟨rBo (by (try simp only [beq_iff_eq,beq_eq_false_iff_ne,bne_iff_ne,bne_eq_false_iff_eq,ne_eq] at g1);(try simp only [beq_iff_eq,beq_eq_false_iff_ne,bne_iff_ne,bne_eq_false_iff_eq,ne_eq] at g2);simp [declaredB,Nd.sub,g1,g2]),bTh HBOX.out HC1.out⟩
  | true=>
   cases g3:(num==0) with
   | true=>
    cases lg5_1:((subs.length:Int)==1) with
    | false=>
     have HAT:=hid (bAt w ⟨k,s,num,pos,subs⟩ A c 24);clear hk;go_enter Tryz.func54,Tryz.ntmps54;go_wp2_with fail;generalize hW0:w.alloc (.cells #[.int .i64 k,.string s,.int .i64 num,.int .i64 pos,.slice A subs.length c] 24)=W0 at *;have HBOX:=hid (show Below w.heap.size w W0 by rw [← hW0];exact bBw _ _);clear hW0;refine (scanName_any s _ (by unfold maxLen;omega)).mono ?_;rintro e w1 ⟨rfl,hb1⟩;have HC1:=hid hb1;clear hb1;have x_:=(nb HAT HC1).all
     try rw [g2]
     go_wp2;go_ret;exact ⟨rBo (by (try simp only [beq_iff_eq,beq_eq_false_iff_ne,bne_iff_ne,bne_eq_false_iff_eq,ne_eq] at g1);(try simp only [beq_iff_eq,beq_eq_false_iff_ne,bne_iff_ne,bne_eq_false_iff_eq,ne_eq] at g2);(try simp only [beq_iff_eq,beq_eq_false_iff_ne,bne_iff_ne,bne_eq_false_iff_eq,ne_eq] at g3);have lg5_1':¬subs.length=1∧¬(subs.length:Int)=1:=(by constructor <;> intro hh <;> simp [hh] at lg5_1);simp [declaredB,Nd.sub,g1,g2,g3,lg5_1'.1,lg5_1'.2]),bTh HBOX.out HC1.out⟩
    | true=>
     obtain ⟨x,rfl⟩:=len1 (l:=subs) ((by simpa using lg5_1));obtain ⟨b,o,Ax,cx,rfl,hx_x,hk_x⟩:=hk.one (x:=x) (r:=[]) rfl;simp only [List.length_cons,List.length_nil,Nat.zero_add] at hlen;clear lg5_1;have HAT:=hid (bAt w ⟨k,s,num,pos,[x]⟩ (some ⟨b,o,none⟩) c 24);have HX_x:=hid (hx_x.below (bBw w (.cells #[.int .i64 k,.string s,.int .i64 num,.int .i64 pos,.slice (some ⟨b,o,none⟩) 1 c] 24)));have HK_x:=hid (hk_x.below (bBw w (.cells #[.int .i64 k,.string s,.int .i64 num,.int .i64 pos,.slice (some ⟨b,o,none⟩) 1 c] 24)));clear hx_x hk_x;clear hk;have fx:=HX_x.out.all;go_enter Tryz.func54,Tryz.ntmps54;go_wp2_with fail;generalize hW0:w.alloc (.cells #[.int .i64 k,.string s,.int .i64 num,.int .i64 pos,.slice (some ⟨b,o,none⟩) 1 c] 24)=W0 at *;have HBOX:=hid (show Below w.heap.size w W0 by rw [← hW0];exact bBw _ _);clear hW0;refine (scanName_any s _ (by unfold maxLen;omega)).mono ?_;rintro e w1 ⟨rfl,hb1⟩;have HC1:=hid hb1;clear hb1;clear fx;have x_:=(nb HAT HC1).all;have fx:=(nb HX_x HC1).all
     try rw [g2]
     go_wp2_with fail;refine (HG.out.calls x Ax cx _ (kb HK_x HC1)).mono ?_;rintro e w2 ⟨rfl,hb2⟩;have HC2:=hid (bTh HC1.out hb2);clear hb2;clear x_ fx;have x_:=(nb HAT HC2).all;have fx:=(nb HX_x HC2).all;go_wp2;go_ret;exact ⟨rBo (by (try simp only [beq_iff_eq,beq_eq_false_iff_ne,bne_iff_ne,bne_eq_false_iff_eq,ne_eq] at g1);(try simp only [beq_iff_eq,beq_eq_false_iff_ne,bne_iff_ne,bne_eq_false_iff_eq,ne_eq] at g2);(try simp only [beq_iff_eq,beq_eq_false_iff_ne,bne_iff_ne,bne_eq_false_iff_eq,ne_eq] at g3);simp [declaredB,Nd.sub,g1,g2,g3]),bTh HBOX.out HC2.out⟩
   | false=>
    cases g4:(num==1) with
    | true=>
     cases lg6_1:((subs.length:Int)==1) with
     | false=>
      have HAT:=hid (bAt w ⟨k,s,num,pos,subs⟩ A c 24);clear hk;go_enter Tryz.func54,Tryz.ntmps54;go_wp2_with fail;generalize hW0:w.alloc (.cells #[.int .i64 k,.string s,.int .i64 num,.int .i64 pos,.slice A subs.length c] 24)=W0 at *;have HBOX:=hid (show Below w.heap.size w W0 by rw [← hW0];exact bBw _ _);clear hW0;refine (scanName_any s _ (by unfold maxLen;omega)).mono ?_;rintro e w1 ⟨rfl,hb1⟩;have HC1:=hid hb1;clear hb1;have x_:=(nb HAT HC1).all
      try rw [g2]
      go_wp2;go_ret;exact ⟨rBo (by (try simp only [beq_iff_eq,beq_eq_false_iff_ne,bne_iff_ne,bne_eq_false_iff_eq,ne_eq] at g1);(try simp only [beq_iff_eq,beq_eq_false_iff_ne,bne_iff_ne,bne_eq_false_iff_eq,ne_eq] at g2);(try simp only [beq_iff_eq,beq_eq_false_iff_ne,bne_iff_ne,bne_eq_false_iff_eq,ne_eq] at g3);(try simp only [beq_iff_eq,beq_eq_false_iff_ne,bne_iff_ne,bne_eq_false_iff_eq,ne_eq] at g4);have lg6_1':¬subs.length=1∧¬(subs.length:Int)=1:=(by constructor <;> intro hh <;> simp [hh] at lg6_1);simp [declaredB,Nd.sub,g1,g2,g3,g4,lg6_1'.1,lg6_1'.2]),bTh HBOX.out HC1.out⟩
     | true=>
      obtain ⟨x,rfl⟩:=len1 (l:=subs) ((by simpa using lg6_1));obtain ⟨b,o,Ax,cx,rfl,hx_x,hk_x⟩:=hk.one (x:=x) (r:=[]) rfl;simp only [List.length_cons,List.length_nil,Nat.zero_add] at hlen;clear lg6_1;have HAT:=hid (bAt w ⟨k,s,num,pos,[x]⟩ (some ⟨b,o,none⟩) c 24);have HX_x:=hid (hx_x.below (bBw w (.cells #[.int .i64 k,.string s,.int .i64 num,.int .i64 pos,.slice (some ⟨b,o,none⟩) 1 c] 24)));have HK_x:=hid (hk_x.below (bBw w (.cells #[.int .i64 k,.string s,.int .i64 num,.int .i64 pos,.slice (some ⟨b,o,none⟩) 1 c] 24)));clear hx_x hk_x;clear hk;have fx:=HX_x.out.all;go_enter Tryz.func54,Tryz.ntmps54;go_wp2_with fail;generalize hW0:w.alloc (.cells #[.int .i64 k,.string s,.int .i64 num,.int .i64 pos,.slice (some ⟨b,o,none⟩) 1 c] 24)=W0 at *;have HBOX:=hid (show Below w.heap.size w W0 by rw [← hW0];exact bBw _ _);clear hW0;refine (scanName_any s _ (by unfold maxLen;omega)).mono ?_;rintro e w1 ⟨rfl,hb1⟩;have HC1:=hid hb1;clear hb1;clear fx;have x_:=(nb HAT HC1).all;have fx:=(nb HX_x HC1).all
      try rw [g2]
      go_wp2_with fail;refine (HG.out.calls x Ax cx _ (kb HK_x HC1)).mono ?_;rintro e w2 ⟨rfl,hb2⟩;have HC2:=hid (bTh HC1.out hb2);clear hb2;clear x_ fx;have x_:=(nb HAT HC2).all;have fx:=(nb HX_x HC2).all;go_wp2;go_ret;exact ⟨rBo (by (try simp only [beq_iff_eq,beq_eq_false_iff_ne,bne_iff_ne,bne_eq_false_iff_eq,ne_eq] at g1);(try simp only [beq_iff_eq,beq_eq_false_iff_ne,bne_iff_ne,bne_eq_false_iff_eq,ne_eq] at g2);(try simp only [beq_iff_eq,beq_eq_false_iff_ne,bne_iff_ne,bne_eq_false_iff_eq,ne_eq] at g3);(try simp only [beq_iff_eq,beq_eq_false_iff_ne,bne_iff_ne,bne_eq_false_iff_eq,ne_eq] at g4);simp [declaredB,Nd.sub,g1,g2,g3,g4]),bTh HBOX.out HC2.out⟩
    | false=>
     have HAT:=hid (bAt w ⟨k,s,num,pos,subs⟩ A c 24);clear hk;go_enter Tryz.func54,Tryz.ntmps54;go_wp2_with fail;generalize hW0:w.alloc (.cells #[.int .i64 k,.string s,.int .i64 num,.int .i64 pos,.slice A subs.length c] 24)=W0 at *;have HBOX:=hid (show Below w.heap.size w W0 by rw [← hW0];exact bBw _ _);clear hW0;refine (scanName_any s _ (by unfold maxLen;omega)).mono ?_;rintro e w1 ⟨rfl,hb1⟩;have HC1:=hid hb1;clear hb1;have x_:=(nb HAT HC1).all
     try rw [g2]
     go_wp2;go_ret;exact ⟨rBo (by (try simp only [beq_iff_eq,beq_eq_false_iff_ne,bne_iff_ne,bne_eq_false_iff_eq,ne_eq] at g1);(try simp only [beq_iff_eq,beq_eq_false_iff_ne,bne_iff_ne,bne_eq_false_iff_eq,ne_eq] at g2);(try simp only [beq_iff_eq,beq_eq_false_iff_ne,bne_iff_ne,bne_eq_false_iff_eq,ne_eq] at g3);(try simp only [beq_iff_eq,beq_eq_false_iff_ne,bne_iff_ne,bne_eq_false_iff_eq,ne_eq] at g4);simp [declaredB,Nd.sub,g1,g2,g3,g4]),bTh HBOX.out HC1.out⟩
end
section
open Go.RowKit
theorem head0 (n:Nd) (k:Int):headB n k false 0 0=plainB n k 0:=by
 rw [headB_zero];simp only [plainB];simp;cases decide (n.kind=k) <;> cases emptyB n.name <;> cases decide (n.num=0) <;> simp
theorem head1 (n:Nd) (k:Int):headB n k false 0 1=plainB n k 1:=by
 rw [headB_zero];simp only [plainB];simp;cases decide (n.kind=k) <;> cases emptyB n.name <;> cases decide (n.num=0) <;> simp
theorem head2 (n:Nd) (k:Int):headB n k false 0 2=plainB n k 2:=by
 rw [headB_zero];simp only [plainB];simp;cases decide (n.kind=k) <;> cases emptyB n.name <;> cases decide (n.num=0) <;> simp
theorem headL (n:Nd) (k:Int):headB n k false 0 (-1)=plainB n k n.subs.length:=by
 rw [headB_zero];simp only [plainB];simp;cases decide (n.kind=k) <;> cases emptyB n.name <;> cases decide (n.num=0) <;> simp
theorem leafName (n:Nd) (k:Int):(leafB n k && nameB n.name)=headB n k true 0 0:=by
 rw [headB_zero];simp only [leafB];cases decide (n.kind=k) <;> cases nameB n.name <;> cases decide (n.num=0) <;> simp
theorem declVar (n:Nd) (k:Int) (q:Nd→Bool):declaredB n k q=(headB n k true 1 1 && q (n.sub 0)):=by
 have e:decide ((n.subs.length:Int)=1)=decide (n.subs.length=1):=(by congr 1;apply propext;omega);rw [headB_one,e];simp only [declaredB];cases decide (n.kind=k) <;> cases nameB n.name <;> cases decide (n.num=0) <;> cases decide (n.num=1) <;> simp
theorem plainB_kind {n:Nd} {kind many:Int} (h:plainB n kind many=true):n.kind=kind:=by
 simp only [plainB,Bool.and_eq_true,decide_eq_true_eq] at h;exact h.1.1.1
theorem enters_fn {f : FuncId} {fn : Func} {c : Code} (hf : Tryz.prog.funcs[f]? = some fn) (hname : (fn.name == "runtime.NumGoroutine") = false) (hb : fn.body = some c) (args : Array Value) (w : World) : (callFunc f args).run Tryz.prog w = .ok (.enter f args) w := by
 have h1 : fn.name ≠ "runtime.NumGoroutine" := (by simpa using hname);simp [callFunc, hf, h1, hb]
set_option maxRecDepth 100000 in
set_option maxHeartbeats 4000000 in
theorem isRef_any (d:Nat):AskFn 107 d (fun x=>headB x 24 true 0 0):=by
 refine ⟨fun args w=>enters_fn Tryz.func107 (by kernel_rfl) rfl args w,?_⟩;intro n A c w hk;obtain ⟨k,s,num,pos,subs⟩:=n;have hlen:=hk.len;have hsz:=hk.name_le;unfold maxLen at hlen hsz;simp only at hlen hsz;have HAT:=hid (bAt w ⟨k,s,num,pos,subs⟩ A c 24);clear hk;go_enter Tryz.func107,Tryz.ntmps107;go_wp2_with fail;generalize hW0:w.alloc (.cells #[.int .i64 k,.string s,.int .i64 num,.int .i64 pos,.slice A subs.length c] 24)=W0 at *;have HBOX:=hid (show Below w.heap.size w W0 by rw [← hW0];exact bBw _ _);clear hW0;refine (leaf_any ⟨k,s,num,pos,subs⟩ A c 24 _ (by unfold maxLen;omega)).mono ?_;rintro e w1 ⟨rfl,hb1⟩;have HC1:=hid hb1;clear hb1;have x_:=(nb HAT HC1).all
 cases g1:leafB ⟨k,s,num,pos,subs⟩ 24 with
 | false=>
  try rw [g1]
  go_wp2;go_ret;exact ⟨rBo (by (try simp only [beq_iff_eq,beq_eq_false_iff_ne,bne_iff_ne,bne_eq_false_iff_eq,ne_eq] at g1);simp [← leafName,g1]),bTh HBOX.out HC1.out⟩
 | true=>
  try rw [g1]
  go_wp2_with fail;refine (scanName_any s _ (by unfold maxLen;omega)).mono ?_;rintro e w2 ⟨rfl,hb2⟩;have HC2:=hid (bTh HC1.out hb2);clear hb2;clear x_;have x_:=(nb HAT HC2).all;go_wp2;go_ret;exact ⟨rBo (by (try simp only [beq_iff_eq,beq_eq_false_iff_ne,bne_iff_ne,bne_eq_false_iff_eq,ne_eq] at g1);simp [← leafName,g1]),bTh HBOX.out HC2.out⟩
set_option maxRecDepth 100000 in
set_option maxHeartbeats 4000000 in
theorem isTypeName_any (d:Nat):AskFn 59 d nameS:=by
 refine ⟨fun args w=>enters_fn Tryz.func59 (by kernel_rfl) rfl args w,?_⟩;intro n A c w hk;obtain ⟨d,rfl⟩:∃d',d=d'+1:=(by cases d with | zero=>exact hk.elim | succ d=>exact ⟨d,rfl⟩);obtain ⟨k,s,num,pos,subs⟩:=n;have hlen:=hk.len;have hsz:=hk.name_le;unfold maxLen at hlen hsz;simp only at hlen hsz
 cases g1:(k != 13) with
 | true=>
  have HAT:=hid (bAt w ⟨k,s,num,pos,subs⟩ A c 24);clear hk;go_enter Tryz.func59,Tryz.ntmps59;go_wp2;go_ret;exact ⟨rBo (by (try simp only [bne_iff_ne,bne_eq_false_iff_eq,ne_eq] at g1);simp [nameS,headB_zero,Nd.sub,g1]),bBw _ _⟩
 | false=>
  cases g2:nameB s with
  | false=>
   have HAT:=hid (bAt w ⟨k,s,num,pos,subs⟩ A c 24);clear hk;go_enter Tryz.func59,Tryz.ntmps59;go_wp2_with fail;generalize hW0:w.alloc (.cells #[.int .i64 k,.string s,.int .i64 num,.int .i64 pos,.slice A subs.length c] 24)=W0 at *;have HBOX:=hid (show Below w.heap.size w W0 by rw [← hW0];exact bBw _ _);clear hW0;refine (scanName_any s _ (by unfold maxLen;omega)).mono ?_;rintro e w1 ⟨rfl,hb1⟩;have HC1:=hid hb1;clear hb1;have x_:=(nb HAT HC1).all
   try rw [g2]
   go_wp2;go_ret;exact ⟨rBo (by (try simp only [bne_iff_ne,bne_eq_false_iff_eq,ne_eq] at g1);(try simp only [bne_iff_ne,bne_eq_false_iff_eq,ne_eq] at g2);simp [nameS,headB_zero,Nd.sub,g1,g2]),bTh HBOX.out HC1.out⟩
  | true=>
   cases g3:(num != 0) with
   | true=>
    have HAT:=hid (bAt w ⟨k,s,num,pos,subs⟩ A c 24);clear hk;go_enter Tryz.func59,Tryz.ntmps59;go_wp2_with fail;generalize hW0:w.alloc (.cells #[.int .i64 k,.string s,.int .i64 num,.int .i64 pos,.slice A subs.length c] 24)=W0 at *;have HBOX:=hid (show Below w.heap.size w W0 by rw [← hW0];exact bBw _ _);clear hW0;refine (scanName_any s _ (by unfold maxLen;omega)).mono ?_;rintro e w1 ⟨rfl,hb1⟩;have HC1:=hid hb1;clear hb1;have x_:=(nb HAT HC1).all
    try rw [g2]
    go_wp2;go_ret;exact ⟨rBo (by (try simp only [bne_iff_ne,bne_eq_false_iff_eq,ne_eq] at g1);(try simp only [bne_iff_ne,bne_eq_false_iff_eq,ne_eq] at g2);(try simp only [bne_iff_ne,bne_eq_false_iff_eq,ne_eq] at g3);simp [nameS,headB_zero,Nd.sub,g1,g2,g3]),bTh HBOX.out HC1.out⟩
   | false=>
    rcases subs with _ | ⟨x,_ | ⟨y,r⟩⟩
    ·skip;have HAT:=hid (bAt w ⟨k,s,num,pos,[]⟩ A c 24);have HKL:=hid ((hk.list).below (bBw w (.cells #[.int .i64 k,.string s,.int .i64 num,.int .i64 pos,.slice A 0 c] 24)));clear hk;go_enter Tryz.func59,Tryz.ntmps59;go_wp2_with fail;generalize hW0:w.alloc (.cells #[.int .i64 k,.string s,.int .i64 num,.int .i64 pos,.slice A 0 c] 24)=W0 at *;have HBOX:=hid (show Below w.heap.size w W0 by rw [← hW0];exact bBw _ _);clear hW0;refine (scanName_any s _ (by unfold maxLen;omega)).mono ?_;rintro e w1 ⟨rfl,hb1⟩;have HC1:=hid hb1;clear hb1;have x_:=(nb HAT HC1).all
     try rw [g2]
     go_wp2_with fail;refine (each_any _ d _ (isRef_any d) [] A c _ (HKL.out.below HC1.out)).mono ?_;rintro e w2 ⟨rfl,hb2⟩;have HC2:=hid (bTh HC1.out hb2);clear hb2;clear x_;have x_:=(nb HAT HC2).all;go_wp2;go_ret;exact ⟨rBo (by (try simp only [bne_iff_ne,bne_eq_false_iff_eq,ne_eq] at g1);(try simp only [bne_iff_ne,bne_eq_false_iff_eq,ne_eq] at g2);(try simp only [bne_iff_ne,bne_eq_false_iff_eq,ne_eq] at g3);simp [nameS,headB_zero,Nd.sub,g1,g2,g3]),bTh HBOX.out HC2.out⟩
    ·skip;simp only [List.length_cons,List.length_nil,Nat.zero_add] at hlen;obtain ⟨b,o,Ax,cx,rfl,hx_x,hk_x⟩:=hk.one (x:=x) (r:=[]) rfl;have HAT:=hid (bAt w ⟨k,s,num,pos,[x]⟩ (some ⟨b,o,none⟩) c 24);have HX_x:=hid (hx_x.below (bBw w (.cells #[.int .i64 k,.string s,.int .i64 num,.int .i64 pos,.slice (some ⟨b,o,none⟩) 1 c] 24)));have HK_x:=hid (hk_x.below (bBw w (.cells #[.int .i64 k,.string s,.int .i64 num,.int .i64 pos,.slice (some ⟨b,o,none⟩) 1 c] 24)));clear hx_x hk_x;have HKL:=hid ((hk.list).below (bBw w (.cells #[.int .i64 k,.string s,.int .i64 num,.int .i64 pos,.slice (some ⟨b,o,none⟩) 1 c] 24)));clear hk;have fx:=HX_x.out.all;go_enter Tryz.func59,Tryz.ntmps59;go_wp2_with fail;generalize hW0:w.alloc (.cells #[.int .i64 k,.string s,.int .i64 num,.int .i64 pos,.slice (some ⟨b,o,none⟩) 1 c] 24)=W0 at *;have HBOX:=hid (show Below w.heap.size w W0 by rw [← hW0];exact bBw _ _);clear hW0;refine (scanName_any s _ (by unfold maxLen;omega)).mono ?_;rintro e w1 ⟨rfl,hb1⟩;have HC1:=hid hb1;clear hb1;clear fx;have x_:=(nb HAT HC1).all;have fx:=(nb HX_x HC1).all
     try rw [g2]
     go_wp2_with fail;refine (each_any _ d _ (isRef_any d) [x] (some ⟨b,o,none⟩) c _ (HKL.out.below HC1.out)).mono ?_;rintro e w2 ⟨rfl,hb2⟩;have HC2:=hid (bTh HC1.out hb2);clear hb2;clear x_ fx;have x_:=(nb HAT HC2).all;have fx:=(nb HX_x HC2).all;go_wp2;go_ret;exact ⟨rBo (by (try simp only [bne_iff_ne,bne_eq_false_iff_eq,ne_eq] at g1);(try simp only [bne_iff_ne,bne_eq_false_iff_eq,ne_eq] at g2);(try simp only [bne_iff_ne,bne_eq_false_iff_eq,ne_eq] at g3);simp [nameS,headB_zero,Nd.sub,g1,g2,g3]),bTh HBOX.out HC2.out⟩
    ·skip;simp only [List.length_cons] at hlen;have HAT:=hid (bAt w ⟨k,s,num,pos,x::y::r⟩ A c 24);clear hk;go_enter Tryz.func59,Tryz.ntmps59;go_wp2_with fail;generalize hW0:w.alloc (.cells #[.int .i64 k,.string s,.int .i64 num,.int .i64 pos,.slice A (r.length+1+1) c] 24)=W0 at *;have HBOX:=hid (show Below w.heap.size w W0 by rw [← hW0];exact bBw _ _);clear hW0;refine (scanName_any s _ (by unfold maxLen;omega)).mono ?_;rintro e w1 ⟨rfl,hb1⟩;have HC1:=hid hb1;clear hb1;have x_:=(nb HAT HC1).all
     try rw [g2]
     go_wp2;go_ret;exact ⟨rBo (by (try simp only [bne_iff_ne,bne_eq_false_iff_eq,ne_eq] at g1);(try simp only [bne_iff_ne,bne_eq_false_iff_eq,ne_eq] at g2);(try simp only [bne_iff_ne,bne_eq_false_iff_eq,ne_eq] at g3);simp [nameS,headB_zero,Nd.sub,g1,g2,g3]),bTh HBOX.out HC1.out⟩
set_option maxRecDepth 100000 in
set_option maxHeartbeats 4000000 in
theorem perhaps_any (d:Nat):AskFn 105 d (fun x=>headB x 0 false 0 0 || nameS x):=by
 refine ⟨fun args w=>enters_fn Tryz.func105 (by kernel_rfl) rfl args w,?_⟩;intro n A c w hk;obtain ⟨k,s,num,pos,subs⟩:=n;have hlen:=hk.len;have hsz:=hk.name_le;unfold maxLen at hlen hsz;simp only at hlen hsz;have HKN:=hid (hk.below (bBw w (.cells #[.int .i64 k,.string s,.int .i64 num,.int .i64 pos,.slice A subs.length c] 24)));have HAT:=hid (bAt w ⟨k,s,num,pos,subs⟩ A c 24);clear hk;go_enter Tryz.func105,Tryz.ntmps105;go_wp2_with fail;generalize hW0:w.alloc (.cells #[.int .i64 k,.string s,.int .i64 num,.int .i64 pos,.slice A subs.length c] 24)=W0 at *;have HBOX:=hid (show Below w.heap.size w W0 by rw [← hW0];exact bBw _ _);clear hW0;refine (plain_any ⟨k,s,num,pos,subs⟩ A c 0 0 _ (by unfold maxLen;omega)).mono ?_;rintro e w1 ⟨rfl,hb1⟩;have HC1:=hid hb1;clear hb1;have x_:=(nb HAT HC1).all
 cases g1:plainB ⟨k,s,num,pos,subs⟩ 0 0 with
 | false=>
  try rw [g1]
  go_wp2_with fail;refine ((isTypeName_any d).calls ⟨k,s,num,pos,subs⟩ A c _ (HKN.out.below HC1.out)).mono ?_;rintro e w2 ⟨rfl,hb2⟩;have HC2:=hid (bTh HC1.out hb2);clear hb2;clear x_;have x_:=(nb HAT HC2).all;go_wp2;go_ret;exact ⟨rBo (by (try simp only [beq_iff_eq,beq_eq_false_iff_ne,bne_iff_ne,bne_eq_false_iff_eq,ne_eq] at g1);simp [head0,g1]),bTh HBOX.out HC2.out⟩
 | true=>
  try rw [g1]
  go_wp2;go_ret;exact ⟨rBo (by (try simp only [beq_iff_eq,beq_eq_false_iff_ne,bne_iff_ne,bne_eq_false_iff_eq,ne_eq] at g1);simp [head0,g1]),bTh HBOX.out HC1.out⟩
set_option maxRecDepth 100000 in
set_option maxHeartbeats 4000000 in
theorem isField_any (d:Nat):AskFn 106 d (fun x=>decide (x.kind=11) && varS x 11):=by
 refine ⟨fun args w=>enters_fn Tryz.func106 (by kernel_rfl) rfl args w,?_⟩;intro n A c w hk;obtain ⟨d,rfl⟩:∃d',d=d'+1:=(by cases d with | zero=>exact hk.elim | succ d=>exact ⟨d,rfl⟩);obtain ⟨k,s,num,pos,subs⟩:=n;have hlen:=hk.len;have hsz:=hk.name_le;unfold maxLen at hlen hsz;simp only at hlen hsz;have HKN:=hid (hk.below (bBw w (.cells #[.int .i64 k,.string s,.int .i64 num,.int .i64 pos,.slice A subs.length c] 24)));have HAT:=hid (bAt w ⟨k,s,num,pos,subs⟩ A c 24);clear hk;go_enter Tryz.func106,Tryz.ntmps106;go_wp2_with fail;generalize hW0:w.alloc (.cells #[.int .i64 k,.string s,.int .i64 num,.int .i64 pos,.slice A subs.length c] 24)=W0 at *;have HBOX:=hid (show Below w.heap.size w W0 by rw [← hW0];exact bBw _ _);clear hW0;refine (declared_any _ d _ (isTypeName_any d) ⟨k,s,num,pos,subs⟩ A c 11 _ HKN.out).mono ?_;rintro e w1 ⟨rfl,hb1⟩;have HC1:=hid hb1;clear hb1;have x_:=(nb HAT HC1).all;go_wp2;go_ret;exact ⟨rBo (by simp [declVar,varS,headB_one,Nd.sub,← Bool.and_assoc]),bTh HBOX.out HC1.out⟩
end
end Go.Proofs.YtneohanphabneaaGreatDoor
