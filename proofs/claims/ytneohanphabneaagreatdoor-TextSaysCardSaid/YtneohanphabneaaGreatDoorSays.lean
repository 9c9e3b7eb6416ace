/-
The law PrintSays, at every tree that lies in memory: the walk. Conditions: the tree lies in memory; the variables are as they are laid.
-/
import Derived.Test.YtneohanphabneaaGreatDoorWrText
import Derived.Test.YtneohanphabneaaGreatDoorSize
import Derived.Test.YtneohanphabneaaGreatDoorIs
namespace Go.Proofs.YtneohanphabneaaGreatDoor
set_option linter.unusedSimpArgs false
set_option linter.unusedVariables false
open Go.RowKit Go.BigFrame
set_option maxRecDepth 100000 in
set_option maxHeartbeats 2000000 in
theorem printSays_any (d:Nat) (n:Nd) (A:Option Addr) (c:Nat) (w:World) (hkl:KeptLaid w) (hpl:PowLaid w) (hel:ErrLaid w) (hd:3000<d) (hk:KT w d n A c):
  Calls Tryz.prog 3 #[.agg #[.int .i64 n.kind,.string n.name,.int .i64 n.num,.int .i64 n.pos,.slice A n.subs.length c]] w fun e w'=>e=.returned (.bool true)∧Below w.heap.size w w':=by
 have HHUGE:=hid (fun V hV=>hugeTree_any d n A c V hd hV);have HSHAPED:=hid (fun V h1 h2=>Shaped_any 58 n A c V h1 h2);have HPRINTED:=hid (fun V h1 h2 h3=>Printed_any 55 n A c V h1 h2 h3);have HTEXT:=hid (fun V h1 h2 h3=>Text_any 55 n A c V h1 h2 h3 (by omega));obtain ⟨k,s,num,pos,subs⟩:=n;have HB0:=hid (bBw w (.cells #[.int .i64 k,.string s,.int .i64 num,.int .i64 pos,.slice A subs.length c] 24));have HAT:=hid (bAt w ⟨k,s,num,pos,subs⟩ A c 24);have HKL:=hid hkl;have HPL:=hid hpl;have HEL:=hid hel;have HK:=hid hk;clear hkl hpl hel hk
 cases hh:hugeB d ⟨k,s,num,pos,subs⟩ with
 | true=>
  have HH:=hid hh;clear hh;go_enter Tryz.func3,Tryz.ntmps3;go_wp2_with fail;generalize hW0:w.alloc (.cells #[.int .i64 k,.string s,.int .i64 num,.int .i64 pos,.slice A subs.length c] 24)=W0 at *;clear hW0;refine (HHUGE.out W0 (HK.out.below HB0.out)).mono ?_;rintro e w1 ⟨rfl,hb1⟩;rw [HH.out];have HB1:=hid (bTh HB0.out hb1);clear hb1;go_wp2;go_ret;exact ⟨rfl,HB1.out⟩
 | false=>
  have HH:=hid hh;have HK60:=hid (not_huge hd HK.out hh).1;have HCNT:=hid (not_huge hd HK.out hh).2;clear hh
  cases hs:shapedS 60 ⟨k,s,num,pos,subs⟩ with
  | false=>
   have HS:=hid hs;have FT:=hid (show textV 55 ⟨k,s,num,pos,subs⟩=.tuple #[.string ⟨#[]⟩,.iface 26 (.int .i64 10)] by unfold textV;rw [hs];rfl);clear hs;go_enter Tryz.func3,Tryz.ntmps3;go_wp2_with fail;generalize hW0:w.alloc (.cells #[.int .i64 k,.string s,.int .i64 num,.int .i64 pos,.slice A subs.length c] 24)=W0 at *;clear hW0;refine (HHUGE.out W0 (HK.out.below HB0.out)).mono ?_;rintro e w1 ⟨rfl,hb1⟩;rw [HH.out];have HC1:=hid hb1;have HB1:=hid (bTh HB0.out hb1);clear hb1;obtain ⟨x0,x1,x2,x3,x4⟩:=nb HAT HC1;go_wp2_with fail;refine (HSHAPED.out w1 (HKL.out.below HB1.out) (HK60.out.below HB1.out)).mono ?_;rintro e w2 ⟨rfl,hb2⟩;rw [HS.out];have HC2:=hid (bTh HC1.out hb2);have HB2:=hid (bTh HB1.out hb2);clear hb2 x0 x1 x2 x3 x4;obtain ⟨x0,x1,x2,x3,x4⟩:=nb HAT HC2;go_wp2_with fail;refine (HTEXT.out w2 (HPL.out.below HB2.out) (HK60.out.below HB2.out) (fun h=>by rw [HS.out] at h;cases h)).mono ?_;rintro e w3 ⟨rfl,hb3⟩;rw [FT.out];have HB3:=hid (bTh HB2.out hb3);clear hb3 x0 x1 x2 x3 x4;go_wp2_with fail;refine (Err_any 10 w3).mono ?_;rintro e w4 ⟨rfl,hb4⟩;have HB4:=hid (bTh HB3.out hb4);clear hb4;go_wp2_with fail;refine (Is_errno 10 w4 (HEL.out.below HB4.out)).mono ?_;rintro e w5 ⟨rfl,hb5⟩;have HB5:=hid (bTh HB4.out hb5);clear hb5;go_wp2;go_ret;exact ⟨rfl,HB5.out⟩
  | true=>
   have HS:=hid hs;have hpb:=printed_bound hs HCNT.out;obtain ⟨T,hT⟩:∃T,T=printedT 55 ⟨k,s,num,pos,subs⟩:=⟨_,rfl⟩;rw [← hT] at hpb;have HTT:=hid hT;clear hs hT;have heq:(T.toList==T.toList)=true:=(by simp);by_cases h4:T.size≤4000
   all_goals
    have FT:=hid (show textV 55 ⟨k,s,num,pos,subs⟩=(if T.size≤4000 then .tuple #[.string T,.nilIface] else .tuple #[.string ⟨#[]⟩,.iface 26 (.int .i64 3)]) by unfold textV;rw [if_pos HS.out,← HTT.out])
    first | have h4b:decide ((4000:Int)<(T.size:Int))=false:=decide_eq_false (by omega) | have h4b:decide ((4000:Int)<(T.size:Int))=true:=decide_eq_true (by omega)
    have H4:=hid h4;clear h4;go_enter Tryz.func3,Tryz.ntmps3;go_wp2_with fail;generalize hW0:w.alloc (.cells #[.int .i64 k,.string s,.int .i64 num,.int .i64 pos,.slice A subs.length c] 24)=W0 at *;clear hW0;refine (HHUGE.out W0 (HK.out.below HB0.out)).mono ?_;rintro e w1 ⟨rfl,hb1⟩;rw [HH.out];have HC1:=hid hb1;have HB1:=hid (bTh HB0.out hb1);clear hb1;obtain ⟨x0,x1,x2,x3,x4⟩:=nb HAT HC1;go_wp2_with fail;refine (HSHAPED.out w1 (HKL.out.below HB1.out) (HK60.out.below HB1.out)).mono ?_;rintro e w2 ⟨rfl,hb2⟩;rw [HS.out];have HC2:=hid (bTh HC1.out hb2);have HB2:=hid (bTh HB1.out hb2);clear hb2 x0 x1 x2 x3 x4;obtain ⟨x0,x1,x2,x3,x4⟩:=nb HAT HC2;go_wp2_with fail;refine (HPRINTED.out w2 (HK60.out.below HB2.out) HS.out (by rw [← HTT.out];unfold maxT;omega)).mono ?_;rintro e w3 ⟨rfl,hb3⟩;rw [← HTT.out];have HC3:=hid (bTh HC2.out hb3);have HB3:=hid (bTh HB2.out hb3);clear hb3 x0 x1 x2 x3 x4;obtain ⟨x0,x1,x2,x3,x4⟩:=nb HAT HC3;go_wp2_with fail;refine (HTEXT.out w3 (HPL.out.below HB3.out) (HK60.out.below HB3.out) (fun _=>by rw [← HTT.out];unfold maxW;omega)).mono ?_;rintro e w4 ⟨rfl,hb4⟩;rw [FT.out]
    first | rw [if_pos H4.out] | rw [if_neg H4.out]
    have HB4:=hid (bTh HB3.out hb4);clear hb4 x0 x1 x2 x3 x4;go_wp2_with fail;refine (Err_any _ w4).mono ?_;rintro e w5 ⟨rfl,hb5⟩;have HB5:=hid (bTh HB4.out hb5);clear hb5;go_wp2_with fail
    first | with_reducible refine (Is_nil w5).mono ?_ | with_reducible refine (Is_errno 3 w5 (HEL.out.below HB5.out)).mono ?_
    rintro e w6 ⟨rfl,hb6⟩;have HB6:=hid (bTh HB5.out hb6);clear hb6;go_wp2;go_ret;exact ⟨rfl,HB6.out⟩
end Go.Proofs.YtneohanphabneaaGreatDoor
