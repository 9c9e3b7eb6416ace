/-
print.Text: the program's text of a tree, or its error. Conditions: the tree lies in memory; what its text takes is below a bound.
-/
import Derived.Test.YtneohanphabneaaGreatDoorWrMod
import Derived.Test.YtneohanphabneaaGreatDoorWr
import Derived.Test.YtneohanphabneaaGreatDoorShapeP6
namespace Go.Proofs.YtneohanphabneaaGreatDoor
set_option linter.unusedSimpArgs false
set_option linter.unusedVariables false
open Go.RowKit Go.BigFrame
theorem ret_val {a b:Value} (h:a=b):Ending.returned a=.returned b:=by rw [h]
/-- What print.Text answers: a text, an error. -/
def textV (d:Nat) (n:Nd):Value:=
 if shapedS (d+5) n=true then (if (printedT d n).size≤4000 then .tuple #[.string (printedT d n),.nilIface] else .tuple #[.string ⟨#[]⟩,.iface 26 (.int .i64 3)]) else .tuple #[.string ⟨#[]⟩,.iface 26 (.int .i64 10)]
theorem printedT_pos (d:Nat) (n:Nd):0<(printedT d n).size:=by
 unfold printedT;simp only [ByteArray.size_append,ba_size,List.size_toArray,List.length_cons,List.length_nil];omega
set_option maxHeartbeats 2000000 in
set_option maxRecDepth 100000 in
theorem Text_any (d:Nat) (n:Nd) (A:Option Addr) (c:Nat) (w:World) (hl:PowLaid w) (hk:Kids w (d+5) n A c) (hsz:shapedS (d+5) n=true→(printedT d n).size≤maxW) (hd:d≤900):
  Calls Tryz.prog 9 #[.agg #[.int .i64 n.kind,.string n.name,.int .i64 n.num,.int .i64 n.pos,.slice A n.subs.length c]] w fun e w'=>e=.returned (textV d n)∧Below w.heap.size w w':=by
 obtain ⟨k,s,num,pos,subs⟩:=n;have hSh:=(shapedP_any (d+3)).calls ⟨k,s,num,pos,subs⟩ A c;have HBX:=hid (bBw w (.cells #[.int .i64 k,.string s,.int .i64 num,.int .i64 pos,.slice A subs.length c] 24));have HAT:=hid (bAt w ⟨k,s,num,pos,subs⟩ A c 24);have HK:=hid hk;have HL:=hid hl;have HSH:=hid hSh;clear hk hl hSh
 cases hs:shapedS (d+5) ⟨k,s,num,pos,subs⟩ with
 | false=>
  have HS:=hid hs;have FIN:=hid (show textV d ⟨k,s,num,pos,subs⟩=.tuple #[.string ⟨#[]⟩,.iface 26 (.int .i64 10)] by unfold textV;rw [hs];rfl);clear hs hsz;go_enter Tryz.func9,Tryz.ntmps9;go_wp2_with fail;generalize hW0:w.alloc (.cells #[.int .i64 k,.string s,.int .i64 num,.int .i64 pos,.slice A subs.length c] 24)=W0 at *;clear hW0;refine (HSH.out W0 (HK.out.below HBX.out)).mono ?_;rintro e w1 ⟨rfl,hb1⟩;rw [HS.out];have HB1:=hid (bTh HBX.out hb1);clear hb1;go_wp2;go_ret2;exact ⟨ret_val FIN.out.symm,HB1.out⟩
 | true=>
  have hz:=hsz hs;have HS:=hid hs;have hpos:=printedT_pos d ⟨k,s,num,pos,subs⟩;obtain ⟨T,hT⟩:∃T,T=printedT d ⟨k,s,num,pos,subs⟩:=⟨_,rfl⟩;rw [← hT] at hz hpos;have HTT:=hid hT;unfold maxW at hz;clear hs hsz hT;go_enter Tryz.func9,Tryz.ntmps9;go_wp2_with fail;generalize hW0:w.alloc (.cells #[.int .i64 k,.string s,.int .i64 num,.int .i64 pos,.slice A subs.length c] 24)=W0 at *;clear hW0;refine (HSH.out W0 (HK.out.below HBX.out)).mono ?_;rintro e w1 ⟨rfl,hb1⟩;rw [HS.out];have HC1:=hid hb1;have HB1:=hid (bTh HBX.out hb1);have HB1W:=hid (bBw w1 (.cells #[.pointer none,.slice none 0 0,.int .i64 0] 55));have HFR:=hid (wr_fresh w1);have x0:=keep_cell HB1W.out (HAT.out.below hb1).c0;have x1:=keep_cell HB1W.out (HAT.out.below hb1).c1;have x2:=keep_cell HB1W.out (HAT.out.below hb1).c2;have x3:=keep_cell HB1W.out (HAT.out.below hb1).c3;have x4:=keep_cell HB1W.out (HAT.out.below hb1).c4;clear hb1;go_wp2_with fail;generalize hV:w1.alloc (.cells #[.pointer none,.slice none 0 0,.int .i64 0] 55)=V at *;clear hV;have hct:=wmodule_any d ⟨k,s,num,pos,subs⟩ A c w1 V w1.heap.size ⟨#[]⟩ (HL.out.below HB1.out) (HK.out.below HB1.out) HB1W.out HFR.out HS.out (by rw [← HTT.out];unfold maxW;simp only [ba_size,List.size_toArray,List.length_nil];omega) hd;refine hct.mono ?_;clear hct;rintro e V2 ⟨rfl,hw,ht⟩;rw [nil_ba,← HTT.out] at hw;have HW2:=hid hw;have HB2:=hid (HB1W.out.trans ht.below);clear hw ht x0 x1 x2 x3 x4;go_wp2_with fail;refine (wr_text _ _ T _ _ HW2.out hpos).mono ?_;rintro e V3 ⟨rfl,hb3⟩;have HB3:=hid (bTh HB1.out (HB2.out.trans hb3));clear hb3;by_cases h4:T.size≤4000
  ·have h4b:decide ((4000:Int)<(T.size:Int))=false:=decide_eq_false (by omega);have FIN:=hid (show textV d ⟨k,s,num,pos,subs⟩=.tuple #[.string T,.nilIface] by unfold textV;rw [if_pos HS.out,← HTT.out,if_pos h4]);clear h4;go_wp2;go_ret2;exact ⟨ret_val FIN.out.symm,HB3.out⟩
  ·have h4b:decide ((4000:Int)<(T.size:Int))=true:=decide_eq_true (by omega);have FIN:=hid (show textV d ⟨k,s,num,pos,subs⟩=.tuple #[.string ⟨#[]⟩,.iface 26 (.int .i64 3)] by unfold textV;rw [if_pos HS.out,← HTT.out,if_neg h4]);clear h4;go_wp2;go_ret2;exact ⟨ret_val FIN.out.symm,HB3.out⟩
end Go.Proofs.YtneohanphabneaaGreatDoor
