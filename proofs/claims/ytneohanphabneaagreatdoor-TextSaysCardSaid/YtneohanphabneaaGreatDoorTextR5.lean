/-
The document's text of a tree, the walks: lists of statements. Conditions: the tree lies in memory and is shaped; the text's length is below a bound.
-/
import Derived.Test.YtneohanphabneaaGreatDoorTextS
namespace Go.Proofs.YtneohanphabneaaGreatDoor
set_option linter.unusedSimpArgs false
set_option linter.unusedVariables false
open Go.RowKit Go.BigFrame
def Says_stmtText (d:Nat):Prop:=∀(n:Nd) (A:Option Addr) (c:Nat) (pad:ByteArray) (w:World),Kids w d n A c→stmtS d n=true→(stmtT d n pad).size≤maxT→pad.size≤maxT →
  Calls Tryz.prog 48 #[.agg #[.int .i64 n.kind,.string n.name,.int .i64 n.num,.int .i64 n.pos,.slice A n.subs.length c],.string pad] w fun e w'=>e=.returned (.string (stmtT d n pad))∧Below w.heap.size w w'
def Says_stmtsText (d:Nat):Prop:=∀(n:Nd) (A:Option Addr) (c:Nat) (pad:ByteArray) (w:World),Kids w d n A c→stmtsS d n=true→(stmtsT d n pad).size≤maxT→pad.size≤maxT →
  Calls Tryz.prog 23 #[.agg #[.int .i64 n.kind,.string n.name,.int .i64 n.num,.int .i64 n.pos,.slice A n.subs.length c],.string pad] w fun e w'=>e=.returned (.string (stmtsT d n pad))∧Below w.heap.size w w'
theorem getD_at {l:List Nd} {j:Nat} {y:Nd} (h:l[j]?=some y):l.getD j dNd=y:=by rw [List.getD_eq_getElem?_getD,h];rfl
set_option maxRecDepth 100000 in
set_option maxHeartbeats 4000000 in
theorem stmtsText_step (d:Nat) (hX:Says_stmtText d):Says_stmtsText (d+1):=by
 intro n A c pad w hk hs hsz hpad;obtain ⟨k,s,num,pos,subs⟩:=n;have hlen:=hk.len;unfold maxLen at hlen;simp only at hlen;rw [stmtsS_succ] at hs;simp only [listStep,Bool.and_eq_true] at hs;have HAL:=hid hs.2;rw [stmtsT_succ] at hsz;obtain ⟨f,hf⟩:∃f,f=lineT (stmtT d) subs pad:=⟨_,rfl⟩;have HF:=hid hf;simp only at hsz;rw [← hf] at hsz;have HSZ:=hid hsz;have HPAD:=hid hpad;clear hf hsz hs hpad;have HAT:=hid (bAt w ⟨k,s,num,pos,subs⟩ A c 24);have HKL:=hid ((hk.list).below (bBw w (.cells #[.int .i64 k,.string s,.int .i64 num,.int .i64 pos,.slice A subs.length c] 24)));clear hk;go_enter Tryz.func23,Tryz.ntmps23;go_wp2;generalize hW0:w.alloc (.cells #[.int .i64 k,.string s,.int .i64 num,.int .i64 pos,.slice A subs.length c] 24)=W0 at *;have HBOX:=hid (show Below w.heap.size w W0 by rw [← hW0];exact bBw _ _);clear hW0;go_loopw [5,6] (fun ss ii wr=>∃(j:Nat) (S:ByteArray),j≤subs.length∧ii=.int .i64 j∧ss=.string S∧S=upB f j∧Below W0.heap.size W0 wr) (fun _ ii _=>subs.length - (intOf ii).toNat)
 case atStart=>exact ⟨0,_,by omega,rfl,rfl,rfl,Below.refl _ _⟩
 case round=>
  obtain ⟨j,S,hj,rfl,rfl,hS,hbr⟩:=hrel;have HSS:=hid hS;have HCR:=hid hbr;clear hS hbr;have x:=(nb HAT HCR).all;by_cases hlt:j<subs.length
  ·skip;obtain ⟨y,hy⟩:∃y,subs[j]?=some y:=⟨_,List.getElem?_eq_getElem hlt⟩;obtain ⟨b,o,Ay,cy,hA,hx,hky⟩:=HKL.out.2.2 j y hy;subst hA;have HY:=hid (all_at HAL.out hy);have hus:=upB_size f hlt;have FJ:=hid (show f j=stmtT d y pad++(if j+1<subs.length then ⟨#[59]⟩ else ⟨#[]⟩)++⟨#[10]⟩ by rw [HF.out];simp only [lineT,getD_at hy]);have HX_y:=hid hx;have HK_y:=hid hky;clear hx hky hy;rw [FJ.out] at hus;obtain ⟨Ty,hT_y⟩:∃T,T=stmtT d y pad:=⟨_,rfl⟩;rw [← hT_y] at hus;have HT_y:=hid hT_y;clear hT_y
   have hz:S.size+Ty.size+1+(if j+1<subs.length then 1 else 0)≤1099511627776:=by
    have h:=HSZ.out;unfold maxT at h;rw [HSS.out];split <;> rename_i hc <;> simp only [hc,if_true,if_false,ByteArray.size_append,ba_size,List.size_toArray,List.length_cons,List.length_nil] at hus⊢ <;> omega
   clear hus;clear x;have x:=(nb HAT HCR).all;have fy:=(nb HX_y HCR).all;by_cases hc:j+1<subs.length
   ·skip;have hcb:decide ((j:Int)<(subs.length:Int) - 1)=true:=decide_eq_true (by omega);simp only [hc,if_true,if_false] at hz;have HC:=hid hc;clear hc;go_wp2_with fail;refine (hX y Ay cy pad _ (kb HK_y HCR) HY.out (by rw [← HT_y.out];unfold maxT;omega) HPAD.out).mono ?_;rintro e w1 ⟨rfl,hb1⟩;have HC1:=hid (bTh HCR.out hb1);clear hb1;clear x fy;have x:=(nb HAT HC1).all;have fy:=(nb HX_y HC1).all;rw [← HT_y.out];go_wp2;go_roundw
    case rel=>exact ⟨j+1,_,by omega,by go_num,rfl,by rw [upB,FJ.out,HSS.out,← HT_y.out,if_pos HC.out];simp only [ba_assoc],HC1.out⟩
    case measure=>simp [intOf];omega
   ·skip;have hcb:decide ((j:Int)<(subs.length:Int) - 1)=false:=decide_eq_false (by omega);simp only [hc,if_true,if_false] at hz;have HC:=hid hc;clear hc;go_wp2_with fail;refine (hX y Ay cy pad _ (kb HK_y HCR) HY.out (by rw [← HT_y.out];unfold maxT;omega) HPAD.out).mono ?_;rintro e w2 ⟨rfl,hb2⟩;have HC2:=hid (bTh HCR.out hb2);clear hb2;clear x fy;have x:=(nb HAT HC2).all;have fy:=(nb HX_y HC2).all;rw [← HT_y.out];go_wp2;go_roundw
    case rel=>exact ⟨j+1,_,by omega,by go_num,rfl,by rw [upB,FJ.out,HSS.out,← HT_y.out,if_neg HC.out];simp only [ba_assoc,nil_ba],HC2.out⟩
    case measure=>simp [intOf];omega
  ·skip;have hje:j=subs.length:=(by omega);go_wp2;go_ret;exact ⟨ret_str (by rw [stmtsT_succ,HSS.out,HF.out,hje]),bTh HBOX.out HCR.out⟩
end Go.Proofs.YtneohanphabneaaGreatDoor
