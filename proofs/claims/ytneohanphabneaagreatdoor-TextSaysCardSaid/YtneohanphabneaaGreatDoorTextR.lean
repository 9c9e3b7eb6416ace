/-
The document's text of a tree, the walks: numbers, names, ranks. Conditions: the tree lies in memory; the text's length is below a bound.
-/
import Derived.Test.YtneohanphabneaaGreatDoorBase
import Derived.Test.YtneohanphabneaaGreatDoorShapeR5
import Derived.Laws.BytesArg
namespace Go.Proofs.YtneohanphabneaaGreatDoor
set_option linter.unusedSimpArgs false
set_option linter.unusedVariables false
open Go.RowKit Go.BigFrame
/-- The bound on every text of these walks. -/
def maxT:Nat:=1099511627776
theorem starred_any (n:Nd) (A:Option Addr) (c:Nat) (w:World) (hsz:n.name.size≤maxT):
  Calls Tryz.prog 44 #[.agg #[.int .i64 n.kind,.string n.name,.int .i64 n.num,.int .i64 n.pos,.slice A n.subs.length c]] w fun e w'=>e=.returned (.string (starT n))∧Below w.heap.size w w':=by
 obtain ⟨k,s,num,pos,subs⟩:=n;unfold maxT at hsz;simp only at hsz;have HBX:=hid (bBw w (.cells #[.int .i64 k,.string s,.int .i64 num,.int .i64 pos,.slice A subs.length c] 24))
 cases h1:(num==1) with
 | true=>
  have H1:=hid (show num=1 by simpa using h1);go_enter Tryz.func44,Tryz.ntmps44;go_wp2;go_ret;exact ⟨ret_str (by simp [starT,H1.out]),HBX.out⟩
 | false=>
  have H1:=hid (show ¬num=1 by simpa using h1);go_enter Tryz.func44,Tryz.ntmps44;go_wp2;go_ret;exact ⟨ret_str (by simp [starT,H1.out]),HBX.out⟩
set_option maxHeartbeats 1000000 in
theorem nameText_any (d:Nat) (n:Nd) (A:Option Addr) (c:Nat) (w:World) (hk:Kids w d n A c) (hsz:(nameT n).size≤maxT):
  Calls Tryz.prog 47 #[.agg #[.int .i64 n.kind,.string n.name,.int .i64 n.num,.int .i64 n.pos,.slice A n.subs.length c]] w fun e w'=>e=.returned (.string (nameT n))∧Below w.heap.size w w':=by
 obtain ⟨d,rfl⟩:∃d',d=d'+1:=(by cases d with | zero=>exact hk.elim | succ d=>exact ⟨d,rfl⟩);obtain ⟨k,s,num,pos,subs⟩:=n;have hlen:=hk.len;unfold maxLen at hlen;simp only at hlen;unfold maxT at hsz
 cases h1:((subs.length:Int)==1) with
 | false=>
  have h1':¬subs.length=1:=(by intro hh;simp [hh] at h1);simp only [nameT,if_neg h1'] at hsz;have H1:=hid h1';clear h1';have HAT:=hid (bAt w ⟨k,s,num,pos,subs⟩ A c 24);clear hk;go_enter Tryz.func47,Tryz.ntmps47;go_wp2;go_ret;exact ⟨ret_str (by simp [nameT,H1.out]),bBw _ _⟩
 | true=>
  obtain ⟨x,rfl⟩:=len1 (l:=subs) (by simpa using h1);obtain ⟨b,o,Ax,cx,rfl,hx_x,hk_x⟩:=hk.one (x:=x) (r:=[]) rfl;simp only [List.length_cons,List.length_nil,Nat.zero_add] at hlen;clear h1;simp only [nameT,List.length_cons,List.length_nil,Nat.zero_add,if_true,Nd.sub,List.getD_cons_zero,ByteArray.size_append] at hsz;have HAT:=hid (bAt w ⟨k,s,num,pos,[x]⟩ (some ⟨b,o,none⟩) c 24);have HX_x:=hid (hx_x.below (bBw w (.cells #[.int .i64 k,.string s,.int .i64 num,.int .i64 pos,.slice (some ⟨b,o,none⟩) 1 c] 24)));have HK_x:=hid (hk_x.below (bBw w (.cells #[.int .i64 k,.string s,.int .i64 num,.int .i64 pos,.slice (some ⟨b,o,none⟩) 1 c] 24)));clear hx_x hk_x;clear hk;have fx:=HX_x.out.all;go_enter Tryz.func47,Tryz.ntmps47;go_wp2;generalize hW0:w.alloc (.cells #[.int .i64 k,.string s,.int .i64 num,.int .i64 pos,.slice (some ⟨b,o,none⟩) 1 c] 24)=W0 at *;have HBOX:=hid (show Below w.heap.size w W0 by rw [← hW0];exact bBw _ _);clear hW0;clear fx;have x_:=HAT.out.all;have fx:=HX_x.out.all;have r5_0:=c5 x_;have r5_5:=c5 fx;have hz:x.name.size+1+s.size≤1099511627776:=(by simpa [ba_size] using hsz);refine wp_region_quiet_below (by kernel_rfl) (by kernel_rfl) ?_
  repeat (go_big_quiet_step (fail))
  refine wpQuiet_nil ?_;intro _ hw';obtain ⟨⟨dq,osq⟩,hw''⟩:=hw';subst hw'';have HG:=hid (below_regrown W0 dq osq);generalize hG:Go.Sort.grow (redrawn W0 dq) osq=G at *;clear hG;go_wp2;go_ret;exact ⟨ret_str (by simp [nameT,Nd.sub]),bTh HBOX.out HG.out⟩
theorem rank_any (n:Nd) (A:Option Addr) (c:Nat) (w:World):
  Calls Tryz.prog 133 #[.agg #[.int .i64 n.kind,.string n.name,.int .i64 n.num,.int .i64 n.pos,.slice A n.subs.length c]] w fun e w'=>e=.returned (.int .i64 (rankN n))∧Below w.heap.size w w':=by
 obtain ⟨k,s,num,pos,subs⟩:=n;by_cases k36:k=36
 ·subst k36;have HAT:=hid (bAt w ⟨36,s,num,pos,subs⟩ A c 24);go_enter Tryz.func133,Tryz.ntmps133;go_wp2_with fail;generalize hW0:w.alloc (.cells #[.int .i64 36,.string s,.int .i64 num,.int .i64 pos,.slice A subs.length c] 24)=W0 at *;have HBOX:=hid (show Below w.heap.size w W0 by rw [← hW0];exact bBw _ _);clear hW0;refine (levelOf_any s _).mono ?_;rintro e w1 ⟨rfl,hb1⟩;have HC1:=hid hb1;clear hb1;have x:=(nb HAT HC1).all;go_wp2;go_ret;exact ⟨ret_int (by simp [rankN]),bTh HBOX.out HC1.out⟩
 ·have b36:(k==36)=false:=(by simpa using k36);by_cases k37:k=37
  ·subst k37;have HAT:=hid (bAt w ⟨37,s,num,pos,subs⟩ A c 24);go_enter Tryz.func133,Tryz.ntmps133;go_wp2;go_ret;exact ⟨ret_int (by simp [rankN]),bBw _ _⟩
  ·have b37:(k==37)=false:=(by simpa using k37);by_cases k35:k=35
   ·subst k35;have HAT:=hid (bAt w ⟨35,s,num,pos,subs⟩ A c 24);go_enter Tryz.func133,Tryz.ntmps133;go_wp2;go_ret;exact ⟨ret_int (by simp [rankN]),bBw _ _⟩
   ·have b35:(k==35)=false:=(by simpa using k35);have HAT:=hid (bAt w ⟨k,s,num,pos,subs⟩ A c 24);go_enter Tryz.func133,Tryz.ntmps133;go_wp2;go_ret;exact ⟨ret_int (by simp [rankN,k36,k37,k35]),bBw _ _⟩
theorem decT_nat (u:Nat):decT (u:Int)=⟨(Lib.decDigits u).toArray⟩:=by unfold decT;rw [Lib.itoa_nonneg]
theorem decT_big {u:Nat} (h:¬u<10):decT (u:Int)=decT ((u / 10:Nat):Int)++⟨#[UInt8.ofNat (48+u % 10)]⟩:=by
 rw [decT_nat,decT_nat,Lib.decDigits,dif_neg h];exact ba_ext (by simp)
theorem decT_small {u:Nat} (h:u<10):decT (u:Int)=⟨#[UInt8.ofNat (48+u)]⟩:=by
 rw [decT_nat,Lib.decDigits_one h]
set_option maxRecDepth 100000 in
theorem Dec_any (u:Nat) (hu:u≤2147483647) (w:World):
  Calls Tryz.prog 95 #[.int .i64 u] w fun e w'=>e=.returned (.string (decT u))∧Below w.heap.size w w':=by
 induction u using Nat.strongRecOn generalizing w with
 | _ u ih=>
  have IH:=hid ih;clear ih;have hcv:=run_convert_bytes_arg (P:=Tryz.prog) (w.alloc (.cells #[.int .u8 (48+(u:Int) % 10)] 5)) 51 5 Tryz.underlying51 Tryz.underlying5 w.heap.size 0 1 1 [48+(u:Int) % 10] rfl (by intro i hi;match i,hi with | 0,_=>rw [World.cell?_alloc_new];rfl) 9 Tryz.underlying9;have hdig:(48+(u:Int) % 10).toNat=48+u % 10:=(by omega);obtain ⟨D,hD⟩:∃D:ByteArray,D=⟨#[UInt8.ofNat (48+u % 10)]⟩:=⟨_,rfl⟩;rw [show strOfNums [48+(u:Int) % 10]=D by rw [hD];simp only [strOfNums,List.map,hdig]] at hcv;have hDs:D.size=1:=(by rw [hD];rfl);have HD:=hid hD;clear hD hdig;have HBX:=hid (bBw w (.cells #[.int .u8 (48+(u:Int) % 10)] 5));by_cases h:u<10
  ·have h0:((u:Int) / 10 != 0)=false:=(by simp only [bne_eq_false_iff_eq];omega);have FIN:=hid (show D=decT u by rw [HD.out,decT_small h,Nat.mod_eq_of_lt h]);go_enter Tryz.func95,Tryz.ntmps95;go_wp2;go_ret;exact ⟨ret_str FIN.out,HBX.out⟩
  ·have h0:((u:Int) / 10 != 0)=true:=(by simp only [bne_iff_ne,ne_eq];omega);have h00:((u:Int) / 10==0)=false:=(by simp only [beq_eq_false_iff_ne,ne_eq];omega);have FIN:=hid (show decT u=decT ((u / 10:Nat):Int)++D by rw [HD.out];exact decT_big h);have hsm:=Lib.itoa_length_le ((u / 10:Nat):Int) (by omega) (by omega);obtain ⟨R,hR⟩:∃R,R=decT ((u / 10:Nat):Int):=⟨_,rfl⟩;have hsz:R.size≤21:=(by rw [hR];simpa [decT,ba_size] using hsm);have HR:=hid hR;clear hR;clear hsm;go_enter Tryz.func95,Tryz.ntmps95;go_wp2_with fail;refine (IH.out (u / 10) (by omega) (by omega) _).mono ?_;rintro e w2 ⟨rfl,hb2⟩;have HB2:=hid (bTh HBX.out hb2);clear hb2;rw [← HR.out];go_wp2;go_ret;exact ⟨ret_str (by rw [FIN.out,HR.out]),HB2.out⟩
end Go.Proofs.YtneohanphabneaaGreatDoor
