/-
tidy.Fold, and the law TidySays, at every tree that lies in memory: the walks. Conditions: the tree lies in memory; the variables are as they are laid.
-/
import Derived.Test.YtneohanphabneaaGreatDoorFoldR
import Derived.Test.YtneohanphabneaaGreatDoorFold
import Derived.Test.YtneohanphabneaaGreatDoorWrText
import Derived.Test.YtneohanphabneaaGreatDoorSize
import Derived.Test.YtneohanphabneaaGreatDoorIs
import Derived.Lib.IfaceEq
import Derived.LaidEql
import Derived.Deep.RegionHeld3
import Derived.Test.YtneohanphabneaaGreatDoorTextP
import Derived.Test.YtneohanphabneaaGreatDoorTie
import Derived.Test.YtneohanphabneaaGreatDoorCards
import Derived.SevenTiedAt
import Derived.JoinedOf
import Derived.LaidLaws
import Derived.LaidHandle
import Derived.LaidMore
import Derived.Stop.LaidErr
import Derived.Carry
import Derived.Test.YtneohanphabneaaGreatDoorSays
import Derived.Test.YtneohanphabneaaGreatDoorTr
namespace Go.Proofs.YtneohanphabneaaGreatDoor
set_option linter.unusedSimpArgs false
set_option linter.unusedVariables false
section
open Go.RowKit Go.BigFrame
theorem eqI (a b:Int) (W:World):(binOp .eql 29 (.iface 26 (.int .i64 a)) (.iface 26 (.int .i64 b))).run Tryz.prog W=.ok (.bool (a==b)) W:=Lib.run_eql_iface_int W a b Tryz.underlying29 (by kernel_rfl) Tryz.underlying26
theorem eqNil (v:Value) (W:World):(binOp .eql 29 .nilIface (.iface 26 v)).run Tryz.prog W=.ok (.bool false) W:=by
 first | exact run_eql_iface_nil_left W 26 v Tryz.underlying29 | exact run_eql_iface_nil_left 26 v Tryz.underlying29 W | exact run_eql_iface_nil_left _ _ Tryz.underlying29
theorem sum_mem {f:Nd→Nat}:∀{l:List Nd} {x:Nd},x∈l→f x≤sumN f l
 | [],_,h=>by cases h
 | y::r,x,h=>by
  simp only [sumN];rcases List.mem_cons.1 h with rfl | h
  ·omega
  ·have:=sum_mem (f:=f) h;omega
theorem sum_len (d:Nat):∀l:List Nd,l.length≤sumN (cntN d) l
 | []=>Nat.le_refl _
 | y::r=>by
  have h1:=cnt_pos d y;have h2:=sum_len d r;simp only [sumN,List.length_cons];omega
theorem few_of_cnt {w:World}:∀(d:Nat) (n:Nd) (A:Option Addr) (c:Nat),Kids w d n A c→cntN d n≤3000→fewN d n=true
 | 0,_,_,_,hk,_=>hk.elim
 | d+1,n,A,c,hk,h=>by
  have e:cntN (d+1) n=1+sumN (cntN d) n.subs:=rfl;rw [e] at h;have h1:=sum_len d n.subs;simp only [fewN,Bool.and_eq_true,decide_eq_true_eq,List.all_eq_true];refine ⟨by omega,fun x hx=>?_⟩;obtain ⟨i,hi,rfl⟩:=List.getElem_of_mem hx;obtain ⟨_,_,_,_,_,_,h2⟩:=hk.2.2.2 i _ (List.getElem?_eq_getElem hi);have h3:=sum_mem (f:=cntN d) hx;exact few_of_cnt d _ _ _ h2 (by omega)
set_option maxRecDepth 100000 in
set_option maxHeartbeats 2000000 in
theorem foldTop_bad (n:Nd) (A:Option Addr) (c:Nat) (w:World) (hpl:PowLaid w) (hk:Kids w 60 n A c) (hs:shapedS 60 n=false):
  Calls Tryz.prog 12 #[.agg #[.int .i64 n.kind,.string n.name,.int .i64 n.num,.int .i64 n.pos,.slice A n.subs.length c]] w fun e w'=>e=.returned (.tuple #[.agg #[.int .i64 0,.string ⟨#[]⟩,.int .i64 0,.int .i64 0,.slice none 0 0],.iface 26 (.int .i64 10)])∧Below w.heap.size w w':=by
 have HTEXT:=hid (fun V h1 h2 h3=>Text_any 55 n A c V h1 h2 h3 (by omega));obtain ⟨k,s,num,pos,subs⟩:=n;have HPL:=hid hpl;have HK:=hid hk;have HS:=hid hs;have FT:=hid (show textV 55 ⟨k,s,num,pos,subs⟩=.tuple #[.string ⟨#[]⟩,.iface 26 (.int .i64 10)] by unfold textV;rw [hs];rfl);have heq:∀W,(binOp .eql 29 (.iface 26 (.int .i64 10)) (.iface 26 (.int .i64 10))).run Tryz.prog W=.ok (.bool true) W:=fun W=>eqI 10 10 W;clear hpl hk hs;go_enter Tryz.func12,Tryz.ntmps12;go_wp2_with fail;generalize hW0:(w.alloc (.cells #[.int .i64 k,.string s,.int .i64 num,.int .i64 pos,.slice A subs.length c] 24)).alloc (.cells #[.int .i64 0,.string ⟨#[]⟩,.int .i64 0,.int .i64 0,.slice none 0 0] 24)=W0;have hb0:Below w.heap.size w W0:=(by rw [← hW0];exact bTh (bBw _ _) (bBw _ _));have hz:Zero W0 (w.heap.size+1):=⟨_,_,_,_,_,by rw [← hW0];exact heap_alloc2_new _ _ _⟩;have HB0:=hid hb0;have HZ0:=hid hz;clear hb0 hz hW0;refine (HTEXT.out W0 (HPL.out.below HB0.out) (HK.out.below HB0.out) (fun h=>by rw [HS.out] at h;cases h)).mono ?_;rintro e w1 ⟨rfl,hb⟩;rw [FT.out];have HB1:=hid (bTh HB0.out hb);have HZ1:=hid (HZ0.out.below hb);clear hb;go_wp2_with (with_reducible refine at_store2 ?_;refine HZ1.out.store dNd none 0 rfl rfl ?_);refine bodyPost_ret (ret_node2 rfl _ _ rfl (HZ1.out.node dNd none 0)) rfl ?_;exact ⟨rfl,setRow_below HB1.out (by omega) _⟩
set_option maxRecDepth 100000 in
set_option maxHeartbeats 2000000 in
theorem foldTop_any (n:Nd) (A:Option Addr) (c:Nat) (w:World) (hpl:PowLaid w) (hk:Kids w 60 n A c) (hs:shapedS 60 n=true) (hc:cntN 60 n≤3000):
  Calls Tryz.prog 12 #[.agg #[.int .i64 n.kind,.string n.name,.int .i64 n.num,.int .i64 n.pos,.slice A n.subs.length c]] w fun e w'=>Below w.heap.size w w'∧∃A' c',e=.returned (.tuple #[.agg #[.int .i64 (foldN 60 n).kind,.string (foldN 60 n).name,.int .i64 (foldN 60 n).num,.int .i64 (foldN 60 n).pos,.slice A' (foldN 60 n).subs.length c'],.nilIface])∧Kids w' 60 (foldN 60 n) A' c':=by
 have HTEXT:=hid (fun V h1 h2 h3=>Text_any 55 n A c V h1 h2 h3 (by omega));have HFOLD:=hid (fun V S h1 h2 h3=>fold_any 60 n A c V S h1 h2 h3);have hok:=okN_kids_of 60 hk (shapedS_ok (d:=58) hs);have hfew:=few_of_cnt 60 n A c hk hc;have hpb:=printed_bound hs hc;obtain ⟨m,hm⟩:∃m,m=foldN 60 n:=⟨_,rfl⟩;rw [← hm];rw [← hm] at HFOLD
 obtain ⟨tv,htv,hcase⟩:∃tv:ByteArray × Value,textV 55 n=.tuple #[.string tv.1,tv.2]∧(tv.2=.nilIface∨tv.2=.iface 26 (.int .i64 3)):=by
  unfold textV;rw [if_pos hs];split
  ·exact ⟨(_,_),rfl,.inl rfl⟩
  ·exact ⟨(_,_),rfl,.inr rfl⟩
 obtain ⟨ts,te⟩:=tv;simp only at htv hcase;obtain ⟨k,s,num,pos,subs⟩:=n;have HPL:=hid hpl;have HK:=hid hk;have HS:=hid hs;have HOK:=hid hok;have HFEW:=hid hfew;have HPB:=hid hpb;have FT:=hid htv;clear hpl hk hs hc hok hfew hpb hm htv;have heq:∀W,(binOp .eql 29 (.iface 26 (.int .i64 3)) (.iface 26 (.int .i64 10))).run Tryz.prog W=.ok (.bool false) W:=fun W=>eqI 3 10 W;have heq2:∀W,(binOp .eql 29 .nilIface (.iface 26 (.int .i64 10))).run Tryz.prog W=.ok (.bool false) W:=fun W=>eqNil _ W;rcases hcase with rfl | rfl
 all_goals
  go_enter Tryz.func12,Tryz.ntmps12;go_wp2_with fail;generalize hW0:(w.alloc (.cells #[.int .i64 k,.string s,.int .i64 num,.int .i64 pos,.slice A subs.length c] 24)).alloc (.cells #[.int .i64 0,.string ⟨#[]⟩,.int .i64 0,.int .i64 0,.slice none 0 0] 24)=W0;have hb0:Below w.heap.size w W0:=(by rw [← hW0];exact bTh (bBw _ _) (bBw _ _));have hat:NdAt W0 w.heap.size 0 ⟨k,s,num,pos,subs⟩ A c:=(by rw [← hW0];exact (bAt w ⟨k,s,num,pos,subs⟩ A c _).below (bBw _ _));have hz:Zero W0 (w.heap.size+1):=⟨_,_,_,_,_,by rw [← hW0];exact heap_alloc2_new _ _ _⟩;have HB0:=hid hb0;have HZ0:=hid hz;have HAT:=hid hat;clear hb0 hz hat hW0;refine (HTEXT.out W0 (HPL.out.below HB0.out) (HK.out.below HB0.out) (fun _=>by have:=HPB.out;unfold maxW;omega)).mono ?_;rintro e w1 ⟨rfl,hb⟩;rw [FT.out];have HB1:=hid (bTh HB0.out hb);have HZ1:=hid (HZ0.out.below hb);have x:=(HAT.out.below hb).all;clear hb;go_wp2_with fail;refine (HFOLD.out w1 (fun q=>q<w.heap.size) (HK.out.own.below HB1.out) HOK.out HFEW.out).mono ?_;rintro e w2 ⟨hb,A',c',rfl,hkm⟩;have HB2:=hid (bTh HB1.out hb);have HZ2:=hid (HZ1.out.below hb);have hz1:=HZ1.out.lt;have HKM:=hid (hkm.setRow (g:=w.heap.size+1) #[.int .i64 m.kind,.string m.name,.int .i64 m.num,.int .i64 m.pos,.slice A' m.subs.length c'] (fun q hq=>by omega)).kids;clear hb hkm x;go_wp2_with (with_reducible refine at_store2 ?_;refine HZ2.out.store m A' c' rfl rfl ?_);refine bodyPost_ret (ret_node2 rfl _ _ rfl (HZ2.out.node m A' c')) rfl ?_;exact ⟨setRow_below HB2.out (by omega) _,_,_,rfl,HKM.out⟩
set_option maxRecDepth 100000 in
set_option maxHeartbeats 2000000 in
theorem tidySays_any (d:Nat) (n:Nd) (A:Option Addr) (c:Nat) (w:World) (hkl:KeptLaid w) (hpl:PowLaid w) (hel:ErrLaid w) (hd:3000<d) (hk:KT w d n A c):
  Calls Tryz.prog 4 #[.agg #[.int .i64 n.kind,.string n.name,.int .i64 n.num,.int .i64 n.pos,.slice A n.subs.length c]] w fun e w'=>e=.returned (.bool true)∧Below w.heap.size w w':=by
 have HHUGE:=hid (fun V hV=>hugeTree_any d n A c V hd hV);have HSHAPED:=hid (fun V h1 h2=>Shaped_any 58 n A c V h1 h2);have HBAD:=hid (fun V h1 h2 h3=>foldTop_bad n A c V h1 h2 h3);have HTOP:=hid (fun V h1 h2 h3 h4=>foldTop_any n A c V h1 h2 h3 h4);have HFOLDED:=hid (fun V S h1 h2 h3=>folded_any 60 n A c V S h1 h2 h3);obtain ⟨m,hm⟩:∃m,m=foldN 60 n:=⟨_,rfl⟩;rw [← hm] at HTOP HFOLDED;obtain ⟨k,s,num,pos,subs⟩:=n;have HB0:=hid (bBw w (.cells #[.int .i64 k,.string s,.int .i64 num,.int .i64 pos,.slice A subs.length c] 24));have HAT:=hid (bAt w ⟨k,s,num,pos,subs⟩ A c 24);have HKL:=hid hkl;have HPL:=hid hpl;have HEL:=hid hel;have HK:=hid hk;clear hkl hpl hel hk hm
 cases hh:hugeB d ⟨k,s,num,pos,subs⟩ with
 | true=>
  have HH:=hid hh;clear hh;go_enter Tryz.func4,Tryz.ntmps4;go_wp2_with fail;generalize hW0:w.alloc (.cells #[.int .i64 k,.string s,.int .i64 num,.int .i64 pos,.slice A subs.length c] 24)=W0 at *;clear hW0;refine (HHUGE.out W0 (HK.out.below HB0.out)).mono ?_;rintro e w1 ⟨rfl,hb1⟩;rw [HH.out];have HB1:=hid (bTh HB0.out hb1);clear hb1;go_wp2;go_ret;exact ⟨rfl,HB1.out⟩
 | false=>
  have HH:=hid hh;have HK60:=hid (not_huge hd HK.out hh).1;have HCNT:=hid (not_huge hd HK.out hh).2;clear hh
  cases hs:shapedS 60 ⟨k,s,num,pos,subs⟩ with
  | false=>
   have HS:=hid hs;clear hs;go_enter Tryz.func4,Tryz.ntmps4;go_wp2_with fail;generalize hW0:w.alloc (.cells #[.int .i64 k,.string s,.int .i64 num,.int .i64 pos,.slice A subs.length c] 24)=W0 at *;clear hW0;refine (HHUGE.out W0 (HK.out.below HB0.out)).mono ?_;rintro e w1 ⟨rfl,hb1⟩;rw [HH.out];have HB1:=hid (bTh HB0.out hb1);obtain ⟨x0,x1,x2,x3,x4⟩:=HAT.out.below hb1;have HAT1:=hid (HAT.out.below hb1);clear hb1;go_wp2_with fail;refine (HBAD.out w1 (HPL.out.below HB1.out) (HK60.out.below HB1.out) HS.out).mono ?_;rintro e w2 ⟨rfl,hb⟩;have HB2:=hid (bTh HB1.out hb);have HAT2:=hid (HAT1.out.below hb);have hl2:=HAT2.out.lt;clear hb x0 x1 x2 x3 x4;obtain ⟨x0,x1,x2,x3,x4⟩:=HAT2.out;go_wp2_with fail;generalize hW3:w2.alloc (.cells #[.int .i64 0,.string ⟨#[]⟩,.int .i64 0,.int .i64 0,.slice none 0 0] 24)=W3;have hb3:Below w.heap.size w W3:=(by rw [← hW3];exact bTh HB2.out (bBw _ _));have hm3:NdAt W3 w2.heap.size 0 dNd none 0:=(by rw [← hW3];exact bAt w2 dNd none 0 _);have HB3:=hid hb3;have HM3:=hid hm3;clear hb3 hm3 hW3 x0 x1 x2 x3 x4;refine (HSHAPED.out W3 (HKL.out.below HB3.out) (HK60.out.below HB3.out)).mono ?_;rintro e w4 ⟨rfl,hb⟩;rw [HS.out];have HB4:=hid (bTh HB3.out hb);have HM4:=hid (HM3.out.below hb);clear hb;go_wp2_with fail;refine (Err_any 10 w4).mono ?_;rintro e w5 ⟨rfl,hb⟩;have HB5:=hid (bTh HB4.out hb);have HM5:=hid (HM4.out.below hb);clear hb;go_wp2_with fail;refine (Is_errno 10 w5 (HEL.out.below HB5.out)).mono ?_;rintro e w6 ⟨rfl,hb⟩;have HB6:=hid (bTh HB5.out hb);obtain ⟨x0,x1,x2,x3,x4⟩:=HM5.out.below hb;clear hb;go_wp2_with fail;have hct:=equal_any 1 dNd none none 0 0 w6 (kidsP_leaf w6 (fun _=>True) 0 rfl (by simp [dNd,ba_size])).kids (kidsP_leaf w6 (fun _=>True) 0 rfl (by simp [dNd,ba_size])).kids;refine hct.mono ?_;clear hct;rintro e w7 ⟨rfl,hb⟩;have HB7:=hid (bTh HB6.out hb);clear hb;go_wp2;go_ret;exact ⟨rfl,HB7.out⟩
  | true=>
   have HS:=hid hs;have HOK:=hid (okN_kids_of 60 HK60.out (shapedS_ok (d:=58) hs));have HFEW:=hid (few_of_cnt 60 _ A c HK60.out HCNT.out);clear hs;go_enter Tryz.func4,Tryz.ntmps4;go_wp2_with fail;generalize hW0:w.alloc (.cells #[.int .i64 k,.string s,.int .i64 num,.int .i64 pos,.slice A subs.length c] 24)=W0 at *;clear hW0;refine (HHUGE.out W0 (HK.out.below HB0.out)).mono ?_;rintro e w1 ⟨rfl,hb1⟩;rw [HH.out];have HB1:=hid (bTh HB0.out hb1);obtain ⟨x0,x1,x2,x3,x4⟩:=HAT.out.below hb1;have HAT1:=hid (HAT.out.below hb1);clear hb1;go_wp2_with fail;refine (HTOP.out w1 (HPL.out.below HB1.out) (HK60.out.below HB1.out) HS.out HCNT.out).mono ?_;rintro e w2 ⟨hb,Am,cm,rfl,hkm⟩;have HB2:=hid (bTh HB1.out hb);have HAT2:=hid (HAT1.out.below hb);have HKM2:=hid hkm;have hl2:=HAT2.out.lt;clear hb x0 x1 x2 x3 x4 hkm;obtain ⟨x0,x1,x2,x3,x4⟩:=HAT2.out;go_wp2_with fail;generalize hW3:w2.alloc (.cells #[.int .i64 m.kind,.string m.name,.int .i64 m.num,.int .i64 m.pos,.slice Am m.subs.length cm] 24)=W3;have hb3:Below w2.heap.size w2 W3:=(by rw [← hW3];exact bBw _ _);have hm3:NdAt W3 w2.heap.size 0 m Am cm:=(by rw [← hW3];exact bAt w2 m Am cm _);have HB3:=hid (bTh HB2.out hb3);have HM3:=hid hm3;have HAT3:=hid (HAT2.out.below hb3);have HKM3:=hid (HKM2.out.below hb3);clear hb3 hm3 hW3 x0 x1 x2 x3 x4;refine (HSHAPED.out W3 (HKL.out.below HB3.out) (HK60.out.below HB3.out)).mono ?_;rintro e w4 ⟨rfl,hb⟩;rw [HS.out];have HB4:=hid (bTh HB3.out hb);have HM4:=hid (HM3.out.below hb);have HAT4:=hid (HAT3.out.below hb);have HKM4:=hid (HKM3.out.below hb);clear hb;obtain ⟨x0,x1,x2,x3,x4⟩:=HAT4.out;obtain ⟨m0,m1,m2,m3,m4⟩:=HM4.out;go_wp2_with fail
   go_region_held3 (fun w'=>Below w4.heap.size w4 w'∧w'.cell? ⟨w.heap.size,0,none⟩=some (.int .i64 k)∧w'.cell? ⟨w.heap.size,1,none⟩=some (.string s)∧w'.cell? ⟨w.heap.size,2,none⟩=some (.int .i64 num)∧w'.cell? ⟨w.heap.size,3,none⟩=some (.int .i64 pos)∧w'.cell? ⟨w.heap.size,4,none⟩=some (.slice A subs.length c) ∧
     w'.cell? ⟨w2.heap.size,0,none⟩=some (.int .i64 m.kind)∧w'.cell? ⟨w2.heap.size,1,none⟩=some (.string m.name)∧w'.cell? ⟨w2.heap.size,2,none⟩=some (.int .i64 m.num)∧w'.cell? ⟨w2.heap.size,3,none⟩=some (.int .i64 m.pos)∧w'.cell? ⟨w2.heap.size,4,none⟩=some (.slice Am m.subs.length cm))
    (first
     | (exact ⟨Below.refl _ _,x0,x1,x2,x3,x4,m0,m1,m2,m3,m4⟩)
     | (exact ⟨(Below.refl _ _).drew,x0,x1,x2,x3,x4,m0,m1,m2,m3,m4⟩)
     | (exact ⟨HBR.out,keep_cell HBR.out x0,keep_cell HBR.out x1,keep_cell HBR.out x2,keep_cell HBR.out x3,keep_cell HBR.out x4,keep_cell HBR.out m0,keep_cell HBR.out m1,keep_cell HBR.out m2,keep_cell HBR.out m3,keep_cell HBR.out m4⟩)
     | go_keep)
    (first
     | (go_at_call 14;go_split_ands;refine (HFOLDED.out _ (fun q=>q<w.heap.size) (HK60.out.own.below (bTh HB4.out (by assumption))) HOK.out HFEW.out).mono ?_;rintro e w5 ⟨hb,Af,cf,rfl,hkf⟩;have HBR:=hid (bTh (by assumption) hb);have HKF:=hid hkf.kids;clear hb hkf)
     | (go_at_call 13;refine (equal_any 60 m Am Af cm cf _ (HKM4.out.below HBR.out) HKF.out).mono ?_;rintro e w6 ⟨rfl,hb⟩;have HBR:=hid (bTh HBR.out hb);clear hb))
   go_wp2;go_ret;exact ⟨rfl,bTh HB4.out HBR.out⟩
end
section
open Go.ChangeShapes Go.WideShapes Go.RowKit
theorem own:ownKnob Tryz.prog.godebug=none:=by kernel_rfl
theorem gErr : Tryz.prog.globalNamed "errors.errorType" = some 0 := by kernel_rfl
theorem rtErr : (Tryz.prog.cutTypes.find? (·.1 == "internal/reflectlite.rtype")).map (·.2) = some 135 := by kernel_rfl
theorem oneRow:((List.range 198).filter fun t=>Tryz.prog.rowNamed t [101,114,114,111,114])=[29]:=by kernel_rfl
theorem nTypes:Tryz.prog.types.size=198:=by kernel_rfl
theorem err_of_handles {W : World} {l : List (String × DataW Unit)} (h : handlesMet Tryz.prog l W) (hm : ("errors.errorType", Rows.laid_errors_errorType) ∈ l) : ErrLaid W := by
 obtain ⟨name,u,ty,e1,e2,e3,e4,e5⟩:=h _ hm;have en:name=[101,114,114,111,114]:=(Option.some.inj e1).symm;subst en;obtain rfl:=Option.some.inj (rtErr.symm.trans e2);have hm:ty∈(List.range 198).filter fun t=>Tryz.prog.rowNamed t [101,114,114,111,114]:=List.mem_filter.2 ⟨List.mem_range.2 (by rw [← nTypes];exact e3),e4⟩;rw [oneRow] at hm;obtain rfl:=List.mem_singleton.1 hm;have hh:typeHandle Tryz.prog 29=hnd 29:=(by kernel_rfl);rw [hh] at e5;unfold ErrLaid;simpa using World.var?_cell gErr e5 0
def laid5 : List (String × DataW Unit) := [("math/bits.deBruijn32tab", Rows.laid_math_bits_deBruijn32tab), ("math/bits.deBruijn64tab", Rows.laid_math_bits_deBruijn64tab), ("internal/strconv.uint64pow10", Rows.laid_internal_strconv_uint64pow10), ("errors.errorType", Rows.laid_errors_errorType), ("oberlin/oberlinref.kept", Rows.laid_oberlin_oberlinref_kept)]
def laid4 : List (String × DataW Unit) := [("math/bits.deBruijn32tab", Rows.laid_math_bits_deBruijn32tab), ("math/bits.deBruijn64tab", Rows.laid_math_bits_deBruijn64tab), ("internal/strconv.uint64pow10", Rows.laid_internal_strconv_uint64pow10), ("oberlin/oberlinref.kept", Rows.laid_oberlin_oberlinref_kept)]
theorem laid_all {W:World} (h:laidMetH Tryz.prog laid5 W):KeptLaid W∧PowLaid W∧ErrLaid W:=by
 have e1 : (laid5.filter fun x => x.2.handleName?.isSome) = [("errors.errorType", Rows.laid_errors_errorType)] := (by kernel_rfl);have e2 : (laid5.filter fun x => x.2.handleName?.isNone) = laid4 := (by kernel_rfl)
 have h' : laidMet Tryz.prog laid4 W ∧ handlesMet Tryz.prog [("errors.errorType", Rows.laid_errors_errorType)] W := by
  unfold laidMetH at h;rw [e1] at h;simp only at h;rw [e2] at h;exact h
 have h3:=h'.1.tail.tail;have hp:PowLaid W:=Lib.tabIs_of_head (zs:=Lib.pow10Tab) (t:=165) (e:=154) (n:=20) gPow (by kernel_rfl) (by kernel_rfl) (by kernel_rfl) (by kernel_rfl) (by kernel_rfl) h3;obtain ⟨ps,⟨g0,t0,cs0,f0,p0,q0,hg0,ht0,hv0,hd0,_,_⟩,_,_⟩:=h3.tail;obtain rfl:=Option.some.inj (gKept.symm.trans hg0);obtain rfl:=Option.some.inj (tKept.symm.trans ht0);exact ⟨kept_of_datum hv0 hd0,hp,err_of_handles h'.2 (List.mem_singleton.2 rfl)⟩
set_option maxRecDepth 1000000 in
theorem fil_plain:(laid5.filter fun x=>x.2.handleName?.isNone)=laid4:=by kernel_rfl
set_option maxRecDepth 1000000 in
theorem door4 (os:Os) (args:Array Value):laidMet Tryz.prog laid4 ((World.doorLaid Tryz.prog 400 os).forCall (fun _ _=>0) ⟨#[],args,[]⟩).memory:=
 laidMet_of_run' 8 (by kernel_rfl) (by kernel_rfl)
theorem door_met5 (os:Os) (args:Array Value):laidMetH Tryz.prog laid5 ((World.doorLaid Tryz.prog 400 os).forCall (fun _ _=>0) ⟨#[],args,[]⟩).memory:=
 laidMetH_of_parts3 (fuel:=8) (by rw [fil_plain];exact door4 os args) (by kernel_rfl) (by kernel_rfl)
end
section
open Go.ChangeShapes Go.WideShapes Go.RowKit
open Go.ChangeMaps (open_string shut_string)
set_option maxRecDepth 100000 in
set_option maxHeartbeats 2000000 in
theorem textSays_any (x:ByteArray) (w:World) (hkl:KeptLaid w) (hpl:PowLaid w) (hel:ErrLaid w):
  Calls Tryz.prog 5 #[.string x] w fun e w'=>e=.returned (.bool true)∧Below w.heap.size w w':=by
 have HKL:=hid hkl;have HPL:=hid hpl;have HEL:=hid hel;clear hkl hpl hel;go_enter Tryz.func5,Tryz.ntmps5;go_wp2_with fail;refine (Tree_any x w HKL.out).mono ?_;rintro e w1 ⟨hb,k,s,p,q,A,n,c,E,t,a,rfl,hE⟩;have hb1:=bBw w1 (row5 k s p q A n c);have hb2:=bBw (w1.alloc (row5 k s p q A n c)) (.cells #[.int .i64 E,.int .i64 t,.int .i64 a] 34)
 obtain ⟨w2,e2,hb3,hv,hv2⟩:∃w2,(w1.alloc (row5 k s p q A n c)).alloc (.cells #[.int .i64 E,.int .i64 t,.int .i64 a] 34)=w2∧Below w1.heap.size w1 w2∧w2.heap[w1.heap.size]?=some (row5 k s p q A n c)∧w2.heap[w1.heap.size+1]?=some (.cells #[.int .i64 E,.int .i64 t,.int .i64 a] 34 (0,0)):=
  ⟨_,rfl,bTh hb1 hb2,heap_alloc2_old w1 _ _,heap_alloc2_new w1 _ _⟩
 have HB:=hid (bTh hb hb3);have b0:w2.cell? ⟨w1.heap.size+1,0,none⟩=some (.int .i64 E):=(by rw [cell_of_row _ _ _ _ _ _ hv2];rfl);clear hb1 hb2 hv2;by_cases he:E=0
 ·subst he;obtain ⟨hs,lo,g⟩:=hE rfl;obtain ⟨subs,rfl,hk⟩:=kt_of_gd 3001 k s p q hs g;have HK:=hid (hk.below hb3);have r:=r5_of_row hv;have HR:=hid r;have c0:=r.c0;have c1:=r.c1;have c2:=r.c2;have c3:=r.c3;have c4:=r.c4;simp only [Nat.zero_add] at c1 c2 c3 c4;clear hb hb3 hv hk g hE r;go_wp2_with fail;refine (printSays_any 3001 ⟨k,s,p,q,subs⟩ A c w2 (HKL.out.below HB.out) (HPL.out.below HB.out) (HEL.out.below HB.out) (by omega) HK.out).mono ?_;rintro e w3 ⟨rfl,hb⟩;have d0:=keep_cell hb c0;have d1:=keep_cell hb c1;have d2:=keep_cell hb c2;have d3:=keep_cell hb c3;have d4:=keep_cell hb c4;have HB3:=hid (bTh HB.out hb);have HK3:=hid (HK.out.below hb);clear hb;go_wp2_with fail;refine (tidySays_any 3001 ⟨k,s,p,q,subs⟩ A c w3 (HKL.out.below HB3.out) (HPL.out.below HB3.out) (HEL.out.below HB3.out) (by omega) HK3.out).mono ?_;rintro e w4 ⟨rfl,hb⟩;have HB4:=hid (bTh HB3.out hb);clear hb;go_wp2;go_ret;exact ⟨rfl,HB4.out⟩
 ·have be:(E != 0)=true:=(by simpa using he);clear he hE hb hb3 hv;go_wp2;go_ret;exact ⟨rfl,HB.out⟩
set_option maxRecDepth 100000 in
theorem textSays_lifted (os:Os) (started:os.Started) (H:Type) (enc:TypeId × Value→H):
  ReturnsInHanded {} Tryz.checked os 5 .any (fun w args=>(Rows.textSaysSpec.pre enc Tryz.prog Tryz.f5 [] false w args∧laidMetH Tryz.prog laid5 w)∧sizedMet enc Tryz.prog Tryz.f5 (OpenSpec.ofChange Rows.textSaysSpec) false w args)
   (Rows.textSaysSpec.post enc Tryz.prog Tryz.f5 false true false false):=by
 refine returnsInHanded_of_change_and (C:=Tryz.checked) (X:=fun w _=>laidMetH Tryz.prog laid5 w) (fun _ _ _ hh h=>h.of_heap hh) own started (by kernel_rfl) Tryz.func5
  (ChangeSpec.witness_shaped (enc:=enc) (C:=Tryz.checked) (os:=os) (X:=fun w _=>laidMetH Tryz.prog laid5 w) false (World.doorLaid Tryz.prog 400 os) #[.string ⟨#[]⟩] 8 rfl (World.shaped_of_RefB (by kernel_rfl) (by kernel_rfl)) (by kernel_rfl) (by kernel_rfl) (by kernel_rfl) (door_met5 os _)) ?_
 intro W base args ds gs before hval0 hW _ _ hL _;have hval:∀(j:Nat) t v,Tryz.f5.params[j]?=some t→args[j]?=some v→Value.okWide Tryz.prog W .any base t v:=hval0;have hW':=hW;obtain ⟨p,q,hA0,hV,rfl,hfz,hnd⟩:=hW;have hA:DataW.TrodAll enc Tryz.prog W 0 (fun _=>true) true Tryz.f5.params.toList args.toList ds p:=hA0;rw [Tryz.params5] at hA hval;obtain ⟨v0,d0,rfl,rfl,h0⟩:=trodAll_one hA;obtain ⟨rfl,rfl⟩:=trodVars_none hV;obtain ⟨s,rfl,rfl,rfl,hs⟩:=open_string Tryz.underlying9 (hval 0 9 v0 rfl rfl) h0;obtain ⟨hkl,hpl,hel⟩:=laid_all hL;clear hA0 hval0;simp only [List.append_nil] at hW';refine (textSays_any s W hkl hpl hel).mono fun e W' ⟨he,hb⟩=>?_;subst he;refine ⟨_,rfl,_,_,_,[],[],[],hW',?_,?_,?_,hb.frame _,fun h=>by cases h⟩
 ·exact trodAll_mk1 (shut_bool Tryz.underlying4 true)
 ·exact trodAll_mk1 (shut_string Tryz.underlying9 hs)
 ·rfl
theorem textSaysRow_holds:Rows.TextSaysSaid:=
 OpenClaim.holds_of_wide 5 Tryz.f5 rfl rfl rfl rfl rfl rfl rfl ⟨rfl,rfl,rfl,rfl,rfl⟩ rfl rfl rfl rfl rfl (by kernel_rfl) Tryz.func5 (by kernel_rfl)
  (of_decide_eq_true (by kernel_rfl)) (by unfold Func.isWrapper;first | (rw [if_pos (by decide +kernel)];kernel_rfl) | (rw [if_neg (by decide +kernel)];exact ⟨rfl,rfl⟩))
  (fun os started H enc _=>textSays_lifted os started H enc)
theorem textSays_holds:Rows.TextSaysCardSaid:=
 Claim7.holds_tied_plain_at .later [] [.data, .data, .data, .handle, .widerDeep] true (true, "dca4c5d8bced8b232f87ad5f05c4e70e36e323a48cb11de862039933204a67fa") true
  textSaysRow_holds (fun _ h=>by cases h) (by kernel_rfl) (fun _ h=>by cases h) textSays_row_tie rfl ⟨rfl,rfl⟩ (by kernel_rfl) rfl
  (fun f fn hf hfn=>by
   obtain rfl : f = 5 := Option.some.inj ((show Tryz.prog.funcNamed "oberlin/oberlinlaw.TextSays" = some 5 by kernel_rfl).symm.trans hf) |>.symm;obtain rfl : fn = Tryz.f5 := (Option.some.inj (Tryz.func5.symm.trans hfn)).symm
   exact ⟨by kernel_rfl,fun j t ht=>by
    rw [Tryz.params5] at ht;have hm:t∈[9]:=(by simpa using Array.mem_of_getElem? ht);have hall:([9].all fun u=>!Tryz.prog.wantsStandIn u)=true:=(by kernel_rfl);exact (show Tryz.prog.wantsStandIn t=false by simpa using List.all_eq_true.1 hall t hm)⟩)
  (by kernel_rfl)
#print axioms textSays_holds
end
end Go.Proofs.YtneohanphabneaaGreatDoor
