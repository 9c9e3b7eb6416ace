/-
The document's reader of words: declarations, types, parts, the walks. Conditions: the reader lies in memory.
-/
import Derived.Test.YtneohanphabneaaGreatDoorRdB
import Derived.Test.YtneohanphabneaaGreatDoorRdG
import Derived.Test.YtneohanphabneaaGreatDoorEnv
namespace Go.Proofs.YtneohanphabneaaGreatDoor
set_option linter.unusedSimpArgs false
set_option linter.unusedVariables false
section
open Go.RowKit Go.BigFrame
theorem cyc_srv {w0:World} {rb tb cap:Nat} {L:List (ByteArray × Int)} (hl:KeptLaid w0):∀m,Srv 147 w0 rb tb cap L m∧Srv 170 w0 rb tb cap L m
 | 0=>⟨fun _ _ _ h=>absurd h (Nat.not_lt_zero _),fun _ _ _ h=>absurd h (Nat.not_lt_zero _)⟩
 | m+1=>
  have hf:=factor_srv hl (cyc_srv hl m).1 (cyc_srv hl m).2
  ⟨expr_srv hl (sum_srv (product_srv hf)),hf⟩
set_option maxRecDepth 100000 in
set_option maxHeartbeats 4000000 in
theorem decl_srt {w0:World} {rb tb cap:Nat} {L:List (ByteArray × Int)} (hl:KeptLaid w0) (k:Int) (hK:k=5→Srt 148 [] w0 rb tb cap L):Srt 128 [.int .i64 k] w0 rb tb cap L:=by
 intro w s hr;have E0:=hid (env_start hr);have HX:=hid (Srv.all fun m=>(cyc_srv (rb:=rb) (tb:=tb) (cap:=cap) (L:=L) hl m).1);have HT:=hid (Srv.all fun m=>typeName_srv (rb:=rb) (tb:=tb) (cap:=cap) (L:=L) (m:=m) hl);have HK:=hid hK;have HL:=hid hl;clear hr hl hK;go_enter Tryz.func128,Tryz.ntmps128;go_wp2_with fail;refine E0.out.at.mono ?_;rintro e w1 ⟨rfl,E1⟩;go_wp2_with fail;refine ((E1.out.nil.new (Nat.zero_le _)).name HL.out).mono ?_;rintro e w2 ⟨x,s2,rfl,hx,E2,-⟩;have v2:=E2.out.facts [];go_wp2_with fail;refine ((E2.out.put1 [] x hx.out).is ⟨#[42]⟩ nofun).mono ?_;rintro e w3 (⟨s3,rfl,E3,-⟩ | ⟨rfl,E3,-⟩)
 case' inl=>
  have v3:=E3.out.facts [];have E4:=hid (E3.out.put2 [] 1)
 case' inr=>have E4:=E3
 all_goals
  by_cases h4:k=4
  case' pos=>
   subst h4;go_wp2_with fail;refine (E4.out.need ⟨#[61]⟩ (fun _=>nofun)).mono ?_;rintro e w5 ⟨rfl,s5,E5,-⟩;go_wp2_with fail;refine (E5.out.call (HX.out _ _ E5.out.rd)).mono ?_
  case' neg=>
   have b4:(k==4)=false:=(by simpa using h4);by_cases h5:k=5
   case' pos=>
    have hk:=HK.out h5;subst h5;go_wp2_with fail;refine (E4.out.need ⟨#[61]⟩ (fun _=>nofun)).mono ?_;rintro e w5 ⟨rfl,s5,E5,-⟩;go_wp2_with fail;refine (E5.out.call (hk _ _ E5.out.rd)).mono ?_
   case' neg=>
    have b5:(k==5)=false:=(by simpa using h5);go_wp2_with fail;refine (E4.out.need ⟨#[58]⟩ (fun _=>nofun)).mono ?_;rintro e w5 ⟨rfl,s5,E5,-⟩;go_wp2_with fail;refine (E5.out.call (HT.out _ _ E5.out.rd)).mono ?_
 all_goals
  rintro e w8 ⟨k8,x8,p8,q8,A8,n8,c8,s8,rfl,E8,-⟩;have v8:=E8.out.facts [];obtain ⟨w9,e,E9⟩:=(E8.out.one4 []).nm;have v9:=E9.out.facts [];go_wp2_with (with_reducible refine at_store ?_;refine E9.out.store (by simp) rfl rfl ?_);exact (E9.out.get []).ret rfl rfl rfl (by simp) (Nat.le_add_left ..)
end
section
open Go.RowKit Go.BigFrame
set_option maxRecDepth 100000 in
set_option maxHeartbeats 4000000 in
theorem kind_srt {w0:World} {rb tb cap:Nat} {L:List (ByteArray × Int)} (hl:KeptLaid w0):Srt 148 [] w0 rb tb cap L:=by
 intro w s hr;have E0:=hid (env_start hr);have HT:=hid (Srv.all fun m=>typeName_srv (rb:=rb) (tb:=tb) (cap:=cap) (L:=L) (m:=m) hl);have HD:=hid (decl_srt (rb:=rb) (tb:=tb) (cap:=cap) (L:=L) hl 11 (fun h=>by cases h));clear hr hl;go_enter Tryz.func148,Tryz.ntmps148;go_wp2_with fail;refine E0.out.at.mono ?_;rintro e w1 ⟨rfl,E1⟩;go_wp2_with fail;refine ((E1.out.nil.new (Nat.zero_le _)).is ⟨#[65,82,82,65,89]⟩ nofun).mono ?_;rintro e w2 (⟨s2,rfl,E2,-⟩ | ⟨rfl,E2,-⟩)
 ·have v2:=E2.out.facts [];go_wp2_with fail;refine (E2.out.put0 [] 9).value.mono ?_;rintro e w3 ⟨y,s3,rfl,E3,-⟩;have v3:=E3.out.facts [];go_wp2_with fail;refine ((E3.out.put2 [] y).need ⟨#[79,70]⟩ (fun _=>nofun)).mono ?_;rintro e w4 ⟨rfl,s4,E4,-⟩;go_wp2_with fail;refine (E4.out.call (HT.out _ _ E4.out.rd)).mono ?_;rintro e w8 ⟨k8,x8,p8,q8,A8,n8,c8,s8,rfl,E8,-⟩;have v8:=E8.out.facts [];obtain ⟨w9,e,E9⟩:=(E8.out.one4 []).nm;have v9:=E9.out.facts [];go_wp2_with (with_reducible refine at_store ?_;refine E9.out.store (by simp) rfl rfl ?_);exact (E9.out.get []).ret rfl rfl rfl (by simp) (Nat.le_add_left ..)
 go_wp2_with fail;refine (E2.out.is ⟨#[80,79,73,78,84,69,82]⟩ nofun).mono ?_;rintro e w3 (⟨s3,rfl,E3,-⟩ | ⟨rfl,E3,-⟩)
 ·have v3:=E3.out.facts [];go_wp2_with fail;refine ((E3.out.put0 [] 12).need ⟨#[84,79]⟩ (fun _=>nofun)).mono ?_;rintro e w4 ⟨rfl,s4,E4,-⟩;go_wp2_with fail;refine (E4.out.call (HT.out _ _ E4.out.rd)).mono ?_;rintro e w8 ⟨k8,x8,p8,q8,A8,n8,c8,s8,rfl,E8,-⟩;have v8:=E8.out.facts [];obtain ⟨w9,e,E9⟩:=(E8.out.one4 []).nm;have v9:=E9.out.facts [];go_wp2_with (with_reducible refine at_store ?_;refine E9.out.store (by simp) rfl rfl ?_);exact (E9.out.get []).ret rfl rfl rfl (by simp) (Nat.le_add_left ..)
 have v3:=E3.out.facts [];go_wp2_with fail;refine ((E3.out.put0 [] 10).need ⟨#[82,69,67,79,82,68]⟩ (fun _=>nofun)).mono ?_;rintro e w4 ⟨rfl,s4,E4,-⟩;go_wp2_with fail;refine E4.out.at.mono ?_;rintro e w5 ⟨rfl,E5⟩;go_wp2_with fail;refine ((E5.out.nil.new (Nat.zero_le _)).is ⟨#[40]⟩ nofun).mono ?_;rintro e w6 (⟨s6,rfl,E6,-⟩ | ⟨rfl,E6,-⟩)
 case' inl=>
  go_wp2_with fail;refine (E6.out.call (HT.out _ _ E6.out.rd)).mono ?_;rintro e w7 ⟨k7,x7,p7,q7,A7,n7,c7,s7,rfl,E7,-⟩;have v7:=E7.out.facts [];go_wp2_with fail;refine ((E7.out.put5 []).need ⟨#[41]⟩ (fun _=>nofun)).mono ?_;rintro e w8 ⟨rfl,s8,E8,-⟩;have E8:=hid (E8.out.weak (t':=0) (u':=1) (Nat.zero_le _) (Nat.le_add_left ..))
 case' inr=>have E8:=hid (E6.out.weak (t':=0) (u':=1) (Nat.zero_le _) (Nat.le_add_left ..))
 all_goals
  have v8:=E8.out.facts [];have u8:=E8.out.facts [_];obtain ⟨w9,e,E9⟩:=((E8.out.get []).one4 [_]).nm;have E9:=hid E9.out.drop;go_wp2;go_loopw [] (fun wr=>∃(k:Int) (x:ByteArray) (p q:Int) (A:Option Addr) (n c:Nat) (sr:St),Hid (Env w0 w wr rb tb cap L s sr 0 1 [(w1.heap.size,⟨k,x,p,q,A,n,c⟩),(w.heap.size,sl none 0 0)] [])∧Hid (Ln n sr)) (fun wr=>mOf L wr rb)
  case atStart=>exact ⟨_,_,_,_,_,_,_,_,E9,hid (.init 1 E9.out (by decide) (by decide))⟩
  case round=>
   obtain ⟨k,x,p,q,A,n,c,sr,EE,HN⟩:=hrel;have v:=EE.out.facts [];have hle:=HN.out.le EE.out;go_wp2_with fail;refine (rOk_any wr EE.out.rd).mono ?_;rintro e w' ⟨rfl,rfl⟩;cases ho:(sr.er==0)
   ·go_wp2_with (with_reducible refine at_store ?_;refine EE.out.store (by simp) rfl rfl ?_);exact (EE.out.get []).ret rfl rfl rfl (by simp) (Nat.le_refl _)
   have HEQ:=hid (show sr.er=0 by simpa using ho);go_wp2_with fail;refine (EE.out.re.is ⟨#[69,78,68]⟩ nofun).mono ?_;rintro e w2 (⟨s2,rfl,E2,-⟩ | ⟨rfl,E2,-⟩)
   ·have v2:=E2.out.facts [];go_wp2_with (with_reducible refine at_store ?_;refine E2.out.store (by simp) rfl rfl ?_);exact ((EE.out.on E2.out).get []).ret rfl rfl rfl (by simp) (Nat.le_refl _)
   have v2:=E2.out.facts [];go_wp2_with fail;go_region_law (first | (go_simp;go_at_call 128;refine (E2.out.drew.call (HD.out _ _ E2.out.drew.rd)).mono ?_;rintro e w7 ⟨k7,x7,p7,q7,A7,n7,c7,s7,rfl,E7,-⟩;have v7:=E7.out.facts []) | (refine (E7.out.one.get []).sapp rfl _ _ rfl rfl rfl m0 m1 (by omega) ?_;intro A8 c8 w8 E8;have v8:=E8.out.facts []))
   all_goals
    go_wp2_with fail;refine ((E8.out.put4 []).need ⟨#[59]⟩ (fun _=>nofun)).mono ?_;rintro e w9 ⟨rfl,s9,E9,-⟩;go_wp2;go_roundw
    case rel=>exact ⟨_,_,_,_,_,_,_,s9,hid ((EE.out.on E9.out).hand (by simp)),hid (HN.out.push HEQ.out E9.out (Nat.le_add_left ..) (by decide))⟩
    case measure=>exact mOf_lt EE.out E9.out (Nat.le_add_left ..) HEQ.out
end
section
open Go.RowKit Go.BigFrame
set_option maxRecDepth 100000 in
set_option maxHeartbeats 4000000 in
theorem part_srt {w0:World} {rb tb cap:Nat} {L:List (ByteArray × Int)} (hl:KeptLaid w0) (x:ByteArray) (hx:x≠⟨#[]⟩) (k:Int) (hD:Srt 128 [.int .i64 k] w0 rb tb cap L) (w:World) (s:St) (hr:Rd w0 w rb tb cap L s):
  Calls Tryz.prog 88 #[.pointer (some ⟨rb,0,none⟩),.string x,.int .i64 k] w (MPost w0 w rb tb cap L s):=by
 have E0:=hid (env_start hr);have HD:=hid hD;have HX:=hid hx;have HL:=hid hl;clear hr hl hD hx;go_enter Tryz.func88,Tryz.ntmps88;go_wp2_with fail;refine E0.out.at.mono ?_;rintro e w1 ⟨rfl,E1⟩;go_wp2_with fail;refine ((E1.out.nil.new (Nat.zero_le _)).is x HX.out).mono ?_;rintro e w2 (⟨s2,rfl,E2,-⟩ | ⟨rfl,E2,-⟩);rotate_left
 ·have v2:=E2.out.facts [];go_wp2_with (with_reducible refine at_store ?_;refine E2.out.store (by simp) rfl rfl ?_);exact (E2.out.get []).mret rfl rfl rfl (by simp)
 go_wp2;go_loopw [] (fun wr=>∃(k:Int) (x:ByteArray) (p q:Int) (A:Option Addr) (n c:Nat) (sr:St),Hid (Env w0 w wr rb tb cap L s sr 0 0 [(w1.heap.size,⟨k,x,p,q,A,n,c⟩),(w.heap.size,sl none 0 0)] [])∧Hid (Ln n sr)) (fun wr=>mOf L wr rb)
 case atStart=>exact ⟨_,_,_,_,_,_,_,_,hid (E2.out.weak (Nat.zero_le _) (Nat.zero_le _)),hid (.init 0 E2.out (by decide) (by decide))⟩
 case round=>
  obtain ⟨k',x',p,q,A,n,c,sr,EE,HN⟩:=hrel;have v:=EE.out.facts [];have hle:=HN.out.le EE.out;go_wp2_with fail;refine (rOk_any wr EE.out.rd).mono ?_;rintro e w' ⟨rfl,rfl⟩;cases ho:(sr.er==0)
  ·go_wp2_with (with_reducible refine at_store ?_;refine EE.out.store (by simp) rfl rfl ?_);exact (EE.out.get []).mret rfl rfl rfl (by simp)
  have HEQ:=hid (show sr.er=0 by simpa using ho);go_wp2_with fail;refine EE.out.re.word.mono ?_;rintro e w2 ⟨rfl,E2⟩;have v2:=E2.out.facts [];go_wp2_with fail;refine (refName_any (wdN L sr.i) w2 (HL.out.below E2.out.rd.bl)).mono ?_;rintro e w' ⟨rfl,rfl⟩;cases hn:nameB (wdN L sr.i)
  ·go_wp2_with (with_reducible refine at_store ?_;refine E2.out.store (by simp) rfl rfl ?_);exact ((EE.out.on E2.out).get []).mret rfl rfl rfl (by simp)
  go_wp2_with fail;go_region_law (first | (go_simp;go_at_call 128;refine (E2.out.drew.call (HD.out _ _ E2.out.drew.rd)).mono ?_;rintro e w7 ⟨k7,x7,p7,q7,A7,n7,c7,s7,rfl,E7,-⟩;have v7:=E7.out.facts []) | (refine (E7.out.one.get []).sapp rfl _ _ rfl rfl rfl m0 m1 (by omega) ?_;intro A8 c8 w8 E8;have v8:=E8.out.facts []))
  all_goals
   go_wp2_with fail;refine ((E8.out.put4 []).need ⟨#[59]⟩ (fun _=>nofun)).mono ?_;rintro e w9 ⟨rfl,s9,E9,-⟩;go_wp2;go_roundw
   case rel=>exact ⟨_,_,_,_,_,_,_,s9,hid ((EE.out.on E9.out).hand (by simp)),hid (HN.out.push HEQ.out E9.out (Nat.le_add_left ..) (by decide))⟩
   case measure=>exact mOf_lt EE.out E9.out (Nat.le_add_left ..) HEQ.out
end
end Go.Proofs.YtneohanphabneaaGreatDoor
