/-
The document's reader of words: statements, the walks. Conditions: the reader lies in memory.
-/
import Derived.Test.YtneohanphabneaaGreatDoorEnv
import Derived.Deep.CutBlock
import Derived.Deep.DeepCutAuto
import Derived.Test.YtneohanphabneaaGreatDoorRdJ
namespace Go.Proofs.YtneohanphabneaaGreatDoor
set_option linter.unusedSimpArgs false
set_option linter.unusedVariables false
section
open Go.RowKit Go.BigFrame
set_option maxRecDepth 100000 in
set_option maxHeartbeats 4000000 in
theorem stmts_srv {w0:World} {rb tb cap:Nat} {L:List (ByteArray × Int)} {m:Nat} (hS:Srv 132 w0 rb tb cap L m):SrvM 90 w0 rb tb cap L m:=by
 intro w s hr hm;have E0:=hid (env_start hr);have HS:=hid hS;clear hr hS;go_enter Tryz.func90,Tryz.ntmps90;go_wp2_with fail;refine E0.out.at.mono ?_;rintro e w1 ⟨rfl,E1⟩;go_wp2_with fail;refine ((E1.out.nil.new (Nat.zero_le _)).deeper).mono ?_;rintro e w2 ⟨rfl,s2,E2,-⟩;go_wp2;go_loopw [] (fun wr=>∃(k:Int) (x:ByteArray) (p q:Int) (A:Option Addr) (n c:Nat) (sr:St),Hid (Env w0 w wr rb tb cap L s sr 0 0 [(w1.heap.size,⟨k,x,p,q,A,n,c⟩),(w.heap.size,sl none 0 0)] [])∧Hid (Ln n sr)) (fun wr=>mOf L wr rb)
 case atStart=>exact ⟨_,_,_,_,_,_,_,_,E2,hid (.init 0 E2.out (by decide) (by decide))⟩
 case round=>
  obtain ⟨k,x,p,q,A,n,c,sr,EE,HN⟩:=hrel;have hle:=HN.out.le EE.out;go_wp2_with fail;refine (rOk_any wr EE.out.rd).mono ?_;rintro e w' ⟨rfl,rfl⟩;cases ho:(sr.er==0)
  ·have r:=EE.out.rds;have E9:=hid EE.out.dec;have v9:=E9.out.facts [];go_wp2_with (with_reducible refine at_store ?_;refine E9.out.store (by simp) rfl rfl ?_);exact (E9.out.get []).mret rfl rfl rfl (by simp)
  have HEQ:=hid (show sr.er=0 by simpa using ho);go_wp2_with fail;refine EE.out.re.word.mono ?_;rintro e w3 ⟨rfl,E3⟩;cases hw:((wdN L sr.i).toList==[59])
  case' true=>have E9:=E3
  case' false=>
   go_wp2_with fail;refine E3.out.word.mono ?_;rintro e w4 ⟨rfl,E4⟩;go_wp2_with fail;refine (behind_any _ _).mono ?_;rintro e w' ⟨⟨b,rfl,-⟩,rfl⟩;cases b
   case' true=>have E9:=E4
   case' false=>
    have v4:=E4.out.facts [];go_wp2_with fail;go_region_law (first | (go_simp;go_at_call 132;refine (E4.out.drew.call (HS.out _ _ E4.out.drew.rd ((EE.out.on E4.out).less0 hm))).mono ?_;rintro e w7 ⟨k7,x7,p7,q7,A7,n7,c7,s7,rfl,E7,-⟩;have v7:=E7.out.facts []) | (refine (E7.out.one.get []).sapp rfl _ _ rfl rfl rfl m0 m1 (by omega) ?_;intro A8 c8 w8 E8;have v8:=E8.out.facts []))
    all_goals have E9:=hid (E8.out.put4 [])
  all_goals
   go_wp2_with fail;refine (E9.out.is ⟨#[59]⟩ nofun).mono ?_;rintro e w10 (⟨s10,rfl,E10,-⟩ | ⟨rfl,E10,-⟩)
   ·go_wp2;go_roundw
    case rel=>first | exact ⟨_,_,_,_,_,_,_,s10,hid ((EE.out.on E10.out).hand (by simp)),hid (HN.out.push (m:=0) HEQ.out E10.out (Nat.le_add_left ..) (by decide))⟩ | exact ⟨_,_,_,_,_,_,_,s10,hid ((EE.out.on E10.out).hand (by simp)),hid (HN.out.push (m:=1) HEQ.out E10.out (Nat.le_add_left ..) (by decide))⟩
    case measure=>exact mOf_lt EE.out E10.out (Nat.le_add_left ..) HEQ.out
   ·have r:=E10.out.rds;have E11:=hid (EE.out.on E10.out).dec;have v11:=E11.out.facts [];go_wp2_with (with_reducible refine at_store ?_;refine E11.out.store (by simp) rfl rfl ?_);exact (E11.out.get []).mret rfl rfl rfl (by simp)
end
section
open Go.RowKit Go.BigFrame
set_option maxRecDepth 100000 in
set_option maxHeartbeats 4000000 in
theorem stmt_while {w0:World} {rb tb cap:Nat} {L:List (ByteArray × Int)} {m:Nat} (HX:Hid (Srt 147 [] w0 rb tb cap L)) (HS:Hid (SrvM 90 w0 rb tb cap L m)) (w:World) (s:St) (hr:Rd w0 w rb tb cap L s) (hm:L.length - s.i<m+1) (hw:(wdN L s.i).toList=[87,72,73,76,69]):
  Calls Tryz.prog 132 #[.pointer (some ⟨rb,0,none⟩)] w (NPost w0 w rb tb cap L s):=by
 have E0:=hid (env_start hr);have hne:=hid (ne_of_list hw);have hlt:=hr.lt;have hlen:=hr.toks.len;clear hr;go_enter Tryz.func132,Tryz.ntmps132;go_wp2_with fail;refine E0.out.at.mono ?_;rintro e w1 ⟨rfl,E1⟩;go_wp2_with fail;refine (E1.out.nil.new (Nat.zero_le _)).word.mono ?_;rintro e w2 ⟨rfl,E2⟩;have v2:=E2.out.facts [];obtain ⟨w3,e,E3⟩:=(E2.out.put0 [] 17).nm;have r3:=E3.out.rds;have v3:=E3.out.facts [];obtain ⟨w4,e4,E4⟩:=(E3.out.inc hne.out).nm;go_wp2_with fail;refine (E4.out.call (HX.out _ _ E4.out.rd)).mono ?_;rintro e w5 ⟨k5,x5,p5,q5,A5,n5,c5,s5,rfl,E5,-⟩;go_wp2_with fail;refine (E5.out.var.need ⟨#[68,79]⟩ (fun _=>nofun)).mono ?_;rintro e w6 ⟨rfl,s6,E6,-⟩;have v6:=E6.out.facts [_];have u6:=E6.out.facts [];go_wp2_with fail;go_region_law (first | (go_simp;go_at_call 90;refine (E6.out.drew.mcall (HS.out _ _ E6.out.drew.rd (E6.out.less hm (Nat.le_add_left ..)))).mono ?_;rintro e w7 ⟨k7,x7,p7,q7,A7,n7,c7,s7,rfl,E7,-⟩;have v7:=E7.out.facts [_];have u7:=E7.out.facts []))
 all_goals
  go_wp2_with fail;refine (((E7.out.get []).two4 [_]).need ⟨#[69,78,68]⟩ (fun _=>nofun)).mono ?_;rintro e w9 ⟨rfl,s9,E9,-⟩;have v9:=E9.out.facts [_];go_wp2_with (with_reducible refine at_store2 ?_;refine E9.out.store (by simp) rfl rfl ?_);exact (E9.out.get [_]).ret rfl rfl rfl (by simp) (Nat.le_add_left ..)
set_option maxRecDepth 100000 in
set_option maxHeartbeats 4000000 in
theorem stmt_repeat {w0:World} {rb tb cap:Nat} {L:List (ByteArray × Int)} {m:Nat} (HX:Hid (Srt 147 [] w0 rb tb cap L)) (HS:Hid (SrvM 90 w0 rb tb cap L m)) (w:World) (s:St) (hr:Rd w0 w rb tb cap L s) (hm:L.length - s.i<m+1) (hw:(wdN L s.i).toList=[82,69,80,69,65,84]):
  Calls Tryz.prog 132 #[.pointer (some ⟨rb,0,none⟩)] w (NPost w0 w rb tb cap L s):=by
 have E0:=hid (env_start hr);have hne:=hid (ne_of_list hw);have hlt:=hr.lt;have hlen:=hr.toks.len;clear hr;go_enter Tryz.func132,Tryz.ntmps132;go_wp2_with fail;refine E0.out.at.mono ?_;rintro e w1 ⟨rfl,E1⟩;go_wp2_with fail;refine (E1.out.nil.new (Nat.zero_le _)).word.mono ?_;rintro e w2 ⟨rfl,E2⟩;have v2:=E2.out.facts [];obtain ⟨w3,e,E3⟩:=(E2.out.put0 [] 18).nm;have r3:=E3.out.rds;have v3:=E3.out.facts [];obtain ⟨w4,e4,E4⟩:=(E3.out.inc hne.out).nm;go_wp2_with fail;refine (E4.out.mcall (HS.out _ _ E4.out.rd (E4.out.less hm (Nat.le_add_left ..)))).mono ?_;rintro e w5 ⟨k5,x5,p5,q5,A5,n5,c5,s5,rfl,E5,-⟩;go_wp2_with fail;refine (E5.out.var.need ⟨#[85,78,84,73,76]⟩ (fun _=>nofun)).mono ?_;rintro e w6 ⟨rfl,s6,E6,-⟩;have v6:=E6.out.facts [_];have u6:=E6.out.facts [];go_wp2_with fail;go_region_law (first | (go_simp;go_at_call 147;refine (E6.out.drew.call (HX.out _ _ E6.out.drew.rd)).mono ?_;rintro e w7 ⟨k7,x7,p7,q7,A7,n7,c7,s7,rfl,E7,-⟩;have v7:=E7.out.facts [_];have u7:=E7.out.facts []))
 all_goals
  obtain ⟨w9,e,E9⟩:=((E7.out.get []).two4 [_]).nm;have v9:=E9.out.facts [_];go_wp2_with (with_reducible refine at_store2 ?_;refine E9.out.store (by simp) rfl rfl ?_);exact (E9.out.get [_]).ret rfl rfl rfl (by simp) (Nat.le_add_left ..)
set_option maxRecDepth 100000 in
set_option maxHeartbeats 4000000 in
theorem stmt_return {w0:World} {rb tb cap:Nat} {L:List (ByteArray × Int)} {m:Nat} (HX:Hid (Srt 147 [] w0 rb tb cap L)) (HS:Hid (SrvM 90 w0 rb tb cap L m)) (w:World) (s:St) (hr:Rd w0 w rb tb cap L s) (hm:L.length - s.i<m+1) (hw:(wdN L s.i).toList=[82,69,84,85,82,78]):
  Calls Tryz.prog 132 #[.pointer (some ⟨rb,0,none⟩)] w (NPost w0 w rb tb cap L s):=by
 have E0:=hid (env_start hr);have hne:=hid (ne_of_list hw);have hlt:=hr.lt;have hlen:=hr.toks.len;clear hr;go_enter Tryz.func132,Tryz.ntmps132;go_wp2_with fail;refine E0.out.at.mono ?_;rintro e w1 ⟨rfl,E1⟩;go_wp2_with fail;refine (E1.out.nil.new (Nat.zero_le _)).word.mono ?_;rintro e w2 ⟨rfl,E2⟩;have v2:=E2.out.facts [];obtain ⟨w3,e,E3⟩:=(E2.out.put0 [] 19).nm;have r3:=E3.out.rds;have v3:=E3.out.facts [];obtain ⟨w4,e4,E4⟩:=(E3.out.inc hne.out).nm;go_wp2_with fail;refine E4.out.word.mono ?_;rintro e w5 ⟨rfl,E5⟩;cases hw5:((wdN L (s.i+1)).toList==[59])
 case' true=>have E9:=E5
 case' false=>
  go_wp2_with fail;refine E5.out.word.mono ?_;rintro e w6 ⟨rfl,E6⟩;go_wp2_with fail;refine (behind_any _ _).mono ?_;rintro e w' ⟨⟨b,rfl,-⟩,rfl⟩;cases b
  case' true=>have E9:=E6
  case' false=>
   go_wp2_with fail;refine (E6.out.call (HX.out _ _ E6.out.rd)).mono ?_;rintro e w8 ⟨k8,x8,p8,q8,A8,n8,c8,s8,rfl,E8,-⟩;have v8:=E8.out.facts [];obtain ⟨w9,e,E9⟩:=(E8.out.one4 []).nm
 all_goals
  have v9:=E9.out.facts [];go_wp2_with (with_reducible refine at_store2 ?_;refine E9.out.store (by simp) rfl rfl ?_);exact (E9.out.get []).ret rfl rfl rfl (by simp) (Nat.le_add_left ..)
end
section
open Go.RowKit Go.BigFrame
set_option maxRecDepth 100000 in
set_option maxHeartbeats 4000000 in
theorem stmt_else {w0:World} {rb tb cap:Nat} {L:List (ByteArray × Int)} (HX:Hid (Srt 147 [] w0 rb tb cap L)) (HD:Hid (Srt 149 [] w0 rb tb cap L))
  (HG:Hid (∀(w:World) (s:St),Rd w0 w rb tb cap L s→Calls Tryz.prog 150 #[.pointer (some ⟨rb,0,none⟩)] w (LPost w0 w rb tb cap L s))) (w:World) (s:St) (hr:Rd w0 w rb tb cap L s)
  (hw:((wdN L s.i).toList==[73,70])=false∧((wdN L s.i).toList==[87,72,73,76,69])=false∧((wdN L s.i).toList==[82,69,80,69,65,84])=false∧((wdN L s.i).toList==[82,69,84,85,82,78])=false∧((wdN L s.i).toList==[78,69,87])=false∧((wdN L s.i).toList==[71,69,84])=false∧((wdN L s.i).toList==[79,85,84])=false∧((wdN L s.i).toList==[65,83,83,69,82,84])=false):
  Calls Tryz.prog 132 #[.pointer (some ⟨rb,0,none⟩)] w (NPost w0 w rb tb cap L s):=by
 have E0:=hid (env_start hr);clear hr;go_enter Tryz.func132,Tryz.ntmps132;go_wp2_with fail;refine E0.out.at.mono ?_;rintro e w1 ⟨rfl,E1⟩;go_wp2_with fail;refine (E1.out.nil.new (Nat.zero_le _)).word.mono ?_;rintro e w2 ⟨rfl,E2⟩;have v2:=E2.out.facts [];go_wp2_with fail;refine (E2.out.call (HD.out _ _ E2.out.rd)).mono ?_;rintro e w3 ⟨k3,x3,p3,q3,A3,n3,c3,s3,rfl,E3,-⟩;go_wp2_with fail;refine (E3.out.var.is ⟨#[58,61]⟩ nofun).mono ?_;rintro e w4 (⟨s4,rfl,E4,-⟩ | ⟨rfl,E4,-⟩)
 ·have v4:=E4.out.facts [_];obtain ⟨w6,e,E6⟩:=(E4.out.put0 [_] 14).nm;have v6:=E6.out.facts [_];have u6:=E6.out.facts [];go_wp2_with fail;go_region_law (first | (go_simp;go_at_call 147;refine (E6.out.drew.call (HX.out _ _ E6.out.drew.rd)).mono ?_;rintro e w7 ⟨k7,x7,p7,q7,A7,n7,c7,s7,rfl,E7,-⟩;have v7:=E7.out.facts [_];have u7:=E7.out.facts []))
  all_goals
   obtain ⟨w9,e,E9⟩:=((E7.out.get []).two4 [_]).nm;have v9:=E9.out.facts [_];go_wp2_with (with_reducible refine at_store2 ?_;refine E9.out.store (by simp) rfl rfl ?_);exact (E9.out.get [_]).ret rfl rfl rfl (by simp) (Nat.le_add_left ..)
 ·have v4:=E4.out.facts [_];obtain ⟨w10,e,E10⟩:=(E4.out.put0 [_] 15).nm;have v10:=E10.out.facts [];have u10:=E10.out.facts [_];go_wp2_with fail;go_region_law (first | (go_simp;go_at_call 150;(first | refine (E10.out.drew.calll (HG.out _ _ E10.out.drew.rd)).mono ?_ | refine ((E10.out.drew.get []).one.calll (HG.out _ _ (E10.out.drew.get []).one.rd)).mono ?_);rintro e w11 ⟨A11,n11,c11,s11,rfl,E11,-,hn⟩;have hn:=hn.out;have v11:=E11.out.facts [];have u11:=E11.out.facts [_]) | ((first | refine (E11.out.get []).one.sapp rfl _ _ rfl rfl rfl m0 m1 (by omega) ?_ | refine E11.out.sapp rfl _ _ rfl rfl rfl m1 m0 (by omega) ?_);intro A12 c12 w12 E12;have v12:=E12.out.facts [_]))
  all_goals
   have E9:=hid (E12.out.put4 [_]);have v9:=E9.out.facts [_];go_wp2_with (with_reducible refine at_store2 ?_;refine E9.out.store (by simp) rfl rfl ?_);exact (E9.out.get [_]).ret rfl rfl rfl (by simp) (Nat.le_add_left ..)
end
section
open Go.RowKit Go.BigFrame
theorem look_int {same:Value→Bool}:∀{l:List (Value × Value)},(∀p∈l,∃v,p.2=.int .i64 v)→∃v,look l same (.int .i64 0)=.int .i64 v
 | [],_=>⟨0,rfl⟩
 | p::r,h=>by
  unfold look;split
  ·exact h p (.head _)
  ·exact look_int fun q hq=>h q (.tail _ hq)
def biL:List (Value × Value):=[(.string ⟨#[78,69,87]⟩,.int .i64 20),(.string ⟨#[71,69,84]⟩,.int .i64 22),(.string ⟨#[79,85,84]⟩,.int .i64 21),(.string ⟨#[65,83,83,69,82,84]⟩,.int .i64 23)]
theorem zero_int (w:World):(zeroValue 3).run Tryz.prog w=.ok (.int .i64 0) w:=by kernel_rfl
theorem same_biL (s:ByteArray):∀p∈biL,Instr.sameNow .string (.string s) p.1=some (sameStr s p.1):=by
 intro p hp;simp only [biL,List.mem_cons,List.not_mem_nil,or_false] at hp;rcases hp with rfl | rfl | rfl | rfl <;> rfl
set_option maxRecDepth 100000 in
set_option maxHeartbeats 4000000 in
theorem stmt_built {w0:World} {rb tb cap:Nat} {L:List (ByteArray × Int)} (HX:Hid (Srt 147 [] w0 rb tb cap L)) (HD:Hid (Srt 149 [] w0 rb tb cap L)) (w:World) (s:St) (hr:Rd w0 w rb tb cap L s)
  (hw:(wdN L s.i).toList=[78,69,87]∨(wdN L s.i).toList=[71,69,84]∨(wdN L s.i).toList=[79,85,84]∨(wdN L s.i).toList=[65,83,83,69,82,84]):
  Calls Tryz.prog 132 #[.pointer (some ⟨rb,0,none⟩)] w (NPost w0 w rb tb cap L s):=by
 have hne:=hid (show wdN L s.i≠⟨#[]⟩ by rcases hw with h | h | h | h <;> exact ne_of_list h);have hlt:=hr.lt;have hlen:=hr.toks.len;have E0:=hid (env_start hr);clear hr;go_enter Tryz.func132,Tryz.ntmps132;go_wp2_with fail;refine E0.out.at.mono ?_;rintro e w1 ⟨rfl,E1⟩;go_wp2_with fail;refine (E1.out.nil.new (Nat.zero_le _)).word.mono ?_;rintro e w2 ⟨rfl,E2⟩;have v2:=E2.out.facts [];have r2:=E2.out.rds;obtain ⟨w3,e3,E3⟩:=(E2.out.inc hne.out).nm;rcases hw with hw | hw | hw | hw
 all_goals
  go_wp2_with fail;refine (E3.out.need ⟨#[40]⟩ (fun _=>nofun)).mono ?_;rintro e w4 ⟨rfl,s4,E4,-⟩;go_wp2_with fail
  first | refine (E4.out.call (HX.out _ _ E4.out.rd)).mono ?_ | refine (E4.out.call (HD.out _ _ E4.out.rd)).mono ?_
  rintro e w8 ⟨k8,x8,p8,q8,A8,n8,c8,s8,rfl,E8,-⟩;have v8:=E8.out.facts [];go_wp2_with fail;refine ((E8.out.one4 []).need ⟨#[41]⟩ (fun _=>nofun)).mono ?_;rintro e w9 ⟨rfl,s9,E9,-⟩;have v9:=E9.out.facts [];obtain ⟨v,hv⟩:=look_int (same:=sameStr (wdN L s.i)) (l:=biL) (by simp [biL]);have HV:=hid hv;clear hv;have E10:=hid ((E9.out.put0 [] v).quiet (bBw _ (litMap biL)));unfold biL at E10;have hmm:=@run_makeLit Tryz.prog;have v10:=E10.out.facts []
  go_wp2_with (first
   | (refine wpList_insert rfl 148 (.tmp 171) _ _ rfl w9.heap.size rfl w9 _ rfl rfl 9 3 .string Tryz.underlying148 Tryz.underlying9 ?_ ?_ ?_;(· trivial);(· rfl))
   | (at_lookup;refine wpList_look _ rfl 148 _ _ rfl w9.heap.size biL (.string (wdN L s.i)) (.int .i64 0) rfl rfl 9 3 .string Tryz.underlying148 Tryz.underlying9 (heap_new _ _) trivial (sameStr (wdN L s.i)) (same_biL _) (zero_int _) ?_;rw [HV.out])
   | (with_reducible refine at_store2 ?_;refine E10.out.store (by simp) rfl rfl ?_))
  exact (E10.out.get []).ret rfl rfl rfl (by simp) (Nat.le_add_left ..)
end
section
open Go.RowKit Go.BigFrame
set_option maxRecDepth 100000 in
set_option maxHeartbeats 8000000 in
theorem stmt_if {w0:World} {rb tb cap:Nat} {L:List (ByteArray × Int)} {m:Nat} (HX:Hid (Srt 147 [] w0 rb tb cap L)) (HS:Hid (SrvM 90 w0 rb tb cap L m)) (w:World) (s:St) (hr:Rd w0 w rb tb cap L s) (hm:L.length - s.i<m+1) (hw:(wdN L s.i).toList=[73,70]):
  Calls Tryz.prog 132 #[.pointer (some ⟨rb,0,none⟩)] w (NPost w0 w rb tb cap L s):=by
 have E0:=hid (env_start hr);clear hr;go_enter Tryz.func132,Tryz.ntmps132;go_wp2_with fail;refine E0.out.at.mono ?_;rintro e w1 ⟨rfl,E1⟩;go_wp2_with fail;refine (E1.out.nil.new (Nat.zero_le _)).word.mono ?_;rintro e w2 ⟨rfl,E2⟩;have v2:=E2.out.facts [];have E3:=hid (E2.out.put0 [] 16);go_upto_block 1 with fail;go_cut [] (fun wx=>∃(k:Int) (x:ByteArray) (p q:Int) (A:Option Addr) (n c:Nat) (sr:St),Hid (Env w0 w wx rb tb cap L s sr 0 0 [(w1.heap.size,⟨k,x,p,q,A,n,c⟩),(w.heap.size,sl none 0 0)] [])∧Hid (Ln n sr))
 case first=>
  go_wp2_with fail;go_loopg [] (mS L s) (fun g wr=>∃(k:Int) (x:ByteArray) (p q:Int) (A:Option Addr) (n c:Nat) (sr:St),Hid (Env w0 w wr rb tb cap L s sr 0 0 [(w1.heap.size,⟨k,x,p,q,A,n,c⟩),(w.heap.size,sl none 0 0)] [])∧Hid (Ln n sr)∧Hid (mS L sr=g))
  case atStart=>exact ⟨_,_,_,_,_,_,_,_,E3,hid (.init 0 E3.out (by decide) (by decide)),hid rfl⟩
  case round=>
   obtain ⟨k,x,p,q,A,n,c,sr,EE,HN,HG⟩:=hrel;have hle:=HN.out.le EE.out;go_upto_region 12 with fail;go_cut [46] (fun s46 wx=>∃(b:Bool) (s3:St),s46=.bool b∧Hid (Env w0 w wx rb tb cap L sr s3 0 0 [(w1.heap.size,⟨k,x,p,q,A,n,c⟩),(w.heap.size,sl none 0 0)] [])∧Hid (b=true→sr.er=0∧sr.i+1≤s3.i))
   case first=>
    have v:=EE.out.facts [];go_wp2_with fail;refine (EE.out.re.isb ⟨#[73,70]⟩ nofun).mono ?_;rintro e w4 ⟨b,s4,rfl,E4,H4⟩;have v4:=E4.out.facts [];cases b
    ·by_cases hn:(0:Int)<(n:Int)
     ·go_wp2_with fail;refine (E4.out.isb ⟨#[69,76,83,73,70]⟩ nofun).mono ?_;rintro e w5 ⟨b,s5,rfl,E5,H5⟩;cases b
      all_goals
       go_wp2_with fail;go_meet;exact ⟨_,s5,rfl,E5,hid fun h=>by first | exact absurd h (by decide) | (have:=H5.out (by trivial);have:=(E4.out.p2 this.1).1;have:=E4.out.p1;omega)⟩
     ·go_wp2_with fail;go_meet;exact ⟨false,s4,rfl,E4,hid fun h=>by cases h⟩
    ·go_wp2_with fail;go_meet;exact ⟨true,s4,rfl,E4,hid fun _=>by have:=H4.out (by trivial);omega⟩
   case rest=>
    obtain ⟨b,s3,rfl,E3,HB⟩:=hcut;cases b
    ·go_wp2_with fail;go_meet;exact ⟨_,_,_,_,_,_,_,s3,hid (EE.out.on E3.out),hid (HN.out.on E3.out)⟩
    have HQ:=hid (HB.out rfl);have E3:=hid (E3.out.took HQ.out.2);go_wp2_with fail;refine (E3.out.call (HX.out _ _ E3.out.rd)).mono ?_;rintro e w4 ⟨k4,x4,p4,q4,A4,n4,c4,s4,rfl,E4,-⟩;go_wp2_with fail;refine (E4.out.var.need ⟨#[84,72,69,78]⟩ (fun _=>nofun)).mono ?_;rintro e w5 ⟨rfl,s5,E5,-⟩;have v5:=E5.out.facts [_];have u5:=E5.out.facts [];go_upto_region 15 with fail;go_cut [] (fun wx=>∃(A:Option Addr) (c:Nat) (s7:St),Hid (Env w0 w wx rb tb cap L sr s7 1 1 [(w1.heap.size,⟨k,x,p,q,A,n+2,c⟩),(w.heap.size,sl none 0 0)] []))
    case first=>
     go_region_law (first | (go_simp;go_at_call 90;refine (E5.out.drew.mcall (HS.out _ _ E5.out.drew.rd (E5.out.less (EE.out.less0 hm) (Nat.le_refl _)))).mono ?_;rintro e w7 ⟨k7,x7,p7,q7,A7,n7,c7,s7,rfl,E7,-⟩;have v7:=E7.out.facts [_];have u7:=E7.out.facts []) | (refine ((E7.out.get []).two.get [_]).sapp rfl _ _ rfl rfl rfl m0 m1 (by omega) ?_;intro A8 c8 w8 E8;have v8:=E8.out.facts [_]))
     all_goals
      go_wp2_with fail;go_meet;exact ⟨_,_,_,hid ((E8.out.put4 [_]).drop.weak (Nat.le_refl _) (Nat.le_add_left ..))⟩
    case rest=>
     obtain ⟨A9,c9,s9,E9⟩:=hcut;have HN9:=hid (HN.out.push (m:=2) HQ.out.1 E9.out (Nat.le_refl _) (by decide));go_wp2_with fail;refine (rOk_any _ E9.out.rd).mono ?_;rintro e w' ⟨rfl,rfl⟩;cases ho:(s9.er==0)
     ·go_wp2_with fail;go_roundg (mS L s9)
      case measure=>rw [← HG.out];exact mS_lt E9.out (Nat.le_refl _) HQ.out.1
      case rel=>exact ⟨_,_,_,_,_,_,_,s9,hid (EE.out.on E9.out),HN9,hid rfl⟩
     go_wp2_with fail;refine E9.out.word.mono ?_;rintro e w10 ⟨rfl,E10⟩;cases hw10:((wdN L s9.i).toList==[73,70])
     ·go_wp2_with fail;go_roundg (mS L s9)
      case measure=>rw [← HG.out];exact mS_lt E10.out (Nat.le_refl _) HQ.out.1
      case rel=>exact ⟨_,_,_,_,_,_,_,s9,hid (EE.out.on E10.out),HN9,hid rfl⟩
     ·go_wp2_with fail;go_meet;exact ⟨_,_,_,_,_,_,_,s9,hid (EE.out.on E10.out),HN9⟩
 case rest=>
  obtain ⟨k,x,p,q,A,n,c,sr,EX,HN⟩:=hcut;have hle:=HN.out.le EX.out;go_wp2_with fail;refine (EX.out.is ⟨#[69,76,83,69]⟩ nofun).mono ?_;rintro e w11 (⟨s11,rfl,E11,-⟩ | ⟨rfl,E11,-⟩)
  case' inl=>
   have v11:=E11.out.facts [];obtain ⟨w12,e,E12⟩:=(E11.out.put2 [] 1).nm;have v12:=E12.out.facts [];go_wp2_with fail;go_region_law (first | (go_simp;go_at_call 90;refine (E12.out.drew.mcall (HS.out _ _ E12.out.drew.rd (E12.out.less hm (Nat.le_add_left ..)))).mono ?_;rintro e w13 ⟨k13,x13,p13,q13,A13,n13,c13,s13,rfl,E13,-⟩;have v13:=E13.out.facts []) | (refine (E13.out.one.get []).sapp rfl _ _ rfl rfl rfl m0 m1 (by omega) ?_;intro A14 c14 w14 E14;have v14:=E14.out.facts []))
   all_goals obtain ⟨w15,e,E15⟩:=(E14.out.put4 []).nm
  case' inr=>have E15:=E11
  all_goals
   go_wp2_with fail;refine (E15.out.need ⟨#[69,78,68]⟩ (fun _=>nofun)).mono ?_;rintro e w16 ⟨rfl,s16,E9,-⟩;have v9:=E9.out.facts [];go_wp2_with (with_reducible refine at_store2 ?_;refine E9.out.store (by simp) rfl rfl ?_);exact (E9.out.get []).ret rfl rfl rfl (by simp) (Nat.le_add_left ..)
end
section
open Go.RowKit Go.BigFrame
theorem stmt_srv {w0:World} {rb tb cap:Nat} {L:List (ByteArray × Int)} {m:Nat} (hl:KeptLaid w0) (hS:SrvM 90 w0 rb tb cap L m):Srv 132 w0 rb tb cap L (m+1):=by
 intro w s hr hm;have HX:=hid (Srv.all fun m=>(cyc_srv (rb:=rb) (tb:=tb) (cap:=cap) (L:=L) hl m).1);have HD:=hid (Srv.all fun m=>(fun w s hr h=>desig_srv hl (cyc_srv hl m).1 w s hr (Nat.lt_succ_of_lt h):Srv 149 w0 rb tb cap L m));have HG:=hid fun (w:World) (s:St) (hr:Rd w0 w rb tb cap L s)=>given_srv (cyc_srv hl (L.length - s.i)).1 w s hr (Nat.lt_succ_self _);have HS:=hid hS;by_cases h0:(wdN L s.i).toList=[73,70]
 ·exact stmt_if HX HS w s hr hm h0
 by_cases h1:(wdN L s.i).toList=[87,72,73,76,69]
 ·exact stmt_while HX HS w s hr hm h1
 by_cases h2:(wdN L s.i).toList=[82,69,80,69,65,84]
 ·exact stmt_repeat HX HS w s hr hm h2
 by_cases h3:(wdN L s.i).toList=[82,69,84,85,82,78]
 ·exact stmt_return HX HS w s hr hm h3
 by_cases h4:(wdN L s.i).toList=[78,69,87]
 ·exact stmt_built HX HD w s hr (.inl h4)
 by_cases h5:(wdN L s.i).toList=[71,69,84]
 ·exact stmt_built HX HD w s hr (.inr (.inl h5))
 by_cases h6:(wdN L s.i).toList=[79,85,84]
 ·exact stmt_built HX HD w s hr (.inr (.inr (.inl h6)))
 by_cases h7:(wdN L s.i).toList=[65,83,83,69,82,84]
 ·exact stmt_built HX HD w s hr (.inr (.inr (.inr h7)))
 exact stmt_else HX HD HG w s hr ⟨by simpa using h0,by simpa using h1,by simpa using h2,by simpa using h3,by simpa using h4,by simpa using h5,by simpa using h6,by simpa using h7⟩
theorem sts_srv {w0:World} {rb tb cap:Nat} {L:List (ByteArray × Int)} (hl:KeptLaid w0):∀m,SrvM 90 w0 rb tb cap L m∧Srv 132 w0 rb tb cap L m
 | 0=>⟨fun _ _ _ h=>absurd h (Nat.not_lt_zero _),fun _ _ _ h=>absurd h (Nat.not_lt_zero _)⟩
 | m+1=>
  have hs:=stmt_srv hl (sts_srv hl m).1
  ⟨stmts_srv hs,hs⟩
theorem stmts_all {w0:World} {rb tb cap:Nat} {L:List (ByteArray × Int)} (hl:KeptLaid w0) (w:World) (s:St) (hr:Rd w0 w rb tb cap L s):Calls Tryz.prog 90 #[.pointer (some ⟨rb,0,none⟩)] w (MPost w0 w rb tb cap L s):=
 (sts_srv hl (L.length - s.i+1)).1 w s hr (Nat.lt_succ_self _)
end
end Go.Proofs.YtneohanphabneaaGreatDoor
