/-
The document's reader of words: procedures, the walk. Conditions: the reader lies in memory; the variable with the kept words is as it is laid.
-/
import Derived.Test.YtneohanphabneaaGreatDoorRdP
import Derived.Deep.CutBlock
import Derived.Deep.DeepCutAuto
import Derived.Deep.RegionHeld3
namespace Go.Proofs.YtneohanphabneaaGreatDoor
set_option linter.unusedSimpArgs false
set_option linter.unusedVariables false
open Go.RowKit Go.BigFrame
set_option maxRecDepth 100000 in
set_option maxHeartbeats 8000000 in
theorem proc_srt {w0:World} {rb tb cap:Nat} {L:List (ByteArray × Int)} (hl:KeptLaid w0):Srt 89 [] w0 rb tb cap L:=by
 intro w s hr;have E0:=hid (env_start hr);have HT:=hid (Srv.all fun m=>typeName_srv (rb:=rb) (tb:=tb) (cap:=cap) (L:=L) (m:=m) hl);have HS:=hid (stmts_all (rb:=rb) (tb:=tb) (cap:=cap) (L:=L) hl);have HL:=hid hl;clear hr hl;go_enter Tryz.func89,Tryz.ntmps89;go_wp2_with fail;refine E0.out.at.mono ?_;rintro e w1 ⟨rfl,E1⟩;go_wp2_with fail;refine ((E1.out.nil.new (Nat.zero_le _)).need ⟨#[80,82,79,67,69,68,85,82,69]⟩ (fun _=>nofun)).mono ?_;rintro e w2 ⟨rfl,s2,E2,-⟩;go_wp2_with fail;refine (E2.out.name HL.out).mono ?_;rintro e w3 ⟨x,s3,rfl,hx,E3,H3⟩;have v3:=E3.out.facts [];go_wp2_with fail;refine ((E3.out.re.put1 [] x hx.out).isb ⟨#[42]⟩ nofun).mono ?_;rintro e w5 ⟨b,s5,rfl,E5,-⟩;have v5:=E5.out.facts [];go_upto_if 18 with fail;go_cut [] (fun wx=>∃p:Int,Hid (Env w0 w wx rb tb cap L s3 s5 0 0 [(w1.heap.size,⟨7,x,p,plN L s.i,none,0,0⟩),(w.heap.size,sl none 0 0)] []))
 case first=>
  cases b
  ·go_wp2_with fail;go_meet;exact ⟨_,E5⟩
  ·go_wp2_with fail;go_meet;exact ⟨_,hid (E5.out.put2 [] 1)⟩
 case rest=>
 obtain ⟨p,E6⟩:=hcut;go_wp2_with fail;refine E6.out.at.mono ?_;rintro e w7 ⟨rfl,E7⟩;have E8:=hid (E7.out.nil.new (k:=1) (x:=⟨#[]⟩) (p:=0) (q:=plN L s5.i) (Nat.zero_le _));go_upto_region 7 with fail;go_cut [29] (fun s29 wx=>∃(b:Bool) (s9:St),s29=.bool b∧Hid (Env w0 w wx rb tb cap L s3 s9 0 0 [(w7.heap.size,⟨1,⟨#[]⟩,0,plN L s5.i,none,0,0⟩),(w1.heap.size,⟨7,x,p,plN L s.i,none,0,0⟩),(w.heap.size,sl none 0 0)] [])∧Hid (b=true→s9.er=0))
 case first=>
  go_wp2_with fail;refine (E8.out.isb ⟨#[40]⟩ nofun).mono ?_;rintro e w9 ⟨b,s9,rfl,E9,H9⟩;cases b
  ·go_wp2_with fail;go_meet;exact ⟨false,s9,rfl,E9,hid fun h=>by cases h⟩
  go_wp2_with fail;refine (E9.out.is ⟨#[41]⟩ nofun).mono ?_;rintro e w10 (⟨s10,rfl,E10,-⟩ | ⟨rfl,E10,-⟩)
  ·go_wp2_with fail;go_meet;exact ⟨false,s10,rfl,hid (E10.out.weak (Nat.zero_le _) (Nat.zero_le _)),hid fun h=>by cases h⟩
  ·go_wp2_with fail;go_meet;exact ⟨true,s9,rfl,E10,hid fun _=>(H9.out (by trivial)).2.1⟩
 case rest=>
 obtain ⟨b,s9,rfl,E9,H9⟩:=hcut;go_upto_if 29 with fail;go_cut [] (fun wx=>∃(y:Nv) (sr:St),Hid (Env w0 w wx rb tb cap L s3 sr 0 0 [(w7.heap.size,y),(w1.heap.size,⟨7,x,p,plN L s.i,none,0,0⟩),(w.heap.size,sl none 0 0)] []))
 case first=>
  cases b
  ·go_wp2_with fail;go_meet;exact ⟨_,s9,E9⟩
  go_wp2_with fail;go_loopg [] (mS L s9) (fun g wr=>∃(y:Nv) (sr:St),Hid (Env w0 w wr rb tb cap L s3 sr 0 0 [(w7.heap.size,y),(w1.heap.size,⟨7,x,p,plN L s.i,none,0,0⟩),(w.heap.size,sl none 0 0)] [])∧Hid (Ln y.n sr)∧Hid (mS L sr=g)∧Hid (sr.er=0))
  case atStart=>exact ⟨_,s9,E9,hid (.init 0 E9.out (by decide) (by decide)),hid rfl,hid (H9.out (by trivial))⟩
  case round=>
  obtain ⟨⟨k,y,p',q,A,n,c⟩,sr,EE,HN,HG,HQ⟩:=hrel;have hle:n≤3000000:=HN.out.le EE.out;go_wp2_with fail;refine EE.out.re.at.mono ?_;rintro e w10 ⟨rfl,E10⟩;go_wp2_with fail;refine ((E10.out.nil.new (Nat.zero_le _)).isb ⟨#[86,65,82]⟩ nofun).mono ?_;rintro e w11 ⟨b,s11,rfl,E11,-⟩;have v11:=E11.out.facts [];go_upto_if 34 with fail;go_cut [] (fun wx=>∃(z:Int),Hid (Env w0 w wx rb tb cap L sr s11 0 0 [(w10.heap.size,⟨8,⟨#[]⟩,z,plN L sr.i,none,0,0⟩),(w7.heap.size,⟨k,y,p',q,A,n,c⟩),(w1.heap.size,⟨7,x,p,plN L s.i,none,0,0⟩),(w.heap.size,sl none 0 0)] []))
  case first=>
   cases b
   ·go_wp2_with fail;go_meet;exact ⟨_,E11⟩
   ·go_wp2_with fail;go_meet;exact ⟨_,hid (E11.out.put2 [] 1)⟩
  case rest=>
  obtain ⟨z,E12⟩:=hcut;go_wp2_with fail;refine (E12.out.name HL.out).mono ?_;rintro e w13 ⟨z',s13,rfl,hz,E13,-⟩;have v13:=E13.out.facts [];go_wp2_with fail;refine ((E13.out.put1 [] z' hz.out).need ⟨#[58]⟩ (fun _=>nofun)).mono ?_;rintro e w14 ⟨rfl,s14,E14,-⟩;go_wp2_with fail;refine (E14.out.call (HT.out _ _ E14.out.rd)).mono ?_;rintro e w15 ⟨k15,x15,p15,q15,A15,n15,c15,s15,rfl,E15,-⟩;have v15:=E15.out.facts [];obtain ⟨w16,e,E16⟩:=(E15.out.one4 []).nm;have v16:=E16.out.facts [];have u16:=E16.out.facts [_];go_wp2_with (at_builtin;refine ((E16.out.get []).one.get [_]).app rfl _ _ rfl rfl rfl m0 m1 (by omega) ?_);intro A17 c17 w17 E17;have v17:=E17.out.facts [_];go_wp2_with fail;refine ((E17.out.put4 [_]).is ⟨#[59]⟩ nofun).mono ?_;rintro e w18 (⟨s18,rfl,E18,H18⟩ | ⟨rfl,E18,-⟩)
  ·go_wp2_with fail;go_roundg (mS L s18)
   case measure=>rw [← HG.out];exact mS_lt E18.out (Nat.le_add_left ..) HQ.out
   case rel=>exact ⟨_,s18,hid (EE.out.on E18.out.drop),hid (HN.out.push HQ.out E18.out (Nat.le_add_left ..) (by decide)),hid rfl,hid H18.out.2⟩
  ·go_wp2_with fail;refine (E18.out.drop.need ⟨#[41]⟩ (fun _=>nofun)).mono ?_;rintro e w19 ⟨rfl,s19,E19,-⟩;go_wp2_with fail;go_meet;exact ⟨_,s19,hid (EE.out.on E19.out)⟩
 case rest=>
 obtain ⟨⟨k2,y2,p2,q2,A2,n2,c2⟩,t2,E20⟩:=hcut;go_wp2_with fail;refine E20.out.at.mono ?_;rintro e w21 ⟨rfl,E21⟩;go_wp2_with fail;refine ((E21.out.nil.new (Nat.zero_le _)).isb ⟨#[58]⟩ nofun).mono ?_;rintro e w22 ⟨b,s22,rfl,E22,-⟩;have v22:=E22.out.facts [];go_upto_if 60 with fail;go_cut [] (fun wx=>∃(y:Nv) (sr:St),Hid (Env w0 w wx rb tb cap L s3 sr 0 0 [(w21.heap.size,y),(w7.heap.size,⟨k2,y2,p2,q2,A2,n2,c2⟩),(w1.heap.size,⟨7,x,p,plN L s.i,none,0,0⟩),(w.heap.size,sl none 0 0)] []))
 case first=>
  cases b
  ·go_wp2_with fail;go_meet;exact ⟨_,s22,E22⟩
  go_wp2_with fail;refine (E22.out.call (HT.out _ _ E22.out.rd)).mono ?_;rintro e w23 ⟨k7,x7,p7,q7,A7,n7,c7,s7,rfl,E23,-⟩;have v23:=E23.out.facts [];go_wp2_with fail;go_meet;exact ⟨_,s7,hid ((E23.out.put5 []).weak (Nat.zero_le _) (Nat.zero_le _))⟩
 case rest=>
 obtain ⟨⟨k3,y3,p3,q3,A3,n3,c3⟩,t3,E24⟩:=hcut;go_wp2_with fail;refine (E24.out.need ⟨#[59]⟩ (fun _=>nofun)).mono ?_;rintro e w25 ⟨rfl,s25,E25,-⟩;go_wp2_with fail;refine E25.out.at.mono ?_;rintro e w26 ⟨rfl,E26⟩;go_wp2_with fail;refine ((E26.out.nil.new (Nat.zero_le _)).isb ⟨#[86,65,82]⟩ nofun).mono ?_;rintro e w27 ⟨b,s27,rfl,E27,-⟩;have E27:=hid (E27.out.weak (t':=0) (u':=0) (Nat.zero_le _) (Nat.zero_le _));go_upto_if 69 with fail;go_cut [] (fun wx=>∃(y:Nv) (sr:St),Hid (Env w0 w wx rb tb cap L s3 sr 0 0 [(w26.heap.size,y),(w21.heap.size,⟨k3,y3,p3,q3,A3,n3,c3⟩),(w7.heap.size,⟨k2,y2,p2,q2,A2,n2,c2⟩),(w1.heap.size,⟨7,x,p,plN L s.i,none,0,0⟩),(w.heap.size,sl none 0 0)] []))
 case first=>
  cases b
  ·go_wp2_with fail;go_meet;exact ⟨_,s27,E27⟩
  go_wp2_with fail;go_loopg [] (mS L s27) (fun g wr=>∃(y:Nv) (sr:St),Hid (Env w0 w wr rb tb cap L s3 sr 0 0 [(w26.heap.size,y),(w21.heap.size,⟨k3,y3,p3,q3,A3,n3,c3⟩),(w7.heap.size,⟨k2,y2,p2,q2,A2,n2,c2⟩),(w1.heap.size,⟨7,x,p,plN L s.i,none,0,0⟩),(w.heap.size,sl none 0 0)] [])∧Hid (Ln y.n sr)∧Hid (mS L sr=g))
  case atStart=>exact ⟨_,s27,E27,hid (.init 0 E27.out (by decide) (by decide)),hid rfl⟩
  case round=>
  obtain ⟨⟨k,y,p',q,A,n,c⟩,sr,EE,HN,HG⟩:=hrel;have hle:n≤3000000:=HN.out.le EE.out;go_wp2_with fail;refine (rOk_any _ EE.out.rd).mono ?_;rintro e w' ⟨rfl,rfl⟩;cases ho:(sr.er==0)
  ·go_wp2_with fail;go_meet;exact ⟨_,sr,EE⟩
  have HQ:=hid (show sr.er=0 by simpa using ho);go_wp2_with fail;refine EE.out.re.word.mono ?_;rintro e w9 ⟨rfl,E9⟩;go_wp2_with fail;refine (refName_any (wdN L sr.i) w9 (HL.out.below E9.out.rd.bl)).mono ?_;rintro e w' ⟨rfl,rfl⟩;cases hn:nameB (wdN L sr.i)
  ·go_wp2_with fail;go_meet;exact ⟨_,sr,hid (EE.out.on E9.out)⟩
  go_wp2_with fail;refine E9.out.at.mono ?_;rintro e w11 ⟨rfl,E11⟩;go_wp2_with fail;have E12:=hid (E11.out.nil.new (k:=6) (x:=⟨#[]⟩) (p:=0) (q:=plN L sr.i) (Nat.zero_le _));go_wp2_with fail;refine (E12.out.name HL.out).mono ?_;rintro e w13 ⟨z',s13,rfl,hz,E13,-⟩;have v13:=E13.out.facts [];go_wp2_with fail;refine ((E13.out.put1 [] z' hz.out).need ⟨#[58]⟩ (fun _=>nofun)).mono ?_;rintro e w14 ⟨rfl,s14,E14,-⟩;go_wp2_with fail;refine (E14.out.call (HT.out _ _ E14.out.rd)).mono ?_;rintro e w15 ⟨k15,x15,p15,q15,A15,n15,c15,s15,rfl,E15,-⟩;have v15:=E15.out.facts [];obtain ⟨w16,e,E16⟩:=(E15.out.one4 []).nm;have v16:=E16.out.facts [];have u16:=E16.out.facts [_];go_wp2_with (at_builtin;refine ((E16.out.get []).one.get [_]).app rfl _ _ rfl rfl rfl m0 m1 (by omega) ?_);intro A17 c17 w17 E17;have v17:=E17.out.facts [_];go_wp2_with fail;refine ((E17.out.put4 [_]).need ⟨#[59]⟩ (fun _=>nofun)).mono ?_;rintro e w18 ⟨rfl,s18,E18,-⟩;go_wp2_with fail;go_roundg (mS L s18)
  case measure=>rw [← HG.out];exact mS_lt E18.out (Nat.le_add_left ..) HQ.out
  case rel=>exact ⟨_,s18,hid (EE.out.on E18.out.drop),hid (HN.out.push HQ.out E18.out (Nat.le_add_left ..) (by decide)),hid rfl⟩
 case rest=>
 obtain ⟨⟨k4,y4,p4,q4,A4,n4,c4⟩,t4,E28⟩:=hcut;go_wp2_with fail;refine (E28.out.need ⟨#[66,69,71,73,78]⟩ (fun _=>nofun)).mono ?_;rintro e w29 ⟨rfl,s29,E29,-⟩;have vn:=E29.out.facts [_,_,_];go_wp2_with fail
 go_region_held3 (fun w'=>(w'.cell? ⟨w26.heap.size,0,none⟩=some (.int .i64 k4)∧w'.cell? ⟨w26.heap.size,1,none⟩=some (.string y4)∧w'.cell? ⟨w26.heap.size,2,none⟩=some (.int .i64 p4)∧w'.cell? ⟨w26.heap.size,3,none⟩=some (.int .i64 q4)∧w'.cell? ⟨w26.heap.size,4,none⟩=some (.slice A4 n4 c4))∧(w'.cell? ⟨w21.heap.size,0,none⟩=some (.int .i64 k3)∧w'.cell? ⟨w21.heap.size,1,none⟩=some (.string y3)∧w'.cell? ⟨w21.heap.size,2,none⟩=some (.int .i64 p3)∧w'.cell? ⟨w21.heap.size,3,none⟩=some (.int .i64 q3)∧w'.cell? ⟨w21.heap.size,4,none⟩=some (.slice A3 n3 c3))∧(w'.cell? ⟨w7.heap.size,0,none⟩=some (.int .i64 k2)∧w'.cell? ⟨w7.heap.size,1,none⟩=some (.string y2)∧w'.cell? ⟨w7.heap.size,2,none⟩=some (.int .i64 p2)∧w'.cell? ⟨w7.heap.size,3,none⟩=some (.int .i64 q2)∧w'.cell? ⟨w7.heap.size,4,none⟩=some (.slice A2 n2 c2)))
  (first
   | exact ⟨(E31.out.facts []).1,(E31.out.facts [_]).1,(E31.out.facts [_,_]).1⟩
   | exact ⟨(EF.out.facts []).1,(EF.out.facts [_]).1,(EF.out.facts [_,_]).1⟩
   | exact ⟨(E29.out.drew.facts []).1,(E29.out.drew.facts [_]).1,(E29.out.drew.facts [_,_]).1⟩
   | go_keep)
  (first
   | (go_at_call 90;refine (E29.out.drew.mcall (HS.out _ _ E29.out.drew.rd)).mono ?_;rintro e w31 ⟨k7,x7,p7,q7,A7,n7,c7,s7,rfl,E31,-⟩;have vm:=E31.out.facts [_,_,_];have EF:=hid ((((E31.out.get []).get [_]).get [_,_]).four4 [_,_,_])))
 go_wp2_with fail;refine (EF.out.need ⟨#[69,78,68]⟩ (fun _=>nofun)).mono ?_;rintro e w32 ⟨rfl,s32,E32,-⟩;have v32:=E32.out.facts [_,_,_];go_wp2_with fail;refine (E32.out.need x (fun h=>(H3.out (E32.out.p2 h).1).2)).mono ?_;rintro e w33 ⟨rfl,s33,E9,-⟩;have v9:=E9.out.facts [_,_,_];go_wp2_with (with_reducible refine at_store2 ?_;refine E9.out.store (by simp) rfl rfl ?_);exact ((E3.out.on E9.out).get [_,_,_]).ret rfl rfl rfl (by simp) (Nat.le_add_left ..)
end Go.Proofs.YtneohanphabneaaGreatDoor
