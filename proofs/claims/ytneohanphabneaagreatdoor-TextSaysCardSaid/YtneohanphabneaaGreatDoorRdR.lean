/-
The document's reader of words: modules, the walk. Conditions: the reader lies in memory; the variable with the kept words is as it is laid.
-/
import Derived.Test.YtneohanphabneaaGreatDoorRdJ
import Derived.Test.YtneohanphabneaaGreatDoorRdQ
namespace Go.Proofs.YtneohanphabneaaGreatDoor
set_option linter.unusedSimpArgs false
set_option linter.unusedVariables false
open Go.RowKit Go.BigFrame
theorem Env.rev3 {w0 ws w:World} {rb tb cap:Nat} {L:List (ByteArray × Int)} {s0 s:St} {t u:Nat} {vs:List (Nat × Nv)} {hs:List Nv} {a b c d:Nv} (E:Env w0 ws w rb tb cap L s0 s t u vs (a::b::c::d::hs)):Env w0 ws w rb tb cap L s0 s t u vs (a::d::c::b::hs):=E.hand (by
 intro y hy;simp only [List.mem_cons] at hy⊢;rcases hy with rfl | rfl | rfl | rfl | h <;> simp [*])
set_option maxRecDepth 100000 in
set_option maxHeartbeats 8000000 in
theorem module_srt {w0:World} {rb tb cap:Nat} {L:List (ByteArray × Int)} (hl:KeptLaid w0):Srt 35 [] w0 rb tb cap L:=by
 intro w s hr;have E0:=hid (env_start hr);have HS:=hid (stmts_all (rb:=rb) (tb:=tb) (cap:=cap) (L:=L) hl);have HC:=hid (proc_srt (rb:=rb) (tb:=tb) (cap:=cap) (L:=L) hl);have H4:=hid (part_srt hl ⟨#[67,79,78,83,84]⟩ nofun 4 (decl_srt (rb:=rb) (tb:=tb) (cap:=cap) (L:=L) hl 4 (fun h=>by cases h)));have H5:=hid (part_srt hl ⟨#[84,89,80,69]⟩ nofun 5 (decl_srt (rb:=rb) (tb:=tb) (cap:=cap) (L:=L) hl 5 (fun _=>kind_srt hl)));have H6:=hid (part_srt hl ⟨#[86,65,82]⟩ nofun 6 (decl_srt (rb:=rb) (tb:=tb) (cap:=cap) (L:=L) hl 6 (fun h=>by cases h)));have HL:=hid hl;clear hr hl;go_enter Tryz.func35,Tryz.ntmps35;go_wp2_with fail;refine E0.out.at.mono ?_;rintro e w1 ⟨rfl,E1⟩;go_wp2_with fail;refine ((E1.out.nil.new (Nat.zero_le _)).need ⟨#[77,79,68,85,76,69]⟩ (fun _=>nofun)).mono ?_;rintro e w2 ⟨rfl,s2,E2,-⟩;go_wp2_with fail;refine (E2.out.name HL.out).mono ?_;rintro e w3 ⟨x,s3,rfl,hx,E3,H3⟩;have v3:=E3.out.facts [];go_wp2_with fail;refine ((E3.out.re.put1 [] x hx.out).need ⟨#[59]⟩ (fun _=>nofun)).mono ?_;rintro e w5 ⟨rfl,s5,E5,-⟩;go_wp2_with fail;refine E5.out.at.mono ?_;rintro e w7 ⟨rfl,E7⟩;go_wp2_with fail;refine ((E7.out.nil.new (Nat.zero_le _)).isb ⟨#[73,77,80,79,82,84]⟩ nofun).mono ?_;rintro e w8 ⟨b,s8,rfl,E8,H8⟩;have E8:=hid (E8.out.weak (t':=0) (u':=0) (Nat.zero_le _) (Nat.zero_le _));go_upto_if 22 with fail;go_cut [] (fun wx=>∃(y:Nv) (sr:St),Hid (Env w0 w wx rb tb cap L s3 sr 0 0 [(w7.heap.size,y),(w1.heap.size,⟨2,x,0,plN L s.i,none,0,0⟩),(w.heap.size,sl none 0 0)] []))
 case first=>
  cases b
  ·go_wp2_with fail;go_meet;exact ⟨_,s8,E8⟩
  have HQ8:=hid (H8.out rfl).2.1;go_wp2_with fail;go_loopg [] (mS L s8) (fun g wr=>∃(y:Nv) (sr:St),Hid (Env w0 w wr rb tb cap L s3 sr 0 0 [(w7.heap.size,y),(w1.heap.size,⟨2,x,0,plN L s.i,none,0,0⟩),(w.heap.size,sl none 0 0)] [])∧Hid (Ln y.n sr)∧Hid (mS L sr=g)∧Hid (sr.er=0))
  case atStart=>exact ⟨_,s8,E8,hid (.init 0 E8.out (by decide) (by decide)),hid rfl,HQ8⟩
  case round=>
  obtain ⟨⟨k,y,p',q,A,n,c⟩,sr,EE,HN,HG,HQ⟩:=hrel;have hle:n≤3000000:=HN.out.le EE.out;go_wp2_with fail;refine EE.out.re.at.mono ?_;rintro e w10 ⟨rfl,E10⟩;go_wp2_with fail;refine ((E10.out.nil.new (Nat.zero_le _)).name HL.out).mono ?_;rintro e w13 ⟨z',s13,rfl,hz,E13,-⟩;have v13:=E13.out.facts [];obtain ⟨w16,e,E16⟩:=(E13.out.put1 [] z' hz.out).nm;have v16:=E16.out.facts [];have u16:=E16.out.facts [_];go_wp2_with (at_builtin;refine ((E16.out.get []).one.get [_]).app rfl _ _ rfl rfl rfl m0 m1 (by omega) ?_);intro A17 c17 w17 E17;have v17:=E17.out.facts [_];go_wp2_with fail;refine ((E17.out.put4 [_]).is ⟨#[44]⟩ nofun).mono ?_;rintro e w18 (⟨s18,rfl,E18,H18⟩ | ⟨rfl,E18,-⟩)
  ·go_wp2_with fail;go_roundg (mS L s18)
   case measure=>rw [← HG.out];exact mS_lt E18.out (Nat.le_add_left ..) HQ.out
   case rel=>exact ⟨_,s18,hid (EE.out.on E18.out.drop),hid (HN.out.push HQ.out E18.out (Nat.le_add_left ..) (by decide)),hid rfl,hid H18.out.2⟩
  ·go_wp2_with fail;refine (E18.out.drop.need ⟨#[59]⟩ (fun _=>nofun)).mono ?_;rintro e w19 ⟨rfl,s19,E19,-⟩;go_wp2_with fail;go_meet;exact ⟨_,s19,hid (EE.out.on E19.out)⟩
 case rest=>
 obtain ⟨⟨k1,y1,p1,q1,A1,n1,c1⟩,t1,E11⟩:=hcut;have v11:=E11.out.facts [_];have u11:=E11.out.facts [];go_upto_region 12 with fail;go_cut [] (fun wx=>∃(A2:Option Addr) (c2:Nat) (sr:St),Hid (Env w0 w wx rb tb cap L s3 sr 0 0 [(w7.heap.size,⟨k1,y1,p1,q1,A1,n1,c1⟩),(w1.heap.size,⟨2,x,0,plN L s.i,A2,4,c2⟩),(w.heap.size,sl none 0 0)] []))
 case first=>
  go_region_law (first
    | (go_simp;go_at_call 88;(first
     | (refine (EB.out.mcall (H6.out _ _ EB.out.rd)).mono ?_;rintro e wC ⟨kC,xC,pC,qC,AC,nC,cC,sC,rfl,EC,-⟩;have vC:=EC.out.facts [_];have uC:=EC.out.facts [];have ED:=hid (EC.out.get []).rev3.four)
     | (refine (EA.out.mcall (H5.out _ _ EA.out.rd)).mono ?_;rintro e wB ⟨kB,xB,pB,qB,AB,nB,cB,sB,rfl,EB,-⟩;have vB:=EB.out.facts [_];have uB:=EB.out.facts [])
     | (refine (E11.out.drew.mcall (H4.out _ _ E11.out.drew.rd)).mono ?_;rintro e wA ⟨kA,xA,pA,qA,AA,nA,cA,sA,rfl,EA,-⟩;have vA:=EA.out.facts [_];have uA:=EA.out.facts [])))
    | (refine (ED.out.get [_]).sapp rfl _ _ rfl rfl rfl m0 m1 (by decide) ?_;intro A8 c8 w8 E8;have v8:=E8.out.facts [_];have u8:=E8.out.facts [];have EF:=hid (E8.out.put4 [_])))
  all_goals
   go_wp2_with fail;go_meet;exact ⟨_,_,_,hid ((EF.out.weak (Nat.zero_le _) (Nat.zero_le _)).hand (by simp))⟩
 case rest=>
 obtain ⟨A2,c2,t2,E12⟩:=hcut;go_wp2_with fail;refine E12.out.at.mono ?_;rintro e w13 ⟨rfl,E13⟩;have E14:=hid ((E13.out.nil.new (k:=1) (x:=⟨#[]⟩) (p:=0) (q:=plN L t2.i) (Nat.zero_le _)).hand (hs':=[]) (by simp));go_upto_block 2 with fail;go_cut [] (fun wx=>∃(y:Nv) (sr:St),Hid (Env w0 w wx rb tb cap L s3 sr 0 0 [(w13.heap.size,y),(w7.heap.size,⟨k1,y1,p1,q1,A1,n1,c1⟩),(w1.heap.size,⟨2,x,0,plN L s.i,A2,4,c2⟩),(w.heap.size,sl none 0 0)] []))
 case first=>
  go_wp2_with fail;go_loopg [] (mS L t2) (fun g wr=>∃(y:Nv) (sr:St),Hid (Env w0 w wr rb tb cap L s3 sr 0 0 [(w13.heap.size,y),(w7.heap.size,⟨k1,y1,p1,q1,A1,n1,c1⟩),(w1.heap.size,⟨2,x,0,plN L s.i,A2,4,c2⟩),(w.heap.size,sl none 0 0)] [])∧Hid (Ln y.n sr)∧Hid (mS L sr=g))
  case atStart=>exact ⟨_,t2,E14,hid (.init 0 E14.out (by decide) (by decide)),hid rfl⟩
  case round=>
  obtain ⟨⟨k,y,p',q,A,n,c⟩,sr,EE,HN,HG⟩:=hrel;have hle:n≤3000000:=HN.out.le EE.out;go_wp2_with fail;refine (rOk_any _ EE.out.rd).mono ?_;rintro e w' ⟨rfl,rfl⟩;cases ho:(sr.er==0)
  ·go_wp2_with fail;go_meet;exact ⟨_,sr,EE⟩
  have HQ:=hid (show sr.er=0 by simpa using ho);go_wp2_with fail;refine EE.out.re.word.mono ?_;rintro e w9 ⟨rfl,E9⟩;cases hn:((wdN L sr.i).toList==[80,82,79,67,69,68,85,82,69])
  ·go_wp2_with fail;go_meet;exact ⟨_,sr,hid (EE.out.on E9.out)⟩
  have v9:=E9.out.facts [];go_wp2_with fail;go_region_law (first | (go_simp;go_at_call 89;refine (E9.out.drew.call (HC.out _ _ E9.out.drew.rd)).mono ?_;rintro e w17 ⟨k7,x7,p7,q7,A7,n7,c7,s7,rfl,E17,-⟩;have v17:=E17.out.facts []) | (refine (E17.out.one.get []).sapp rfl _ _ rfl rfl rfl m0 m1 (by omega) ?_;intro A18 c18 w18 E18;have v18:=E18.out.facts []))
  all_goals
   go_wp2_with fail;refine ((E18.out.put4 []).need ⟨#[59]⟩ (fun _=>nofun)).mono ?_;rintro e w19 ⟨rfl,s19,E19,-⟩;go_wp2_with fail;go_roundg (mS L s19)
   case measure=>rw [← HG.out];exact mS_lt E19.out (Nat.le_add_left ..) HQ.out
   case rel=>exact ⟨_,s19,hid ((EE.out.on E19.out).hand (by simp)),hid (HN.out.push HQ.out E19.out (Nat.le_add_left ..) (by decide)),hid rfl⟩
 case rest=>
 obtain ⟨⟨k3,y3,p3,q3,A3,n3,c3⟩,t3,E20⟩:=hcut;go_wp2_with fail;refine E20.out.at.mono ?_;rintro e w21 ⟨rfl,E21⟩;go_wp2_with fail;refine ((E21.out.nil.new (Nat.zero_le _)).isb ⟨#[66,69,71,73,78]⟩ nofun).mono ?_;rintro e w22 ⟨b,s22,rfl,E22,-⟩;go_upto_if 75 with fail;go_cut [] (fun wx=>∃(y:Nv) (sr:St),Hid (Env w0 w wx rb tb cap L s3 sr 0 0 [(w21.heap.size,y),(w13.heap.size,⟨k3,y3,p3,q3,A3,n3,c3⟩),(w7.heap.size,⟨k1,y1,p1,q1,A1,n1,c1⟩),(w1.heap.size,⟨2,x,0,plN L s.i,A2,4,c2⟩),(w.heap.size,sl none 0 0)] []))
 case first=>
  cases b
  ·go_wp2_with fail;go_meet;exact ⟨_,s22,E22⟩
  go_wp2_with fail;refine (E22.out.mcall (HS.out _ _ E22.out.rd)).mono ?_;rintro e w23 ⟨k7,x7,p7,q7,A7,n7,c7,s7,rfl,E23,-⟩;have v23:=E23.out.facts [];go_wp2_with fail;go_meet;exact ⟨_,s7,hid (E23.out.put5 [])⟩
 case rest=>
 obtain ⟨⟨k4,y4,p4,q4,A4,n4,c4⟩,t4,E24⟩:=hcut;have v24:=E24.out.facts [];have u24:=E24.out.facts [_];have x24:=E24.out.facts [_,_,_];go_wp2_with (at_builtin;refine (((E24.out.get []).get [_]).two.get [_,_,_]).app rfl _ _ rfl rfl rfl m0 m1 (by decide) ?_);intro A25 c25 w25 E25;have v25:=E25.out.facts [_,_,_];go_wp2_with fail;refine ((E25.out.put4 [_,_,_]).need ⟨#[69,78,68]⟩ (fun _=>nofun)).mono ?_;rintro e w32 ⟨rfl,s32,E32,-⟩;have v32:=E32.out.facts [_,_,_];go_wp2_with fail;refine (E32.out.need x (fun h=>(H3.out (E32.out.p2 h).1).2)).mono ?_;rintro e w33 ⟨rfl,s33,E33,-⟩;go_wp2_with fail;refine (E33.out.need ⟨#[46]⟩ (fun _=>nofun)).mono ?_;rintro e w34 ⟨rfl,s34,E9,-⟩;have v9:=E9.out.facts [_,_,_];go_wp2_with (with_reducible refine at_store2 ?_;refine E9.out.store (by simp) rfl rfl ?_);exact ((E3.out.on E9.out).get [_,_,_]).ret rfl rfl rfl (by simp) (Nat.le_add_left ..)
end Go.Proofs.YtneohanphabneaaGreatDoor
