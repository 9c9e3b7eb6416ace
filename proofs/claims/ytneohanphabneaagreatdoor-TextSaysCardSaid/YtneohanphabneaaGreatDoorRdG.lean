/-
The document's reader of words: arguments, designators, factors, the walks. Conditions: the reader lies in memory.
-/
import Derived.Test.YtneohanphabneaaGreatDoorEnv
namespace Go.Proofs.YtneohanphabneaaGreatDoor
set_option linter.unusedSimpArgs false
set_option linter.unusedVariables false
section
open Go.RowKit Go.BigFrame
set_option maxRecDepth 100000 in
set_option maxHeartbeats 4000000 in
theorem given_srv {w0:World} {rb tb cap:Nat} {L:List (ByteArray × Int)} {m:Nat} (hE:Srv 147 w0 rb tb cap L m) (w:World) (s:St) (hr:Rd w0 w rb tb cap L s) (hm:L.length - s.i<m+1):
  Calls Tryz.prog 150 #[.pointer (some ⟨rb,0,none⟩)] w (LPost w0 w rb tb cap L s):=by
 have E0:=hid (env_start0 hr);have HE:=hid hE;clear hr hE;go_enter Tryz.func150,Tryz.ntmps150;go_wp2_with fail;refine (E0.out.is ⟨#[40]⟩ nofun).mono ?_;rintro e w1 (⟨s1,rfl,E1,-⟩ | ⟨rfl,E1,-⟩);rotate_left
 ·go_wp2;go_ret;exact E1.out.nil.lpost (Nat.zero_le _)
 go_wp2_with fail;refine (E1.out.is ⟨#[41]⟩ nofun).mono ?_;rintro e w2 (⟨s2,rfl,E2,-⟩ | ⟨rfl,E2,-⟩)
 ·go_wp2;go_ret;exact E2.out.nil.lpost (Nat.zero_le _)
 go_wp2;go_loopw [3] (fun vv wr=>∃(A:Option Addr) (n c:Nat) (sr:St),vv=.slice A n c∧Hid (Env w0 w wr rb tb cap L s sr 1 0 [] [sl A n c])∧Hid (Ln n sr)) (fun _ wr=>mOf L wr rb)
 case atStart=>exact ⟨none,0,0,s1,rfl,hid (E2.out.nil.weak (Nat.le_refl _) (Nat.zero_le _)),hid ⟨fun _=>Nat.zero_le _,Nat.zero_le _⟩⟩
 case round=>
  obtain ⟨A,n,c,sr,rfl,EE,HN⟩:=hrel;go_wp2_with fail;refine (rOk_any wr EE.out.rd).mono ?_;rintro e w' ⟨rfl,rfl⟩;have hle:=HN.out.le EE.out
  cases ho:(sr.er==0) with
  | false=>
   go_wp2_with fail;refine (EE.out.need ⟨#[41]⟩ (fun _=>nofun)).mono ?_;rintro e w4 ⟨rfl,s4,E4,-⟩;go_wp2;go_ret;exact E4.out.lpost hle
  | true=>
   have HEQ:=hid (show sr.er=0 by simpa using ho);go_wp2_with fail;refine (EE.out.re.call (HE.out _ _ EE.out.rd (EE.out.less hm (Nat.le_refl _)))).mono ?_;rintro e w4 ⟨k4,x4,p4,q4,A4,n4,c4,s4,rfl,E4,-⟩;go_wp2_with (at_builtin;refine E4.out.one.app rfl _ _ rfl rfl rfl m1 m0 (by omega) ?_);intro A5 c5 w5 E5;go_wp2_with fail;refine (E5.out.is ⟨#[44]⟩ nofun).mono ?_;rintro e w6 (⟨s6,rfl,E6,-⟩ | ⟨rfl,E6,-⟩)
   ·go_wp2;go_roundw
    case rel=>exact ⟨A5,n+1,c5,s6,rfl,hid ((EE.out.on E6.out).hand (by simp)),hid (HN.out.push HEQ.out E6.out (Nat.le_add_left ..) (by decide))⟩
    case measure=>exact mOf_lt EE.out E6.out (Nat.le_add_left ..) HEQ.out
   ·have hl:=(HN.out.push HEQ.out E6.out (m:=1) (Nat.le_add_left ..) (by decide)).le E6.out;go_wp2_with fail;refine (E6.out.need ⟨#[41]⟩ (fun _=>nofun)).mono ?_;rintro e w7 ⟨rfl,s7,E7,-⟩;go_wp2;go_ret;exact (EE.out.on E7.out).lpost hl
end
section
open Go.RowKit Go.BigFrame
set_option maxRecDepth 100000 in
set_option maxHeartbeats 4000000 in
theorem desig_srv {w0:World} {rb tb cap:Nat} {L:List (ByteArray × Int)} {m:Nat} (hl:KeptLaid w0) (hE:Srv 147 w0 rb tb cap L m):Srv 149 w0 rb tb cap L (m+1):=by
 intro w s hr hm;have E0:=hid (env_start hr);have HE:=hid hE;have HL:=hid hl;clear hr hE hl;go_enter Tryz.func149,Tryz.ntmps149;go_wp2_with fail;refine E0.out.at.mono ?_;rintro e w2 ⟨rfl,E2⟩;go_wp2_with fail;refine ((E2.out.nil.new (Nat.zero_le _)).name HL.out).mono ?_;rintro e w3 ⟨y,s3,rfl,hy,E3,-⟩;have v:=E3.out.facts [];go_wp2;go_loopw [5] (fun ii wr=>∃(j:Int) (k:Int) (x:ByteArray) (p q:Int) (A:Option Addr) (n c:Nat) (sr:St),ii=.int .i64 j∧Hid (Env w0 w wr rb tb cap L s sr 0 1 [(w2.heap.size,⟨k,x,p,q,A,n,c⟩),(w.heap.size,sl none 0 0)] [])) (fun _ wr=>mOf L wr rb)
 case atStart=>exact ⟨0,_,_,_,_,_,_,_,s3,rfl,hid (E3.out.put1 [] y hy.out)⟩
 case round=>
  obtain ⟨j,k,x,p,q,A,n,c,sr,rfl,EE⟩:=hrel;have v:=EE.out.facts [];go_wp2_with fail;refine (rOk_any wr EE.out.rd).mono ?_;rintro e w' ⟨rfl,rfl⟩
  cases ho:(sr.er==0) with
  | false=>
   go_wp2_with (with_reducible refine at_store2 ?_;refine EE.out.store (by simp) rfl rfl ?_);exact (EE.out.get []).ret rfl rfl rfl (by simp) (Nat.le_refl _)
  | true=>
   have HEQ:=hid (show sr.er=0 by simpa using ho);by_cases hj:20<j
   ·go_wp2_with fail;refine (EE.out.stop 3 (by decide)).mono ?_;rintro e w4 ⟨rfl,s4,E4,-⟩;have v4:=E4.out.facts [];go_wp2_with (with_reducible refine at_store2 ?_;refine E4.out.store (by simp) rfl rfl ?_);exact (E4.out.get []).ret rfl rfl rfl (by simp) (Nat.le_add_left ..)
   have E1:=hid ((EE.out.re.get []).onenew (k:=0) (x:=⟨#[]⟩) (p:=0) (q:=plN L s.i) (Nat.zero_le _));go_wp2_with fail;refine (E1.out.is ⟨#[46]⟩ nofun).mono ?_;rintro e w4 (⟨s4,rfl,E4,-⟩ | ⟨rfl,E4,-⟩)
   case' inl=>
    have v4:=E4.out.facts [];go_wp2_with fail;refine ((E4.out.put0 [] 25).name HL.out).mono ?_;rintro e w8 ⟨z,s8,rfl,hz,E8,-⟩;have v8:=E8.out.facts [];have E9:=hid (E8.out.put1 [] z hz.out)
   case' inr=>
    go_wp2_with fail;refine (E4.out.is ⟨#[91]⟩ nofun).mono ?_;rintro e w5 (⟨s5,rfl,E5,-⟩ | ⟨rfl,E5,-⟩)
    case' inl=>
     have v5:=E5.out.facts [];have E6:=hid (E5.out.put0 [] 26);have v6:=E6.out.facts [];go_wp2_with fail;go_region_law (first | (go_simp;go_at_call 147;refine (E6.out.drew.call (HE.out _ _ E6.out.drew.rd (E6.out.less (EE.out.less0 hm) (Nat.le_add_left ..)))).mono ?_;rintro e w7 ⟨k7,x7,p7,q7,A7,n7,c7,s7,rfl,E7,-⟩;have v7:=E7.out.facts []) | (refine (E7.out.one.get []).sapp rfl _ _ rfl rfl rfl m0 m1 (by decide) ?_;intro A8 c8 w8 E8;have v8:=E8.out.facts []))
     all_goals
      go_wp2_with fail;refine ((E8.out.put4 []).need ⟨#[93]⟩ (fun _=>nofun)).mono ?_;rintro e w9 ⟨rfl,s9,E9,-⟩
    case' inr=>
     go_wp2_with fail;refine (E5.out.is ⟨#[94]⟩ nofun).mono ?_;rintro e w6 (⟨s6,rfl,E6,-⟩ | ⟨rfl,E6,-⟩)
     case' inl=>
      have v6:=E6.out.facts [];have E9:=hid (E6.out.put0 [] 27)
     case' inr=>
      go_wp2_with fail;refine (E6.out.is ⟨#[123]⟩ nofun).mono ?_;rintro e w5 (⟨s5,rfl,E5,-⟩ | ⟨rfl,E5,-⟩)
      case' inl=>
       have v5:=E5.out.facts [];have E6:=hid (E5.out.put0 [] 28);have v6:=E6.out.facts [];go_wp2_with fail;go_region_law (first | (go_simp;go_at_call 129;refine (E6.out.drew.call (typeName_srv (m:=L.length+1) HL.out _ _ E6.out.drew.rd (by omega))).mono ?_;rintro e w7 ⟨k7,x7,p7,q7,A7,n7,c7,s7,rfl,E7,-⟩;have v7:=E7.out.facts []) | (refine (E7.out.one.get []).sapp rfl _ _ rfl rfl rfl m0 m1 (by decide) ?_;intro A8 c8 w8 E8;have v8:=E8.out.facts []))
       all_goals
        go_wp2_with fail;refine ((E8.out.put4 []).need ⟨#[125]⟩ (fun _=>nofun)).mono ?_;rintro e w9 ⟨rfl,s9,E9,-⟩
      case' inr=>
       have v5:=E5.out.facts [_];go_wp2_with (with_reducible refine at_store2 ?_;refine E5.out.store (by simp) rfl rfl ?_);exact ((EE.out.on E5.out).get [_]).ret rfl rfl rfl (by simp) (Nat.le_refl _)
   all_goals
    have v9:=E9.out.facts [];have u9:=E9.out.facts [_];go_wp2;go_roundw
    case rel=>exact ⟨_,_,_,_,_,_,_,_,_,rfl,hid (EE.out.on ((E9.out.get []).put5 [_]).drop)⟩
    case measure=>exact mOf_lt EE.out ((E9.out.get []).put5 [_]).drop (Nat.le_add_left ..) HEQ.out
end
section
open Go.RowKit Go.BigFrame
set_option maxRecDepth 100000 in
set_option maxHeartbeats 4000000 in
theorem factor_srv {w0:World} {rb tb cap:Nat} {L:List (ByteArray × Int)} {m:Nat} (hl:KeptLaid w0) (hE:Srv 147 w0 rb tb cap L m) (hF:Srv 170 w0 rb tb cap L m):Srv 170 w0 rb tb cap L (m+1):=by
 intro w s hr hm;have E0:=hid (env_start hr);have HD:=hid (desig_srv hl hE);have HG:=hid (given_srv hE);have HE:=hid hE;have HF:=hid hF;clear hr hE hF hl;go_enter Tryz.func170,Tryz.ntmps170;go_wp2_with fail;refine E0.out.at.mono ?_;rintro e w1 ⟨rfl,E1⟩;go_wp2_with fail;refine (E1.out.nil.new (Nat.zero_le _)).word.mono ?_;rintro e w2 ⟨rfl,E2⟩;have v2:=E2.out.facts [];go_wp2_with fail;refine (rOk_any w2 E2.out.rd).mono ?_;rintro e w' ⟨rfl,rfl⟩
 cases ho:(s.er==0) with
 | false=>
  have HNE:=hid (show s.er≠0 by simpa using ho);go_wp2_with (with_reducible refine at_store2 ?_;refine E2.out.store (by simp) rfl rfl ?_);exact ((E2.out.bad HNE.out).get []).ret rfl rfl rfl (by simp) (Nat.le_add_left ..)
 | true=>
  have hsm:=E2.out.rd.toks.small s.i;cases hw:(wdN L s.i).toList.isEmpty
  case' false=>
   have hpos:0<(wdN L s.i).size:=by
    rcases Nat.eq_zero_or_pos (wdN L s.i).size with h | h
    ·exact absurd (ByteArray.ext (Array.eq_empty_of_size_eq_zero h)) (empty_of hw)
    ·exact h
   go_wp2_with fail;refine (isDigit_any _ _).mono ?_;rintro e w' ⟨rfl,rfl⟩;cases hd:digB ((wdN L s.i)[0].toNat:Int)
   case' true=>
    go_wp2_with fail;refine (E2.out.put0 [] 29).value.mono ?_;rintro e w9 ⟨y,s9,rfl,E9,-⟩;have v9:=E9.out.facts [];have E9:=hid (E9.out.put2 [] y);have v9:=E9.out.facts [];go_wp2_with (with_reducible refine at_store2 ?_;refine E9.out.store (by simp) rfl rfl ?_);exact (E9.out.get []).ret rfl rfl rfl (by simp) (Nat.le_add_left ..)
  all_goals
   go_wp2_with fail;refine (E2.out.is ⟨#[84,82,85,69]⟩ nofun).mono ?_;rintro e w3 (⟨s3,rfl,E3,-⟩ | ⟨rfl,E3,-⟩)
   case' inl=>
    have v3:=E3.out.facts [];have E9:=hid (E3.out.put0 [] 30)
   case' inr=>
    go_wp2_with fail;refine (E3.out.is ⟨#[70,65,76,83,69]⟩ nofun).mono ?_;rintro e w4 (⟨s4,rfl,E4,-⟩ | ⟨rfl,E4,-⟩)
    case' inl=>
     have v4:=E4.out.facts [];have E9:=hid (E4.out.put0 [] 31)
    case' inr=>
     go_wp2_with fail;refine (E4.out.is ⟨#[78,73,76]⟩ nofun).mono ?_;rintro e w5 (⟨s5,rfl,E5,-⟩ | ⟨rfl,E5,-⟩)
     case' inl=>
      have v5:=E5.out.facts [];have E9:=hid (E5.out.put0 [] 32)
     case' inr=>
      go_wp2_with fail;refine (E5.out.is ⟨#[126]⟩ nofun).mono ?_;rintro e w6 (⟨s6,rfl,E6,-⟩ | ⟨rfl,E6,-⟩)
      case' inl=>
       go_wp2_with fail;refine E6.out.deeper.mono ?_;rintro e w7 ⟨rfl,s7,E7,-⟩;have v7:=E7.out.facts [];go_wp2_with fail;have E7:=hid (E7.out.put0 [] 34);refine (E7.out.call (HF.out _ _ E7.out.rd (E7.out.less hm (Nat.le_add_left ..)))).mono ?_;rintro e w8 ⟨k8,x8,p8,q8,A8,n8,c8,s8,rfl,E8,-⟩;have v8:=E8.out.facts [];obtain ⟨w9,e,E9⟩:=(E8.out.one4 []).nm;have r9:=E9.out.rds;have E9:=hid E9.out.dec
      case' inr=>
       go_wp2_with fail;refine (E6.out.is ⟨#[40]⟩ nofun).mono ?_;rintro e w7 (⟨s7,rfl,E7,-⟩ | ⟨rfl,E7,-⟩)
       case' inl=>
        go_wp2_with fail;refine (E7.out.call (HE.out _ _ E7.out.rd (E7.out.less hm (Nat.le_add_left ..)))).mono ?_;rintro e w8 ⟨k8,x8,p8,q8,A8,n8,c8,s8,rfl,E8,-⟩;have v8:=E8.out.facts [];go_wp2_with fail;refine ((E8.out.put5 []).need ⟨#[41]⟩ (fun _=>nofun)).mono ?_;rintro e w9 ⟨rfl,s9,E9,-⟩
       case' inr=>
        go_wp2_with fail;refine (E7.out.call (HD.out _ _ E7.out.rd (E7.out.less0 hm))).mono ?_;rintro e w8 ⟨k8,x8,p8,q8,A8,n8,c8,s8,rfl,E8,-⟩;have E8:=hid E8.out.var;have v8:=E8.out.facts [];go_wp2_with fail;refine (rOk_any _ E8.out.rd).mono ?_;rintro e w' ⟨rfl,rfl⟩
        cases ho8:(s8.er==0) with
        | false=>
         go_wp2_with (with_reducible refine at_store2 ?_;refine E8.out.store (by simp) rfl rfl ?_);exact (E8.out.get []).ret rfl rfl rfl (by simp) (Nat.le_add_left ..)
        | true=>
         go_wp2_with fail;refine E8.out.word.mono ?_;rintro e w9 ⟨rfl,E9⟩;have v9:=E9.out.facts [];have u9:=E9.out.facts [_]
         cases hb:((wdN L s8.i).toList==[40]) with
         | false=>
          go_wp2_with (with_reducible refine at_store2 ?_;refine E9.out.store (by simp) rfl rfl ?_);exact (E9.out.get []).ret rfl rfl rfl (by simp) (Nat.le_add_left ..)
         | true=>
          obtain ⟨w10,e,E10⟩:=(E9.out.put0 [_] 33).nm;have v10:=E10.out.facts [];have u10:=E10.out.facts [_];go_wp2_with fail;go_region_law (first | (go_simp;go_at_call 150;(first | refine (E10.out.drew.calll (HG.out _ _ E10.out.drew.rd (E10.out.less0 hm))).mono ?_ | refine ((E10.out.drew.get []).one.calll (HG.out _ _ (E10.out.drew.get []).one.rd (E10.out.less0 hm))).mono ?_);rintro e w11 ⟨A11,n11,c11,s11,rfl,E11,-,hn⟩;have hn:=hn.out;have v11:=E11.out.facts [];have u11:=E11.out.facts [_]) | ((first | refine (E11.out.get []).one.sapp rfl _ _ rfl rfl rfl m0 m1 (by omega) ?_ | refine E11.out.sapp rfl _ _ rfl rfl rfl m1 m0 (by omega) ?_);intro A12 c12 w12 E12;have v12:=E12.out.facts [_]))
          all_goals
           have E9:=hid (E12.out.put4 [_]);have v9:=E9.out.facts [_];go_wp2_with (with_reducible refine at_store2 ?_;refine E9.out.store (by simp) rfl rfl ?_);exact (E9.out.get [_]).ret rfl rfl rfl (by simp) (Nat.le_add_left ..)
   all_goals
    have v9:=E9.out.facts [];go_wp2_with (with_reducible refine at_store2 ?_;refine E9.out.store (by simp) rfl rfl ?_);exact (E9.out.get []).ret rfl rfl rfl (by simp) (Nat.le_add_left ..)
end
end Go.Proofs.YtneohanphabneaaGreatDoor
