/-
The document's reader of words: products, sums, expressions, the walks. Conditions: the reader lies in memory.
-/
import Derived.Test.YtneohanphabneaaGreatDoorEnv
namespace Go.Proofs.YtneohanphabneaaGreatDoor
set_option linter.unusedSimpArgs false
set_option linter.unusedVariables false
section
open Go.RowKit Go.BigFrame
set_option maxRecDepth 100000 in
set_option maxHeartbeats 4000000 in
theorem product_srv {w0:World} {rb tb cap:Nat} {L:List (ByteArray × Int)} {m:Nat} (hF:Srv 170 w0 rb tb cap L m):Srv 164 w0 rb tb cap L m:=by
 intro w s hr hm;have E0:=hid (env_start hr);have HF:=hid hF;clear hr hF;go_enter Tryz.func164,Tryz.ntmps164;go_wp2_with fail;refine (E0.out.call (HF.out _ _ E0.out.rd (E0.out.less0 hm))).mono ?_;rintro e w2 ⟨k,x,p,q,A,n,c,s2,rfl,E2,-⟩;go_wp2;go_loopw [4] (fun ii wr=>∃(j:Int) (k:Int) (x:ByteArray) (p q:Int) (A:Option Addr) (n c:Nat) (sr:St),ii=.int .i64 j∧Hid (Env w0 w wr rb tb cap L s sr 0 1 [(w2.heap.size,⟨k,x,p,q,A,n,c⟩),(w.heap.size,sl none 0 0)] [])) (fun _ wr=>mOf L wr rb)
 case atStart=>exact ⟨1,k,x,p,q,A,n,c,s2,rfl,hid E2.out.var⟩
 case round=>
  obtain ⟨j,k,x,p,q,A,n,c,sr,rfl,EE⟩:=hrel;have v:=EE.out.facts [];go_wp2_with fail;refine (rOk_any wr EE.out.rd).mono ?_;rintro e w' ⟨rfl,rfl⟩
  cases ho:(sr.er==0) with
  | false=>
   go_wp2_with (with_reducible refine at_store2 ?_;refine EE.out.store (by simp) rfl rfl ?_);exact (EE.out.get []).ret rfl rfl rfl (by simp) (Nat.le_refl _)
  | true=>
   have HEQ:=hid (show sr.er=0 by simpa using ho);go_wp2_with fail;refine EE.out.re.word.mono ?_;rintro e w4 ⟨rfl,E4⟩;go_wp2_with fail;refine (E4.out.isin _ mulL (by decide) (by decide) rfl).mono ?_;rintro e w5 ⟨b,rfl,hb,E5⟩;have v5:=E5.out.facts []
   cases b with
   | false=>
    go_wp2_with (with_reducible refine at_store2 ?_;refine E5.out.store (by simp) rfl rfl ?_);exact ((EE.out.on E5.out).get []).ret rfl rfl rfl (by simp) (Nat.le_refl _)
   | true=>
    go_wp2_with fail;refine (E5.out.is _ (hb.out (by trivial))).mono ?_;rintro e w6 (⟨s6,rfl,E6,-⟩ | ⟨rfl,-,h⟩);rotate_left
    ·exact (h.out HEQ.out rfl).elim
    by_cases hj:20<j
    case' pos=>
     go_wp2_with fail;refine (E6.out.stop 3 (by decide)).mono ?_;rintro e w7 ⟨rfl,s7,E7,-⟩;have E7:=hid (E7.out.weak (Nat.le_refl _) (Nat.le_succ _))
    case' neg=>have E7:=E6
    all_goals
     go_wp2_with fail;have v:=E7.out.facts [];go_region_law (first | (go_simp;go_at_call 170;refine (E7.out.drew.call (HF.out _ _ E7.out.drew.rd ((EE.out.on E7.out).less0 hm))).mono ?_;rintro e w8 ⟨k8,x8,p8,q8,A8,n8,c8,s8,rfl,E8,-⟩;have v8:=E8.out.facts []))
     all_goals
      have E9:=hid ((E8.out.get []).two5 [] (E8.out.rd.toks.small sr.i) (k':=36) (p':=0) (q':=q));go_wp2;go_roundw
      case rel=>exact ⟨_,_,_,_,_,_,_,_,s8,rfl,hid (EE.out.on E9.out)⟩
      case measure=>exact mOf_lt EE.out E9.out (Nat.le_add_left ..) HEQ.out
end
section
open Go.RowKit Go.BigFrame
set_option maxRecDepth 100000 in
set_option maxHeartbeats 4000000 in
theorem sum_srv {w0:World} {rb tb cap:Nat} {L:List (ByteArray × Int)} {m:Nat} (hF:Srv 164 w0 rb tb cap L m):Srv 157 w0 rb tb cap L m:=by
 intro w s hr hm;have E0:=hid (env_start hr);have HF:=hid hF;clear hr hF;go_enter Tryz.func157,Tryz.ntmps157;go_wp2_with fail;refine E0.out.at.mono ?_;rintro e w2 ⟨rfl,E2⟩;go_wp2_with fail;refine (E2.out.nil.var.is ⟨#[45]⟩ nofun).mono ?_;rintro e w4 (⟨s4,rfl,E4,-⟩ | ⟨rfl,E4,-⟩)
 all_goals
  have v:=E4.out.facts [];go_wp2_with fail;refine (E4.out.call (HF.out _ _ E4.out.rd (E4.out.less0 hm))).mono ?_;rintro e w5 ⟨k,x,p,q,A,n,c,s5,rfl,E5,-⟩;have v5:=E5.out.facts [];go_wp2;go_loopw [5] (fun ii wr=>∃(j:Int) (k:Int) (x:ByteArray) (p q:Int) (A:Option Addr) (n c:Nat) (sr:St),ii=.int .i64 j∧Hid (Env w0 w wr rb tb cap L s sr 0 1 [(w2.heap.size,⟨k,x,p,q,A,n,c⟩),(w.heap.size,sl none 0 0)] [])) (fun _ wr=>mOf L wr rb)
  case atStart=>first | exact ⟨1,_,_,_,_,_,_,_,s5,rfl,hid ((E5.out.put5 []).weak (Nat.zero_le _) (Nat.le_add_left ..))⟩ | exact ⟨1,_,_,_,_,_,_,_,s5,rfl,hid ((E5.out.one5 [] (Nat.zero_le _)).weak (Nat.zero_le _) (Nat.le_add_left ..))⟩
  case round=>
   obtain ⟨j,k,x,p,q,A,n,c,sr,rfl,EE⟩:=hrel;have v:=EE.out.facts [];go_wp2_with fail;refine (rOk_any wr EE.out.rd).mono ?_;rintro e w' ⟨rfl,rfl⟩
   cases ho:(sr.er==0) with
   | false=>
    go_wp2_with (with_reducible refine at_store2 ?_;refine EE.out.store (by simp) rfl rfl ?_);exact (EE.out.get []).ret rfl rfl rfl (by simp) (Nat.le_refl _)
   | true=>
    have HEQ:=hid (show sr.er=0 by simpa using ho);go_wp2_with fail;refine EE.out.re.word.mono ?_;rintro e w4 ⟨rfl,E4⟩;go_wp2_with fail;refine (E4.out.isin _ sumL (by decide) (by decide) rfl).mono ?_;rintro e w5 ⟨b,rfl,hb,E5⟩;have v5:=E5.out.facts []
    cases b with
    | false=>
     go_wp2_with (with_reducible refine at_store2 ?_;refine E5.out.store (by simp) rfl rfl ?_);exact ((EE.out.on E5.out).get []).ret rfl rfl rfl (by simp) (Nat.le_refl _)
    | true=>
     go_wp2_with fail;refine (E5.out.is _ (hb.out (by trivial))).mono ?_;rintro e w6 (⟨s6,rfl,E6,-⟩ | ⟨rfl,-,h⟩);rotate_left
     ·exact (h.out HEQ.out rfl).elim
     by_cases hj:20<j
     case' pos=>
      go_wp2_with fail;refine (E6.out.stop 3 (by decide)).mono ?_;rintro e w7 ⟨rfl,s7,E7,-⟩;have E7:=hid (E7.out.weak (Nat.le_refl _) (Nat.le_succ _))
     case' neg=>have E7:=E6
     all_goals
      go_wp2_with fail;have v:=E7.out.facts [];go_region_law (first | (go_simp;go_at_call 164;refine (E7.out.drew.call (HF.out _ _ E7.out.drew.rd ((EE.out.on E7.out).less0 hm))).mono ?_;rintro e w8 ⟨k8,x8,p8,q8,A8,n8,c8,s8,rfl,E8,-⟩;have v8:=E8.out.facts []))
      all_goals
       have E9:=hid ((E8.out.get []).two5 [] (E8.out.rd.toks.small sr.i) (k':=36) (p':=0) (q':=q));go_wp2;go_roundw
       case rel=>exact ⟨_,_,_,_,_,_,_,_,s8,rfl,hid (EE.out.on E9.out)⟩
       case measure=>exact mOf_lt EE.out E9.out (Nat.le_add_left ..) HEQ.out
end
section
open Go.RowKit Go.BigFrame
set_option maxRecDepth 100000 in
set_option maxHeartbeats 4000000 in
theorem expr_srv {w0:World} {rb tb cap:Nat} {L:List (ByteArray × Int)} {m:Nat} (hl:KeptLaid w0) (hF:Srv 157 w0 rb tb cap L m):Srv 147 w0 rb tb cap L m:=by
 intro w s hr hm;have E0:=hid (env_start hr);have HF:=hid hF;have HL:=hid hl;clear hr hF hl;go_enter Tryz.func147,Tryz.ntmps147;go_wp2_with fail;refine E0.out.deeper.mono ?_;rintro e w1 ⟨rfl,s1,E1,-⟩;go_wp2_with fail;refine (E1.out.call (HF.out _ _ E1.out.rd (E1.out.less0 hm))).mono ?_;rintro e w2 ⟨k,x,p,q,A,n,c,s2,rfl,E2,-⟩;go_wp2_with fail;refine E2.out.var.word.mono ?_;rintro e w3 ⟨rfl,E3⟩;go_wp2_with fail;refine (E3.out.is ⟨#[73,83]⟩ nofun).mono ?_;rintro e w4 (⟨s4,rfl,E4,-⟩ | ⟨rfl,E4,-⟩)
 case' inl=>
  have v:=E4.out.facts [];go_wp2_with fail;go_region_law (first | (go_simp;go_at_call 129;refine (E4.out.drew.call (typeName_srv (m:=L.length+1) HL.out _ _ E4.out.drew.rd (by omega))).mono ?_;rintro e w8 ⟨k8,x8,p8,q8,A8,n8,c8,s8,rfl,E8,-⟩;have v8:=E8.out.facts []))
  all_goals obtain ⟨w9,e,E9⟩:=((E8.out.get []).two5 [] (x':=⟨#[]⟩) (Nat.zero_le _) (k':=37) (p':=0) (q':=q)).nm
 case' inr=>
  go_wp2_with fail;refine (E4.out.isin _ relL (by decide) (by decide) rfl).mono ?_;rintro e w5 ⟨b,rfl,hb,E5⟩;cases b
  case' false=>have E9:=E5
  case' true=>
   go_wp2_with fail;refine (E5.out.is _ (hb.out (by trivial))).mono ?_;rintro e w6 (⟨s6,rfl,E6,-⟩ | ⟨rfl,E6,-⟩)
   case' inr=>have E9:=E6
   case' inl=>
    have v:=E6.out.facts [];go_wp2_with fail;go_region_law (first | (go_simp;go_at_call 157;refine (E6.out.drew.call (HF.out _ _ E6.out.drew.rd (E6.out.less0 hm))).mono ?_;rintro e w8 ⟨k8,x8,p8,q8,A8,n8,c8,s8,rfl,E8,-⟩;have v8:=E8.out.facts []))
    all_goals obtain ⟨w9,e,E9⟩:=((E8.out.get []).two5 [] (x':=wdN L s2.i) (E8.out.rd.toks.small _) (k':=36) (p':=0) (q':=q)).nm
 all_goals
  have v9:=E9.out.facts [];have r9:=E9.out.rds;have Ed:=hid E9.out.dec;have vd:=Ed.out.facts [];go_wp2_with (with_reducible refine at_store2 ?_;refine Ed.out.store (by simp) rfl rfl ?_);exact (Ed.out.get []).ret rfl rfl rfl (by simp) (Nat.le_add_left ..)
end
end Go.Proofs.YtneohanphabneaaGreatDoor
