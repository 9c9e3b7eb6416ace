/-
The document's text of a tree, the walks: parts of declarations. Conditions: the tree lies in memory and is shaped; the text's length is below a bound.
-/
import Derived.Test.YtneohanphabneaaGreatDoorTextR3
namespace Go.Proofs.YtneohanphabneaaGreatDoor
set_option linter.unusedSimpArgs false
set_option linter.unusedVariables false
open Go.RowKit Go.BigFrame
/-- A line of 'declText'. -/
def declLT (d:Nat) (x:Nd):ByteArray:=
 if x.kind=4 then ⟨#[32,32]⟩++starT x++⟨#[32,61,32]⟩++exprT d (x.sub 0)++⟨#[59,10]⟩
 else if x.kind=5 then ⟨#[32,32]⟩++starT x++⟨#[32,61,32]⟩++typeT (x.sub 0)++⟨#[59,10]⟩
 else ⟨#[32,32]⟩++starT x++⟨#[58,32]⟩++nameT (x.sub 0)++⟨#[59,10]⟩
def declOK (d:Nat) (x:Nd):Bool:=(decide (x.kind=4) && headB x 4 true 1 1 && exprS d (x.sub 0)) || (decide (x.kind=5) && headB x 5 true 1 1 && typeS (x.sub 0)) || (decide (x.kind=6) && varS x 6)
/-- 'declText'. -/
def declTT (d:Nat) (wd:ByteArray) (l:List Nd):ByteArray:=if l.length=0 then ⟨#[]⟩ else wd++⟨#[10]⟩++catB (l.map (declLT d))
set_option maxRecDepth 100000 in
set_option maxHeartbeats 16000000 in
theorem declText_any (d:Nat) (wd:ByteArray) (l:List Nd) (A:Option Addr) (c:Nat) (w:World) (hk:KidsL w (d+1) l A c) (hs:l.all (declOK d)=true) (hsz:(declTT d wd l).size≤maxT):
  Calls Tryz.prog 21 #[.string wd,.slice A l.length c] w fun e w'=>e=.returned (.string (declTT d wd l))∧Below w.heap.size w w':=by
 have hlen:=hk.len;unfold maxLen at hlen;have HKL:=hid hk;have HAL:=hid hs;clear hk hs
 cases h0:((l.length:Int)==0) with
 | true=>
  have H0:=hid (show l.length=0 by simp only [beq_iff_eq] at h0;omega);go_enter Tryz.func21,Tryz.ntmps21;go_wp2;go_ret;exact ⟨ret_str (by unfold declTT;rw [if_pos H0.out]),Below.refl _ _⟩
 | false=>
  have h0':¬l.length=0:=(by simp only [beq_eq_false_iff_ne,ne_eq] at h0;omega);unfold declTT maxT at hsz;rw [if_neg h0'] at hsz;have H0:=hid h0';simp only [ByteArray.size_append,ba_size,List.size_toArray,List.length_cons,List.length_nil] at hsz;have hwz:wd.size+1≤1099511627776:=(by omega);have HSZ:=hid hsz;clear hsz h0';go_enter Tryz.func21,Tryz.ntmps21;go_wp2;obtain ⟨PR,hPR⟩:∃PR:ByteArray,PR=wd++⟨#[10]⟩:=⟨_,rfl⟩;have hPz:PR.size+(catB (l.map (declLT d))).size≤1099511627776:=(by have h:=HSZ.out;rw [hPR];simp only [ByteArray.size_append,ba_size,List.size_toArray,List.length_cons,List.length_nil] at h⊢;omega);have HPZ:=hid hPz;rw [← hPR];have HPR:=hid hPR;clear hPz hPR;go_loopw [5,6] (fun ss ii wr=>∃(j:Nat) (S:ByteArray),j≤l.length∧ii=.int .i64 j∧ss=.string S∧S=PR++catB ((l.take j).map (declLT d))∧Below w.heap.size w wr) (fun _ ii _=>l.length - (intOf ii).toNat)
  case atStart=>exact ⟨0,_,by omega,rfl,rfl,by simp [catB,ba_nil],Below.refl _ _⟩
  case round=>
   obtain ⟨j,S,hj,rfl,rfl,hS,hbr⟩:=hrel;have HSS:=hid hS;have HCR:=hid hbr;clear hS hbr;by_cases hlt:j<l.length
   ·skip;obtain ⟨y,hy⟩:∃y,l[j]?=some y:=⟨_,List.getElem?_eq_getElem hlt⟩;obtain ⟨b,o,Ay,cy,hA,hx,hky⟩:=HKL.out.2.2 j y hy;subst hA;have hok:=all_at HAL.out hy;have hcs:=cat_size (f:=declLT d) hy;have STEP:=hid (cat_step (f:=declLT d) hy);clear hy;obtain ⟨yk,ys,yn,yp,yl⟩:=y;simp only [declOK,Bool.or_eq_true,Bool.and_eq_true,decide_eq_true_eq] at hok
    have hone:∃z,yl=[z]:=by
     rcases hok with (⟨⟨_,h⟩,_⟩ | ⟨⟨_,h⟩,_⟩) | ⟨_,h⟩
     ·exact len1 (headB_len h (by omega))
     ·exact len1 (headB_len h (by omega))
     ·simp only [varS,Bool.and_eq_true] at h;exact len1 (headB_len h.1 (by omega))
    obtain ⟨z,rfl⟩:=hone;obtain ⟨b2,o2,Az,cz,rfl,hx_z,hk_z⟩:=hky.one (x:=z) (r:=[]) rfl;have HX_y:=hid hx;have HX_z:=hid hx_z;have HK_z:=hid hk_z;clear hx hx_z hky hk_z;have hns:ys.size≤(starT ⟨yk,ys,yn,yp,[z]⟩).size:=(by unfold starT;split <;> simp [ByteArray.size_append]);rcases hok with (⟨⟨hkd,_⟩,hin⟩ | ⟨⟨hkd,_⟩,hin⟩) | ⟨hkd,hin⟩
    ·skip;subst hkd
     try simp only [Nd.sub,List.getD_cons_zero] at hin
     have FY:=hid (show declLT d ⟨4,ys,yn,yp,[z]⟩=⟨#[32,32]⟩++starT ⟨4,ys,yn,yp,[z]⟩++⟨#[32,61,32]⟩++exprT d z++⟨#[59,10]⟩ by simp [declLT,Nd.sub]);rw [FY.out] at hcs;have HIN:=hid hin;clear hin;obtain ⟨Ty,hT_y⟩:∃T,T=starT ⟨4,ys,yn,yp,[z]⟩:=⟨_,rfl⟩;rw [← hT_y] at hcs hns;have HT_y:=hid hT_y;clear hT_y;obtain ⟨Tz,hT_z⟩:∃T,T=exprT d z:=⟨_,rfl⟩;rw [← hT_z] at hcs;have HT_z:=hid hT_z;clear hT_z
     have hz:S.size+Ty.size+Tz.size+7≤1099511627776:=by
      have h:=HPZ.out;rw [HSS.out];simp only [ByteArray.size_append,ba_size,List.size_toArray,List.length_cons,List.length_nil] at hcs⊢;omega
     clear hcs;obtain ⟨fy0,fy1,fy2,fy3,fy4⟩:=nb HX_y HCR;have fz:=(nb HX_z HCR).all;have v0:=keep_cell (bBw wr (.cells #[.int .i64 z.kind,.string z.name,.int .i64 z.num,.int .i64 z.pos,.slice Az z.subs.length cz] 24)) fy0;go_wp2;clear v0;have HATZ:=hid (bAt wr z Az cz 24);generalize hV:wr.alloc (.cells #[.int .i64 z.kind,.string z.name,.int .i64 z.num,.int .i64 z.pos,.slice Az z.subs.length cz] 24)=V at *;have HCV:=hid (show Below w.heap.size w V by rw [← hV];exact bTh HCR.out (bBw _ _));clear hV;clear fy0 fy1 fy2 fy3 fy4 fz;obtain ⟨fy0,fy1,fy2,fy3,fy4⟩:=nb HX_y HCV;have q_:=HATZ.out.all;have r_0:=cRg fy0;have r_1:=cRg fy1;have r_2:=cRg fy2;have r_3:=cRg fy3;have r_4:=cRg fy4;have r5_5:=c5 q_;have cQ0:∀dd os,Calls Tryz.prog 44 #[.agg #[.int .i64 4,.string ys,.int .i64 yn,.int .i64 yp,.slice (some ⟨b2,o2,none⟩) 1 cy]] (Go.Sort.grow (redrawn V dd) os) fun e w''=>e=.returned (.string Ty)∧∃p:Regrown,w''=Go.Sort.grow (redrawn V p.d) p.os:=fun dd os=>(by rw [HT_y.out];exact Calls.regrown_of (starred_any ⟨4,ys,yn,yp,[z]⟩ (some ⟨b2,o2,none⟩) cy _ (by unfold maxT;simp only;omega)));have cQ1:∀dd os,Calls Tryz.prog 45 #[.agg #[.int .i64 z.kind,.string z.name,.int .i64 z.num,.int .i64 z.pos,.slice Az z.subs.length cz]] (Go.Sort.grow (redrawn V dd) os) fun e w''=>e=.returned (.string Tz)∧∃p:Regrown,w''=Go.Sort.grow (redrawn V p.d) p.os:=fun dd os=>(by rw [HT_z.out];exact Calls.regrown_of (exprText_any d z Az cz _ (HK_z.out.below (bTh HCV.out (below_regrown _ _ _))) HIN.out (by rw [← HT_z.out];unfold maxT;omega)));refine wp_region_quiet_below (by kernel_rfl) (by kernel_rfl) ?_
     repeat (go_big_quiet_step (first | with_reducible exact cQ0 _ _ | with_reducible exact cQ1 _ _))
     refine wpQuiet_nil ?_;intro _ hw';obtain ⟨⟨dq,osq⟩,hw''⟩:=hw';subst hw'';clear cQ0 cQ1 r_0 r_1 r_2 r_3 r_4 r5_5;have HG:=hid (bTh HCV.out (below_regrown V dq osq));generalize hG:Go.Sort.grow (redrawn V dq) osq=G at *;clear hG;go_wp2;go_roundw
     case rel=>exact ⟨j+1,_,by omega,by go_num,rfl,by rw [STEP.out,FY.out,HSS.out,← HT_y.out,← HT_z.out];simp only [ba_assoc],HG.out⟩
     case measure=>simp [intOf];omega
    ·skip;subst hkd
     try simp only [Nd.sub,List.getD_cons_zero] at hin
     have FY:=hid (show declLT d ⟨5,ys,yn,yp,[z]⟩=⟨#[32,32]⟩++starT ⟨5,ys,yn,yp,[z]⟩++⟨#[32,61,32]⟩++typeT z++⟨#[59,10]⟩ by simp [declLT,Nd.sub]);rw [FY.out] at hcs;have HIN:=hid hin;clear hin;obtain ⟨Ty,hT_y⟩:∃T,T=starT ⟨5,ys,yn,yp,[z]⟩:=⟨_,rfl⟩;rw [← hT_y] at hcs hns;have HT_y:=hid hT_y;clear hT_y;obtain ⟨Tz,hT_z⟩:∃T,T=typeT z:=⟨_,rfl⟩;rw [← hT_z] at hcs;have HT_z:=hid hT_z;clear hT_z
     have hz:S.size+Ty.size+Tz.size+7≤1099511627776:=by
      have h:=HPZ.out;rw [HSS.out];simp only [ByteArray.size_append,ba_size,List.size_toArray,List.length_cons,List.length_nil] at hcs⊢;omega
     clear hcs;obtain ⟨fy0,fy1,fy2,fy3,fy4⟩:=nb HX_y HCR;have fz:=(nb HX_z HCR).all;have v0:=keep_cell (bBw wr (.cells #[.int .i64 z.kind,.string z.name,.int .i64 z.num,.int .i64 z.pos,.slice Az z.subs.length cz] 24)) fy0;go_wp2;clear v0;have HATZ:=hid (bAt wr z Az cz 24);generalize hV:wr.alloc (.cells #[.int .i64 z.kind,.string z.name,.int .i64 z.num,.int .i64 z.pos,.slice Az z.subs.length cz] 24)=V at *;have HCV:=hid (show Below w.heap.size w V by rw [← hV];exact bTh HCR.out (bBw _ _));clear hV;clear fy0 fy1 fy2 fy3 fy4 fz;obtain ⟨fy0,fy1,fy2,fy3,fy4⟩:=nb HX_y HCV;have q_:=HATZ.out.all;have r_0:=cRg fy0;have r_1:=cRg fy1;have r_2:=cRg fy2;have r_3:=cRg fy3;have r_4:=cRg fy4;have r5_5:=c5 q_;have cQ0:∀dd os,Calls Tryz.prog 44 #[.agg #[.int .i64 5,.string ys,.int .i64 yn,.int .i64 yp,.slice (some ⟨b2,o2,none⟩) 1 cy]] (Go.Sort.grow (redrawn V dd) os) fun e w''=>e=.returned (.string Ty)∧∃p:Regrown,w''=Go.Sort.grow (redrawn V p.d) p.os:=fun dd os=>(by rw [HT_y.out];exact Calls.regrown_of (starred_any ⟨5,ys,yn,yp,[z]⟩ (some ⟨b2,o2,none⟩) cy _ (by unfold maxT;simp only;omega)));have cQ1:∀dd os,Calls Tryz.prog 46 #[.agg #[.int .i64 z.kind,.string z.name,.int .i64 z.num,.int .i64 z.pos,.slice Az z.subs.length cz]] (Go.Sort.grow (redrawn V dd) os) fun e w''=>e=.returned (.string Tz)∧∃p:Regrown,w''=Go.Sort.grow (redrawn V p.d) p.os:=fun dd os=>(by rw [HT_z.out];exact Calls.regrown_of (typeText_any d z Az cz _ (HK_z.out.below (bTh HCV.out (below_regrown _ _ _))) HIN.out (by rw [← HT_z.out];unfold maxT;omega)));refine wp_region_quiet_below (by kernel_rfl) (by kernel_rfl) ?_
     repeat (go_big_quiet_step (first | with_reducible exact cQ0 _ _ | with_reducible exact cQ1 _ _))
     refine wpQuiet_nil ?_;intro _ hw';obtain ⟨⟨dq,osq⟩,hw''⟩:=hw';subst hw'';clear cQ0 cQ1 r_0 r_1 r_2 r_3 r_4 r5_5;have HG:=hid (bTh HCV.out (below_regrown V dq osq));generalize hG:Go.Sort.grow (redrawn V dq) osq=G at *;clear hG;go_wp2;go_roundw
     case rel=>exact ⟨j+1,_,by omega,by go_num,rfl,by rw [STEP.out,FY.out,HSS.out,← HT_y.out,← HT_z.out];simp only [ba_assoc],HG.out⟩
     case measure=>simp [intOf];omega
    ·skip;subst hkd
     try simp only [Nd.sub,List.getD_cons_zero] at hin
     have FY:=hid (show declLT d ⟨6,ys,yn,yp,[z]⟩=⟨#[32,32]⟩++starT ⟨6,ys,yn,yp,[z]⟩++⟨#[58,32]⟩++nameT z++⟨#[59,10]⟩ by simp [declLT,Nd.sub]);rw [FY.out] at hcs;have HIN:=hid hin;clear hin;obtain ⟨Ty,hT_y⟩:∃T,T=starT ⟨6,ys,yn,yp,[z]⟩:=⟨_,rfl⟩;rw [← hT_y] at hcs hns;have HT_y:=hid hT_y;clear hT_y;obtain ⟨Tz,hT_z⟩:∃T,T=nameT z:=⟨_,rfl⟩;rw [← hT_z] at hcs;have HT_z:=hid hT_z;clear hT_z
     have hz:S.size+Ty.size+Tz.size+6≤1099511627776:=by
      have h:=HPZ.out;rw [HSS.out];simp only [ByteArray.size_append,ba_size,List.size_toArray,List.length_cons,List.length_nil] at hcs⊢;omega
     clear hcs;obtain ⟨fy0,fy1,fy2,fy3,fy4⟩:=nb HX_y HCR;have fz:=(nb HX_z HCR).all;have v0:=keep_cell (bBw wr (.cells #[.int .i64 z.kind,.string z.name,.int .i64 z.num,.int .i64 z.pos,.slice Az z.subs.length cz] 24)) fy0;go_wp2;clear v0;have HATZ:=hid (bAt wr z Az cz 24);generalize hV:wr.alloc (.cells #[.int .i64 z.kind,.string z.name,.int .i64 z.num,.int .i64 z.pos,.slice Az z.subs.length cz] 24)=V at *;have HCV:=hid (show Below w.heap.size w V by rw [← hV];exact bTh HCR.out (bBw _ _));clear hV;clear fy0 fy1 fy2 fy3 fy4 fz;obtain ⟨fy0,fy1,fy2,fy3,fy4⟩:=nb HX_y HCV;have q_:=HATZ.out.all;have r_0:=cRg fy0;have r_1:=cRg fy1;have r_2:=cRg fy2;have r_3:=cRg fy3;have r_4:=cRg fy4;have r5_5:=c5 q_;have cQ0:∀dd os,Calls Tryz.prog 44 #[.agg #[.int .i64 6,.string ys,.int .i64 yn,.int .i64 yp,.slice (some ⟨b2,o2,none⟩) 1 cy]] (Go.Sort.grow (redrawn V dd) os) fun e w''=>e=.returned (.string Ty)∧∃p:Regrown,w''=Go.Sort.grow (redrawn V p.d) p.os:=fun dd os=>(by rw [HT_y.out];exact Calls.regrown_of (starred_any ⟨6,ys,yn,yp,[z]⟩ (some ⟨b2,o2,none⟩) cy _ (by unfold maxT;simp only;omega)));have cQ1:∀dd os,Calls Tryz.prog 47 #[.agg #[.int .i64 z.kind,.string z.name,.int .i64 z.num,.int .i64 z.pos,.slice Az z.subs.length cz]] (Go.Sort.grow (redrawn V dd) os) fun e w''=>e=.returned (.string Tz)∧∃p:Regrown,w''=Go.Sort.grow (redrawn V p.d) p.os:=fun dd os=>(by rw [HT_z.out];exact Calls.regrown_of (nameText_any d z Az cz _ (HK_z.out.below (bTh HCV.out (below_regrown _ _ _))) (by rw [← HT_z.out];unfold maxT;omega)));refine wp_region_quiet_below (by kernel_rfl) (by kernel_rfl) ?_
     repeat (go_big_quiet_step (first | with_reducible exact cQ0 _ _ | with_reducible exact cQ1 _ _))
     refine wpQuiet_nil ?_;intro _ hw';obtain ⟨⟨dq,osq⟩,hw''⟩:=hw';subst hw'';clear cQ0 cQ1 r_0 r_1 r_2 r_3 r_4 r5_5;have HG:=hid (bTh HCV.out (below_regrown V dq osq));generalize hG:Go.Sort.grow (redrawn V dq) osq=G at *;clear hG;go_wp2;go_roundw
     case rel=>exact ⟨j+1,_,by omega,by go_num,rfl,by rw [STEP.out,FY.out,HSS.out,← HT_y.out,← HT_z.out];simp only [ba_assoc],HG.out⟩
     case measure=>simp [intOf];omega
   ·skip;go_wp2;go_ret;exact ⟨ret_str (by unfold declTT;rw [if_neg H0.out,HSS.out,List.take_of_length_le (by omega),HPR.out]),HCR.out⟩
end Go.Proofs.YtneohanphabneaaGreatDoor
