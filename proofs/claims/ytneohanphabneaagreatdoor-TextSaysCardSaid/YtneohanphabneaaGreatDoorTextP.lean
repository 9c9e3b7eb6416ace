/-
The program's texts of small parts, the walks. Conditions: the tree lies in memory.
-/
import Derived.Test.YtneohanphabneaaGreatDoorTextR3
import Derived.Test.YtneohanphabneaaGreatDoorShelf
import Derived.Lib.SmallJoins
namespace Go.Proofs.YtneohanphabneaaGreatDoor
set_option linter.unusedSimpArgs false
set_option linter.unusedVariables false
section
open Go.RowKit Go.BigFrame
/-- The table that strconv.Itoa reads is laid. -/
def PowLaid (w : World) : Prop := Lib.TabIs Tryz.prog w "internal/strconv.uint64pow10" .u64 Lib.pow10Tab
theorem gPow : Tryz.prog.globalNamed "internal/strconv.uint64pow10" = some 3 := by kernel_rfl
theorem PowLaid.below {w w':World} (h:PowLaid w) (hb:Below w.heap.size w w'):PowLaid w':=Joins.tab_stays gPow h hb (Nat.le_refl _)
theorem Itoa_any (n:Int) (w:World) (hl:PowLaid w) (h0:0≤n) (h1:n≤2147483647):
  Calls Tryz.prog 115 #[.int .i64 n] w fun e w'=>e=.returned (.string (decT n))∧Below w.heap.size w w':=
 (Tryz.strconv_Itoa n (by omega) (by omega) w hl).mono fun e w' h=>by
  obtain ⟨he,k,os,rfl⟩:=h;exact ⟨he,rfl,rfl,rfl,by simp [Go.Sort.grow,World.drewN],fun j hj=>by simp [Go.Sort.grow,World.drewN,Array.getElem?_append,hj]⟩
/-- 'star'. -/
def starP (n:Nd):ByteArray:=if n.num=1 then ⟨#[42]⟩ else ⟨#[]⟩
theorem star_app (n:Nd):n.name++starP n=starT n:=by unfold starP starT;split <;> simp only [ba_nil]
theorem star_any (n:Nd) (A:Option Addr) (c:Nat) (w:World):
  Calls Tryz.prog 67 #[.agg #[.int .i64 n.kind,.string n.name,.int .i64 n.num,.int .i64 n.pos,.slice A n.subs.length c]] w fun e w'=>e=.returned (.string (starP n))∧Below w.heap.size w w':=by
 obtain ⟨k,s,num,pos,subs⟩:=n;have HBX:=hid (bBw w (.cells #[.int .i64 k,.string s,.int .i64 num,.int .i64 pos,.slice A subs.length c] 24))
 cases h1:(num==1) with
 | true=>
  have H1:=hid (show num=1 by simpa using h1);go_enter Tryz.func67,Tryz.ntmps67;go_wp2;go_ret;exact ⟨ret_str (by simp [starP,H1.out]),HBX.out⟩
 | false=>
  have H1:=hid (show ¬num=1 by simpa using h1);go_enter Tryz.func67,Tryz.ntmps67;go_wp2;go_ret;exact ⟨ret_str (by simp [starP,H1.out]),HBX.out⟩
set_option maxHeartbeats 1000000 in
theorem typeName_any (d:Nat) (n:Nd) (A:Option Addr) (c:Nat) (w:World) (hk:Kids w d n A c) (hs:nameS n=true) (hsz:(nameT n).size≤maxT):
  Calls Tryz.prog 114 #[.agg #[.int .i64 n.kind,.string n.name,.int .i64 n.num,.int .i64 n.pos,.slice A n.subs.length c]] w fun e w'=>e=.returned (.string (nameT n))∧Below w.heap.size w w':=by
 obtain ⟨d,rfl⟩:∃d',d=d'+1:=(by cases d with | zero=>exact hk.elim | succ d=>exact ⟨d,rfl⟩);obtain ⟨k,s,num,pos,subs⟩:=n;unfold maxT at hsz;simp [nameS] at hs;rcases subs with _ | ⟨x,_ | ⟨y,r⟩⟩
 ·skip;clear hs;simp [nameT] at hsz;have HAT:=hid (bAt w ⟨k,s,num,pos,[]⟩ A c 24);clear hk;go_enter Tryz.func114,Tryz.ntmps114;go_wp2;go_ret;exact ⟨ret_str (by simp [nameT]),bBw _ _⟩
 ·skip;clear hs;have hlen:1≤c:=hk.list.1;obtain ⟨b,o,Ax,cx,rfl,hx_x,hk_x⟩:=hk.one (x:=x) (r:=[]) rfl;have hz:x.name.size+1+s.size≤1099511627776:=(by simpa [nameT,Nd.sub,ByteArray.size_append,ba_size] using hsz);clear hsz;have HAT:=hid (bAt w ⟨k,s,num,pos,[x]⟩ (some ⟨b,o,none⟩) c 24);have HX_x:=hid (hx_x.below (bBw w (.cells #[.int .i64 k,.string s,.int .i64 num,.int .i64 pos,.slice (some ⟨b,o,none⟩) 1 c] 24)));have HK_x:=hid (hk_x.below (bBw w (.cells #[.int .i64 k,.string s,.int .i64 num,.int .i64 pos,.slice (some ⟨b,o,none⟩) 1 c] 24)));clear hx_x hk_x;clear hk;have fx:=HX_x.out.all;go_enter Tryz.func114,Tryz.ntmps114;go_wp2;generalize hW0:w.alloc (.cells #[.int .i64 k,.string s,.int .i64 num,.int .i64 pos,.slice (some ⟨b,o,none⟩) 1 c] 24)=W0 at *;have HBOX:=hid (show Below w.heap.size w W0 by rw [← hW0];exact bBw _ _);clear hW0;clear fx;have x_:=HAT.out.all;have fx:=HX_x.out.all;have r5_0:=c5 x_;have r5_5:=c5 fx;refine wp_region_quiet_below (by kernel_rfl) (by kernel_rfl) ?_
  repeat (go_big_quiet_step (fail))
  refine wpQuiet_nil ?_;intro _ hw';obtain ⟨⟨dq,osq⟩,hw''⟩:=hw';subst hw'';clear r5_0 r5_5;have HG:=hid (below_regrown W0 dq osq);generalize hG:Go.Sort.grow (redrawn W0 dq) osq=G at *;clear hG;go_wp2;go_ret;exact ⟨ret_str (by simp [nameT,Nd.sub]),bTh HBOX.out HG.out⟩
 ·skip;exfalso;have h:=hs.1.2;simp at h
/-- 'variable'. -/
def varT (n:Nd):ByteArray:=starT n++⟨#[58,32]⟩++nameT (n.sub 0)
set_option maxRecDepth 100000 in
set_option maxHeartbeats 1000000 in
theorem variable_any (d:Nat) (n:Nd) (A:Option Addr) (c:Nat) (w:World) (hk:Kids w (d+1) n A c) (h1:n.subs.length=1) (hs:nameS (n.sub 0)=true) (hsz:(varT n).size≤maxT):
  Calls Tryz.prog 71 #[.agg #[.int .i64 n.kind,.string n.name,.int .i64 n.num,.int .i64 n.pos,.slice A n.subs.length c]] w fun e w'=>e=.returned (.string (varT n))∧Below w.heap.size w w':=by
 obtain ⟨k,s,num,pos,subs⟩:=n;obtain ⟨x,rfl⟩:∃x,subs=[x]:=List.length_eq_one_iff.1 h1;clear h1;have hlen:1≤c:=hk.list.1;obtain ⟨b,o,Ax,cx,rfl,hx_x,hk_x⟩:=hk.one (x:=x) (r:=[]) rfl;have HD_x:=hid (show nameS x=true from hs);clear hs;have hTT:varT ⟨k,s,num,pos,[x]⟩=s++starP ⟨k,s,num,pos,[x]⟩++⟨#[58,32]⟩++nameT x:=(by rw [show s++starP ⟨k,s,num,pos,[x]⟩=starT ⟨k,s,num,pos,[x]⟩ from star_app ⟨k,s,num,pos,[x]⟩];rfl);rw [hTT] at hsz⊢;clear hTT;unfold maxT at hsz;simp only [ByteArray.size_append,ba_size,List.size_toArray,List.length_cons,List.length_nil] at hsz;obtain ⟨Tx,hT_x⟩:∃T,T=nameT x:=⟨_,rfl⟩;obtain ⟨Ts,hT_s⟩:∃T,T=starP ⟨k,s,num,pos,[x]⟩:=⟨_,rfl⟩;rw [← hT_x,← hT_s] at hsz⊢;have HT_x:=hid hT_x;have HT_s:=hid hT_s;clear hT_x hT_s;have HAT:=hid (bAt w ⟨k,s,num,pos,[x]⟩ (some ⟨b,o,none⟩) c 24);have HX_x:=hid (hx_x.below (bBw w (.cells #[.int .i64 k,.string s,.int .i64 num,.int .i64 pos,.slice (some ⟨b,o,none⟩) 1 c] 24)));have HK_x:=hid (hk_x.below (bBw w (.cells #[.int .i64 k,.string s,.int .i64 num,.int .i64 pos,.slice (some ⟨b,o,none⟩) 1 c] 24)));clear hx_x hk_x;clear hk;have fx:=HX_x.out.all;go_enter Tryz.func71,Tryz.ntmps71;go_wp2;generalize hW0:w.alloc (.cells #[.int .i64 k,.string s,.int .i64 num,.int .i64 pos,.slice (some ⟨b,o,none⟩) 1 c] 24)=W0 at *;have HBOX:=hid (show Below w.heap.size w W0 by rw [← hW0];exact bBw _ _);clear hW0;clear fx;have x_:=HAT.out.all;have fx:=HX_x.out.all;have r5_0:=c5 x_;have r5_5:=c5 fx;have cQ0:∀dd os,Calls Tryz.prog 67 #[.agg #[.int .i64 k,.string s,.int .i64 num,.int .i64 pos,.slice (some ⟨b,o,none⟩) 1 c]] (Go.Sort.grow (redrawn W0 dd) os) fun e w''=>e=.returned (.string Ts)∧∃p:Regrown,w''=Go.Sort.grow (redrawn W0 p.d) p.os:=fun dd os=>(by rw [HT_s.out];exact Calls.regrown_of (star_any ⟨k,s,num,pos,[x]⟩ (some ⟨b,o,none⟩) c _));have cQ1:∀dd os,Calls Tryz.prog 114 #[.agg #[.int .i64 x.kind,.string x.name,.int .i64 x.num,.int .i64 x.pos,.slice Ax x.subs.length cx]] (Go.Sort.grow (redrawn W0 dd) os) fun e w''=>e=.returned (.string Tx)∧∃p:Regrown,w''=Go.Sort.grow (redrawn W0 p.d) p.os:=fun dd os=>(by rw [HT_x.out];exact Calls.regrown_of (typeName_any _ x Ax cx _ (HK_x.out.below (below_regrown _ _ _)) HD_x.out (by rw [← HT_x.out];unfold maxT;omega)));refine wp_region_quiet_below (by kernel_rfl) (by kernel_rfl) ?_
 repeat (go_big_quiet_step (first | with_reducible exact cQ0 _ _ | with_reducible exact cQ1 _ _))
 refine wpQuiet_nil ?_;intro _ hw';obtain ⟨⟨dq,osq⟩,hw''⟩:=hw';subst hw'';clear cQ0 cQ1 r5_0 r5_5;have HG:=hid (below_regrown W0 dq osq);generalize hG:Go.Sort.grow (redrawn W0 dq) osq=G at *;clear hG;go_wp2;go_ret;exact ⟨rfl,bTh HBOX.out HG.out⟩
end
section
open Go.RowKit Go.BigFrame
/-- What a function of the program writes of a tree, d levels deep, that is ok. -/
structure SayFn (g:Nat) (d:Nat) (ok:Nd→Bool) (T:Nd→ByteArray):Prop where
 enters:∀args w,(callFunc g args).run Tryz.prog w=.ok (.enter g args) w
 calls:∀(n:Nd) (A:Option Addr) (c:Nat) (w:World),PowLaid w→Kids w d n A c→ok n=true→(T n).size≤maxT→Calls Tryz.prog g #[.agg #[.int .i64 n.kind,.string n.name,.int .i64 n.num,.int .i64 n.pos,.slice A n.subs.length c]] w fun e w'=>e=.returned (.string (T n))∧Below w.heap.size w w'
theorem heapLt {w:World} {b:Nat} {o:Obj} (ho:w.heap[b]?=some o):b<w.heap.size:=(Array.getElem?_eq_some_iff.1 ho).1
theorem ownsRow_below {w w':World} {base:Nat} {e:TypeId} {size:Nat} {v:Value} {n:Nat} {xs:List Value} (h:w.ownsRow base e size v n xs) (hb:Below w.heap.size w w'):w'.ownsRow base e size v n xs:=
 h.kept (row:=none) ⟨hb.os,hb.tape,hb.output,hb.size,fun k hk _=>hb.block k hk⟩ (Classical.em _)
theorem below_append {B:Nat} {w w1 w2:World} {e:TypeId} {size:Nat} {v:Value} {n:Nat} {xs:List Value} (h:Below B w w1) (hown:w1.ownsRow B e size v n xs) (hg:w1.grownBy w2 v.ownBlock) (hB:B≤w1.heap.size):Below B w w2:=
 h.grown hg hB (fun k hk=>(hown.lt k hk).1)
theorem joinB_one (sep:ByteArray):∀(l:List ByteArray) (x:ByteArray),x∈l→x.size≤(joinB sep l).size
 | [],x,h=>by cases h
 | [a],x,h=>by simp at h;subst h;exact Nat.le_refl _
 | a::b::r,x,h=>by
  simp only [joinB,ByteArray.size_append];rcases List.mem_cons.1 h with rfl | h
  ·omega
  ·have:=joinB_one sep (b::r) x h;omega
theorem join_len (sep:ByteArray) (l:List ByteArray):(Lib.join (l.map (·.data.toList)) sep.data.toList).length=(joinB sep l).size:=by
 rw [← joinB_join sep l];simp [ba_size]
theorem joinB_many (sep:ByteArray) (hsep:1≤sep.size):∀l:List ByteArray,l.length≤(joinB sep l).size+1
 | []=>by simp
 | [x]=>by simp
 | x::y::r=>by
  have ih:=joinB_many sep hsep (y::r);simp only [joinB,ByteArray.size_append,List.length_cons] at ih⊢;omega
theorem enters_f {f : FuncId} {fn : Func} {c : Code} (hf : Tryz.prog.funcs[f]? = some fn) (hname : (fn.name == "runtime.NumGoroutine") = false) (hb : fn.body = some c) (args : Array Value) (w : World) : (callFunc f args).run Tryz.prog w = .ok (.enter f args) w := by
 have h1 : fn.name ≠ "runtime.NumGoroutine" := (by simpa using hname);simp [callFunc, hf, h1, hb]
theorem infoStr:(Tryz.prog.info? 9).map (fun i=>(i.zero,i.size,i.bytes))=some (some (.string ⟨#[]⟩),1,16):=by kernel_rfl
set_option maxRecDepth 100000 in
set_option maxHeartbeats 4000000 in
theorem join_any (g d:Nat) (ok:Nd→Bool) (T:Nd→ByteArray) (hg:SayFn g d ok T) (l:List Nd) (A:Option Addr) (c:Nat) (sep:ByteArray) (w:World) (hl:PowLaid w) (hk:KidsL w d l A c) (hs:l.all ok=true) (hsz:(joinB sep (l.map T)).size≤maxT) (hsep:1≤sep.size):
  Calls Tryz.prog 63 #[.slice A l.length c,.string sep,.func (.func g) #[] #[]] w fun e w'=>e=.returned (.string (joinB sep (l.map T)))∧Below w.heap.size w w':=by
 obtain ⟨i0,hi,hz0,hz1,hz2⟩:=info_parts infoStr;have eg:=hg.enters;have HG:=hid hg;have HK:=hid hk;have HL:=hid hl;have HS:=hid hs;unfold maxT at hsz
 have hmany:l.length≤1099511627777:=by
  have h1:=joinB_many sep hsep (l.map T);rw [List.length_map] at h1;omega
 have HSZ:=hid hsz;clear hk hg hl hs hsz hsep;go_enter Tryz.func63,Tryz.ntmps63;go_wp2;go_loopw [7,12] (fun vv ii wr=>∃(j:Nat) (xs:List ByteArray),j≤l.length∧ii=.int .i64 j∧Hid (xs=(l.take j).map T)∧Hid (wr.ownsRow w.heap.size 9 1 vv j (xs.map Value.string))∧Hid (Below w.heap.size w wr)) (fun _ ii _=>l.length - (intOf ii).toNat)
 case atStart=>exact ⟨0,[],Nat.zero_le _,rfl,hid rfl,hid (World.ownsRow_nil _ _ _ _),hid (Below.refl _ _)⟩
 case round=>
  obtain ⟨j,xs,hj,rfl,HXS,HOWN,HBR⟩:=hrel;by_cases hlt:j<l.length
  ·obtain ⟨y,hy⟩:∃y,l[j]?=some y:=⟨_,List.getElem?_eq_getElem hlt⟩;obtain ⟨b,o,Ax,cx,hA,hx,hkx⟩:=HK.out.2.2 j y hy;subst hA;have HY:=hid hy;have HKX:=hid hkx;have HX:=hid hx;have HOK:=hid (all_at HS.out hy);obtain ⟨t,ht⟩:∃t,t=T y:=⟨_,rfl⟩
   have htz:t.size≤1099511627776:=by
    have h1:=joinB_one sep (l.map T) t (by rw [ht];exact List.mem_map.2 ⟨y,List.mem_of_getElem? hy,rfl⟩);exact Nat.le_trans h1 HSZ.out
   have HT:=hid ht;clear hy hkx hx ht;have x:=(HX.out.below HBR.out).all;have hov:=HOWN.out.alloc (.cells #[.int .i64 y.kind,.string y.name,.int .i64 y.num,.int .i64 y.pos,.slice Ax y.subs.length cx] 24);go_wp2_with fail;generalize hV:wr.alloc (.cells #[.int .i64 y.kind,.string y.name,.int .i64 y.num,.int .i64 y.pos,.slice Ax y.subs.length cx] 24)=V at *;have HV:=hid (show Below w.heap.size w V by rw [← hV];exact bTh HBR.out (bBw _ _));have HOV:=hid hov;clear hV hov;refine (HG.out.calls y Ax cx V (HL.out.below HV.out) (HKX.out.below HV.out) HOK.out (by rw [← HT.out];exact htz)).mono ?_;rintro e w2 ⟨rfl,hb2⟩;rw [← HT.out];have HB2:=hid (bTh HV.out hb2);have HO2:=hid (ownsRow_below HOV.out hb2);have hge:w.heap.size≤w2.heap.size:=HB2.out.size;clear hb2 x;go_wp2_with (at_builtin;refine wpList_append_own _ rfl _ _ 46 rfl w.heap.size 9 i0 (.string ⟨#[]⟩) 1 16 Tryz.underlying46 hi hz0 hz1 hz2 rfl (by decide) _ _ _ rfl (HO2.out.alloc _) ⟨w2.heap.size,0,none⟩ 1 1 [.string t] rfl rfl ?c1 ?c2 ?c3 ?c4 ?c5 ?_)
   case c1=>
    intro i u hu
    match i,hu with
    | 0,hu=>simp at hu;subst hu;simp [Addr.add]
   case c2=>intro u hu;simp at hu;subst hu;rfl
   case c3=>unfold maxLen;omega
   case c4=>omega
   case c5=>simp;omega
   intro v' w3 hown' hgrow _;have HB3:=hid (below_append (HB2.out.alloc hge _) (HO2.out.alloc _) hgrow (by simp;omega));have HO3:=hid (show w3.ownsRow w.heap.size 9 1 v' (j+1) ((xs++[t]).map Value.string) by simpa using hown');have HX3:=hid (show xs++[t]=(l.take (j+1)).map T by rw [HXS.out,HT.out,List.take_succ_eq_append_getElem hlt,at_eq HY.out,List.map_append];rfl);clear hown' hgrow hge htz;go_wp2;go_roundw
   case rel=>exact ⟨j+1,xs++[t],by omega,by go_num,HX3,HO3,HB3⟩
   case measure=>simp [intOf];omega
  ·have HJE:=hid (show j=l.length by omega);have HXE:=hid (show xs=l.map T by rw [HXS.out,HJE.out,List.take_length]);rcases HOWN.out.2 with ⟨hv,h0⟩ | ⟨gb,cap,cur,hv,hgb,hheap,hcap,hcm,hcs,htk⟩
   ·subst hv;have HX0:=hid (show xs=[] by have:=HOWN.out.1;rw [h0] at this;simpa using this);clear h0;go_wp2_with fail;refine (Tryz.strings_Join_none none 0 sep wr).mono ?_;rintro e w2 ⟨rfl,rfl⟩;go_wp2;go_ret;exact ⟨ret_str (by rw [← HXE.out,HX0.out];rfl),HBR.out⟩
   ·subst hv;have hn:j=xs.length:=(by have:=HOWN.out.1;simpa using this.symm);have HCAP:=hid hcap;have HN:=hid hn
    have HC:=hid (show ∀(i:Nat) (u:ByteArray),xs[i]?=some u→wr.cell? ⟨gb,0+i,none⟩=some (.string u) from fun i u hu=>by
     have h1:=HOWN.out.cells (g:=gb) rfl i (.string u) (by simp [hu]);by_cases hi0:i=0 <;> simp [Addr.add,hi0] at h1⊢ <;> exact h1)
    have HH:=hid (heapLt hheap);clear hn hcap hgb hheap hcm hcs htk;have HJ:=hid (joinB_join sep xs);go_wp2_with fail;rw [HN.out];refine (Tryz.strings_Join gb 0 cap xs sep wr HC.out HH.out (by rw [← HN.out];omega) (by rw [← HN.out];exact HCAP.out) (by rw [join_len,HXE.out];have:=HSZ.out;omega)).mono ?_;rintro e w2 ⟨rfl,hb2⟩;have HB2:=hid (bTh HBR.out hb2);clear hb2;go_wp2;go_ret;exact ⟨ret_str (by rw [HJ.out,HXE.out]),HB2.out⟩
end
end Go.Proofs.YtneohanphabneaaGreatDoor
