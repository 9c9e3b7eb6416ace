/-
How many nodes a tree has, and how deep it is, as the statements ask it. Conditions: the tree lies in memory.
-/
import Derived.Test.YtneohanphabneaaGreatDoorBase
namespace Go.Proofs.YtneohanphabneaaGreatDoor
set_option linter.unusedSimpArgs false
set_option linter.unusedVariables false
open Go.RowKit
/-- The children lie at A, and theirs below them; of what lies deeper than d levels nothing is said. -/
def KT (w:World):Nat→Nd→Option Addr→Nat→Prop
 | 0,_,_,_=>True
 | d+1,n,A,c=>n.name.size≤maxLen∧n.subs.length≤c∧c≤maxLen∧∀i x,n.subs[i]?=some x→∃b o Ax cx,A=some ⟨b,o,none⟩∧NdAt w b (o+i*5) x Ax cx∧KT w d x Ax cx
theorem Kids.kt {w:World}:∀{d:Nat} {n:Nd} {A:Option Addr} {c:Nat},Kids w d n A c→∀e,KT w e n A c
 | 0,_,_,_,h,_=>h.elim
 | _+1,_,_,_,_,0=>trivial
 | _+1,_,_,_,h,e+1=>⟨h.1,h.2.1,h.2.2.1,fun i x hx=>by
  obtain ⟨b,o,Ax,cx,hA,hat,hk⟩:=h.2.2.2 i x hx;exact ⟨b,o,Ax,cx,hA,hat,hk.kt e⟩⟩
theorem KT.below {w w':World} (hb:Below w.heap.size w w'):∀{d:Nat} {n:Nd} {A:Option Addr} {c:Nat},KT w d n A c→KT w' d n A c
 | 0,_,_,_,_=>trivial
 | d+1,n,A,c,h=>by
  obtain ⟨h0,h1,h2,h3⟩:=h;refine ⟨h0,h1,h2,fun i x hx=>?_⟩;obtain ⟨b,o,Ax,cx,hA,hat,hk⟩:=h3 i x hx;exact ⟨b,o,Ax,cx,hA,hat.below hb,KT.below hb hk⟩
theorem KT.len {w:World} {d:Nat} {n:Nd} {A:Option Addr} {c:Nat} (h:KT w (d+1) n A c):n.subs.length≤maxLen:=Nat.le_trans h.2.1 h.2.2.1
theorem KT.at {w:World} {d:Nat} {n:Nd} {A:Option Addr} {c:Nat} (h:KT w (d+1) n A c) {i:Nat} (hi:i<n.subs.length):∃b o Ax cx,A=some ⟨b,o,none⟩∧NdAt w b (o+i*5) n.subs[i] Ax cx∧KT w d n.subs[i] Ax cx:=
 h.2.2.2 i _ (List.getElem?_eq_getElem hi)
/-- The count, up to m and one. -/
def countF:Nat→Nd→Int→Int
 | 0,_,_=>1
 | d+1,n,m=>n.subs.foldl (fun k x=>if k≤m then k+countF d x (m - k) else k) 1
def countTo (d:Nat) (l:List Nd) (m:Int):Int:=l.foldl (fun k x=>if k≤m then k+countF d x (m - k) else k) 1
theorem countTo_snoc (d:Nat) (l:List Nd) (x:Nd) (m:Int):countTo d (l++[x]) m=if countTo d l m≤m then countTo d l m+countF d x (m - countTo d l m) else countTo d l m:=by
 unfold countTo;rw [List.foldl_append];rfl
theorem countF_eq (d:Nat) (n:Nd) (m:Int):countF (d+1) n m=countTo d n.subs m:=rfl
theorem count_bounds (d:Nat):∀(n:Nd) (m:Int),0≤m→1≤countF d n m∧countF d n m≤m+1:=by
 induction d with
 | zero=>intro n m hm;simp only [countF];omega
 | succ d ih=>
  intro n m hm;rw [countF_eq]
  have:∀l:List Nd,∀k:Int,1≤k→k≤m+1→1≤l.foldl (fun k x=>if k≤m then k+countF d x (m - k) else k) k∧l.foldl (fun k x=>if k≤m then k+countF d x (m - k) else k) k≤m+1:=by
   intro l
   induction l with
   | nil=>intro k h1 h2;exact ⟨h1,h2⟩
   | cons x r ihr=>
    intro k h1 h2;simp only [List.foldl_cons];by_cases hk:k≤m
    ·rw [if_pos hk];have:=ih x (m - k) (by omega);exact ihr _ (by omega) (by omega)
    ·rw [if_neg hk];exact ihr _ h1 h2
  exact this n.subs 1 (by omega) (by omega)
theorem countTo_bounds (d:Nat) (l:List Nd) (m:Int) (hm:0≤m):1≤countTo d l m∧countTo d l m≤m+1:=count_bounds (d+1) ⟨0,⟨#[]⟩,0,0,l⟩ m hm
theorem countTo_stop (d:Nat) (l r:List Nd) (m:Int) (h:m<countTo d l m):countTo d (l++r) m=countTo d l m:=by
 induction r generalizing l with
 | nil=>simp
 | cons x r ih=>
  have e:countTo d (l++[x]) m=countTo d l m:=(by rw [countTo_snoc,if_neg (by omega)]);have:=ih (l++[x]) (by rw [e];exact h);rw [List.append_assoc,List.singleton_append] at this;rw [this,e]
theorem take_snoc' {α:Type} (l:List α) (k:Nat) (h:k<l.length):l.take (k+1)=l.take k++[l[k]]:=List.take_succ_eq_append_getElem h
set_option maxHeartbeats 1000000 in
theorem count_any (d:Nat):∀(n:Nd) (A:Option Addr) (c:Nat) (m:Int) (w:World),KT w d n A c→m≤3000→0≤m→m<d →
  Calls Tryz.prog 16 #[.agg #[.int .i64 n.kind,.string n.name,.int .i64 n.num,.int .i64 n.pos,.slice A n.subs.length c],.int .i64 m] w fun e w'=>e=.returned (.int .i64 (countF d n m))∧Below w.heap.size w w':=by
 induction d with
 | zero=>intro n A c m w hk hm hm0 hd;exact absurd hd (by omega)
 | succ d ih=>
  rintro ⟨k,s,num,pos,subs⟩ A c m w hk hm hm0 hd;have hlen:=hk.len;unfold maxLen at hlen;simp only at hlen;have HK:=hid hk;clear hk;have IH:=hid ih;clear ih;go_enter Tryz.func16,Tryz.ntmps16;go_wp2;generalize hW0:w.alloc (.cells #[.int .i64 k,.string s,.int .i64 num,.int .i64 pos,.slice A subs.length c] 24)=W0;have hat:NdAt W0 w.heap.size 0 ⟨k,s,num,pos,subs⟩ A c:=(by rw [← hW0];exact bAt w ⟨k,s,num,pos,subs⟩ A c _);have hb0:Below w.heap.size w W0:=(by rw [← hW0];exact bBw _ _);have HAT:=hid hat;have HB0:=hid hb0;clear hat hb0 hW0;go_loopw [5,6] (fun kk ii wr=>∃j:Nat,j≤subs.length∧ii=.int .i64 j∧kk=.int .i64 (countTo d (subs.take j) m)∧Below W0.heap.size W0 wr) (fun _ ii _=>subs.length - (intOf ii).toNat)
  case atStart=>exact ⟨0,Nat.zero_le _,rfl,rfl,Below.refl _ _⟩
  case round=>
   obtain ⟨j,hj,rfl,rfl,hbr⟩:=hrel;have hbd:=countTo_bounds d (subs.take j) m hm0;have hc4:wr.cell? ⟨w.heap.size,4,none⟩=some (.slice A subs.length c):=(HAT.out.below hbr).c4;have HBR:=hid hbr;clear hbr;by_cases hlt:j<subs.length
   ·by_cases hle:countTo d (subs.take j) m≤m
    ·obtain ⟨b,o,Ax,cx,hA,hx,hkx⟩:=(HK.out.below (HB0.out.trans (HBR.out.mono HB0.out.size))).at (i:=j) hlt;simp only at hA hx hkx;subst hA;have x0:=hx.c0;have x1:=hx.c1;have x2:=hx.c2;have x3:=hx.c3;have x4:=hx.c4;clear hx;have HKX:=hid hkx;clear hkx;have hbx:=count_bounds d subs[j] (m - countTo d (subs.take j) m) (by omega);have hst:countTo d (subs.take (j+1)) m=countTo d (subs.take j) m+countF d subs[j] (m - countTo d (subs.take j) m):=(by rw [take_snoc' subs j hlt,countTo_snoc,if_pos hle]);have HST:=hid hst;clear hst;go_wp2_with fail;refine (IH.out subs[j] Ax cx _ wr HKX.out (by omega) (by omega) (by omega)).mono ?_;rintro e w2 ⟨rfl,hb2⟩;have HB2:=hid (HBR.out.trans (hb2.mono HBR.out.size));clear hb2;go_wp2;go_roundw
     case rel=>exact ⟨j+1,by omega,by go_num,by rw [HST.out],HB2.out⟩
     case measure=>simp [intOf];omega
    ·have hgt:m<countTo d (subs.take j) m:=by omega
     have hst:countTo d subs m=countTo d (subs.take j) m:=by
      have:=countTo_stop d (subs.take j) (subs.drop j) m hgt
      rwa [List.take_append_drop] at this
     have HST:=hid hst;clear hst;go_wp2;go_ret;exact ⟨ret_int (by rw [countF_eq,HST.out]),HB0.out.trans (HBR.out.mono HB0.out.size)⟩
   ·go_wp2;go_ret;exact ⟨ret_int (by rw [countF_eq,List.take_of_length_le (by omega)]),HB0.out.trans (HBR.out.mono HB0.out.size)⟩
/-- The depth, up to m and one. -/
def deepF:Nat→Nd→Int→Int
 | 0,_,_=>1
 | d+1,n,m=>n.subs.foldl (fun k x=>if k<m then (if k<deepF d x (m - 1) then deepF d x (m - 1) else k) else k) 0+1
def deepTo (d:Nat) (l:List Nd) (m:Int):Int:=l.foldl (fun k x=>if k<m then (if k<deepF d x (m - 1) then deepF d x (m - 1) else k) else k) 0
theorem deepTo_snoc (d:Nat) (l:List Nd) (x:Nd) (m:Int):deepTo d (l++[x]) m=if deepTo d l m<m then (if deepTo d l m<deepF d x (m - 1) then deepF d x (m - 1) else deepTo d l m) else deepTo d l m:=by
 unfold deepTo;rw [List.foldl_append];rfl
theorem deepF_eq (d:Nat) (n:Nd) (m:Int):deepF (d+1) n m=deepTo d n.subs m+1:=rfl
theorem deep_bounds (d:Nat):∀(n:Nd) (m:Int),0≤m→1≤deepF d n m∧deepF d n m≤m+1:=by
 induction d with
 | zero=>intro n m hm;simp only [deepF];omega
 | succ d ih=>
  intro n m hm;rw [deepF_eq]
  have:∀l:List Nd,∀k:Int,0≤k→k≤m→0≤l.foldl (fun k x=>if k<m then (if k<deepF d x (m - 1) then deepF d x (m - 1) else k) else k) k∧l.foldl (fun k x=>if k<m then (if k<deepF d x (m - 1) then deepF d x (m - 1) else k) else k) k≤m:=by
   intro l
   induction l with
   | nil=>intro k h1 h2;exact ⟨h1,h2⟩
   | cons x r ihr=>
    intro k h1 h2;simp only [List.foldl_cons];by_cases hk:k<m
    ·rw [if_pos hk];have:=ih x (m - 1) (by omega);split
     ·exact ihr _ (by omega) (by omega)
     ·exact ihr _ (by omega) (by omega)
    ·rw [if_neg hk];exact ihr _ h1 h2
  have:=this n.subs 0 (by omega) hm;unfold deepTo;omega
theorem deepTo_bounds (d:Nat) (l:List Nd) (m:Int) (hm:0≤m):0≤deepTo d l m∧deepTo d l m≤m:=by
 have:=deep_bounds (d+1) ⟨0,⟨#[]⟩,0,0,l⟩ m hm;rw [deepF_eq] at this;simp only at this;omega
theorem deepTo_stop (d:Nat) (l r:List Nd) (m:Int) (h:¬deepTo d l m<m):deepTo d (l++r) m=deepTo d l m:=by
 induction r generalizing l with
 | nil=>simp
 | cons x r ih=>
  have e:deepTo d (l++[x]) m=deepTo d l m:=(by rw [deepTo_snoc,if_neg h]);have:=ih (l++[x]) (by rw [e];exact h);rw [List.append_assoc,List.singleton_append] at this;rw [this,e]
set_option maxHeartbeats 1000000 in
theorem deep_any (d:Nat):∀(n:Nd) (A:Option Addr) (c:Nat) (m:Int) (w:World),KT w d n A c→m≤60→0≤m→m<d →
  Calls Tryz.prog 17 #[.agg #[.int .i64 n.kind,.string n.name,.int .i64 n.num,.int .i64 n.pos,.slice A n.subs.length c],.int .i64 m] w fun e w'=>e=.returned (.int .i64 (deepF d n m))∧Below w.heap.size w w':=by
 induction d with
 | zero=>intro n A c m w hk hm hm0 hd;exact absurd hd (by omega)
 | succ d ih=>
  rintro ⟨k,s,num,pos,subs⟩ A c m w hk hm hm0 hd;have hlen:=hk.len;unfold maxLen at hlen;simp only at hlen;have HK:=hid hk;clear hk;have IH:=hid ih;clear ih;go_enter Tryz.func17,Tryz.ntmps17;go_wp2;generalize hW0:w.alloc (.cells #[.int .i64 k,.string s,.int .i64 num,.int .i64 pos,.slice A subs.length c] 24)=W0;have hat:NdAt W0 w.heap.size 0 ⟨k,s,num,pos,subs⟩ A c:=(by rw [← hW0];exact bAt w ⟨k,s,num,pos,subs⟩ A c _);have hb0:Below w.heap.size w W0:=(by rw [← hW0];exact bBw _ _);have HAT:=hid hat;have HB0:=hid hb0;clear hat hb0 hW0;go_loopw [5,6] (fun kk ii wr=>∃j:Nat,j≤subs.length∧ii=.int .i64 j∧kk=.int .i64 (deepTo d (subs.take j) m)∧Below W0.heap.size W0 wr) (fun _ ii _=>subs.length - (intOf ii).toNat)
  case atStart=>exact ⟨0,Nat.zero_le _,rfl,rfl,Below.refl _ _⟩
  case round=>
   obtain ⟨j,hj,rfl,rfl,hbr⟩:=hrel;have hbd:=deepTo_bounds d (subs.take j) m hm0;have hc4:wr.cell? ⟨w.heap.size,4,none⟩=some (.slice A subs.length c):=(HAT.out.below hbr).c4;have HBR:=hid hbr;clear hbr;by_cases hlt:j<subs.length
   ·by_cases hle:deepTo d (subs.take j) m<m
    ·obtain ⟨b,o,Ax,cx,hA,hx,hkx⟩:=(HK.out.below (HB0.out.trans (HBR.out.mono HB0.out.size))).at (i:=j) hlt;simp only at hA hx hkx;subst hA;have x0:=hx.c0;have x1:=hx.c1;have x2:=hx.c2;have x3:=hx.c3;have x4:=hx.c4;clear hx;have HKX:=hid hkx;clear hkx;have hbx:=deep_bounds d subs[j] (m - 1) (by omega);have hst:deepTo d (subs.take (j+1)) m=if deepTo d (subs.take j) m<deepF d subs[j] (m - 1) then deepF d subs[j] (m - 1) else deepTo d (subs.take j) m:=(by rw [take_snoc' subs j hlt,deepTo_snoc,if_pos hle]);have HST:=hid hst;clear hst;by_cases hmore:deepTo d (subs.take j) m<deepF d subs[j] (m - 1)
     all_goals
      go_wp2_with fail;refine (IH.out subs[j] Ax cx _ wr HKX.out (by omega) (by omega) (by omega)).mono ?_;rintro e w2 ⟨rfl,hb2⟩;have HB2:=hid (HBR.out.trans (hb2.mono HBR.out.size));clear hb2;go_wp2;go_roundw
      case rel=>exact ⟨j+1,by omega,by go_num,by rw [HST.out];first | rw [if_pos hmore] | rw [if_neg (by omega)],HB2.out⟩
      case measure=>simp [intOf];omega
    ·have hst:deepTo d subs m=deepTo d (subs.take j) m:=by
      have:=deepTo_stop d (subs.take j) (subs.drop j) m hle
      rwa [List.take_append_drop] at this
     have HST:=hid hst;clear hst;go_wp2;go_ret;exact ⟨ret_int (by rw [deepF_eq,HST.out]),HB0.out.trans (HBR.out.mono HB0.out.size)⟩
   ·go_wp2;go_ret;exact ⟨ret_int (by rw [deepF_eq,List.take_of_length_le (by omega)]),HB0.out.trans (HBR.out.mono HB0.out.size)⟩
/-- Of which nothing is said. -/
def hugeB (d:Nat) (n:Nd):Bool:=decide (3000<countF d n 3000) || decide (60<deepF d n 60)
theorem hugeTree_any (d:Nat) (n:Nd) (A:Option Addr) (c:Nat) (w:World) (hd:3000<d) (hk:KT w d n A c):
  Calls Tryz.prog 6 #[.agg #[.int .i64 n.kind,.string n.name,.int .i64 n.num,.int .i64 n.pos,.slice A n.subs.length c]] w fun e w'=>e=.returned (.bool (hugeB d n))∧Below w.heap.size w w':=by
 obtain ⟨k,s,num,pos,subs⟩:=n;have HK:=hid hk;clear hk;by_cases h1:3000<countF d ⟨k,s,num,pos,subs⟩ 3000
 ·have fin:hugeB d ⟨k,s,num,pos,subs⟩=true:=(by simp [hugeB,h1]);have FIN:=hid fin;clear fin;go_enter Tryz.func6,Tryz.ntmps6;go_wp2_with fail;refine (count_any d ⟨k,s,num,pos,subs⟩ A c 3000 _ (HK.out.below (bBw _ _)) (by omega) (by omega) (by omega)).mono ?_;rintro e w1 ⟨rfl,hb1⟩;have HB1:=hid ((bBw _ _).trans (hb1.mono (by simp)));clear hb1;go_wp2;go_ret;exact ⟨rBo FIN.out.symm,HB1.out⟩
 ·skip;go_enter Tryz.func6,Tryz.ntmps6;go_wp2_with fail;generalize hW0:w.alloc (.cells #[.int .i64 k,.string s,.int .i64 num,.int .i64 pos,.slice A subs.length c] 24)=W0;have hat:NdAt W0 w.heap.size 0 ⟨k,s,num,pos,subs⟩ A c:=(by rw [← hW0];exact bAt w ⟨k,s,num,pos,subs⟩ A c _);have hb0:Below w.heap.size w W0:=(by rw [← hW0];exact bBw _ _);have HAT:=hid hat;have HB0:=hid hb0;clear hat hb0 hW0;refine (count_any d ⟨k,s,num,pos,subs⟩ A c 3000 _ (HK.out.below HB0.out) (by omega) (by omega) (by omega)).mono ?_;rintro e w1 ⟨rfl,hb1⟩;obtain ⟨x0,x1,x2,x3,x4⟩:=HAT.out.below hb1;have HB1:=hid (HB0.out.trans (hb1.mono HB0.out.size));clear hb1;go_wp2_with fail;refine (deep_any d ⟨k,s,num,pos,subs⟩ A c 60 _ (HK.out.below HB1.out) (by omega) (by omega) (by omega)).mono ?_;rintro e w2 ⟨rfl,hb2⟩;have HB2:=hid (HB1.out.trans (hb2.mono HB1.out.size));clear hb2;go_wp2;go_ret;exact ⟨rBo rfl,HB2.out⟩
end Go.Proofs.YtneohanphabneaaGreatDoor
