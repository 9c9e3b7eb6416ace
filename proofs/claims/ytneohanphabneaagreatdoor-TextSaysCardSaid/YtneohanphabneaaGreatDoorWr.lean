/-
The writer: strings, lines, what it has written. Conditions: the writer lies in memory.
-/
import Derived.Test.YtneohanphabneaaGreatDoorTextPT
import Derived.Deep.RegionHeld3
import Derived.Lib.OthersKept
namespace Go.Proofs.YtneohanphabneaaGreatDoor
set_option linter.unusedSimpArgs false
set_option linter.unusedVariables false
section
open Go.RowKit Go.BigFrame
/-- The writer in block b (one of the call's own: from B on): what 'addr' holds, the bytes that it has taken, the depth. -/
def WrAt (B b:Nat) (p:Value) (S:ByteArray) (deep:Int) (w:World):Prop:=
 B≤b∧∃v,w.heap[b]?=some (.cells #[p,v,.int .i64 deep] 55 (0,0))∧w.ownsRow B 5 1 v (Lib.strCells S).length (Lib.strCells S)∧v.ownBlock≠some b
def IsWr (B b:Nat) (S:ByteArray) (deep:Int) (w:World):Prop:=WrAt B b (.pointer none) S deep w∨WrAt B b (.pointer (some ⟨b,0,none⟩)) S deep w
theorem IsWr.at {B b:Nat} {S:ByteArray} {deep:Int} {w:World} (h:IsWr B b S deep w):∃p,WrAt B b p S deep w:=by
 rcases h with h | h
 ·exact ⟨_,h⟩
 ·exact ⟨_,h⟩
theorem WrAt.lt {B b:Nat} {p:Value} {S:ByteArray} {deep:Int} {w:World} (h:WrAt B b p S deep w):b<w.heap.size:=by
 obtain ⟨_,v,hb,_⟩:=h;exact heapLt hb
theorem IsWr.lt {B b:Nat} {S:ByteArray} {deep:Int} {w:World} (h:IsWr B b S deep w):b<w.heap.size:=h.at.elim fun _ h=>h.lt
theorem IsWr.ge {B b:Nat} {S:ByteArray} {deep:Int} {w:World} (h:IsWr B b S deep w):B≤b:=h.at.elim fun _ h=>h.1
theorem IsWr.deep_at {B b:Nat} {S:ByteArray} {deep:Int} {w:World} (h:IsWr B b S deep w):w.cell? ⟨b,2,none⟩=some (.int .i64 deep):=by
 obtain ⟨p,_,v,hb,_⟩:=h.at;simp [World.cell?,hb]
theorem IsWr.unfrozen {B b:Nat} {S:ByteArray} {deep:Int} {w:World} (h:IsWr B b S deep w):w.frozen? ⟨b,2,none⟩=false:=by
 obtain ⟨p,_,v,hb,_⟩:=h.at;simp [World.frozen?,hb]
theorem WrAt.below {B b:Nat} {p:Value} {S:ByteArray} {deep:Int} {w w':World} (h:WrAt B b p S deep w) (hb:Below w.heap.size w w'):WrAt B b p S deep w':=by
 have hlt:=h.lt;obtain ⟨hB,v,hh,hown,hne⟩:=h;exact ⟨hB,v,(hb.block b hlt).trans hh,ownsRow_below hown hb,hne⟩
theorem IsWr.below {B b:Nat} {S:ByteArray} {deep:Int} {w w':World} (h:IsWr B b S deep w) (hb:Below w.heap.size w w'):IsWr B b S deep w':=
 h.imp (fun h=>h.below hb) (fun h=>h.below hb)
theorem wrType:(55:TypeId)≠5:=by decide
theorem wr_ownBlock_ne {w:World} {B:Nat} {v:Value} {n:Nat} {xs:List Value} {b:Nat} {cs:Array Value} {fr:Nat × Nat} (hown:w.ownsRow B 5 1 v n xs) (hb:w.heap[b]?=some (.cells cs 55 fr)):v.ownBlock≠some b:=
 Lib.ownBlock_ne hown hb wrType
/-- Another depth. -/
theorem IsWr.deeper {B b:Nat} {S:ByteArray} {deep:Int} {w:World} (h:IsWr B b S deep w) (d':Int):IsWr B b S d' (w.setCell ⟨b,2,none⟩ (.int .i64 d')):=by
 have key:∀p,WrAt B b p S deep w→WrAt B b p S d' (w.setCell ⟨b,2,none⟩ (.int .i64 d')):=by
  rintro p ⟨hB,v,hh,hown,hne⟩;refine ⟨hB,v,?_,?_,hne⟩
  ·simp [World.setCell,Array.getElem?_modify,hh]
  ·exact hown.kept (row:=some b) ⟨rfl,rfl,rfl,by simp [World.setCell],fun k _ hk=>Below.heap_setCell _ _ _ _ (fun e=>hk (by simp [e]))⟩ (Or.inr hne)
 exact h.imp (key _) (key _)
theorem WrAt.used {B b:Nat} {p:Value} {S:ByteArray} {deep:Int} {w:World} (h:WrAt B b p S deep w) (q:Value):WrAt B b q S deep (w.setCell ⟨b,0,none⟩ q):=by
 obtain ⟨hB,v,hh,hown,hne⟩:=h;refine ⟨hB,v,?_,?_,hne⟩
 ·simp [World.setCell,Array.getElem?_modify,hh]
 ·exact hown.kept (row:=some b) ⟨rfl,rfl,rfl,by simp [World.setCell],fun k _ hk=>Below.heap_setCell _ _ _ _ (fun e=>hk (by simp [e]))⟩ (Or.inr hne)
theorem WrAt.put {B b:Nat} {p v v':Value} {S':ByteArray} {deep:Int} {w:World} (hB:B≤b) (hb:w.heap[b]?=some (.cells #[p,v,.int .i64 deep] 55 (0,0))) (hown:w.ownsRow B 5 1 v' (Lib.strCells S').length (Lib.strCells S')):
  WrAt B b p S' deep (w.setCell ⟨b,1,none⟩ v'):=by
 have hne:=wr_ownBlock_ne hown hb;refine ⟨hB,v',?_,?_,hne⟩
 ·simp [World.setCell,Array.getElem?_modify,hb]
 ·exact hown.kept (row:=some b) ⟨rfl,rfl,rfl,by simp [World.setCell],fun k _ hk=>Below.heap_setCell _ _ _ _ (fun e=>hk (by simp [e]))⟩ (Or.inr hne)
/-- What a writing call leaves: of what lies below B nothing has turned; above it, only the writer's block and rows of bytes. -/
structure Wrote (B b:Nat) (w w':World):Prop where
 below:Below B w w'
 kept:Lib.OthersKept 5 (some b) w w'
theorem Wrote.refl (B b:Nat) (w:World):Wrote B b w w:=⟨Below.refl _ _,Lib.OthersKept.refl _ _ _⟩
theorem Wrote.trans {B b:Nat} {w w1 w2:World} (h:Wrote B b w w1) (k:Wrote B b w1 w2):Wrote B b w w2:=⟨h.below.trans k.below,h.kept.trans k.kept⟩
theorem kept_of_below {b:Nat} {w w':World} (h:Below w.heap.size w w'):Lib.OthersKept 5 (some b) w w':=fun k o hk _ _=>(h.block k (heapLt hk)).trans hk
theorem Wrote.then {B b:Nat} {w w1 w2:World} (h:Wrote B b w w1) (hB:B≤w1.heap.size) (k:Below w1.heap.size w1 w2):Wrote B b w w2:=⟨h.below.trans (k.mono hB),h.kept.trans (kept_of_below k)⟩
theorem Wrote.setCell {B b:Nat} {w w1:World} (h:Wrote B b w w1) (hB:B≤b) (o:Nat) (v:Value):Wrote B b w (w1.setCell ⟨b,o,none⟩ v):=⟨h.below.setCell (p:=⟨b,o,none⟩) hB v,h.kept.setCell ⟨b,o,none⟩ rfl v⟩
set_option maxHeartbeats 1000000 in
set_option maxRecDepth 100000 in
theorem wr_check_used (b:Nat) (w:World) (h0:w.cell? ⟨b,0,none⟩=some (.pointer (some ⟨b,0,none⟩))):
  Calls Tryz.prog 135 #[.pointer (some ⟨b,0,none⟩)] w fun e w'=>e=.returned (.tuple #[])∧w'=w:=by
 obtain ⟨j,hj,_⟩:=Option.map_eq_some_iff.1 (show (Tryz.prog.info? 53).map (·.size)=some 2 by kernel_rfl);go_enter Tryz.func135,Tryz.ntmps135;go_wp2;rw [Lib.run_neq_ptr_same w _ Tryz.underlying50 hj];go_wp2;go_end0;exact ⟨rfl,rfl⟩
set_option maxHeartbeats 1000000 in
set_option maxRecDepth 100000 in
theorem wr_check_fresh (b:Nat) (w:World) (h0:w.cell? ⟨b,0,none⟩=some (.pointer none)) (hsh:w.shape? b=some (55,3)) (hfz:w.frozen? ⟨b,0,none⟩=false):
  Calls Tryz.prog 135 #[.pointer (some ⟨b,0,none⟩)] w fun e w'=>e=.returned (.tuple #[])∧w'=w.setCell ⟨b,0,none⟩ (.pointer (some ⟨b,0,none⟩)):=by
 obtain ⟨j,hj,hjs⟩:=Option.map_eq_some_iff.1 (show (Tryz.prog.info? 53).map (·.size)=some 2 by kernel_rfl);go_enter Tryz.func135,Tryz.ntmps135;go_wp2;rw [Lib.run_to_unsafe w ⟨b,0,none⟩ Tryz.underlying50 Tryz.underlying112 hj (by rw [hjs];decide) hsh (Nat.zero_lt_succ 2)];simp only [Result.andThen];rw [Oper.upon_value];go_wp2;rw [run_callFunc_extern Tryz.func151 (by kernel_rfl) (by kernel_rfl) (by kernel_rfl) (e:=Extern.AbiNoEscape.same) (by kernel_rfl)];rw [Lib.run_noEscape];simp only [Result.andThen];rw [Oper.upon_value];go_wp2;rw [Lib.run_from_unsafe w ⟨b,0,none⟩ Tryz.underlying112 Tryz.underlying50 hj hsh (by kernel_rfl)];simp only [Result.andThen];rw [Oper.upon_value];go_wp2;go_end0;exact ⟨rfl,rfl⟩
theorem wr_check (B b:Nat) (S:ByteArray) (deep:Int) (w:World) (h:IsWr B b S deep w):
  Calls Tryz.prog 135 #[.pointer (some ⟨b,0,none⟩)] w fun e w'=>e=.returned (.tuple #[])∧WrAt B b (.pointer (some ⟨b,0,none⟩)) S deep w'∧Wrote B b w w':=by
 rcases h with h | h
 ·have h':=h;obtain ⟨hB,v,hh,hown,hne⟩:=h;refine (wr_check_fresh b w (by simp [World.cell?,hh]) (by simp [World.shape?,hh]) (by simp [World.frozen?,hh])).mono ?_;rintro e w' ⟨rfl,rfl⟩;exact ⟨rfl,h'.used _,(Wrote.refl B b w).setCell hB 0 _⟩
 ·have h':=h;obtain ⟨hB,v,hh,hown,hne⟩:=h;refine (wr_check_used b w (by simp [World.cell?,hh])).mono ?_;rintro e w' ⟨rfl,rfl⟩;exact ⟨rfl,h',Wrote.refl _ _ _⟩
theorem infoByte:(Tryz.prog.info? 5).map (fun i=>(i.zero,i.size,i.bytes))=some (some (.int .u8 0),1,1):=by kernel_rfl
theorem strCells_app (a b:ByteArray):Lib.strCells (a++b)=Lib.strCells a++Lib.strCells b:=by simp [Lib.strCells]
set_option maxHeartbeats 2000000 in
set_option maxRecDepth 100000 in
theorem wr_string (B b:Nat) (S s:ByteArray) (deep:Int) (w:World) (h:IsWr B b S deep w) (hlen:S.size+s.size≤1099511627800) (hBw:B≤w.heap.size):
  Calls Tryz.prog 111 #[.pointer (some ⟨b,0,none⟩),.string s] w fun e w'=>e=.returned (.tuple #[.int .i64 s.size,.nilIface])∧IsWr B b (S++s) deep w'∧Wrote B b w w':=by
 obtain ⟨i0,hi,hz0,hz1,hz2⟩:=info_parts infoByte;go_enter Tryz.func111,Tryz.ntmps111;go_wp2_with fail;refine (wr_check B b S deep w h).mono ?_;rintro e w1 ⟨rfl,h1,hb1⟩;obtain ⟨hB,v,hbk,hown,hne⟩:=h1;have hS:=Lib.strCells_length S;have c0:w1.cell? ⟨b,0,none⟩=some (.pointer (some ⟨b,0,none⟩)):=(by rw [Lib.cell_of_heap hbk];rfl);have c1:w1.cell? ⟨b,1,none⟩=some v:=(by rw [Lib.cell_of_heap hbk];rfl);go_wp2_with (at_builtin;refine Lib.wpList_append_own_string _ rfl _ _ 51 9 rfl B 5 i0 Tryz.underlying51 Tryz.underlying9 hi hz0 hz1 hz2 _ _ _ rfl hown s rfl ?c3 ?c4 ?c5 ?_)
 case c3=>rw [hS];unfold maxLen;omega
 case c4=>rw [hS];omega
 case c5=>have:=hb1.below.size;omega
 intro v' w2 hown' hgrow _;have hlt:b<w1.heap.size:=heapLt hbk
 have hb2:w2.heap[b]?=some (.cells #[.pointer (some ⟨b,0,none⟩),v,.int .i64 deep] 55 (0,0)):=by
  rw [hgrow.block b hlt (fun e=>hne e.symm)];exact hbk
 have d0:w2.cell? ⟨b,0,none⟩=some (.pointer (some ⟨b,0,none⟩)):=(by rw [Lib.cell_of_heap hb2];rfl);have d1:w2.cell? ⟨b,1,none⟩=some v:=(by rw [Lib.cell_of_heap hb2];rfl);have f1:w2.frozen? ⟨b,1,none⟩=false:=Lib.frozen_of_heap hb2 1
 obtain ⟨ao,n',cap,rfl⟩:∃ao n' cap,v'=.slice ao n' cap:=by
  rcases hown'.2 with ⟨hv,_⟩ | ⟨g,cap,cur,hv,_⟩
  ·exact ⟨_,_,_,hv⟩
  ·exact ⟨_,_,_,hv⟩
 have HO:=hid hown';have HG:=hid hgrow;have HS:=hid hS;clear hown' hgrow hS;go_wp2;go_ret2;refine ⟨rfl,Or.inr (WrAt.put hB hb2 (by rw [strCells_app];simpa [Lib.strCells_length] using HO.out)),?_,?_⟩
 ·exact (hb1.below.grown HG.out (by have:=hb1.below.size;omega) (fun k hk=>(hown.lt k hk).1)).setCell (p:=⟨b,1,none⟩) hB _
 ·refine (hb1.kept.grown HG.out (fun g hg=>?_)).setCell ⟨b,1,none⟩ rfl _;rcases hown.2 with ⟨hv,_⟩ | ⟨g',cap',cur,hv,_,hgg,_⟩
  ·rw [hv] at hg;simp [Value.ownBlock] at hg
  ·rw [hv] at hg;simp [Value.ownBlock] at hg;subst hg;exact ⟨cur,_,hgg⟩
end
section
open Go.RowKit Go.BigFrame
/-- So many blanks, twice. -/
def padT:Nat→ByteArray
 | 0=>⟨#[]⟩
 | d+1=>padT d++⟨#[32,32]⟩
theorem padT_size:∀d,(padT d).size=2*d
 | 0=>rfl
 | d+1=>by simp only [padT,ByteArray.size_append,padT_size d];simp [ba_size];omega
theorem repeatL_snoc (l:List UInt8):∀n,Lib.repeatL l (n+1)=Lib.repeatL l n++l
 | 0=>by simp [Lib.repeatL]
 | n+1=>by
  show l++Lib.repeatL l (n+1)=(l++Lib.repeatL l n)++l;rw [repeatL_snoc l n,List.append_assoc]
theorem padT_repeat:∀d,(⟨(Lib.repeatL [32,32] d).toArray⟩:ByteArray)=padT d
 | 0=>rfl
 | d+1=>by
  rw [repeatL_snoc,padT,← padT_repeat d];exact ba_ext (by simp)
theorem Repeat_any (d:Nat) (w:World) (hd:d≤1099511627776):
  Calls Tryz.prog 112 #[.string ⟨#[32,32]⟩,.int .i64 d] w fun e w'=>e=.returned (.string (padT d))∧Below w.heap.size w w':=by
 have h:=Tryz.strings_Repeat ⟨#[32,32]⟩ d w (by omega) (by simp [ba_size];omega);rw [← padT_repeat];exact h
theorem Wrote.drew (B b:Nat) (w:World):Wrote B b w w.drew:=⟨(Below.refl _ _).drew,(Lib.OthersKept.refl _ _ _).drew⟩
/-- In the region of 'line': the writer, whatever it has taken. -/
def LineS (B b:Nat) (d:Nat) (w w':World):Prop:=∃S,IsWr B b S d w'∧Wrote B b w w'
theorem LineS.cell {B b d:Nat} {w w':World} (h:LineS B b d w w'):w'.cell? ⟨b,2,none⟩=some (.int .i64 d):=h.elim fun _ h=>h.1.deep_at
set_option maxHeartbeats 2000000 in
set_option maxRecDepth 100000 in
theorem line_any (B b:Nat) (S s:ByteArray) (d:Nat) (w:World) (h:IsWr B b S d w) (hd:d≤100000) (hlen:S.size+s.size≤1099511000000) (hBw:B≤w.heap.size):
  Calls Tryz.prog 62 #[.pointer (some ⟨b,0,none⟩),.string s] w fun e w'=>e=.returned (.tuple #[])∧IsWr B b (S++(padT d++s++⟨#[10]⟩)) d w'∧Wrote B b w w':=by
 have hps:=padT_size d;obtain ⟨PD,hPD⟩:∃PD,PD=padT d:=⟨_,rfl⟩;rw [← hPD] at hps⊢;have hpz:PD.size≤200000:=(by omega);have HPD:=hid hPD;have HW:=hid h;clear hPD hps h;go_enter Tryz.func62,Tryz.ntmps62;go_wp2;refine wp_region_held_drew (S:=LineS B b d w) (by kernel_rfl) ⟨S,HW.out,Wrote.drew B b w⟩ (fun hHeld=>?_);have hV:IsWr B b S d w.drew∧Wrote B b w w.drew:=⟨HW.out,Wrote.drew B b w⟩;generalize hd0:w.drew=V0 at *;clear hd0;have HV:=hid hV;clear hV;refine wpAnyH_take (i:=0) (oi:=⟨some 4,_,_,_,_,_⟩) (v:=.pointer (some ⟨b,0,none⟩)) rfl (by kernel_rfl) (by kernel_rfl) (by kernel_rfl) (fun _ _ _ h=>h) (Or.inl ⟨by rfl,by intro wx hSx;clear hSx;(try go_simp);(try omega)⟩) hHeld ?_;simp only [Act.put,List.setIfInBounds_toArray,List.set_cons_zero,List.set_cons_succ];refine wpAnyH_take (i:=1) (oi:=⟨some 5,_,_,_,_,_⟩) (v:=.pointer (some ⟨b,0,none⟩)) rfl (by kernel_rfl) (by kernel_rfl) (by kernel_rfl) (fun _ _ _ h=>h) (Or.inl ⟨by rfl,by intro wx hSx;clear hSx;(try go_simp);(try omega)⟩) hHeld ?_;simp only [Act.put,List.setIfInBounds_toArray,List.set_cons_zero,List.set_cons_succ];refine wpAnyH_take (i:=2) (oi:=⟨some 6,_,_,_,_,_⟩) (v:=.pointer (some ⟨b,0,none⟩)) rfl (by kernel_rfl) (by kernel_rfl) (by kernel_rfl) (fun _ _ _ h=>h) (Or.inl ⟨by rfl,by intro wx hSx;clear hSx;(try go_simp);(try omega)⟩) hHeld ?_;simp only [Act.put,List.setIfInBounds_toArray,List.set_cons_zero,List.set_cons_succ];refine wpAnyH_take (i:=3) (oi:=⟨some 7,_,_,_,_,_⟩) (v:=.pointer (some ⟨b,0,none⟩)) rfl (by kernel_rfl) (by kernel_rfl) (by kernel_rfl) (fun _ _ _ h=>h) (Or.inl ⟨by rfl,by intro wx hSx;clear hSx;(try go_simp);(try omega)⟩) hHeld ?_;simp only [Act.put,List.setIfInBounds_toArray,List.set_cons_zero,List.set_cons_succ];refine wpAnyH_take (i:=4) (oi:=⟨some 8,_,_,_,_,_⟩) (v:=.pointer (some ⟨b,0,none⟩)) rfl (by kernel_rfl) (by kernel_rfl) (by kernel_rfl) (fun _ _ _ h=>h) (Or.inl ⟨by rfl,by intro wx hSx;clear hSx;(try go_simp);(try omega)⟩) hHeld ?_;simp only [Act.put,List.setIfInBounds_toArray,List.set_cons_zero,List.set_cons_succ];refine wpAnyH_take (i:=5) (oi:=⟨some 9,_,_,_,_,_⟩) (v:=.pointer (some ⟨b,2,none⟩)) rfl (by kernel_rfl) (by kernel_rfl) (by kernel_rfl) (fun _ _ _ h=>h) (Or.inl ⟨by rfl,by intro wx hSx;clear hSx;(try go_simp);(try omega)⟩) hHeld ?_;simp only [Act.put,List.setIfInBounds_toArray,List.set_cons_zero,List.set_cons_succ];refine wpAnyH_take (i:=6) (oi:=⟨some 10,_,_,_,_,_⟩) (v:=.int .i64 d) rfl (by kernel_rfl) (by kernel_rfl) (by kernel_rfl) (fun _ _ _ h=>h) (Or.inl ⟨by rfl,by intro wx hSx;have z0:=hSx.cell;clear hSx;(try go_simp);(try omega)⟩) hHeld ?_;simp only [Act.put,List.setIfInBounds_toArray,List.set_cons_zero,List.set_cons_succ];refine wpAnyH_take (i:=8) (oi:=⟨some 12,_,_,_,_,_⟩) (v:=.string s) rfl (by kernel_rfl) (by kernel_rfl) (by kernel_rfl) (fun _ _ _ h=>h) (Or.inl ⟨by rfl,by intro wx hSx;clear hSx;(try go_simp);(try omega)⟩) hHeld ?_;simp only [Act.put,List.setIfInBounds_toArray,List.set_cons_zero,List.set_cons_succ];refine wpAnyH_ready (rs:=[7]) (by kernel_rfl) (by simp) (AllReadyH.cons rfl (fun K hK=>?_) AllReadyH.nil);rw [if_pos (by rfl)];go_simp;refine (Repeat_any d _ (by omega)).mono ?_;rintro e V1 ⟨rfl,hb⟩;rw [← HPD.out];go_simp;have HH:=hid (show IsWr B b S d V1∧Wrote B b w V1 from ⟨HV.out.1.below hb,HV.out.2.then (Nat.le_trans hBw HV.out.2.below.size) hb⟩);clear hb hHeld;refine hK.out _ _ ⟨S,HH.out.1,HH.out.2⟩ (fun hHeld=>?_);clear hK K
 try simp only [Act.put,List.setIfInBounds_toArray,List.set_cons_zero,List.set_cons_succ]
 refine wpAnyH_take (i:=9) (oi:=⟨some 13,_,_,_,_,_⟩) (v:=.string (PD++s)) rfl (by kernel_rfl) (by kernel_rfl) (by kernel_rfl) (fun _ _ _ h=>h) (Or.inl ⟨by rfl,by intro wx hSx;clear hSx;(try go_simp);(try omega)⟩) hHeld ?_;simp only [Act.put,List.setIfInBounds_toArray,List.set_cons_zero,List.set_cons_succ];refine wpAnyH_take (i:=10) (oi:=⟨some 14,_,_,_,_,_⟩) (v:=.string (PD++s++⟨#[10]⟩)) rfl (by kernel_rfl) (by kernel_rfl) (by kernel_rfl) (fun _ _ _ h=>h) (Or.inl ⟨by rfl,by intro wx hSx;clear hSx;(try go_simp);(try omega)⟩) hHeld ?_;simp only [Act.put,List.setIfInBounds_toArray,List.set_cons_zero,List.set_cons_succ];refine wpAnyH_ready (rs:=[11]) (by kernel_rfl) (by simp) (AllReadyH.cons rfl (fun K hK=>?_) AllReadyH.nil);rw [if_pos (by rfl)];go_simp;have hct:=wr_string B b S (PD++s++⟨#[10]⟩) d V1 HH.out.1 (by simp only [ByteArray.size_append,ba_size,List.size_toArray,List.length_cons,List.length_nil];omega) (Nat.le_trans hBw HH.out.2.below.size);(with_reducible refine hct.mono ?_);clear hct;rintro e V2 ⟨rfl,hw2,hwr2⟩;have HW2:=hid hw2;have HR2:=hid (HH.out.2.trans hwr2);clear hw2 hwr2;go_simp;refine hK.out _ _ ⟨_,HW2.out,HR2.out⟩ (fun _=>?_);clear hK K;refine wpAnyH_done (by kernel_rfl) ?_ _;go_wp2;go_end0;exact ⟨rfl,HW2.out,HR2.out⟩
end
section
open Go.RowKit Go.BigFrame
theorem strCells_bytes (S:ByteArray):Lib.strCells S=Lib.byteCells S.data.toList:=rfl
theorem wr_fresh (w:World):IsWr w.heap.size w.heap.size ⟨#[]⟩ (0:Nat) (w.alloc (.cells #[.pointer none,.slice none 0 0,.int .i64 0] 55)):=
 Or.inl ⟨Nat.le_refl _,.slice none 0 0,heap_new w _,World.ownsRow_nil _ _ _ _,by simp [Value.ownBlock]⟩
set_option maxHeartbeats 1000000 in
set_option maxRecDepth 100000 in
theorem wr_text (B b:Nat) (S:ByteArray) (d:Int) (w:World) (h:IsWr B b S d w) (h0:0<S.size):
  Calls Tryz.prog 26 #[.pointer (some ⟨b,0,none⟩)] w fun e w'=>e=.returned (.string S)∧Below B w w':=by
 obtain ⟨p,hB,v,hbk,hown,hne⟩:=h.at;obtain ⟨l,hl⟩:∃l,l=S.data.toList:=⟨_,rfl⟩;have hS:S=⟨l.toArray⟩:=(by rw [hl]);have hsz:S.size=l.length:=(by rw [hS];simp [ba_size]);have hl0:l.length≠0:=(by omega);have h00:l≠[]:=fun e=>hl0 (by rw [e];rfl);rw [strCells_bytes,← hl,Lib.byteCells_length] at hown;rw [hS]
 obtain ⟨g,cap,cur,rfl,hbg,hg,hnc,hcm,hcs,htake⟩:∃g cap cur,v=.slice (some ⟨g,0,none⟩) l.length cap∧B≤g∧w.heap[g]?=some (.cells cur 5 (0,0))∧l.length≤cap∧cap≤maxLen∧cur.size=cap*1∧cur.toList.take (l.length*1)=Lib.byteCells l:=by
  rcases hown.2 with ⟨_,hz⟩ | ⟨g,cap,cur,hv,r⟩
  ·exact absurd hz hl0
  ·exact ⟨g,cap,cur,hv,r⟩
 have c1:w.drew.cell? ⟨b,1,none⟩=some (.slice (some ⟨g,0,none⟩) l.length cap):=by
  have:w.drew.heap[b]?=some (.cells #[p,.slice (some ⟨g,0,none⟩) l.length cap,.int .i64 d] 55 (0,0)):=hbk;rw [Lib.cell_of_heap this];rfl
 have hSD:(Builtin.unsafeSliceData_ #[51] 81 #[.slice (some ⟨g,0,none⟩) l.length cap]).run Tryz.prog w.drew=.ok (.pointer (some ⟨g,0,none⟩)) w.drew:=
  Lib.run_unsafeSliceData_row _ _ _ _ _ _ (by omega)
 have hUS:(Builtin.unsafeString_ #[81,3] 9 #[.pointer (some ⟨g,0,none⟩),.int .i64 l.length]).run Tryz.prog w.drew=.ok (.string ⟨l.toArray⟩) (w.drew.freeze ⟨g,0,none⟩ l.length):=by
  refine Lib.run_unsafeString_row w.drew 81 3 9 5 Tryz.underlying81 (by kernel_rfl) g cur.size (by have hg':w.drew.heap[g]?=some (.cells cur 5 (0,0)):=hg;simp [World.shape?,hg']) l h00 (by omega) (by unfold maxLen at hcm;omega) ?_;intro j x hx;have:=hown.cells (g:=g) rfl j (.int .u8 x.toNat) (by simp [Lib.byteCells,hx]);exact this
 clear hS hsz hl;go_enter Tryz.func26,Tryz.ntmps26;go_wp2;go_region
 all_goals (go_wp2;go_ret;exact ⟨rfl,Lib.below_freeze (Below.drew (Below.refl B w)) (p:=⟨g,0,none⟩) hbg _⟩)
end
end Go.Proofs.YtneohanphabneaaGreatDoor
