/-
The document's words of a text, the walks. Conditions: none.
-/
import Derived.Test.YtneohanphabneaaGreatDoorBase
import Derived.Test.YtneohanphabneaaGreatDoorIs
import Derived.Test.YtneohanphabneaaGreatDoorRd
import Derived.Deep.AppendLies
import Derived.Deep.CutBlock
import Derived.Deep.DeepCutAuto
namespace Go.Proofs.YtneohanphabneaaGreatDoor
set_option linter.unusedSimpArgs false
set_option linter.unusedVariables false
section
open Go.RowKit Go.BigFrame
def strLen:Value→Nat
 | .string s=>s.size
 | _=>0
def IsB (e:Ending):Prop:=∃b,e=.returned (.bool b)
theorem oneSign_any (x:Int) (w:World):Calls Tryz.prog 83 #[.int .u8 x] w fun e w'=>IsB e∧w=w':=by
 go_enter Tryz.func83,Tryz.ntmps83;go_wp2;go_loop [4] (fun i=>∃k:Nat,k≤20∧i=.int .i64 k) (fun i=>20 - (intOf i).toNat)
 case atStart=>exact ⟨0,by omega,rfl⟩
 case round=>
  obtain ⟨k,hk,rfl⟩:=hrel;by_cases hlt:k<20
  ·go_wp2
   ·go_ret;exact ⟨⟨_,rfl⟩,rfl⟩
   ·go_round
    case rel=>exact ⟨k+1,by omega,by go_num⟩
    case measure=>simp [intOf];omega
  ·go_wp2;go_ret;exact ⟨⟨_,rfl⟩,rfl⟩
theorem beyond_any (s:ByteArray) (hs:s.size≤4000) (w:World):Calls Tryz.prog 82 #[.string s] w fun e w'=>IsB e∧w=w':=by
 go_enter Tryz.func82,Tryz.ntmps82;go_wp2;go_loop [0] (fun v=>∃t:ByteArray,t.size≤4000∧v=.string t) (fun v=>strLen v)
 case atStart=>exact ⟨s,hs,rfl⟩
 case round=>
  obtain ⟨t,ht,rfl⟩:=hrel;clear hs;by_cases h1:1<t.size
  ·go_wp2
   all_goals first
    | (go_ret;exact ⟨⟨_,rfl⟩,rfl⟩)
    | exact ⟨⟨_,by simp;omega,rfl⟩,by simp [strLen];omega⟩
  ·go_wp2
   all_goals (go_ret;exact ⟨⟨_,rfl⟩,rfl⟩)
theorem behindComment_any (s:ByteArray) (i:Nat) (hs:s.size≤4000) (hi:i≤s.size) (w:World):Calls Tryz.prog 79 #[.string s,.int .i64 i] w fun e w'=>(∃r:Int,e=.returned (.int .i64 r)∧(r<0∨∃j:Nat,r=j∧i<j∧j≤s.size))∧w=w':=by
 go_enter Tryz.func79,Tryz.ntmps79;go_wp2;go_loop [1,5] (fun ii dd=>∃(j:Nat) (d:Int),ii=.int .i64 j∧dd=.int .i64 d∧i<j∧j≤s.size+2) (fun ii _=>s.size+2 - (intOf ii).toNat)
 case atStart=>exact ⟨i+2,1,by go_num,rfl,by omega,by omega⟩
 case round=>
  obtain ⟨j,d,rfl,rfl,hj,hl⟩:=hrel;by_cases hlt:j+1<s.size
  ·go_wp2
   all_goals first
    | (go_ret;exact ⟨⟨_,rfl,.inr ⟨j+2,by omega,by omega,by omega⟩⟩,rfl⟩)
    | exact ⟨⟨j+2,_,by go_num,rfl,by omega,by omega⟩,by simp [intOf];omega⟩
    | exact ⟨⟨j+1,_,by go_num,rfl,by omega,by omega⟩,by simp [intOf];omega⟩
  ·go_wp2;go_ret;exact ⟨⟨-1,rfl,.inl (by omega)⟩,rfl⟩
end
section
open Go.RowKit Go.BigFrame
def flatT:List (ByteArray × Int)→List Value
  | []=>[]
  | x::r=>.string x.1::.int .i64 x.2::flatT r
theorem flatT_append:∀l r:List (ByteArray × Int),flatT (l++r)=flatT l++flatT r
  | [],_=>rfl
  | x::l,r=>by simp [flatT,flatT_append l r]
theorem flatT_at:∀(l:List (ByteArray × Int)) (j:Nat),j<l.length→(flatT l)[j*2]?=some (.string (wdN l j))∧(flatT l)[j*2+1]?=some (.int .i64 (plN l j))
  | [],_,h=>by simp at h
  | x::l,0,_=>⟨rfl,rfl⟩
  | x::l,j+1,h=>by
    have:=flatT_at l j (by simpa using h);rw [Nat.succ_mul];exact this
theorem infoTk:(Tryz.prog.info? 94).map (fun i=>(i.zero,i.size,i.bytes))=some (some (.agg #[.string ⟨#[]⟩,.int .i64 0]),2,24):=by kernel_rfl
def IsU (v:Value):Prop:=∃x,v=.int .u8 x
def IsV (v:Value):Prop:=∃b,v=.bool b
/-- What Words leaves. -/
def WPost (w:World) (e:Ending) (w':World):Prop:=
  Below w.heap.size w w'∧∃(A:Option Addr) (n c:Nat) (E t a:Int),e=.returned (.tuple #[.slice A n c,.agg #[.int .i64 E,.int .i64 t,.int .i64 a]]) ∧
    (E=0→∃(tb:Nat) (L:List (ByteArray × Int)),A=some ⟨tb,0,none⟩∧n=L.length∧Toks L∧0<L.length∧L.length≤c∧w.heap.size≤tb∧∀j,j<L.length→w'.cell? ⟨tb,j*2,none⟩=some (.string (wdN L j))∧w'.cell? ⟨tb,j*2+1,none⟩=some (.int .i64 (plN L j)))
abbrev zB:Obj:=.cells #[.int .i64 0,.int .i64 0,.int .i64 0] 34 (0,0)
/-- Where Words stands. -/
structure Wo (s:ByteArray) (w wr:World) (i:Nat) (v:Value) (L:List (ByteArray × Int)):Prop where
  own:wr.ownsRow (w.heap.size+1) 94 2 v L.length (flatT L)
  sm:∀x∈L,x.1.size≤4000
  len:L.length≤i
  le:i≤s.size
  bl:Below (w.heap.size+1) (w.alloc zB) wr
theorem Wo.mv {s:ByteArray} {w wr:World} {i j:Nat} {v:Value} {L:List (ByteArray × Int)} (h:Wo s w wr i v L) (h1:i≤j) (h2:j≤s.size):Wo s w wr j v L:=⟨h.own,h.sm,by have:=h.len;omega,h2,h.bl⟩
theorem Wo.push {s:ByteArray} {w wr w':World} {i j:Nat} {v:Value} {L:List (ByteArray × Int)} (h:Wo s w wr i v L) {o:Obj} {g cap:Nat} {x:ByteArray} {p:Int} (hx:x.size≤4000)
    (hown:w'.ownsRow (w.heap.size+1) 94 2 (.slice (some ⟨g,0,none⟩) (L.length+1) cap) (L.length+1) (flatT L++[.string x,.int .i64 p])) (hg:(wr.alloc o).grownBy w' v.ownBlock) (h1:i+1≤j) (h2:j≤s.size):Wo s w w' j (.slice (some ⟨g,0,none⟩) (L.length+1) cap) (L++[(x,p)]):=by
  have hs:=h.bl.size;simp at hs;refine ⟨by rw [flatT_append,List.length_append];exact hown,fun y hy=>?_,by have:=h.len;simp;omega,h2,(h.bl.trans (bBw wr o |>.mono hs)).grown hg (by simp;omega) fun k hk=>(h.own.lt k hk).1⟩;rcases List.mem_append.1 hy with hy | hy
  · exact h.sm y hy
  · rw [List.mem_singleton.1 hy];exact hx
theorem toks_end {L:List (ByteArray × Int)} (h:∀x∈L,x.1.size≤4000) (hn:L.length≤4000) (p:Int):Toks (L++[(⟨#[]⟩,p)]):=by
  refine ⟨by simp [wdN],by simp;omega,fun i=>?_⟩;unfold wdN;rcases Nat.lt_or_ge i (L++[((⟨#[]⟩:ByteArray),p)]).length with hi | hi
  · rw [List.getD_eq_getElem?_getD,List.getElem?_eq_getElem hi,Option.getD_some]
    have hm:=List.getElem_mem hi;rcases List.mem_append.1 hm with hm | hm
    · have:=h _ hm;omega
    · rw [List.mem_singleton.1 hm];exact Nat.zero_le _
  · rw [List.getD_eq_getElem?_getD,List.getElem?_eq_none hi];exact Nat.zero_le _
theorem zB_facts {w wr:World} (h:Below (w.heap.size+1) (w.alloc zB) wr):
    (wr.cell? ⟨w.heap.size,0,none⟩=some (.int .i64 0)∧wr.cell? ⟨w.heap.size,1,none⟩=some (.int .i64 0)∧wr.cell? ⟨w.heap.size,2,none⟩=some (.int .i64 0))∧wr.frozen? ⟨w.heap.size,0,none⟩=false∧wr.frozen? ⟨w.heap.size,1,none⟩=false∧wr.frozen? ⟨w.heap.size,2,none⟩=false∧w.heap.size<wr.heap.size:=by
  have e:wr.heap[w.heap.size]?=some zB:=(h.block _ (Nat.lt_succ_self _)).trans (heap_alloc_new w _);refine ⟨⟨?_,?_,?_⟩,frozen_of_row _ _ _ _ _ e,frozen_of_row _ _ _ _ _ e,frozen_of_row _ _ _ _ _ e,by have:=h.size;simp at this;omega⟩
  all_goals (rw [cell_of_row _ _ _ _ _ _ e];rfl)
theorem zB_set {w wr:World} (h:Below (w.heap.size+1) (w.alloc zB) wr) (x y z:Int):(((wr.setCell ⟨w.heap.size,0,none⟩ (.int .i64 x)).setCell ⟨w.heap.size,1,none⟩ (.int .i64 y)).setCell ⟨w.heap.size,2,none⟩ (.int .i64 z)).heap[w.heap.size]?=some (.cells #[.int .i64 x,.int .i64 y,.int .i64 z] 34 (0,0)) ∧
    Below w.heap.size w (((wr.setCell ⟨w.heap.size,0,none⟩ (.int .i64 x)).setCell ⟨w.heap.size,1,none⟩ (.int .i64 y)).setCell ⟨w.heap.size,2,none⟩ (.int .i64 z)):=by
  have e:wr.heap[w.heap.size]?=some zB:=(h.block _ (Nat.lt_succ_self _)).trans (heap_alloc_new w _);have e0:=heap_setCell_same wr w.heap.size 0 _ _ (.int .i64 x) e;have e1:=heap_setCell_same _ w.heap.size 1 _ _ (.int .i64 y) e0;have e2:=heap_setCell_same _ w.heap.size 2 _ _ (.int .i64 z) e1;have h0:Below w.heap.size w wr:=(bBw w zB).trans (h.mono (Nat.le_succ _));exact ⟨e2,((h0.setCell (Nat.le_refl _) _).setCell (Nat.le_refl _) _).setCell (Nat.le_refl _) _⟩
theorem wret {fn:Func} (h:fn.results=#[.tmp 2,.cell 3 34]) {a:Act} {w W:World} {x y z:Int} {A:Option Addr} {n c:Nat} (hp:a.tmps.getD 3 undef=.pointer (some ⟨w.heap.size,0,none⟩)) (h2:a.tmps.getD 2 undef=.slice A n c) (hd:a.defers=[])
    (hW:W.heap[w.heap.size]?=some (.cells #[.int .i64 x,.int .i64 y,.int .i64 z] 34 (0,0))∧Below w.heap.size w W)
    (hE:x=0→∃(tb:Nat) (L:List (ByteArray × Int)),A=some ⟨tb,0,none⟩∧n=L.length∧Toks L∧0<L.length∧L.length≤c∧w.heap.size≤tb∧∀j,j<L.length→W.cell? ⟨tb,j*2,none⟩=some (.string (wdN L j))∧W.cell? ⟨tb,j*2+1,none⟩=some (.int .i64 (plN L j))):bodyPost Tryz.prog fn (WPost w) .ret a W:=by
  have c0:W.cell? ⟨w.heap.size,0,none⟩=some (.int .i64 x):=(by rw [cell_of_row _ _ _ _ _ _ hW.1];rfl);have c1:W.cell? ⟨w.heap.size,1,none⟩=some (.int .i64 y):=(by rw [cell_of_row _ _ _ _ _ _ hW.1];rfl);have c2:W.cell? ⟨w.heap.size,2,none⟩=some (.int .i64 z):=(by rw [cell_of_row _ _ _ _ _ _ hW.1];rfl);have hp':a.tmps[3]?.getD undef=.pointer (some ⟨w.heap.size,0,none⟩):=(by simpa using hp);have h2':a.tmps[2]?.getD undef=.slice A n c:=(by simpa using h2);refine bodyPost_ret (v:=.tuple #[.slice A n c,.agg #[.int .i64 x,.int .i64 y,.int .i64 z]]) (by simp [results,h,hp',h2',go_sem,c0,c1,c2]) hd ⟨hW.2,A,n,c,x,y,z,rfl,hE⟩
set_option maxRecDepth 100000 in
set_option maxHeartbeats 4000000 in
theorem Words_any (s:ByteArray) (w:World):Calls Tryz.prog 33 #[.string s] w (WPost w):=by
  obtain ⟨i0,hi,hz0,hz1,hz2⟩:=info_parts infoTk;by_cases hs:4000<s.size
  · go_enter Tryz.func33,Tryz.ntmps33
    go_wp2_with fail;refine (Err_any 3 _).mono ?_;rintro e w1 ⟨rfl,hb⟩;have HB:=hid (show Below (w.heap.size+1) (w.alloc zB) w1 from hb.mono (by simp));have x:=zB_facts HB.out;go_wp2;exact wret rfl rfl rfl rfl (zB_set HB.out _ _ _) (fun h=>by cases h)
  · have hs':s.size≤4000:=by omega
    go_enter Tryz.func33,Tryz.ntmps33;go_wp2;go_loopg [4,5] (s.size) (fun g vv ii wr=>∃(i:Nat) (v:Value) (L:List (ByteArray × Int)),vv=v∧ii=.int .i64 i∧Hid (Wo s w wr i v L)∧g=s.size - i)
    case atStart=>exact ⟨0,_,[],rfl,rfl,hid ⟨World.ownsRow_nil _ _ _ _,(fun x hx=>by cases hx),Nat.le_refl _,Nat.zero_le _,Below.refl _ _⟩,rfl⟩
    case round=>
    obtain ⟨i,v,L,rfl,rfl,WO,rfl⟩:=hrel;have x:=zB_facts WO.out.bl;by_cases hlt:i<s.size
    · go_upto_region 9 with fail
      all_goals first
        | (go_roundg (s.size - (i+1))
           (case measure=>omega)
           (case rel=>exact ⟨i+1,_,L,rfl,by go_num,hid (WO.out.mv (by omega) (by omega)),rfl⟩))
        | skip
      go_cut [6,51] (fun c6 c wx=>IsU c6∧IsV c∧wr=wx)
      case first=>
        go_wp2
        all_goals (go_meet;exact ⟨⟨_,rfl⟩,⟨_,rfl⟩,rfl⟩)
      case rest=>
      obtain ⟨⟨ch,rfl⟩,⟨b,rfl⟩,rfl⟩:=hcut;cases b
      case true=>
        go_wp2_with fail;refine (behindComment_any s i hs' (by omega) wr).mono ?_;rintro e w' ⟨⟨r,rfl,hr⟩,rfl⟩;rcases hr with hr | ⟨j,rfl,hj1,hj2⟩
        · go_wp2
          exact wret rfl rfl rfl rfl (zB_set WO.out.bl _ _ _) (fun h=>by cases h)
        · go_wp2
          go_roundg (s.size - j)
          case measure=>omega
          case rel=>exact ⟨j,_,L,rfl,rfl,hid (WO.out.mv (by omega) (by omega)),rfl⟩
      go_upto_if 61 with (go_at_call 80;refine (isLetter_any _ _).mono ?_;rintro e w' ⟨rfl,rfl⟩);go_cut [6,8,60,61] (fun c6 nn c60 c61 wx=>IsU c6∧IsU c60∧IsV c61∧(∃n:Nat,nn=.int .i64 n∧1≤n∧i+n≤s.size)∧wr=wx)
      case first=>
        cases hL:letB ch
        case true=>
          go_wp2;go_loopg [8] (s.size - 1) (fun g nn wx=>(∃n:Nat,nn=.int .i64 n∧1≤n∧i+n≤s.size∧g=s.size - n)∧wr=wx)
          case atStart=>exact ⟨⟨1,rfl,Nat.le_refl _,by omega,rfl⟩,rfl⟩
          case round=>
          obtain ⟨⟨n,rfl,hn1,hn2,rfl⟩,rfl⟩:=hrel;by_cases hlt2:i+n<s.size
          · go_wp2_with (first | (go_at_call 80;refine (isLetter_any _ _).mono ?_;rintro e w' ⟨rfl,rfl⟩) | (go_at_call 81;refine (isDigit_any _ _).mono ?_;rintro e w' ⟨rfl,rfl⟩))
            all_goals first
              | (go_roundg (s.size - (n+1))
                 (case measure=>omega)
                 (case rel=>exact ⟨⟨n+1,by go_num,by omega,by omega,rfl⟩,rfl⟩))
              | (go_meet;exact ⟨⟨_,rfl⟩,⟨_,rfl⟩,⟨_,rfl⟩,⟨n,rfl,hn1,hn2⟩,rfl⟩)
              | exact wret (x:=3) rfl rfl rfl rfl (zB_set WO.out.bl _ _ _) (fun h=>by cases h)
          · go_wp2
            all_goals first
              | (go_meet;exact ⟨⟨_,rfl⟩,⟨_,rfl⟩,⟨_,rfl⟩,⟨n,rfl,hn1,hn2⟩,rfl⟩)
              | exact wret (x:=3) rfl rfl rfl rfl (zB_set WO.out.bl _ _ _) (fun h=>by cases h)
        case false=>
          go_wp2_with fail;refine (isDigit_any _ _).mono ?_;rintro e w' ⟨rfl,rfl⟩;cases hD:digB ch
          case true=>
            go_wp2;go_loopg [8] (s.size - 1) (fun g nn wx=>(∃n:Nat,nn=.int .i64 n∧1≤n∧i+n≤s.size∧g=s.size - n)∧wr=wx)
            case atStart=>exact ⟨⟨1,rfl,Nat.le_refl _,by omega,rfl⟩,rfl⟩
            case round=>
            obtain ⟨⟨n,rfl,hn1,hn2,rfl⟩,rfl⟩:=hrel;have hsz:(s.extract i (i+n)).size≤4000:=(by simp;omega);by_cases hlt2:i+n<s.size
            · go_wp2_with (first | (go_at_call 81;refine (isDigit_any _ _).mono ?_;rintro e w' ⟨rfl,rfl⟩) | (go_at_call 82;refine (beyond_any _ hsz _).mono ?_;rintro e w' ⟨⟨b,rfl⟩,rfl⟩))
              all_goals first
                | (go_roundg (s.size - (n+1))
                   (case measure=>omega)
                   (case rel=>exact ⟨⟨n+1,by go_num,by omega,by omega,rfl⟩,rfl⟩))
                | (go_meet;exact ⟨⟨_,rfl⟩,⟨_,rfl⟩,⟨_,rfl⟩,⟨n,rfl,hn1,hn2⟩,rfl⟩)
                | exact wret (x:=3) rfl rfl rfl rfl (zB_set WO.out.bl _ _ _) (fun h=>by cases h)
            · go_wp2_with (first | (go_at_call 82;refine (beyond_any _ hsz _).mono ?_;rintro e w' ⟨⟨b,rfl⟩,rfl⟩))
              all_goals first
                | (go_roundg (s.size - (n+1))
                   (case measure=>omega)
                   (case rel=>exact ⟨⟨n+1,by go_num,by omega,by omega,rfl⟩,rfl⟩))
                | (go_meet;exact ⟨⟨_,rfl⟩,⟨_,rfl⟩,⟨_,rfl⟩,⟨n,rfl,hn1,hn2⟩,rfl⟩)
                | exact wret (x:=3) rfl rfl rfl rfl (zB_set WO.out.bl _ _ _) (fun h=>by cases h)
          case false=>
            go_wp2_with (first | (go_at_call 83;refine (oneSign_any _ _).mono ?_;rintro e w' ⟨⟨b,rfl⟩,rfl⟩))
            all_goals first
              | (go_meet;exact ⟨⟨_,rfl⟩,⟨_,rfl⟩,⟨_,rfl⟩,⟨1,rfl,by omega,by omega⟩,rfl⟩)
              | (go_meet;exact ⟨⟨_,rfl⟩,⟨_,rfl⟩,⟨_,rfl⟩,⟨2,rfl,by omega,by omega⟩,rfl⟩)
              | exact wret (x:=1) rfl rfl rfl rfl (zB_set WO.out.bl _ _ _) (fun h=>by cases h)
      case rest=>
      obtain ⟨⟨ch',rfl⟩,⟨ch'',rfl⟩,⟨b',rfl⟩,⟨n,rfl,hn1,hn2⟩,rfl⟩:=hcut;have hb1:=bBw wr (.cells #[.string (s.extract i (i+n)),.int .i64 i] 94);have hown:=WO.out.own.alloc (.cells #[.string (s.extract i (i+n)),.int .i64 i] 94);have hlen:=WO.out.len;have hbs:=WO.out.bl.size;simp at hbs;go_wp2_with (at_builtin;refine wpList_append_lies _ rfl _ _ 65 rfl (w.heap.size+1) 94 i0 (.agg #[.string ⟨#[]⟩,.int .i64 0]) 2 24 Tryz.underlying65 hi hz0 hz1 hz2 rfl (by decide) _ _ _ rfl hown ⟨wr.heap.size,0,none⟩ 1 1 [.string (s.extract i (i+n)),.int .i64 i] rfl rfl ?c1 (by simp [Value.oneCell']) (by omega) ?c3 ?c4 ?c5 _ rfl ?_)
      case c1=>exact World.news_of_block (heap_alloc_new wr _)
      case c3=>unfold maxLen;omega
      case c4=>omega
      case c5=>simp;omega
      intro g cp w5 hown5 hgrow hat hlt5;go_wp2;go_roundg (s.size - (i+n))
      case measure=>omega
      case rel=>exact ⟨i+n,_,_,rfl,by go_num,hid (WO.out.push (by simp;omega) hown5 hgrow (by omega) hn2),rfl⟩
    · have hown:=WO.out.own.alloc (.cells #[.string ⟨#[]⟩,.int .i64 s.size] 94)
      have hlen:=WO.out.len;have hle:=WO.out.le;have hbs:=WO.out.bl.size;simp at hbs;go_wp2_with (at_builtin;refine wpList_append_lies _ rfl _ _ 65 rfl (w.heap.size+1) 94 i0 (.agg #[.string ⟨#[]⟩,.int .i64 0]) 2 24 Tryz.underlying65 hi hz0 hz1 hz2 rfl (by decide) _ _ _ rfl hown ⟨wr.heap.size,0,none⟩ 1 1 [.string ⟨#[]⟩,.int .i64 s.size] rfl rfl ?c1 (by simp [Value.oneCell']) (by omega) ?c3 ?c4 ?c5 _ rfl ?_)
      case c1=>exact World.news_of_block (heap_alloc_new wr _)
      case c3=>unfold maxLen;omega
      case c4=>omega
      case c5=>simp;omega
      intro g cp w5 hown5 hgrow hat hlt5;go_wp2_with fail;refine (Fine_any w5).mono ?_;rintro e w6 ⟨rfl,hb6⟩;have h5:Below (w.heap.size+1) (w.alloc zB) w5:=(WO.out.bl.alloc hbs _).grown hgrow (by simp;omega) fun k hk=>(WO.out.own.lt k hk).1;have HB6:=hid (h5.trans (hb6.mono (by simpa using h5.size)));have x6:=zB_facts HB6.out;have hlg:=hown5.lt g rfl;go_wp2;refine wret rfl rfl rfl rfl (zB_set HB6.out _ _ _) (fun _=>⟨g,L++[((⟨#[]⟩:ByteArray),(s.size:Int))],rfl,by simp,toks_end WO.out.sm (by omega) _,by simp,?_,by omega,fun j hj=>?_⟩)
      · rcases hown5.2 with ⟨h,_⟩ | ⟨g',cap',cur,h,_,_,h6,_⟩
        · cases h
        · injection h with _ _ h;simp;omega
      · have hf:=flatT_at (L++[((⟨#[]⟩:ByteArray),(s.size:Int))]) j hj
        rw [flatT_append] at hf;have hj':j<L.length+1:=(by simpa using hj);refine ⟨set_other (set_other (set_other (keep_cell hb6 ?_) (.inl (by omega))) (.inl (by omega))) (.inl (by omega)),set_other (set_other (set_other (keep_cell hb6 ?_) (.inl (by omega))) (.inl (by omega))) (.inl (by omega))⟩
        · rw [hown5.cellAt _ (by omega)];exact hf.1
        · rw [hown5.cellAt _ (by omega)];exact hf.2
end
end Go.Proofs.YtneohanphabneaaGreatDoor
