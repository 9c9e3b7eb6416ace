/-
Literals, names, trees in memory, their shapes: the ground of the texts that follow. Conditions: those of each theorem.
-/
import Derived.Test.YtneohanphabneaaGreatDoorProg
import Derived.WalkKit
import Derived.WalkLawsBesides
import Derived.WalkSpells
import Derived.BigQuiet
import Derived.Outline
import Derived.Maps.OwnSet
import Derived.MapKept
import Derived.Lib.Hide
import Derived.Lib.ItoaMem
import Derived.Lib.ItoaLen
import Derived.Lib.Join
namespace Go.Proofs.YtneohanphabneaaGreatDoor
set_option linter.unusedSimpArgs false
set_option linter.unusedVariables false
section
open Go.RowKit Go.MapKept
theorem beq_mk (a b:Array UInt8):((ByteArray.mk a)==(ByteArray.mk b))=(a==b):=rfl
instance lawfulBA:LawfulBEq ByteArray where
 eq_of_beq {a b} h:=by
  cases a;cases b;rw [beq_mk] at h;rw [eq_of_beq h]
 rfl {a}:=by
  cases a;rw [beq_mk];exact beq_self_eq_true _
theorem hid {p:Prop} (h:p):RowKit.Hid p:=h
theorem rBo {a b:Bool} (h:a=b):Ending.returned (.bool a)=.returned (.bool b):=by rw [h]
theorem ret_str {a b:ByteArray} (h:a=b):Ending.returned (.string a)=.returned (.string b):=by rw [h]
theorem ret_int {k:IntKind} {a b:Int} (h:a=b):Ending.returned (.int k a)=.returned (.int k b):=by rw [h]
/-- The entries that a literal lays, numbered from n on. -/
def ents:List (Value × Value)→Nat→List MapEntry
 | [],_=>[]
 | p::r,n=>⟨p.1,p.2,n⟩::ents r (n+1)
theorem ents_snoc:∀(l:List (Value × Value)) (p:Value × Value) (n:Nat),ents (l++[p]) n=ents l n++[⟨p.1,p.2,n+l.length⟩]
 | [],p,n=>rfl
 | q::r,p,n=>by simp [ents,ents_snoc r p (n+1)];omega
def litMap (l:List (Value × Value)):Obj:=.map (ents l 0).toArray l.length
/-- What is found in a literal's entries. -/
def look (l:List (Value × Value)) (same:Value→Bool) (z:Value):Value:=
 match l with
 | []=>z
 | p::r=>if same p.1 then p.2 else look r same z
theorem find_none {d:TypeDesc} {k:Value}:∀{l:List (Value × Value)} {n i:Nat},(∀p∈l,Instr.sameNow d k p.1=some false)→Instr.findNow d k (ents l n) i=some none
 | [],_,_,_=>rfl
 | p::r,n,i,h=>by
  simp only [ents,Instr.findNow,h p (.head _)];exact find_none (fun q hq=>h q (.tail _ hq))
theorem find_look {d:TypeDesc} {k:Value} {same:Value→Bool}:∀{l:List (Value × Value)} {n i:Nat} (z:Value),(∀p∈l,Instr.sameNow d k p.1=some (same p.1)) →
  ∃r,Instr.findNow d k (ents l n) i=some r∧(match r with | some x=>x.2 | none=>z)=look l same z
 | [],_,_,z,_=>⟨none,rfl,rfl⟩
 | p::r,n,i,z,h=>by
  have h0:=h p (.head _);by_cases hs:same p.1=true
  ·exact ⟨some (i,p.2),by simp [ents,Instr.findNow,h0,hs],by simp [look,hs]⟩
  ·obtain ⟨x,hx,hr⟩:=find_look (n:=n+1) (i:=i+1) z (fun q hq=>h q (.tail _ hq));have hs':same p.1=false:=(by simpa using hs);exact ⟨x,by simp [ents,Instr.findNow,h0,hs',hx],by simpa [look,hs'] using hr⟩
section
variable {P : Program} {t kt et : TypeId} {d : TypeDesc}
theorem run_insert (hm:P.underlying t=some (.map kt et)) (hd:P.underlying kt=some d) (w:World) (l:List (Value × Value)) (k v:Value) (hk:IsKey d k) (hn:∀p∈l,Instr.sameNow d k p.1=some false):
  (Instr.mapUpdate t (.map (some w.heap.size)) k v).run P (w.alloc (litMap l))=.ok () (w.alloc (litMap (l++[(k,v)]))):=by
 have hb:(w.alloc (litMap l)).heap[w.heap.size]?=some (.map (ents l 0).toArray l.length):=(heap_alloc w _).1;have hf:Instr.findNow d k (ents l 0).toArray.toList 0=some none:=find_none hn;simp only [Instr.mapUpdate,Sem.run_bind,run_underlying hm,MapKept.run_getObj_map hb,run_checkKey hd hk,run_findKey hd hf,run_setObj_map _ hb,Result.andThen];congr 1;simp only [World.alloc,litMap];congr 1;apply Array.ext';simp [Array.setIfInBounds,ents_snoc]
theorem run_look (hm:P.underlying t=some (.map kt et)) (hd:P.underlying kt=some d) (w:World) (b:Nat) (l:List (Value × Value)) (k z:Value) (hb:w.heap[b]?=some (litMap l)) (hk:IsKey d k) (same:Value→Bool)
  (hs:∀p∈l,Instr.sameNow d k p.1=some (same p.1)) (hz:(zeroValue et).run P w=.ok z w):
  (Instr.lookup t (.map (some b)) k false).run P w=.ok (look l same z) w:=by
 have hb':w.heap[b]?=some (.map (ents l 0).toArray l.length):=hb;obtain ⟨r,hf,hr⟩:=find_look (n:=0) (i:=0) z hs
 cases r with
 | none=>
  simp only at hr;rw [← hr];simp [Instr.lookup,run_underlying hm,MapKept.run_getObj_map hb',run_checkKey hd hk,run_findKey hd hf,Result.andThen,hz]
 | some x=>
  simp only at hr;rw [← hr];simp [Instr.lookup,run_underlying hm,MapKept.run_getObj_map hb',run_checkKey hd hk,run_findKey hd hf,Result.andThen]
end
theorem run_makeLit {P:Program} (t:TypeId) (w:World):(Instr.makeMap t none).run P w=.ok (.map (some w.heap.size)) (w.alloc (litMap [])):=rfl
/-- An entry of a literal, at the operation. -/
theorem wpList_insert {P:Program} {W:World} {ops:Array Oper} {rest:List Oper} {o:Oper} {a:Act} {Q:Exit→Act→World→Prop} (hg:o.guard=none) (t:TypeId) (m:Operand) (k v:Value)
  (hop:o.op=Op.insert t m (.const k) (.const v)) (b:Nat) (ha:a.eval m=.map (some b)) (w:World) (l:List (Value × Value)) (hW:W=w.alloc (litMap l)) (hb:w.heap.size=b)
  (kt et:TypeId) (d:TypeDesc) (hm:P.underlying t=some (.map kt et)) (hd:P.underlying kt=some d)
  (hk:IsKey d k) (hnb:(l.all fun p=>Instr.sameNow d k p.1==some false)=true)
  (h:wpList P ops Q rest (a.put o.dst undef) (w.alloc (litMap (l++[(k,v)])))):wpList P ops Q (o::rest) a W:=by
 subst hW;subst hb;refine wpList_plain hg fun K' hK'=>?_;have hrun:=run_insert hm hd w l k v hk (fun p hp=>by simpa using List.all_eq_true.1 hnb p hp);unfold Oper.wp;have e1:a.eval (.const k)=k:=rfl;have e2:a.eval (.const v)=v:=rfl;simp [execOp,hop,ha,e1,e2,hrun,Result.andThen];exact hK' _ _ h
/-- A look-up in a literal, at the operation. -/
theorem wpList_look {P:Program} (w:World) {ops:Array Oper} {rest:List Oper} {o:Oper} {a:Act} {Q:Exit→Act→World→Prop} (hg:o.guard=none) (t:TypeId) (m x:Operand)
  (hop:o.op=Op.lookup t m x false) (b:Nat) (l:List (Value × Value)) (k z:Value) (ha:a.eval m=.map (some b)) (hx:a.eval x=k) (kt et:TypeId) (d:TypeDesc) (hm:P.underlying t=some (.map kt et)) (hd:P.underlying kt=some d)
  (hb:w.heap[b]?=some (litMap l)) (hk:IsKey d k) (same:Value→Bool) (hs:∀p∈l,Instr.sameNow d k p.1=some (same p.1)) (hz:(zeroValue et).run P w=.ok z w)
  (h:wpList P ops Q rest (a.put o.dst (look l same z)) w):wpList P ops Q (o::rest) a w:=by
 refine wpList_plain hg fun K' hK'=>?_;have hrun:=run_look hm hd w b l k z hb hk same hs hz;unfold Oper.wp;simp [execOp,hop,ha,hx,hrun,Result.andThen];exact hK' _ _ h
end
section
open Go.RowKit Go.MapKept
def letB (x:Int):Bool:=decide (97≤x) && decide (x≤122) || decide (65≤x) && decide (x≤90)
def digB (x:Int):Bool:=decide (48≤x) && decide (x≤57)
theorem letter_any (x:Int) (w:World):
    Calls Tryz.prog 99 #[.int .i32 x] w fun e w'=>e=.returned (.bool (letB x))∧w=w':=by
  unfold letB;go_enter Tryz.func99,Tryz.ntmps99;go_wp2
  all_goals go_ret
  all_goals (refine ⟨rBo ?_,rfl⟩;first | (simp [*];done) | (rw [Bool.eq_iff_iff];simp;omega))
theorem digit_any (x:Int) (w:World):
    Calls Tryz.prog 100 #[.int .i32 x] w fun e w'=>e=.returned (.bool (digB x))∧w=w':=by
  unfold digB;go_enter Tryz.func100,Tryz.ntmps100;go_wp2
  all_goals go_ret
  all_goals (refine ⟨rBo ?_,rfl⟩;first | (simp [*];done) | (rw [Bool.eq_iff_iff];simp;omega))
theorem isLetter_any (x:Int) (w:World):
    Calls Tryz.prog 80 #[.int .u8 x] w fun e w'=>e=.returned (.bool (letB x))∧w=w':=by
  unfold letB;go_enter Tryz.func80,Tryz.ntmps80;go_wp2
  all_goals go_ret
  all_goals (refine ⟨rBo ?_,rfl⟩;first | (simp [*];done) | (rw [Bool.eq_iff_iff];simp;omega))
theorem isDigit_any (x:Int) (w:World):
    Calls Tryz.prog 81 #[.int .u8 x] w fun e w'=>e=.returned (.bool (digB x))∧w=w':=by
  unfold digB;go_enter Tryz.func81,Tryz.ntmps81;go_wp2
  all_goals go_ret
  all_goals (refine ⟨rBo ?_,rfl⟩;first | (simp [*];done) | (rw [Bool.eq_iff_iff];simp;omega))
def keptWords:List (List UInt8):=
  [[77,79,68,85,76,69],
   [73,77,80,79,82,84],
   [67,79,78,83,84],
   [84,89,80,69],
   [86,65,82],
   [80,82,79,67,69,68,85,82,69],
   [66,69,71,73,78],
   [69,78,68],
   [73,70],
   [84,72,69,78],
   [69,76,83,73,70],
   [69,76,83,69],
   [87,72,73,76,69],
   [68,79],
   [82,69,80,69,65,84],
   [85,78,84,73,76],
   [82,69,84,85,82,78],
   [65,82,82,65,89],
   [79,70],
   [82,69,67,79,82,68],
   [80,79,73,78,84,69,82],
   [84,79],
   [78,73,76],
   [84,82,85,69],
   [70,65,76,83,69],
   [68,73,86],
   [77,79,68],
   [79,82],
   [73,83],
   [78,69,87],
   [79,85,84],
   [71,69,84],
   [65,83,83,69,82,84]]
def wordsOf (l:List (List UInt8)):List ByteArray:=l.map fun b=>⟨b.toArray⟩
def keptSS:List ByteArray:=wordsOf keptWords
def keptB (s:ByteArray):Bool:=keptSS.any (· == s)
def setKV (l:List ByteArray):List (Value × Value):=l.map fun b=>(.string b,.bool true)
def sameStr (s:ByteArray):Value→Bool | .string t=>s==t | _=>false
theorem same_setKV (l:List ByteArray) (s:ByteArray):∀p∈setKV l,Instr.sameNow .string (.string s) p.1=some (sameStr s p.1):=by
  intro p hp;obtain ⟨b,_,rfl⟩:=List.mem_map.1 hp;rfl
theorem look_setKV (s:ByteArray):∀l:List ByteArray,look (setKV l) (sameStr s) (.bool false)=.bool (l.any (· == s))
  | []=>rfl
  | b::r=>by
    have ih:=look_setKV s r;unfold setKV at ih⊢
    have e:sameStr s (.string b)=(b==s):=by
      show (s==b)=(b==s);rw [Bool.eq_iff_iff,beq_iff_eq,beq_iff_eq];exact eq_comm
    simp only [List.map_cons,look,List.any_cons,e];by_cases h:(b==s)=true
    · simp [h]
    · have h1:(b==s)=false:=by simpa using h
      rw [h1,Bool.false_or,← ih];rfl
set_option maxRecDepth 100000 in
set_option maxHeartbeats 1000000 in
theorem keptMap_any (w:World):
    Calls Tryz.prog 134 #[] w fun e w'=>e=.returned (.map (some w.heap.size))∧w.alloc (litMap (setKV keptSS))=w':=by
  have hmm:=@run_makeLit Tryz.prog;go_enter Tryz.func134,Tryz.ntmps134;go_wp2_with (refine wpList_insert rfl 105 (.tmp 1) _ _ rfl w.heap.size rfl w _ rfl rfl 9 4 .string Tryz.underlying105 Tryz.underlying9 ?_ ?_ ?_;(· trivial);(· rfl));go_ret;exact ⟨rfl,rfl⟩
theorem zero_bool (w:World):(zeroValue 4).run Tryz.prog w=.ok (.bool false) w:=by kernel_rfl
theorem heap_new (w:World) (o:Obj):(w.alloc o).heap[w.heap.size]?=some o:=(heap_alloc w o).1
theorem scanKept_any (s:ByteArray) (w:World):
    Calls Tryz.prog 98 #[.string s] w fun e w'=>e=.returned (.bool (keptB s))∧w.alloc (litMap (setKV keptSS))=w':=by
  go_enter Tryz.func98,Tryz.ntmps98
  go_wp2_with (first
    | (go_at_call 134;refine (keptMap_any _).mono ?_;rintro e w' ⟨rfl,rfl⟩)
    | (at_lookup;refine wpList_look _ rfl 105 _ _ rfl w.heap.size (setKV keptSS) (.string s) (.bool false) rfl rfl 9 4 .string Tryz.underlying105 Tryz.underlying9 (heap_new _ _) trivial (sameStr s) (same_setKV _ _) (zero_bool _) ?_;rw [look_setKV]))
  go_ret;exact ⟨rfl,rfl⟩
theorem toList_eq_of {a b:ByteArray} (h:(a.toList==b.toList)=true):a=b:=by
  have h':=eq_of_beq h;rw [ByteArray.toList_eq,ByteArray.toList_eq] at h';cases a;cases b;exact congrArg ByteArray.mk (Array.ext' h')
theorem toList_ne_of {a b:ByteArray} (h:(a.toList==b.toList)=false):(a==b)=false:=by
  rw [beq_eq_false_iff_ne] at h⊢;exact fun e=>h (by rw [e])
theorem any_hit {ss:List ByteArray} {s:ByteArray} {k:Nat} (hk:k<ss.length) (h:ss[k]=s):ss.any (· == s)=true:=
  List.any_eq_true.2 ⟨ss[k],List.getElem_mem hk,by rw [h];exact beq_self_eq_true _⟩
theorem any_step {ss:List ByteArray} {s:ByteArray} {k:Nat} (hk:k<ss.length) (h0:(ss.take k).any (· == s)=false) (h:(ss[k].toList==s.toList)=false):(ss.take (k+1)).any (· == s)=false:=by
  rw [List.take_succ_eq_append_getElem hk,List.any_append,h0];simp [toList_ne_of h]
theorem in_any (s:ByteArray) (b o c:Nat) (ss:List ByteArray) (w:World) (hl:ss.length≤65536) (hc:∀i (h:i<ss.length),w.cell? ⟨b,o+i,none⟩=some (.string ss[i])):
    Calls Tryz.prog 77 #[.string s,.slice (some ⟨b,o,none⟩) ss.length c] w fun e w'=>e=.returned (.bool (ss.any (· == s)))∧w=w':=by
  have HC:=hid hc;clear hc;go_enter Tryz.func77,Tryz.ntmps77;go_wp2;go_loop [5] (fun i=>∃k:Nat,k≤ss.length∧i=.int .i64 k∧(ss.take k).any (· == s)=false) (fun i=>ss.length - (intOf i).toNat)
  case atStart=>exact ⟨0,Nat.zero_le _,rfl,rfl⟩
  case round=>
    obtain ⟨k,hk,rfl,hn⟩:=hrel;have HN:=hid hn;clear hn;by_cases hlt:k<ss.length
    · have hcell:=HC.out k hlt
      go_wp2
      · go_ret
        have h1:ss[k]=s:=toList_eq_of (by assumption);exact ⟨rBo (any_hit hlt h1).symm,rfl⟩
      · have h1:(ss[k].toList==s.toList)=false:=by assumption
        have h2:=any_step hlt HN.out h1;clear h1;go_round
        case rel=>exact ⟨k+1,by omega,by go_num,h2⟩
        case measure=>simp [intOf];omega
    · go_wp2
      go_ret;have:=HN.out;rw [List.take_of_length_le (by omega)] at this;exact ⟨rBo this.symm,rfl⟩
/-- The variable with the kept words, as it is laid. -/
def KeptLaid (w:World):Prop:=∃b o c,w.cell? ⟨1,0,none⟩=some (.slice (some ⟨b,o,none⟩) keptSS.length c)∧∀i (h:i<keptSS.length),w.cell? ⟨b,o+i,none⟩=some (.string keptSS[i])
theorem lt_of_cell {w:World} {a:Addr} {v:Value} (h:w.cell? a=some v):a.block<w.heap.size:=by
  rcases Nat.lt_or_ge a.block w.heap.size with h' | h'
  · exact h'
  · simp [World.cell?,Array.getElem?_eq_none h'] at h
theorem keep_cell {w w':World} (hb:Below w.heap.size w w') {a:Addr} {v:Value} (h:w.cell? a=some v):w'.cell? a=some v:=(hb.cell (lt_of_cell h)).trans h
theorem KeptLaid.below {w w':World} (h:KeptLaid w) (hb:Below w.heap.size w w'):KeptLaid w':=by
  obtain ⟨b,o,c,h1,h2⟩:=h;exact ⟨b,o,c,keep_cell hb h1,fun i hi=>keep_cell hb (h2 i hi)⟩
theorem refKept_any (s:ByteArray) (w:World) (hl:KeptLaid w):
    Calls Tryz.prog 92 #[.string s] w fun e w'=>e=.returned (.bool (keptB s))∧w=w':=by
  obtain ⟨b,o,c,h1,h2⟩:=hl;have HC:=hid h2;clear h2;go_enter Tryz.func92,Tryz.ntmps92;go_wp2_with (go_at_call 77;refine (in_any s b o c keptSS _ (by decide) HC.out).mono ?_;rintro e w' ⟨rfl,rfl⟩);go_ret;exact ⟨rfl,rfl⟩
end
section
open Go.RowKit Go.MapKept
def wordC (c:UInt8):Bool:=letB c.toNat || digB c.toNat
def nameL:List UInt8→Bool
 | []=>false
 | c::r=>letB c.toNat && r.all wordC
def nameB (s:ByteArray):Bool:=decide (s.size≤12) && !keptB s && nameL s.data.toList
theorem empty_name {s:ByteArray} (h:s.toList.isEmpty=true):nameB s=false:=by
 have h1:s.data.toList=[]:=(by rw [← ByteArray.toList_eq];simpa using h);simp [nameB,h1,nameL]
theorem nonempty {s:ByteArray} (h:s.toList.isEmpty=false):0<s.size:=by
 rcases Nat.eq_zero_or_pos s.size with h0 | h0
 ·have h1:s.data.toList=[]:=by
   apply List.eq_nil_of_length_eq_zero;simpa using h0
  rw [ByteArray.toList_eq,h1] at h;simp at h
 ·exact h0
theorem is_empty_of {s:ByteArray} (h:¬0<s.size):s.toList.isEmpty=true:=by
 have h1:s.data.toList=[]:=by
  apply List.eq_nil_of_length_eq_zero;have:s.size=0:=(by omega);simpa using this
 rw [ByteArray.toList_eq,h1];rfl
theorem not_empty_of {s:ByteArray} (h:0<s.size):s.toList.isEmpty=false:=by
 rw [Bool.eq_false_iff];intro h1;have h2:s.data.toList=[]:=(by rw [← ByteArray.toList_eq];simpa using h1);have h3:s.data.toList.length=0:=(by rw [h2];rfl);have h4:s.size=s.data.toList.length:=(by simp);omega
theorem data_get (s:ByteArray) (k:Nat) (h:k<s.size):s.data.toList[k]'(by simpa using h)=s[k]:=by
 simp only [Array.getElem_toList];rfl
theorem name_first {s:ByteArray} (h:0<s.size) (h1:letB (s[0].toNat:Int)=false):nameB s=false:=by
 have e:=data_get s 0 h;unfold nameB
 match hl:s.data.toList with
 | []=>simp [nameL]
 | c::r=>
  simp only [hl,List.getElem_cons_zero] at e;subst e;simp [nameL,h1]
/-- After k bytes all is well. -/
def okTo (s:ByteArray) (k:Nat):Bool:=(s.data.toList.take k).all wordC
theorem okTo_zero (s:ByteArray):okTo s 0=true:=rfl
theorem okTo_succ {s:ByteArray} {k:Nat} (h:k<s.size):okTo s (k+1)=(okTo s k && wordC s[k]):=by
 have hl:k<s.data.toList.length:=(by simpa using h);unfold okTo;rw [List.take_succ_eq_append_getElem hl,List.all_append,data_get s k h];simp
theorem okTo_bad {s:ByteArray} {k:Nat} (h:k<s.size) (hb:wordC s[k]=false):okTo s s.size=false:=by
 have hl:k<s.data.toList.length:=(by simpa using h);unfold okTo;rw [List.take_of_length_le (by simp)];rw [Bool.eq_false_iff];intro ha;have:=List.all_eq_true.1 ha s[k] (by rw [← data_get s k h];exact List.getElem_mem hl);rw [hb] at this;cases this
theorem letB_word {c:UInt8} (h:letB c.toNat=true):wordC c=true:=by simp [wordC,h]
theorem name_okTo {s:ByteArray} (h0:0<s.size) (h12:s.size≤12) (hk:keptB s=false) (h1:letB (s[0].toNat:Int)=true):nameB s=okTo s s.size:=by
 have e:=data_get s 0 h0;unfold nameB okTo;rw [List.take_of_length_le (by simp)]
 match hl:s.data.toList with
 | []=>
  have h3:s.data.toList.length=0:=(by rw [hl];rfl);have h4:s.size=s.data.toList.length:=(by simp);omega
 | c::r=>
  simp only [hl,List.getElem_cons_zero] at e;subst e;simp [nameL,h1,h12,hk,letB_word h1]
theorem refName_any (s:ByteArray) (w:World) (hl:KeptLaid w):
  Calls Tryz.prog 39 #[.string s] w fun e w'=>e=.returned (.bool (nameB s))∧w=w':=by
 by_cases h0:0<s.size
 ·have he:=not_empty_of h0;by_cases h12:s.size≤12
  ·cases hk:keptB s with
   | true=>
    have HK:=hid hk;clear hk;have fin:nameB s=false:=(by simp [nameB,HK.out]);have FIN:=hid fin;clear fin;go_enter Tryz.func39,Tryz.ntmps39;go_wp2_with (go_at_call 92;refine (refKept_any s _ hl).mono ?_;rintro e w' ⟨rfl,rfl⟩;rw [HK.out]);go_ret;exact ⟨rBo FIN.out.symm,rfl⟩
   | false=>
    have HK:=hid hk
    cases h1:letB (s[0].toNat:Int) with
    | false=>
     have FIN:=hid (name_first h0 h1);have H1:=hid h1;clear h1 hk;go_enter Tryz.func39,Tryz.ntmps39;go_wp2_with (first | (go_at_call 92;refine (refKept_any s _ hl).mono ?_;rintro e w' ⟨rfl,rfl⟩;rw [HK.out]) | (go_at_call 80;refine (isLetter_any _ _).mono ?_;rintro e w' ⟨rfl,rfl⟩;rw [H1.out]));go_ret;exact ⟨rBo FIN.out.symm,rfl⟩
    | true=>
     have FIN:=hid (name_okTo h0 h12 hk h1);have H1:=hid h1;clear h1 hk;go_enter Tryz.func39,Tryz.ntmps39;go_wp2_with (first | (go_at_call 92;refine (refKept_any s _ hl).mono ?_;rintro e w' ⟨rfl,rfl⟩;rw [HK.out]) | (go_at_call 80;refine (isLetter_any _ _).mono ?_;rintro e w' ⟨rfl,rfl⟩;rw [H1.out]));go_loop [3] (fun i=>∃k:Nat,k≤s.size∧i=.int .i64 k∧okTo s k=true) (fun i=>s.size - (intOf i).toNat)
     case atStart=>exact ⟨0,Nat.zero_le _,rfl,okTo_zero s⟩
     case round=>
      obtain ⟨k,hk,rfl,hok⟩:=hrel;have HOK:=hid hok;clear hok;by_cases hlt:k<s.size
      ·have hstep:=hid (okTo_succ hlt)
       cases h2:letB (s[k].toNat:Int) with
       | true=>
        have H2:=hid h2;clear h2;go_wp2_with (go_at_call 80;refine (isLetter_any _ _).mono ?_;rintro e w' ⟨rfl,rfl⟩;rw [H2.out]);go_round
        case rel=>exact ⟨k+1,by omega,by go_num,by rw [hstep.out,HOK.out,letB_word H2.out];rfl⟩
        case measure=>simp [intOf];omega
       | false=>
        have H2:=hid h2;clear h2
        cases h3:digB (s[k].toNat:Int) with
        | true=>
         have H3:=hid h3;clear h3;go_wp2_with (first | (go_at_call 80;refine (isLetter_any _ _).mono ?_;rintro e w' ⟨rfl,rfl⟩;rw [H2.out]) | (go_at_call 81;refine (isDigit_any _ _).mono ?_;rintro e w' ⟨rfl,rfl⟩;rw [H3.out]));go_round
         case rel=>exact ⟨k+1,by omega,by go_num,by rw [hstep.out,HOK.out];simp [wordC,H3.out]⟩
         case measure=>simp [intOf];omega
        | false=>
         have H3:=hid h3;clear h3;go_wp2_with (first | (go_at_call 80;refine (isLetter_any _ _).mono ?_;rintro e w' ⟨rfl,rfl⟩;rw [H2.out]) | (go_at_call 81;refine (isDigit_any _ _).mono ?_;rintro e w' ⟨rfl,rfl⟩;rw [H3.out]));go_ret;exact ⟨rBo (by rw [FIN.out,okTo_bad hlt (by simp [wordC,H2.out,H3.out])]),rfl⟩
      ·go_wp2;go_ret;exact ⟨rBo (by rw [FIN.out,← HOK.out,show k=s.size from by omega]),rfl⟩
  ·have hgt:12<s.size:=(by omega);have fin:nameB s=false:=(by simp [nameB];intro h;omega);have FIN:=hid fin;clear fin;go_enter Tryz.func39,Tryz.ntmps39;go_wp2;go_ret;exact ⟨rBo FIN.out.symm,rfl⟩
 ·have he:=is_empty_of h0;have FIN:=hid (empty_name he);go_enter Tryz.func39,Tryz.ntmps39;go_wp2;go_ret;exact ⟨rBo FIN.out.symm,rfl⟩
theorem letB_high (r:Int) (h:128≤r):letB r=false:=by simp [letB];omega
theorem digB_high (r:Int) (h:128≤r):digB r=false:=by simp [digB];omega
theorem name_bad {s:ByteArray} {k:Nat} (h:k<s.size) (hb:wordC s[k]=false):nameB s=false:=by
 have hl:k<s.data.toList.length:=(by simpa using h);have hm:s[k]∈s.data.toList:=(by rw [← data_get s k h];exact List.getElem_mem hl);unfold nameB;rw [Bool.and_eq_false_iff];right
 match s.data.toList,hm with
 | c::r,hm=>
  rw [Bool.eq_false_iff];intro ha;simp only [nameL,Bool.and_eq_true] at ha;rcases List.mem_cons.1 hm with e | e
  ·rw [e] at hb;rw [letB_word ha.1] at hb;cases hb
  ·have:=List.all_eq_true.1 ha.2 _ e;rw [hb] at this;cases this
theorem word_high {c:UInt8} (h:128≤c.toNat):wordC c=false:=by
 have h':(128:Int)≤(c.toNat:Int):=(by omega);simp [wordC,letB_high _ h',digB_high _ h']
theorem word_low {c:UInt8} (h1:letB (c.toNat:Int)=false) (h2:digB (c.toNat:Int)=false):wordC c=false:=by simp [wordC,h1,h2]
theorem word_dig {c:UInt8} (h2:digB (c.toNat:Int)=true):wordC c=true:=by simp [wordC,h2]
theorem next_low (w:World) (o:Obj) (s:ByteArray) (k:Nat) (h:k<s.size) (ha:(s[k]'h).toNat<128) (ty:TypeId):
  (Instr.next (.pointer (some ⟨w.heap.size+1,0,none⟩)) true ty).run Tryz.prog ((w.alloc o).iter s k)=.ok (.tuple #[.bool true,.int .i64 k,.int .i32 (s[k]'h).toNat]) ((w.alloc o).iter s (k+1)):=by
 have:=run_next_ascii (P:=Tryz.prog) (w.alloc o) s k ty h ha;simpa using this
theorem next_high (w:World) (o:Obj) (s:ByteArray) (k:Nat) (h:k<s.size) (ha:128≤(s[k]'h).toNat):∃r:Int,128≤r∧∃k',∀ty:TypeId,
  (Instr.next (.pointer (some ⟨w.heap.size+1,0,none⟩)) true ty).run Tryz.prog ((w.alloc o).iter s k)=.ok (.tuple #[.bool true,.int .i64 k,.int .i32 r]) ((w.alloc o).iter s k'):=by
 have hd:=decode_high s k h ha;refine ⟨(Utf8.decode s k).1,by omega,k+(Utf8.decode s k).2,fun ty=>?_⟩;have:=run_next_any (P:=Tryz.prog) (w.alloc o) s k ty h;simpa using this
theorem next_end (w:World) (o:Obj) (s:ByteArray) (k:Nat) (h:¬k<s.size) (ty:TypeId):
  (Instr.next (.pointer (some ⟨w.heap.size+1,0,none⟩)) true ty).run Tryz.prog ((w.alloc o).iter s k)=.ok (.tuple #[.bool false]) ((w.alloc o).iter s k):=by
 have:=run_next_end (P:=Tryz.prog) (w.alloc o) s k ty h;simpa using this
theorem below_iter (w:World) (o:Obj) (s:ByteArray) (k:Nat):Below w.heap.size w ((w.alloc o).iter s k):=((Below.refl _ _).alloc (Nat.le_refl _) _).alloc (by simp) _
set_option maxHeartbeats 1000000 in
theorem scanName_any (s:ByteArray) (w:World) (hs:s.size≤maxLen):
  Calls Tryz.prog 49 #[.string s] w fun e w'=>e=.returned (.bool (nameB s))∧Below w.heap.size w w':=by
 unfold maxLen at hs;by_cases h0:0<s.size
 ·have he:=not_empty_of h0;by_cases h12:s.size≤12
  ·cases hk:keptB s with
   | true=>
    have HK:=hid hk;clear hk;have fin:nameB s=false:=(by simp [nameB,HK.out]);have FIN:=hid fin;clear fin;go_enter Tryz.func49,Tryz.ntmps49;go_wp2_with (go_at_call 98;refine (scanKept_any s _).mono ?_;rintro e w' ⟨rfl,rfl⟩;rw [HK.out]);go_ret;exact ⟨rBo FIN.out.symm,(Below.refl _ _).alloc (Nat.le_refl _) _⟩
   | false=>
    have HK:=hid hk;have hd:decide ((12:Int)<(s.size:Int))=false:=decide_eq_false (by omega);go_enter Tryz.func49,Tryz.ntmps49;go_wp2_with (go_at_call 98;refine (scanKept_any s _).mono ?_;rintro e w' ⟨rfl,rfl⟩;rw [HK.out]);obtain ⟨O,hO⟩:∃O,O=litMap (setKV keptSS):=⟨_,rfl⟩;rw [← hO];clear hO;go_loopw [3] (fun _ wr=>∃k:Nat,k≤s.size∧wr=(w.alloc O).iter s k∧okTo s k=true∧(k=0∨letB (s[0].toNat:Int)=true)) (fun _ wr=>s.size - wr.iterPos (w.heap.size+1))
    case atStart=>exact ⟨0,Nat.zero_le _,rfl,okTo_zero s,.inl rfl⟩
    case round=>
     obtain ⟨k,hk2,rfl,hok,hfirst⟩:=hrel;have HOK:=hid hok;have HF:=hid hfirst;clear hok hfirst;have ipos:∀k:Nat,((w.alloc O).iter s k).iterPos (w.heap.size+1)=k:=fun k=>(by simpa using World.iterPos_iter (w.alloc O) s k);have IPOS:=hid ipos;clear ipos;by_cases hlt:k<s.size
     ·have hstep:=hid (okTo_succ hlt);by_cases hlow:(s[k]'hlt).toNat<128
      ·have hnx:=next_low w O s k hlt hlow
       cases h2:letB (s[k].toNat:Int) with
       | true=>
        have H2:=hid h2;clear h2;go_wp2_with (go_at_call 99;refine (letter_any _ _).mono ?_;rintro e w' ⟨rfl,rfl⟩;rw [H2.out]);go_roundw
        case rel=>exact ⟨k+1,by omega,rfl,by rw [hstep.out,HOK.out,letB_word H2.out];rfl,.inr (by
         rcases Nat.eq_zero_or_pos k with e | e
         ·subst e;exact H2.out
         ·rcases HF.out with e' | e'
          ·omega
          ·exact e')⟩
        case measure=>rw [IPOS.out,IPOS.out];omega
       | false=>
        have H2:=hid h2;clear h2;rcases Nat.eq_zero_or_pos k with e0 | e0
        ·subst e0;have FIN:=hid (name_first h0 H2.out);go_wp2_with (go_at_call 99;refine (letter_any _ _).mono ?_;rintro e w' ⟨rfl,rfl⟩;rw [H2.out]);go_ret;exact ⟨rBo FIN.out.symm,below_iter _ _ _ _⟩
        ·have hk0:((k:Int)==0)=false:=(by simp;omega)
         cases h3:digB (s[k].toNat:Int) with
         | true=>
          have H3:=hid h3;clear h3;go_wp2_with (first | (go_at_call 99;refine (letter_any _ _).mono ?_;rintro e w' ⟨rfl,rfl⟩;rw [H2.out]) | (go_at_call 100;refine (digit_any _ _).mono ?_;rintro e w' ⟨rfl,rfl⟩;rw [H3.out]));go_roundw
          case rel=>exact ⟨k+1,by omega,rfl,by rw [hstep.out,HOK.out,word_dig H3.out];rfl,.inr (by
           rcases HF.out with e' | e'
           ·omega
           ·exact e')⟩
          case measure=>rw [IPOS.out,IPOS.out];omega
         | false=>
          have FIN:=hid (name_bad hlt (word_low H2.out h3));have H3:=hid h3;clear h3;go_wp2_with (first | (go_at_call 99;refine (letter_any _ _).mono ?_;rintro e w' ⟨rfl,rfl⟩;rw [H2.out]) | (go_at_call 100;refine (digit_any _ _).mono ?_;rintro e w' ⟨rfl,rfl⟩;rw [H3.out]));go_ret;exact ⟨rBo FIN.out.symm,below_iter _ _ _ _⟩
      ·have hhigh:128≤(s[k]'hlt).toNat:=(by omega);obtain ⟨r,hr,k',hnx⟩:=next_high w O s k hlt hhigh;have H2:=hid (letB_high r hr);have H3:=hid (digB_high r hr);have FIN:=hid (name_bad hlt (word_high hhigh));rcases Nat.eq_zero_or_pos k with e0 | e0
       ·subst e0;go_wp2_with (go_at_call 99;refine (letter_any _ _).mono ?_;rintro e w' ⟨rfl,rfl⟩;rw [H2.out]);go_ret;exact ⟨rBo FIN.out.symm,below_iter _ _ _ _⟩
       ·have hk0:((k:Int)==0)=false:=(by simp;omega);go_wp2_with (first | (go_at_call 99;refine (letter_any _ _).mono ?_;rintro e w' ⟨rfl,rfl⟩;rw [H2.out]) | (go_at_call 100;refine (digit_any _ _).mono ?_;rintro e w' ⟨rfl,rfl⟩;rw [H3.out]));go_ret;exact ⟨rBo FIN.out.symm,below_iter _ _ _ _⟩
     ·have hnx:=next_end w O s k hlt;have hks:k=s.size:=(by omega)
      have h1:letB (s[0].toNat:Int)=true:=by
       rcases HF.out with e' | e'
       ·omega
       ·exact e'
      have fin:nameB s=true:=(by rw [name_okTo h0 h12 HK.out h1,← hks];exact HOK.out);have FIN:=hid fin;clear fin h1 hks;go_wp2;go_ret;exact ⟨rBo FIN.out.symm,below_iter _ _ _ _⟩
  ·have hgt:12<s.size:=(by omega);have fin:nameB s=false:=(by simp [nameB];intro h;omega);have FIN:=hid fin;clear fin;go_enter Tryz.func49,Tryz.ntmps49;go_wp2;go_ret;exact ⟨rBo FIN.out.symm,Below.refl _ _⟩
 ·have he:=is_empty_of h0;have FIN:=hid (empty_name he);go_enter Tryz.func49,Tryz.ntmps49;go_wp2;go_ret;exact ⟨rBo FIN.out.symm,Below.refl _ _⟩
end
section
open Go.RowKit
/-- A node of a tree. -/
structure Nd where
 kind:Int
 name:ByteArray
 num:Int
 pos:Int
 subs:List Nd
/-- The five cells of a node at an offset of a block; its children's slice lies at A. -/
structure NdAt (w:World) (b o:Nat) (n:Nd) (A:Option Addr) (c:Nat):Prop where
 c0:w.cell? ⟨b,o,none⟩=some (.int .i64 n.kind)
 c1:w.cell? ⟨b,o+1,none⟩=some (.string n.name)
 c2:w.cell? ⟨b,o+2,none⟩=some (.int .i64 n.num)
 c3:w.cell? ⟨b,o+3,none⟩=some (.int .i64 n.pos)
 c4:w.cell? ⟨b,o+4,none⟩=some (.slice A n.subs.length c)
/-- The children lie at A, and theirs below them, d levels at most. -/
def Kids (w:World):Nat→Nd→Option Addr→Nat→Prop
 | 0,_,_,_=>False
 | d+1,n,A,c=>n.name.size≤maxLen∧n.subs.length≤c∧c≤maxLen∧∀i x,n.subs[i]?=some x→∃b o Ax cx,A=some ⟨b,o,none⟩∧NdAt w b (o+i*5) x Ax cx∧Kids w d x Ax cx
theorem NdAt.all {w:World} {b o:Nat} {n:Nd} {A:Option Addr} {c:Nat} (h:NdAt w b o n A c):w.cell? ⟨b,o,none⟩=some (.int .i64 n.kind)∧w.cell? ⟨b,o+1,none⟩=some (.string n.name)∧w.cell? ⟨b,o+2,none⟩=some (.int .i64 n.num)∧w.cell? ⟨b,o+3,none⟩=some (.int .i64 n.pos)∧w.cell? ⟨b,o+4,none⟩=some (.slice A n.subs.length c):=⟨h.c0,h.c1,h.c2,h.c3,h.c4⟩
theorem NdAt.below {w w':World} {b o:Nat} {n:Nd} {A:Option Addr} {c:Nat} (h:NdAt w b o n A c) (hb:Below w.heap.size w w'):NdAt w' b o n A c:=
 ⟨keep_cell hb h.c0,keep_cell hb h.c1,keep_cell hb h.c2,keep_cell hb h.c3,keep_cell hb h.c4⟩
theorem nb {w w':World} {b o:Nat} {n:Nd} {A:Option Addr} {c:Nat} (h:RowKit.Hid (NdAt w b o n A c)) (hb:RowKit.Hid (Below w.heap.size w w')):NdAt w' b o n A c:=h.out.below hb.out
theorem NdAt.lt {w:World} {b o:Nat} {n:Nd} {A:Option Addr} {c:Nat} (h:NdAt w b o n A c):b<w.heap.size:=lt_of_cell h.c0
theorem Kids.below {w w':World} (hb:Below w.heap.size w w'):∀{d:Nat} {n:Nd} {A:Option Addr} {c:Nat},Kids w d n A c→Kids w' d n A c
 | 0,_,_,_,h=>h.elim
 | d+1,n,A,c,h=>by
  obtain ⟨h0,h1,h2,h3⟩:=h;refine ⟨h0,h1,h2,fun i x hx=>?_⟩;obtain ⟨b,o,Ax,cx,hA,hat,hk⟩:=h3 i x hx;exact ⟨b,o,Ax,cx,hA,hat.below hb,Kids.below hb hk⟩
theorem kb {w w':World} {d:Nat} {n:Nd} {A:Option Addr} {c:Nat} (h:RowKit.Hid (Kids w d n A c)) (hb:RowKit.Hid (Below w.heap.size w w')):Kids w' d n A c:=h.out.below hb.out
theorem Kids.len {w:World} {d:Nat} {n:Nd} {A:Option Addr} {c:Nat} (h:Kids w d n A c):n.subs.length≤maxLen:=by
 cases d with
 | zero=>exact h.elim
 | succ d=>obtain ⟨_,h1,h2,_⟩:=h;omega
theorem Kids.name_le {w:World} {d:Nat} {n:Nd} {A:Option Addr} {c:Nat} (h:Kids w d n A c):n.name.size≤maxLen:=by
 cases d with
 | zero=>exact h.elim
 | succ d=>exact h.1
theorem Kids.at {w:World} {d:Nat} {n:Nd} {A:Option Addr} {c:Nat} (h:Kids w (d+1) n A c) {i:Nat} (hi:i<n.subs.length):∃b o Ax cx,A=some ⟨b,o,none⟩∧NdAt w b (o+i*5) n.subs[i] Ax cx∧Kids w d n.subs[i] Ax cx:=
 h.2.2.2 i _ (List.getElem?_eq_getElem hi)
theorem Kids.kid {w:World} {d:Nat} {n:Nd} {A:Option Addr} {c:Nat} (h:Kids w (d+1) n A c) {i:Nat} {x:Nd} (hx:n.subs[i]?=some x):∃b o Ax cx,A=some ⟨b,o,none⟩∧NdAt w b (o+i*5) x Ax cx∧Kids w d x Ax cx:=
 h.2.2.2 i x hx
/-- The first children, by name: one, two, four, six of them. -/
theorem Kids.one {w:World} {d:Nat} {n:Nd} {A:Option Addr} {c:Nat} (h:Kids w (d+1) n A c) {x:Nd} {r:List Nd} (hs:n.subs=x::r):∃b o Ax cx,A=some ⟨b,o,none⟩∧NdAt w b o x Ax cx∧Kids w d x Ax cx:=by
 obtain ⟨b,o,Ax,cx,hA,h1,h2⟩:=h.kid (i:=0) (x:=x) (by rw [hs];rfl);exact ⟨b,o,Ax,cx,hA,by simpa using h1,h2⟩
theorem Kids.nth {w:World} {d:Nat} {n:Nd} {A:Option Addr} {c b o:Nat} (h:Kids w (d+1) n A c) (hA:A=some ⟨b,o,none⟩) {i:Nat} {x:Nd} (hx:n.subs[i]?=some x) {p:Nat} (hp:p=o+i*5):∃Ax cx,NdAt w b p x Ax cx∧Kids w d x Ax cx:=by
 obtain ⟨b',o',Ax,cx,hA',h1,h2⟩:=h.kid hx;rw [hA] at hA';injection hA' with hA';injection hA' with h3 h4;subst h3;subst h4;subst hp;exact ⟨Ax,cx,h1,h2⟩
theorem bAt (w:World) (n:Nd) (A:Option Addr) (c:Nat) (T:TypeId):NdAt (w.alloc (.cells #[.int .i64 n.kind,.string n.name,.int .i64 n.num,.int .i64 n.pos,.slice A n.subs.length c] T)) w.heap.size 0 n A c:=
 ⟨by simp,by simp,by simp,by simp,by simp⟩
theorem bBw (w:World) (o:Obj):Below w.heap.size w (w.alloc o):=(Below.refl _ _).alloc (Nat.le_refl _) _
theorem box_step {w w':World} {o:Obj} (h:Below (w.alloc o).heap.size (w.alloc o) w'):Below w.heap.size w w':=(bBw w o).trans (h.mono (by simp))
theorem bTh {w a b:World} (h:Below w.heap.size w a) (k:Below a.heap.size a b):Below w.heap.size w b:=h.trans (k.mono h.size)
/-- A list of trees lies at A, d levels each at most. -/
def KidsL (w:World) (d:Nat) (l:List Nd) (A:Option Addr) (c:Nat):Prop:=
 l.length≤c∧c≤maxLen∧∀i x,l[i]?=some x→∃b o Ax cx,A=some ⟨b,o,none⟩∧NdAt w b (o+i*5) x Ax cx∧Kids w d x Ax cx
theorem Kids.list {w:World} {d:Nat} {n:Nd} {A:Option Addr} {c:Nat} (h:Kids w (d+1) n A c):KidsL w d n.subs A c:=⟨h.2.1,h.2.2.1,h.2.2.2⟩
theorem KidsL.below {w w':World} (hb:Below w.heap.size w w') {d:Nat} {l:List Nd} {A:Option Addr} {c:Nat} (h:KidsL w d l A c):KidsL w' d l A c:=by
 refine ⟨h.1,h.2.1,fun i x hx=>?_⟩;obtain ⟨b,o,Ax,cx,hA,hat,hk⟩:=h.2.2 i x hx;exact ⟨b,o,Ax,cx,hA,hat.below hb,hk.below hb⟩
theorem KidsL.at {w:World} {d:Nat} {l:List Nd} {A:Option Addr} {c:Nat} (h:KidsL w d l A c) {i:Nat} (hi:i<l.length):∃b o Ax cx,A=some ⟨b,o,none⟩∧NdAt w b (o+i*5) l[i] Ax cx∧Kids w d l[i] Ax cx:=
 h.2.2 i _ (List.getElem?_eq_getElem hi)
theorem KidsL.len {w:World} {d:Nat} {l:List Nd} {A:Option Addr} {c:Nat} (h:KidsL w d l A c):l.length≤maxLen:=Nat.le_trans h.1 h.2.1
/-- l[1:]. -/
theorem KidsL.tail {w:World} {d:Nat} {x:Nd} {r:List Nd} {b o c:Nat} (h:KidsL w d (x::r) (some ⟨b,o,none⟩) c) {A':Option Addr} (hA:1<c→A'=some ⟨b,o+5,none⟩):KidsL w d r A' (c - 1):=by
 have h1:=h.1;have h2:=h.2.1;simp only [List.length_cons] at h1;refine ⟨by omega,by omega,fun i y hy=>?_⟩;have hi:i<r.length:=(List.getElem?_eq_some_iff.1 hy).1;obtain ⟨b',o',Ax,cx,hA',hat,hk⟩:=h.2.2 (i+1) y (by simpa using hy);injection hA' with hA';injection hA' with h3 h4;subst h3;subst h4;refine ⟨b,o+5,Ax,cx,hA (by omega),?_,hk⟩;rw [show o+5+i*5=o+(i+1)*5 by omega];exact hat
theorem all_bad {p:Nd→Bool} {l:List Nd} {j:Nat} (h:j<l.length) (hp:p l[j]=false):l.all p=false:=by
 rw [Bool.eq_false_iff];intro ha;rw [List.all_eq_true.1 ha _ (List.getElem_mem h)] at hp;cases hp
theorem all_step {p:Nd→Bool} {l:List Nd} {j:Nat} (h:j<l.length) (h0:(l.take j).all p=true) (hp:p l[j]=true):(l.take (j+1)).all p=true:=by
 rw [List.take_succ_eq_append_getElem h,List.all_append,h0];simp [hp]
theorem all_end {p:Nd→Bool} {l:List Nd} {j:Nat} (h:¬j<l.length) (h0:(l.take j).all p=true):l.all p=true:=by
 rwa [List.take_of_length_le (by omega)] at h0
end
section
def dNd:Nd:=⟨0,⟨#[]⟩,0,0,[]⟩
def Nd.sub (n:Nd) (i:Nat):Nd:=n.subs.getD i dNd
def emptyB (s:ByteArray):Bool:=decide (s.size=0)
/-- 'head'. -/
def headB (n:Nd) (kind:Int) (named:Bool) (most many:Int):Bool:=
 decide (n.kind=kind) && decide (0≤n.num) && decide (n.num≤most) && (decide (many<0) || decide ((n.subs.length:Int)=many)) && (if named then nameB n.name else emptyB n.name)
/-- 'nameShaped'. -/
def nameS (n:Nd):Bool:=headB n 13 true 0 (-1) && decide (n.subs.length≤1) && (decide (n.subs.length=0) || headB (n.sub 0) 24 true 0 0)
/-- 'declShaped' of a variable, a parameter, a field. -/
def varS (n:Nd) (kind:Int):Bool:=headB n kind true 1 1 && nameS (n.sub 0)
/-- 'typeShaped'. -/
def typeS (n:Nd):Bool:=
 if n.kind=9 then headB n 9 false 2147483647 1 && nameS (n.sub 0)
 else if n.kind=12 then headB n 12 false 0 1 && nameS (n.sub 0)
 else headB n 10 false 0 (-1) && !decide (n.subs.length=0) && (headB (n.sub 0) 0 false 0 0 || nameS (n.sub 0)) && (n.subs.drop 1).all fun x=>decide (x.kind=11) && varS x 11
/-- The words of the operators: relations, sums, products. -/
def relL:List (List UInt8):=[[61],[35],[60],[60,61],[62],[62,61]]
def sumL:List (List UInt8):=[[43],[45],[79,82]]
def mulL:List (List UInt8):=[[42],[68,73,86],[77,79,68],[38]]
def inB (s:ByteArray) (l:List (List UInt8)):Bool:=(wordsOf l).any (· == s)
/-- 'levelOf'. -/
def levelN (s:ByteArray):Int:=if inB s relL then 0 else if inB s sumL then 1 else if inB s mulL then 2 else -1
def desigStep (E D:Nd→Bool) (n:Nd):Bool:=
 if n.kind=24 then headB n 24 true 0 0
 else if n.kind=25 then headB n 25 true 0 1 && D (n.sub 0)
 else if n.kind=27 then headB n 27 false 0 1 && D (n.sub 0)
 else if n.kind=26 then headB n 26 false 0 2 && D (n.sub 0) && E (n.sub 1)
 else if n.kind=28 then headB n 28 false 0 2 && D (n.sub 0) && nameS (n.sub 1)
 else false
def exprStep (E D:Nd→Bool) (n:Nd):Bool:=
 if n.kind=29 then headB n 29 false 2147483647 0
 else if n.kind=30∨n.kind=31∨n.kind=32 then headB n n.kind false 0 0
 else if n.kind=34∨n.kind=35 then headB n n.kind false 0 1 && E (n.sub 0)
 else if n.kind=33 then headB n 33 false 0 (-1) && decide (0<n.subs.length) && D (n.sub 0) && (n.subs.drop 1).all E
 else if n.kind=37 then headB n 37 false 0 2 && E (n.sub 0) && nameS (n.sub 1)
 else if n.kind=36 then decide (0≤levelN n.name) && decide (n.num=0) && decide (n.subs.length=2) && n.subs.all E
 else desigStep E D n
/-- 'desigShaped' (false), 'exprShaped' (true). -/
def edS:Nat→Bool→Nd→Bool
 | 0,_,_=>false
 | d+1,true,n=>exprStep (edS d true) (edS d false) n
 | d+1,false,n=>desigStep (edS d true) (edS d false) n
def exprS (d:Nat) (n:Nd):Bool:=edS d true n
def desigS (d:Nat) (n:Nd):Bool:=edS d false n
theorem exprS_succ (d:Nat) (n:Nd):exprS (d+1) n=exprStep (exprS d) (desigS d) n:=rfl
theorem desigS_succ (d:Nat) (n:Nd):desigS (d+1) n=desigStep (exprS d) (desigS d) n:=rfl
/-- Lists and conditions of an IF, in turn. -/
def ifAll (E L:Nd→Bool) (num:Int) (k:Nat):List Nd→Nat→Bool
 | [],_=>true
 | x::r,i=>(if i % 2=1∨(i+1=k∧num=1) then L x else E x) && ifAll E L num k r (i+1)
def stmtStep (E D L:Nd→Bool) (n:Nd):Bool:=
 if n.kind=14 then headB n 14 false 0 2 && D (n.sub 0) && E (n.sub 1)
 else if n.kind=15 then headB n 15 false 0 (-1) && decide (0<n.subs.length) && D (n.sub 0) && (n.subs.drop 1).all E
 else if n.kind=17 then headB n 17 false 0 2 && E (n.sub 0) && L (n.sub 1)
 else if n.kind=18 then headB n 18 false 0 2 && L (n.sub 0) && E (n.sub 1)
 else if n.kind=19 then headB n 19 false 0 (-1) && decide (n.subs.length<2) && n.subs.all E
 else if n.kind=20∨n.kind=22 then headB n n.kind false 0 1 && D (n.sub 0)
 else if n.kind=21∨n.kind=23 then headB n n.kind false 0 1 && E (n.sub 0)
 else if n.kind=16 then headB n 16 false 1 (-1) && decide (2≤n.subs.length) && decide (((n.subs.length % 2:Nat):Int)=n.num) && ifAll E L n.num n.subs.length n.subs 0
 else false
def listStep (S:Nd→Bool) (n:Nd):Bool:=headB n 1 false 0 (-1) && n.subs.all S
/-- 'stmtShaped' (false), 'stmtsShaped' (true). -/
def stS:Nat→Bool→Nd→Bool
 | 0,_,_=>false
 | d+1,false,n=>stmtStep (exprS d) (desigS d) (stS d true) n
 | d+1,true,n=>listStep (stS d false) n
def stmtS (d:Nat) (n:Nd):Bool:=stS d false n
def stmtsS (d:Nat) (n:Nd):Bool:=stS d true n
theorem stmtS_succ (d:Nat) (n:Nd):stmtS (d+1) n=stmtStep (exprS d) (desigS d) (stmtsS d) n:=rfl
theorem stmtsS_succ (d:Nat) (n:Nd):stmtsS (d+1) n=listStep (stmtS d) n:=rfl
/-- 'declShaped', by the kind that is asked for; d: the depth below. -/
def procS (d:Nat) (n:Nd):Bool:=
 headB n 7 true 1 4 && headB (n.sub 0) 1 false 0 (-1) && headB (n.sub 2) 1 false 0 (-1) &&
 ((n.sub 0).subs.all fun x=>decide (x.kind=8) && varS x 8) && ((n.sub 2).subs.all fun x=>decide (x.kind=6) && decide (x.num=0) && varS x 6) &&
 (headB (n.sub 1) 0 false 0 0 || nameS (n.sub 1)) && stmtsS d (n.sub 3)
def declStep (d:Nat) (n:Nd):Bool:=
 if n.kind=3 then headB n 3 true 0 0
 else if n.kind=4 then headB n 4 true 1 1 && exprS d (n.sub 0)
 else if n.kind=5 then headB n 5 true 1 1 && typeS (n.sub 0)
 else if n.kind=6∨n.kind=8∨n.kind=11 then varS n n.kind
 else procS d n
def declS:Nat→Nd→Bool
 | 0,_=>false
 | d+1,n=>declStep d n
def partS (d:Nat) (kind:Int) (l:Nd):Bool:=headB l 1 false 0 (-1) && l.subs.all fun x=>decide (x.kind=kind) && declS d x
/-- 'Shaped': d + 2: the depth of the whole. -/
def shapedS:Nat→Nd→Bool
 | d+2,n=>headB n 2 true 0 6 && partS d 3 (n.sub 0) && partS d 4 (n.sub 1) && partS d 5 (n.sub 2) && partS d 6 (n.sub 3) && partS d 7 (n.sub 4) && stmtsS (d+1) (n.sub 5)
 | _,_=>false
end
section
/-- A list of texts with another between them. -/
def joinB (sep:ByteArray):List ByteArray→ByteArray
 | []=>⟨#[]⟩
 | [x]=>x
 | x::y::r=>x++sep++joinB sep (y::r)
theorem ba_ext {a b:ByteArray} (h:a.data.toList=b.data.toList):a=b:=by
 cases a;cases b;exact congrArg ByteArray.mk (Array.ext' h)
theorem ba_size (a:Array UInt8):(⟨a⟩:ByteArray).size=a.size:=rfl
theorem ba_app (a b:ByteArray):(a++b).data.toList=a.data.toList++b.data.toList:=by simp
theorem ba_assoc (a b c:ByteArray):a++b++c=a++(b++c):=ba_ext (by simp)
theorem ba_nil (a:ByteArray):a++(⟨#[]⟩:ByteArray)=a:=ba_ext (by simp)
theorem nil_ba (a:ByteArray):(⟨#[]⟩:ByteArray)++a=a:=ba_ext (by simp)
theorem joinB_snoc (sep:ByteArray):∀(l:List ByteArray) (x:ByteArray),l≠[]→joinB sep (l++[x])=joinB sep l++sep++x
 | [],_,h=>absurd rfl h
 | [a],x,_=>rfl
 | a::b::r,x,_=>by
  have ih:=joinB_snoc sep (b::r) x (by simp);simp only [List.cons_append,joinB] at ih⊢;rw [ih];simp only [ba_assoc]
theorem joinB_join (sep:ByteArray):∀l:List ByteArray,(⟨(Lib.join (l.map (·.data.toList)) sep.data.toList).toArray⟩:ByteArray)=joinB sep l
 | []=>rfl
 | [x]=>ba_ext (by simp [Lib.join,joinB,List.intercalate,List.intersperse])
 | x::y::r=>by
  have ih:=joinB_join sep (y::r);apply ba_ext;simp only [joinB,ba_app];rw [← ih];simp [Lib.join,List.intercalate,List.intersperse]
/-- 'Dec', strconv.Itoa. -/
def decT (n:Int):ByteArray:=⟨(Lib.itoa n).toArray⟩
/-- 'nameText'. -/
def nameT (n:Nd):ByteArray:=if n.subs.length=1 then (n.sub 0).name++⟨#[46]⟩++n.name else n.name
/-- 'starred'. -/
def starT (n:Nd):ByteArray:=if n.num=1 then n.name++⟨#[42]⟩ else n.name
/-- 'rank'. -/
def rankN (n:Nd):Int:=if n.kind=36 then levelN n.name else if n.kind=37 then 0 else if n.kind=35 then 1 else 3
/-- 'atLeast'. -/
def atL (E:Nd→ByteArray) (n:Nd) (r:Int):ByteArray:=if rankN n<r then ⟨#[40]⟩++E n++⟨#[41]⟩ else E n
/-- 'argsText'. -/
def argsT (E:Nd→ByteArray) (l:List Nd):ByteArray:=⟨#[40]⟩++joinB ⟨#[44,32]⟩ (l.map E)++⟨#[41]⟩
def exprTStep (E:Nd→ByteArray) (n:Nd):ByteArray:=
 if n.kind=24 then n.name
 else if n.kind=25 then E (n.sub 0)++⟨#[46]⟩++n.name
 else if n.kind=26 then E (n.sub 0)++⟨#[91]⟩++E (n.sub 1)++⟨#[93]⟩
 else if n.kind=27 then E (n.sub 0)++⟨#[94]⟩
 else if n.kind=28 then E (n.sub 0)++⟨#[123]⟩++nameT (n.sub 1)++⟨#[125]⟩
 else if n.kind=29 then decT n.num
 else if n.kind=30 then ⟨#[84,82,85,69]⟩
 else if n.kind=31 then ⟨#[70,65,76,83,69]⟩
 else if n.kind=32 then ⟨#[78,73,76]⟩
 else if n.kind=33 then E (n.sub 0)++argsT E (n.subs.drop 1)
 else if n.kind=34 then ⟨#[126]⟩++atL E (n.sub 0) 3
 else if n.kind=35 then ⟨#[45]⟩++atL E (n.sub 0) 2
 else if n.kind=37 then atL E (n.sub 0) 1++⟨#[32,73,83,32]⟩++nameT (n.sub 1)
 else atL E (n.sub 0) (if levelN n.name=2 then 2 else 1)++⟨#[32]⟩++n.name++⟨#[32]⟩++atL E (n.sub 1) (if levelN n.name=2 then 3 else if levelN n.name=1 then 2 else 1)
/-- 'exprText'. -/
def exprT:Nat→Nd→ByteArray
 | 0,_=>⟨#[]⟩
 | d+1,n=>exprTStep (exprT d) n
theorem exprT_succ (d:Nat) (n:Nd):exprT (d+1) n=exprTStep (exprT d) n:=rfl
/-- 'typeText'. -/
def fieldT (x:Nd):ByteArray:=starT x++⟨#[58,32]⟩++nameT (x.sub 0)++⟨#[59,32]⟩
def catB:List ByteArray→ByteArray
 | []=>⟨#[]⟩
 | x::r=>x++catB r
def typeT (n:Nd):ByteArray:=
 if n.kind=9 then ⟨#[65,82,82,65,89,32]⟩++decT n.num++⟨#[32,79,70,32]⟩++nameT (n.sub 0)
 else if n.kind=12 then ⟨#[80,79,73,78,84,69,82,32,84,79,32]⟩++nameT (n.sub 0)
 else (⟨#[82,69,67,79,82,68,32]⟩++(if (n.sub 0).kind=0 then ⟨#[]⟩ else ⟨#[40]⟩++nameT (n.sub 0)++⟨#[41,32]⟩))++catB ((n.subs.drop 1).map fieldT)++⟨#[69,78,68]⟩
end
section
open Go.RowKit
theorem emptyB_true {s:ByteArray} (h:s.toList.isEmpty=true):emptyB s=true:=by
 simp only [emptyB,decide_eq_true_eq];rcases Nat.eq_zero_or_pos s.size with h0 | h0
 ·exact h0
 ·rw [not_empty_of h0] at h;cases h
theorem emptyB_false {s:ByteArray} (h:s.toList.isEmpty=false):emptyB s=false:=by
 simp only [emptyB,decide_eq_false_iff_not];have:=nonempty h;omega
theorem empty_eq (s:ByteArray):s.toList.isEmpty=emptyB s:=by
 cases h:s.toList.isEmpty with
 | true=>rw [emptyB_true h]
 | false=>rw [emptyB_false h]
set_option maxHeartbeats 1000000 in
theorem head_any (n:Nd) (A:Option Addr) (c:Nat) (kind:Int) (named:Bool) (most many:Int) (w:World) (hl:KeptLaid w) (hlen:n.subs.length≤maxLen):
  Calls Tryz.prog 18 #[.agg #[.int .i64 n.kind,.string n.name,.int .i64 n.num,.int .i64 n.pos,.slice A n.subs.length c],.int .i64 kind,.bool named,.int .i64 most,.int .i64 many] w fun e w'=>e=.returned (.bool (headB n kind named most many))∧Below w.heap.size w w':=by
 obtain ⟨k,s,num,pos,subs⟩:=n;unfold maxLen at hlen;simp only at hlen;have HL:=hid (hl.below (bBw w (.cells #[.int .i64 k,.string s,.int .i64 num,.int .i64 pos,.slice A subs.length c] 24)));clear hl;by_cases h1:k=kind
 ·subst h1;by_cases h2:num<0
  ·go_enter Tryz.func18,Tryz.ntmps18;go_wp2;go_ret;exact ⟨rBo (by simp [headB];omega),bBw _ _⟩
  ·by_cases h3:most<num
   ·go_enter Tryz.func18,Tryz.ntmps18;go_wp2;go_ret;exact ⟨rBo (by simp [headB];omega),bBw _ _⟩
   ·by_cases h4:0≤many∧(subs.length:Int)≠many
    ·obtain ⟨h4a,h4b⟩:=h4;have h4c:((subs.length:Int) != many)=true:=(by simpa using h4b);go_enter Tryz.func18,Tryz.ntmps18;go_wp2;go_ret;exact ⟨rBo (by simp [headB];omega),bBw _ _⟩
    ·have h5:headB ⟨k,s,num,pos,subs⟩ k named most many=if named then nameB s else emptyB s:=by
      have:(decide (many<0) || decide ((subs.length:Int)=many))=true:=(by simp;omega);simp only [headB];rw [this];simp [show 0≤num by omega,show num≤most by omega]
     have H5:=hid h5;clear h5;have hm:many<0∨(0≤many∧(subs.length:Int)=many):=(by omega);clear h4;have HM:=hid hm;clear hm
     cases named with
     | true=>
      rcases HM.out with hm | ⟨hm1,hm2⟩
      ·go_enter Tryz.func18,Tryz.ntmps18;go_wp2_with (go_at_call 39;refine (refName_any s _ HL.out).mono ?_;rintro e w' ⟨rfl,rfl⟩);go_ret;exact ⟨rBo H5.out.symm,bBw _ _⟩
      ·have hm3:((subs.length:Int) != many)=false:=(by simpa using hm2);have HM2:=hid hm2;clear hm2;go_enter Tryz.func18,Tryz.ntmps18;go_wp2_with (go_at_call 39;refine (refName_any s _ HL.out).mono ?_;rintro e w' ⟨rfl,rfl⟩);go_ret;exact ⟨rBo H5.out.symm,bBw _ _⟩
     | false=>
      rcases HM.out with hm | ⟨hm1,hm2⟩
      ·go_enter Tryz.func18,Tryz.ntmps18;go_wp2;go_ret;exact ⟨rBo (by rw [H5.out];simp [empty_eq]),bBw _ _⟩
      ·have hm3:((subs.length:Int) != many)=false:=(by simpa using hm2);have HM2:=hid hm2;clear hm2;go_enter Tryz.func18,Tryz.ntmps18;go_wp2;go_ret;exact ⟨rBo (by rw [H5.out];simp [empty_eq]),bBw _ _⟩
 ·have h1b:(k != kind)=true:=(by simpa using h1);go_enter Tryz.func18,Tryz.ntmps18;go_wp2;go_ret;exact ⟨rBo (by simp [headB,h1]),bBw _ _⟩
end
section
open Go.RowKit
theorem lit_cells (w:World) (ss:List ByteArray) (arr:Array Value) (T:TypeId) (harr:arr=(ss.map Value.string).toArray) (i:Nat) (h:i<ss.length):(w.alloc (.cells arr T)).cell? ⟨w.heap.size,0+i,none⟩=some (.string ss[i]):=by
 subst harr;rw [World.cell?_alloc_new];simp [h]
theorem levelOf_any (s:ByteArray) (w:World):
  Calls Tryz.prog 30 #[.string s] w fun e w'=>e=.returned (.int .i64 (levelN s))∧Below w.heap.size w w':=by
 have hb0:=bBw w;have HBX:=hid hb0;clear hb0
 cases h0:inB s relL with
 | true=>
  have FIN:=hid (show levelN s=0 by simp [levelN,h0]);have H0:=hid h0;clear h0;go_enter Tryz.func30,Tryz.ntmps30;go_wp2_with fail;refine (in_any s w.heap.size 0 _ (wordsOf relL) _ (by decide) (lit_cells w (wordsOf relL) _ _ rfl)).mono ?_;rintro e w' ⟨rfl,rfl⟩;rw [show ((wordsOf relL).any fun x=>x==s)=true from H0.out];go_wp2;go_ret;exact ⟨ret_int FIN.out.symm,HBX.out _⟩
 | false=>
  cases h1:inB s sumL with
  | true=>
   have FIN:=hid (show levelN s=1 by simp [levelN,h0,h1]);have H0:=hid h0;have H1:=hid h1;clear h0 h1;go_enter Tryz.func30,Tryz.ntmps30;go_wp2_with fail;refine (in_any s w.heap.size 0 _ (wordsOf relL) _ (by decide) (lit_cells w (wordsOf relL) _ _ rfl)).mono ?_;rintro e w' ⟨rfl,rfl⟩;rw [show ((wordsOf relL).any fun x=>x==s)=false from H0.out];generalize hw1:w.alloc _=w1;have HB1:=hid (show Below w.heap.size w w1 by rw [← hw1];exact HBX.out _);clear hw1;go_wp2_with fail;refine (in_any s w1.heap.size 0 _ (wordsOf sumL) _ (by decide) (lit_cells w1 (wordsOf sumL) _ _ rfl)).mono ?_;rintro e w' ⟨rfl,rfl⟩;rw [show ((wordsOf sumL).any fun x=>x==s)=true from H1.out];go_wp2;go_ret;exact ⟨ret_int FIN.out.symm,bTh HB1.out (bBw _ _)⟩
  | false=>
   cases h2:inB s mulL with
   | true=>
    have FIN:=hid (show levelN s=2 by simp [levelN,h0,h1,h2]);have H0:=hid h0;have H1:=hid h1;have H2:=hid h2;clear h0 h1 h2;go_enter Tryz.func30,Tryz.ntmps30;go_wp2_with fail;refine (in_any s w.heap.size 0 _ (wordsOf relL) _ (by decide) (lit_cells w (wordsOf relL) _ _ rfl)).mono ?_;rintro e w' ⟨rfl,rfl⟩;rw [show ((wordsOf relL).any fun x=>x==s)=false from H0.out];generalize hw1:w.alloc _=w1;have HB1:=hid (show Below w.heap.size w w1 by rw [← hw1];exact HBX.out _);clear hw1;go_wp2_with fail;refine (in_any s w1.heap.size 0 _ (wordsOf sumL) _ (by decide) (lit_cells w1 (wordsOf sumL) _ _ rfl)).mono ?_;rintro e w' ⟨rfl,rfl⟩;rw [show ((wordsOf sumL).any fun x=>x==s)=false from H1.out];generalize hw2:w1.alloc _=w2;have HB2:=hid (show Below w.heap.size w w2 by rw [← hw2];exact bTh HB1.out (bBw _ _));clear hw2;go_wp2_with fail;refine (in_any s w2.heap.size 0 _ (wordsOf mulL) _ (by decide) (lit_cells w2 (wordsOf mulL) _ _ rfl)).mono ?_;rintro e w' ⟨rfl,rfl⟩;rw [show ((wordsOf mulL).any fun x=>x==s)=true from H2.out];go_wp2;go_ret;exact ⟨ret_int FIN.out.symm,bTh HB2.out (bBw _ _)⟩
   | false=>
    have FIN:=hid (show levelN s=-1 by simp [levelN,h0,h1,h2]);have H0:=hid h0;have H1:=hid h1;have H2:=hid h2;clear h0 h1 h2;go_enter Tryz.func30,Tryz.ntmps30;go_wp2_with fail;refine (in_any s w.heap.size 0 _ (wordsOf relL) _ (by decide) (lit_cells w (wordsOf relL) _ _ rfl)).mono ?_;rintro e w' ⟨rfl,rfl⟩;rw [show ((wordsOf relL).any fun x=>x==s)=false from H0.out];generalize hw1:w.alloc _=w1;have HB1:=hid (show Below w.heap.size w w1 by rw [← hw1];exact HBX.out _);clear hw1;go_wp2_with fail;refine (in_any s w1.heap.size 0 _ (wordsOf sumL) _ (by decide) (lit_cells w1 (wordsOf sumL) _ _ rfl)).mono ?_;rintro e w' ⟨rfl,rfl⟩;rw [show ((wordsOf sumL).any fun x=>x==s)=false from H1.out];generalize hw2:w1.alloc _=w2;have HB2:=hid (show Below w.heap.size w w2 by rw [← hw2];exact bTh HB1.out (bBw _ _));clear hw2;go_wp2_with fail;refine (in_any s w2.heap.size 0 _ (wordsOf mulL) _ (by decide) (lit_cells w2 (wordsOf mulL) _ _ rfl)).mono ?_;rintro e w' ⟨rfl,rfl⟩;rw [show ((wordsOf mulL).any fun x=>x==s)=false from H2.out];go_wp2;go_ret;exact ⟨ret_int FIN.out.symm,bTh HB2.out (bBw _ _)⟩
end
section
open Go.RowKit
/-- 'level'. -/
def levelP (s:ByteArray):Int:=if inB s sumL then 1 else if inB s mulL then 2 else 0
theorem levelP_eq {s:ByteArray} (h:0≤levelN s):levelP s=levelN s:=by
 unfold levelN at h⊢;unfold levelP
 cases h1:inB s relL with
 | false=>
  simp only [h1] at h⊢;cases h2:inB s sumL <;> cases h3:inB s mulL <;> simp_all
 | true=>
  have:inB s sumL=false∧inB s mulL=false:=by
   simp only [inB,wordsOf,relL,sumL,mulL,List.map,List.any_cons,List.any_nil,Bool.or_false,Bool.or_eq_true] at h1⊢;simp only [beq_iff_eq] at h1;rcases h1 with h1 | h1 | h1 | h1 | h1 | h1 <;> subst h1 <;> exact ⟨by rfl,by rfl⟩
  simp [this.1,this.2]
theorem strEq (s:ByteArray) (l:List UInt8):(s.toList==l)=((⟨l.toArray⟩:ByteArray)==s):=by
 rw [Bool.eq_iff_iff];simp only [beq_iff_eq];constructor
 ·intro h;apply ba_ext;rw [← h,ByteArray.toList_eq]
 ·intro h;rw [← h,ByteArray.toList_eq]
theorem levelP_form (s:ByteArray):levelP s=if (s.toList==[43]) || (s.toList==[45]) || (s.toList==[79,82]) then 1 else if (s.toList==[42]) || (s.toList==[68,73,86]) || (s.toList==[77,79,68]) || (s.toList==[38]) then 2 else 0:=by
 simp only [strEq,levelP,inB,wordsOf,sumL,mulL,List.map,List.any_cons,List.any_nil,Bool.or_false,Bool.or_assoc]
theorem level_any (s:ByteArray) (w:World):
  Calls Tryz.prog 117 #[.string s] w fun e w'=>e=.returned (.int .i64 (levelP s))∧w=w':=by
 have HF:=hid (levelP_form s)
 cases h0:(s.toList==[43]) with
 | true=>
  have FIN:=hid (show levelP s=1 by rw [HF.out];simp [h0]);go_enter Tryz.func117,Tryz.ntmps117;go_wp2;go_ret;exact ⟨ret_int FIN.out.symm,rfl⟩
 | false=>
  cases h1:(s.toList==[45]) with
  | true=>
   have FIN:=hid (show levelP s=1 by rw [HF.out];simp [h0,h1]);go_enter Tryz.func117,Tryz.ntmps117;go_wp2;go_ret;exact ⟨ret_int FIN.out.symm,rfl⟩
  | false=>
   cases h2:(s.toList==[79,82]) with
   | true=>
    have FIN:=hid (show levelP s=1 by rw [HF.out];simp [h0,h1,h2]);go_enter Tryz.func117,Tryz.ntmps117;go_wp2;go_ret;exact ⟨ret_int FIN.out.symm,rfl⟩
   | false=>
    cases h3:(s.toList==[42]) with
    | true=>
     have FIN:=hid (show levelP s=2 by rw [HF.out];simp [h0,h1,h2,h3]);go_enter Tryz.func117,Tryz.ntmps117;go_wp2;go_ret;exact ⟨ret_int FIN.out.symm,rfl⟩
    | false=>
     cases h4:(s.toList==[68,73,86]) with
     | true=>
      have FIN:=hid (show levelP s=2 by rw [HF.out];simp [h0,h1,h2,h3,h4]);go_enter Tryz.func117,Tryz.ntmps117;go_wp2;go_ret;exact ⟨ret_int FIN.out.symm,rfl⟩
     | false=>
      cases h5:(s.toList==[77,79,68]) with
      | true=>
       have FIN:=hid (show levelP s=2 by rw [HF.out];simp [h0,h1,h2,h3,h4,h5]);go_enter Tryz.func117,Tryz.ntmps117;go_wp2;go_ret;exact ⟨ret_int FIN.out.symm,rfl⟩
      | false=>
       cases h6:(s.toList==[38]) with
       | true=>
        have FIN:=hid (show levelP s=2 by rw [HF.out];simp [h0,h1,h2,h3,h4,h5,h6]);go_enter Tryz.func117,Tryz.ntmps117;go_wp2;go_ret;exact ⟨ret_int FIN.out.symm,rfl⟩
       | false=>
        have FIN:=hid (show levelP s=0 by rw [HF.out];simp [h0,h1,h2,h3,h4,h5,h6]);go_enter Tryz.func117,Tryz.ntmps117;go_wp2;go_ret;exact ⟨ret_int FIN.out.symm,rfl⟩
end
end Go.Proofs.YtneohanphabneaaGreatDoor
