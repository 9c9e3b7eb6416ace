/-
An entry stored into a literal's map in whatever world, and the map of the four statements that are written as calls. Conditions: the block holds the entries so far.
-/
import Derived.Test.YtneohanphabneaaGreatDoorTextS
namespace Go.Proofs.YtneohanphabneaaGreatDoor
set_option linter.unusedSimpArgs false
set_option linter.unusedVariables false
open Go.RowKit Go.MapKept
def putObj (w:World) (b:Nat) (o:Obj):World:={ w with heap:=w.heap.setIfInBounds b o }
theorem putObj_at {w:World} {b:Nat} {o o':Obj} (hb:w.heap[b]?=some o):(putObj w b o').heap[b]?=some o':=(heap_set hb).1
theorem putObj_below {B:Nat} {a w:World} (h:Below B a w) {b:Nat} (hB:B≤b) (o:Obj):Below B a (putObj w b o):=
 h.trans ⟨rfl,rfl,rfl,by simp [putObj],fun k hk=>by simp [putObj,show b≠k by omega]⟩
theorem run_insert_at {P:Program} {t kt et:TypeId} {d:TypeDesc} (hm:P.underlying t=some (.map kt et)) (hd:P.underlying kt=some d) (w:World) (b:Nat) (l:List (Value × Value)) (k v:Value) (hb:w.heap[b]?=some (litMap l)) (hk:IsKey d k) (hn:∀p∈l,Instr.sameNow d k p.1=some false):
  (Instr.mapUpdate t (.map (some b)) k v).run P w=.ok () (putObj w b (litMap (l++[(k,v)]))):=by
 have hb':w.heap[b]?=some (.map (ents l 0).toArray l.length):=hb;have hf:Instr.findNow d k (ents l 0).toArray.toList 0=some none:=find_none hn;simp only [Instr.mapUpdate,Sem.run_bind,run_underlying hm,MapKept.run_getObj_map hb',run_checkKey hd hk,run_findKey hd hf,run_setObj_map _ hb',Result.andThen];congr 1;simp only [putObj,litMap];congr 2;simp [ents_snoc]
theorem heap_below {B:Nat} {w w':World} (h:Below B w w') {b:Nat} (hb:b<B) {o:Obj} (ho:w.heap[b]?=some o):w'.heap[b]?=some o:=(h.block b hb).trans ho
theorem heap_lt {w:World} {b:Nat} {o:Obj} (ho:w.heap[b]?=some o):b<w.heap.size:=(Array.getElem?_eq_some_iff.1 ho).1
def kv20:Value × Value:=(.int .i64 20,.string ⟨#[78,69,87]⟩)
def kv22:Value × Value:=(.int .i64 22,.string ⟨#[71,69,84]⟩)
def kv21:Value × Value:=(.int .i64 21,.string ⟨#[79,85,84]⟩)
def kv23:Value × Value:=(.int .i64 23,.string ⟨#[65,83,83,69,82,84]⟩)
theorem ins_int (w:World) (b:Nat) (l:List (Value × Value)) (k:Int) (v:Value) (hb:w.heap[b]?=some (litMap l)) (hn:∀p∈l,Instr.sameNow (.int .i64) (.int .i64 k) p.1=some false):
  (Instr.mapUpdate 101 (.map (some b)) (.int .i64 k) v).run Tryz.prog w=.ok () (putObj w b (litMap (l++[(.int .i64 k,v)]))):=
 run_insert_at Tryz.underlying101 Tryz.underlying3 w b l (.int .i64 k) v hb rfl hn
theorem isBuilt {k:Int} (h:k=20∨k=21∨k=22∨k=23) (l:List (Value × Value)) (hl:l=[kv20,kv22,kv21,kv23]∨l=[kv20,kv21,kv22,kv23]) {W:World} {b:Nat} (hb:W.heap[b]?=some (litMap l)):
  (Instr.lookup 101 (.map (some b)) (.int .i64 k) false).run Tryz.prog W=.ok (.string (builtT k)) W:=by
 have hs:∀p∈l,Instr.sameNow (.int .i64) (.int .i64 k) p.1=some (decide (intOf p.1=k)):=by
  rcases hl with rfl | rfl <;> rcases h with rfl | rfl | rfl | rfl <;> simp [kv20,kv21,kv22,kv23,intOf] <;> refine ⟨?_,?_,?_,?_⟩ <;> rfl
 rw [run_look Tryz.underlying101 Tryz.underlying3 W b l (.int .i64 k) (.string ⟨#[]⟩) hb rfl (fun v=>decide (intOf v=k)) hs (by kernel_rfl)];rcases hl with rfl | rfl <;> rcases h with rfl | rfl | rfl | rfl <;> simp [look,kv20,kv21,kv22,kv23,intOf,builtT]
theorem look_of_mem {same:Value→Bool} {z v:Value}:∀{l:List (Value × Value)},(∀p∈l,same p.1=true→p.2=v)→(∃p∈l,same p.1=true)→look l same z=v
 | [],_,h=>by obtain ⟨_,h,_⟩:=h;cases h
 | p::r,h1,h2=>by
  cases hs:same p.1 with
  | true=>simp [look,hs,h1 p (.head _) hs]
  | false=>
   simp only [look,hs];refine look_of_mem (fun q hq=>h1 q (.tail _ hq)) ?_;obtain ⟨q,hq,hqs⟩:=h2;rcases List.mem_cons.1 hq with rfl | hq
   ·rw [hs] at hqs;cases hqs
   ·exact ⟨q,hq,hqs⟩
/-- The entries of a map that is written out in whatever order. -/
def inMap (b2 b3 b4 b5:Bool) (p:Value × Value):Prop:=(b2=true∧p=kv20)∨(b3=true∧p=kv22)∨(b4=true∧p=kv21)∨(b5=true∧p=kv23)
def MapHas (W:World) (mb:Nat) (b2 b3 b4 b5:Bool):Prop:=∃l,W.heap[mb]?=some (litMap l)∧∀p,p∈l↔inMap b2 b3 b4 b5 p
theorem MapHas.below {W W':World} {mb:Nat} {b2 b3 b4 b5:Bool} (h:MapHas W mb b2 b3 b4 b5) (hb:Below W.heap.size W W'):MapHas W' mb b2 b3 b4 b5:=by
 obtain ⟨l,h1,h2⟩:=h;exact ⟨l,heap_below hb (heap_lt h1) h1,h2⟩
theorem mapHas_new (W:World):MapHas (W.alloc (litMap [])) W.heap.size false false false false:=
 ⟨[],heap_new W _,fun p=>by simp [inMap]⟩
theorem mapHas_look {k:Int} (h:k=20∨k=21∨k=22∨k=23) {W:World} {b:Nat} (hm:MapHas W b true true true true):
  (Instr.lookup 101 (.map (some b)) (.int .i64 k) false).run Tryz.prog W=.ok (.string (builtT k)) W:=by
 obtain ⟨l,hb,hl⟩:=hm
 have hs:∀p∈l,Instr.sameNow (.int .i64) (.int .i64 k) p.1=some (decide (intOf p.1=k)):=fun p hp=>by
  rcases (hl p).1 hp with ⟨_,rfl⟩ | ⟨_,rfl⟩ | ⟨_,rfl⟩ | ⟨_,rfl⟩ <;> rcases h with rfl | rfl | rfl | rfl <;> rfl
 rw [run_look Tryz.underlying101 Tryz.underlying3 W b l (.int .i64 k) (.string ⟨#[]⟩) hb rfl (fun v=>decide (intOf v=k)) hs (by kernel_rfl)];rw [look_of_mem (v:=.string (builtT k))]
 ·intro p hp hsm;rcases (hl p).1 hp with ⟨_,rfl⟩ | ⟨_,rfl⟩ | ⟨_,rfl⟩ | ⟨_,rfl⟩ <;> rcases h with rfl | rfl | rfl | rfl <;> first | rfl | (exfalso;simp [kv20,kv21,kv22,kv23,intOf] at hsm)
 ·rcases h with rfl | rfl | rfl | rfl
  ·exact ⟨kv20,(hl _).2 (.inl ⟨rfl,rfl⟩),by simp [kv20,intOf]⟩
  ·exact ⟨kv21,(hl _).2 (.inr (.inr (.inl ⟨rfl,rfl⟩))),by simp [kv21,intOf]⟩
  ·exact ⟨kv22,(hl _).2 (.inr (.inl ⟨rfl,rfl⟩)),by simp [kv22,intOf]⟩
  ·exact ⟨kv23,(hl _).2 (.inr (.inr (.inr ⟨rfl,rfl⟩))),by simp [kv23,intOf]⟩
theorem mapHas_ins20 {W:World} {mb:Nat} {b3 b4 b5:Bool} (h:MapHas W mb false b3 b4 b5):∃W',(Instr.mapUpdate 101 (.map (some mb)) (.int .i64 20) (kv20).2).run Tryz.prog W=.ok () W'∧MapHas W' mb true b3 b4 b5∧∀B a,Below B a W→B≤mb→Below B a W':=by
 obtain ⟨l,hb,hl⟩:=h;refine ⟨_,ins_int W mb l 20 _ hb (fun p hp=>?_),⟨l++[kv20],putObj_at hb,fun p=>?_⟩,fun B a hB hmb=>putObj_below hB hmb _⟩
 ·rcases (hl p).1 hp with ⟨h1,rfl⟩ | ⟨h1,rfl⟩ | ⟨h1,rfl⟩ | ⟨h1,rfl⟩ <;> first | rfl | cases h1
 ·simp only [List.mem_append,List.mem_singleton,hl,inMap,Bool.false_eq_true,false_and,false_or,or_false,true_and];constructor
  ·rintro (h | h)
   ·rcases h with h | h | h
    all_goals simp [h]
   ·simp [h]
  ·rintro (h | h | h | h)
   all_goals simp [h]
theorem mapHas_ins22 {W:World} {mb:Nat} {b2 b4 b5:Bool} (h:MapHas W mb b2 false b4 b5):∃W',(Instr.mapUpdate 101 (.map (some mb)) (.int .i64 22) (kv22).2).run Tryz.prog W=.ok () W'∧MapHas W' mb b2 true b4 b5∧∀B a,Below B a W→B≤mb→Below B a W':=by
 obtain ⟨l,hb,hl⟩:=h;refine ⟨_,ins_int W mb l 22 _ hb (fun p hp=>?_),⟨l++[kv22],putObj_at hb,fun p=>?_⟩,fun B a hB hmb=>putObj_below hB hmb _⟩
 ·rcases (hl p).1 hp with ⟨h1,rfl⟩ | ⟨h1,rfl⟩ | ⟨h1,rfl⟩ | ⟨h1,rfl⟩ <;> first | rfl | cases h1
 ·simp only [List.mem_append,List.mem_singleton,hl,inMap,Bool.false_eq_true,false_and,false_or,or_false,true_and];constructor
  ·rintro (h | h)
   ·rcases h with h | h | h
    all_goals simp [h]
   ·simp [h]
  ·rintro (h | h | h | h)
   all_goals simp [h]
theorem mapHas_ins21 {W:World} {mb:Nat} {b2 b3 b5:Bool} (h:MapHas W mb b2 b3 false b5):∃W',(Instr.mapUpdate 101 (.map (some mb)) (.int .i64 21) (kv21).2).run Tryz.prog W=.ok () W'∧MapHas W' mb b2 b3 true b5∧∀B a,Below B a W→B≤mb→Below B a W':=by
 obtain ⟨l,hb,hl⟩:=h;refine ⟨_,ins_int W mb l 21 _ hb (fun p hp=>?_),⟨l++[kv21],putObj_at hb,fun p=>?_⟩,fun B a hB hmb=>putObj_below hB hmb _⟩
 ·rcases (hl p).1 hp with ⟨h1,rfl⟩ | ⟨h1,rfl⟩ | ⟨h1,rfl⟩ | ⟨h1,rfl⟩ <;> first | rfl | cases h1
 ·simp only [List.mem_append,List.mem_singleton,hl,inMap,Bool.false_eq_true,false_and,false_or,or_false,true_and];constructor
  ·rintro (h | h)
   ·rcases h with h | h | h
    all_goals simp [h]
   ·simp [h]
  ·rintro (h | h | h | h)
   all_goals simp [h]
theorem mapHas_ins23 {W:World} {mb:Nat} {b2 b3 b4:Bool} (h:MapHas W mb b2 b3 b4 false):∃W',(Instr.mapUpdate 101 (.map (some mb)) (.int .i64 23) (kv23).2).run Tryz.prog W=.ok () W'∧MapHas W' mb b2 b3 b4 true∧∀B a,Below B a W→B≤mb→Below B a W':=by
 obtain ⟨l,hb,hl⟩:=h;refine ⟨_,ins_int W mb l 23 _ hb (fun p hp=>?_),⟨l++[kv23],putObj_at hb,fun p=>?_⟩,fun B a hB hmb=>putObj_below hB hmb _⟩
 ·rcases (hl p).1 hp with ⟨h1,rfl⟩ | ⟨h1,rfl⟩ | ⟨h1,rfl⟩ | ⟨h1,rfl⟩ <;> first | rfl | cases h1
 ·simp only [List.mem_append,List.mem_singleton,hl,inMap,Bool.false_eq_true,false_and,false_or,or_false,true_and];constructor
  ·rintro (h | h)
   ·rcases h with h | h | h
    all_goals simp [h]
   ·simp [h]
  ·rintro (h | h | h | h)
   all_goals simp [h]
end Go.Proofs.YtneohanphabneaaGreatDoor
