/-
How long a shaped tree's text is at most, by its nodes and its depth: plain. No walk stands here. Conditions: the tree is shaped.
-/
import Derived.Test.YtneohanphabneaaGreatDoorTextR8
import Derived.Test.YtneohanphabneaaGreatDoorHuge
namespace Go.Proofs.YtneohanphabneaaGreatDoor
set_option linter.unusedSimpArgs false
set_option linter.unusedVariables false
section
open Go.RowKit
theorem deepTo_le (d:Nat) (m:Int):∀(r l:List Nd),deepTo d l m≤deepTo d (l++r) m
 | [],l=>by simp
 | y::r,l=>by
  have h1:deepTo d l m≤deepTo d (l++[y]) m:=by
   rw [deepTo_snoc];split
   ·split <;> omega
   ·omega
  have h2:=deepTo_le d m r (l++[y]);rw [List.append_assoc] at h2;exact Int.le_trans h1 h2
theorem deepTo_at {d:Nat} {m:Int} {l:List Nd} {i:Nat} {x:Nd} (hx:l[i]?=some x) (h:deepTo d l m<m):deepF d x (m - 1)≤deepTo d l m:=by
 have hlt:i<l.length:=(List.getElem?_eq_some_iff.1 hx).1;have hxe:l[i]=x:=(List.getElem?_eq_some_iff.1 hx).2
 have e1:l=l.take i++([x]++l.drop (i+1)):=by
  rw [← hxe,List.singleton_append,← List.drop_eq_getElem_cons hlt,List.take_append_drop]
 have h1:=deepTo_le d m (l.drop (i+1)) (l.take i++[x]);rw [List.append_assoc,← e1] at h1;have h2:=deepTo_le d m ([x]++l.drop (i+1)) (l.take i);rw [← e1] at h2;rw [deepTo_snoc,if_pos (by omega)] at h1;split at h1 <;> omega
theorem kids_refuel {w:World}:∀(m d:Nat) (n:Nd) (A:Option Addr) (c:Nat),m<d→KT w d n A c→deepF d n m≤m→Kids w m n A c
 | 0,d,n,A,c,_,hk,h=>by
  have:=(deep_bounds d n 0 (by omega)).1;simp only [Int.ofNat_zero] at *;omega
 | m+1,0,n,A,c,hd,hk,h=>absurd hd (by omega)
 | m+1,d+1,n,A,c,hd,hk,h=>by
  rw [deepF_eq] at h;refine ⟨hk.1,hk.2.1,hk.2.2.1,fun i x hx=>?_⟩;obtain ⟨b,o,Ax,cx,hA,h1,h2⟩:=hk.2.2.2 i x hx;refine ⟨b,o,Ax,cx,hA,h1,kids_refuel m d x Ax cx (by omega) h2 ?_⟩;have h3:=deepTo_at (d:=d) (m:=((m+1:Nat):Int)) hx (by omega);have e:((m+1:Nat):Int) - 1=m:=(by omega);rw [e] at h3;omega
theorem foldl_same {f g:Int→Nd→Int}:∀{l:List Nd} {k:Int},(∀x∈l,∀k,f k x=g k x)→l.foldl f k=l.foldl g k
 | [],_,_=>rfl
 | x::r,k,h=>by
  simp only [List.foldl_cons];rw [h x (.head _) k];exact foldl_same fun y hy=>h y (.tail _ hy)
theorem count_fuel {w:World}:∀(e d:Nat) (n:Nd) (A:Option Addr) (c:Nat) (m:Int),e≤d→Kids w e n A c→countF d n m=countF e n m
 | 0,_,_,_,_,_,_,hk=>hk.elim
 | e+1,0,_,_,_,_,h,_=>absurd h (by omega)
 | e+1,d+1,n,A,c,m,h,hk=>by
  refine foldl_same fun x hx k=>?_;obtain ⟨i,hi,rfl⟩:=List.getElem_of_mem hx;obtain ⟨_,_,_,_,_,_,h1⟩:=hk.2.2.2 i _ (List.getElem?_eq_getElem hi);rw [count_fuel e d _ _ _ _ (by omega) h1]
/-- So many nodes. -/
def sumN (f:Nd→Nat):List Nd→Nat
 | []=>0
 | x::r=>f x+sumN f r
def cntN:Nat→Nd→Nat
 | 0,_=>1
 | d+1,n=>1+sumN (cntN d) n.subs
theorem sumN_snoc (f:Nd→Nat):∀(l:List Nd) (x:Nd),sumN f (l++[x])=sumN f l+f x
 | [],x=>by simp [sumN]
 | y::r,x=>by simp only [List.cons_append,sumN,sumN_snoc f r x];omega
theorem cnt_pos (d:Nat) (n:Nd):1≤cntN d n:=by cases d <;> simp [cntN]
theorem snoc_ind {P:List Nd→Prop} (h0:P []) (h1:∀l x,P l→P (l++[x])) (l:List Nd):P l:=by
 have:∀n,∀l:List Nd,l.length=n→P l:=by
  intro n
  induction n with
  | zero=>intro l hl;rw [List.eq_nil_of_length_eq_zero hl];exact h0
  | succ n ih=>
   intro l hl;have hne:l≠[]:=(by intro e;rw [e] at hl;cases hl);rw [← List.dropLast_concat_getLast hne];exact h1 _ _ (ih _ (by simp [hl]))
 exact this _ l rfl
theorem cnt_le:∀(d:Nat) (n:Nd) (m:Int),0≤m→countF d n m≤m→(cntN d n:Int)≤countF d n m
 | 0,n,m,_,h=>by simp [cntN,countF]
 | d+1,n,m,hm,h=>by
  rw [countF_eq] at h⊢
  have key:∀l:List Nd,countTo d l m≤m→((1+sumN (cntN d) l:Nat):Int)≤countTo d l m:=by
   intro l;refine snoc_ind (P:=fun l=>countTo d l m≤m→((1+sumN (cntN d) l:Nat):Int)≤countTo d l m) ?_ ?_ l
   ·intro _;simp [sumN,countTo]
   ·intro l x ih hle;by_cases hc:countTo d l m≤m
    ·rw [countTo_snoc,if_pos hc] at hle⊢;have h1:=ih hc;have h2:=(countTo_bounds d l m hm).1;have h3:=cnt_le d x (m - countTo d l m) (by omega) (by omega);rw [sumN_snoc];omega
    ·rw [countTo_snoc,if_neg hc] at hle;omega
  exact key _ h
end
section
open Go.RowKit
theorem nameB_le {s:ByteArray} (h:nameB s=true):s.size≤12:=by
 simp only [nameB,Bool.and_eq_true,decide_eq_true_eq] at h;exact h.1.1
theorem headB_name {n:Nd} {k m c:Int} (h:headB n k true m c=true):n.name.size≤12:=by
 simp only [headB,Bool.and_eq_true,if_true] at h;exact nameB_le h.2
theorem nameS_le {n:Nd} (h:nameS n=true):(nameT n).size≤25:=by
 simp only [nameS,Bool.and_eq_true,Bool.or_eq_true,decide_eq_true_eq] at h;obtain ⟨⟨h1,h2⟩,h3⟩:=h;have h4:=headB_name h1;unfold nameT;split
 ·rcases h3 with h3 | h3
  ·omega
  ·have h5:=headB_name h3;simp only [ByteArray.size_append,ba_size,List.size_toArray,List.length_cons,List.length_nil];omega
 ·omega
theorem starT_le {n:Nd} (h:n.name.size≤12):(starT n).size≤13:=by
 unfold starT;split <;> (try simp only [ByteArray.size_append,ba_size,List.size_toArray,List.length_cons,List.length_nil]) <;> omega
theorem dec_le {n:Int} (h0:0≤n) (h1:n≤2147483647):(decT n).size≤21:=by
 have:=Lib.itoa_length_le n (by omega) (by omega);simpa [decT,ba_size] using this
theorem level_le {s:ByteArray} (h:0≤levelN s):s.size≤3:=by
 have key:∀l:List (List UInt8),(∀x∈l,x.length≤3)→inB s l=true→s.size≤3:=by
  intro l hl hin;simp only [inB,List.any_eq_true,wordsOf,List.mem_map,beq_iff_eq] at hin;obtain ⟨x,⟨y,hy,rfl⟩,hx⟩:=hin;rw [← hx];have:=hl y hy;simpa [ba_size] using this
 unfold levelN at h;by_cases h1:inB s relL=true
 ·exact key relL (by simp [relL]) h1
 by_cases h2:inB s sumL=true
 ·exact key sumL (by simp [sumL]) h2
 by_cases h3:inB s mulL=true
 ·exact key mulL (by simp [mulL]) h3
 simp [h1,h2,h3] at h
theorem atL_up (E:Nd→ByteArray) (n:Nd) (r:Int):(atL E n r).size≤(E n).size+2:=by
 unfold atL;split
 ·simp only [ByteArray.size_append,ba_size,List.size_toArray,List.length_cons,List.length_nil];omega
 ·omega
theorem sum_le {f g:Nd→Nat}:∀{l:List Nd},(∀x∈l,f x≤g x)→sumN f l≤sumN g l
 | [],_=>Nat.le_refl _
 | x::r,h=>by
  have h1:=h x (.head _);have h2:=sum_le (l:=r) fun y hy=>h y (.tail _ hy);simp only [sumN];omega
theorem sum_mul (k:Nat) (f:Nd→Nat):∀l:List Nd,sumN (fun x=>k*f x) l=k*sumN f l
 | []=>rfl
 | x::r=>by simp only [sumN,sum_mul k f r,Nat.mul_add]
theorem join_up (sep:ByteArray) (E:Nd→ByteArray):∀l:List Nd,(joinB sep (l.map E)).size≤sumN (fun x=>(E x).size+sep.size) l
 | []=>by simp [joinB,sumN,ba_size]
 | [x]=>by simp [joinB,sumN]
 | x::y::r=>by
  have ih:=join_up sep E (y::r);simp only [List.map_cons,joinB,ByteArray.size_append,sumN] at ih⊢;omega
theorem cat_up (f:Nd→ByteArray):∀l:List Nd,(catB (l.map f)).size≤sumN (fun x=>(f x).size) l
 | []=>by simp [catB,sumN,ba_size]
 | x::r=>by
  have ih:=cat_up f r;simp only [List.map_cons,catB,ByteArray.size_append,sumN];omega
theorem expr_size:∀(d:Nat) (n:Nd),exprS d n=true→(exprT d n).size+4≤44*cntN d n
 | 0,n,h=>by simp [exprS,edS] at h
 | d+1,n,h=>by
  have ih:=expr_size d;obtain ⟨k,s,num,pos,subs⟩:=n;by_cases k24:k=24
  ·subst k24;simp [exprS_succ,exprStep,desigStep] at h;have h1:s.size≤12:=headB_name h;rw [show exprT (d+1) ⟨24,s,num,pos,subs⟩=s by simp [exprT_succ,exprTStep,Nd.sub]];simp only [ByteArray.size_append,ba_size,List.size_toArray,List.length_cons,List.length_nil,cntN,sumN];omega
  by_cases k25:k=25
  ·subst k25;simp [exprS_succ,exprStep,desigStep] at h;have h1:s.size≤12:=headB_name h.1;obtain ⟨x,rfl⟩:=len1 (l:=subs) (headB_len h.1 (by omega));simp only [Nd.sub,List.getD_cons_zero] at h;have i1:=ih x (desig_expr h.2);rw [show exprT (d+1) ⟨25,s,num,pos,[x]⟩=exprT d x++⟨#[46]⟩++s by simp [exprT_succ,exprTStep,Nd.sub]];simp only [ByteArray.size_append,ba_size,List.size_toArray,List.length_cons,List.length_nil,cntN,sumN];omega
  by_cases k26:k=26
  ·subst k26;simp [exprS_succ,exprStep,desigStep] at h;obtain ⟨x,y,rfl⟩:=len2 (l:=subs) (headB_len h.1.1 (by omega));simp only [Nd.sub,List.getD_cons_zero,List.getD_cons_succ] at h;have i1:=ih x (desig_expr h.1.2);have i2:=ih y h.2;rw [show exprT (d+1) ⟨26,s,num,pos,[x,y]⟩=exprT d x++⟨#[91]⟩++exprT d y++⟨#[93]⟩ by simp [exprT_succ,exprTStep,Nd.sub]];simp only [ByteArray.size_append,ba_size,List.size_toArray,List.length_cons,List.length_nil,cntN,sumN];omega
  by_cases k27:k=27
  ·subst k27;simp [exprS_succ,exprStep,desigStep] at h;obtain ⟨x,rfl⟩:=len1 (l:=subs) (headB_len h.1 (by omega));simp only [Nd.sub,List.getD_cons_zero] at h;have i1:=ih x (desig_expr h.2);rw [show exprT (d+1) ⟨27,s,num,pos,[x]⟩=exprT d x++⟨#[94]⟩ by simp [exprT_succ,exprTStep,Nd.sub]];simp only [ByteArray.size_append,ba_size,List.size_toArray,List.length_cons,List.length_nil,cntN,sumN];omega
  by_cases k28:k=28
  ·subst k28;simp [exprS_succ,exprStep,desigStep] at h;obtain ⟨x,y,rfl⟩:=len2 (l:=subs) (headB_len h.1.1 (by omega));simp only [Nd.sub,List.getD_cons_zero,List.getD_cons_succ] at h;have i1:=ih x (desig_expr h.1.2);have i2:=nameS_le h.2;have i3:=cnt_pos d y;rw [show exprT (d+1) ⟨28,s,num,pos,[x,y]⟩=exprT d x++⟨#[123]⟩++nameT y++⟨#[125]⟩ by simp [exprT_succ,exprTStep,Nd.sub]];simp only [ByteArray.size_append,ba_size,List.size_toArray,List.length_cons,List.length_nil,cntN,sumN];omega
  by_cases k29:k=29
  ·subst k29;simp [exprS_succ,exprStep,desigStep] at h;have h1:(decT num).size≤21:=dec_le (by simp [headB] at h;omega) (by simp [headB] at h;omega);rw [show exprT (d+1) ⟨29,s,num,pos,subs⟩=decT num by simp [exprT_succ,exprTStep,Nd.sub]];simp only [ByteArray.size_append,ba_size,List.size_toArray,List.length_cons,List.length_nil,cntN,sumN];omega
  by_cases k30:k=30
  ·subst k30;simp [exprS_succ,exprStep,desigStep] at h;rw [show exprT (d+1) ⟨30,s,num,pos,subs⟩=⟨#[84,82,85,69]⟩ by simp [exprT_succ,exprTStep,Nd.sub]];simp only [ByteArray.size_append,ba_size,List.size_toArray,List.length_cons,List.length_nil,cntN,sumN];omega
  by_cases k31:k=31
  ·subst k31;simp [exprS_succ,exprStep,desigStep] at h;rw [show exprT (d+1) ⟨31,s,num,pos,subs⟩=⟨#[70,65,76,83,69]⟩ by simp [exprT_succ,exprTStep,Nd.sub]];simp only [ByteArray.size_append,ba_size,List.size_toArray,List.length_cons,List.length_nil,cntN,sumN];omega
  by_cases k32:k=32
  ·subst k32;simp [exprS_succ,exprStep,desigStep] at h;rw [show exprT (d+1) ⟨32,s,num,pos,subs⟩=⟨#[78,73,76]⟩ by simp [exprT_succ,exprTStep,Nd.sub]];simp only [ByteArray.size_append,ba_size,List.size_toArray,List.length_cons,List.length_nil,cntN,sumN];omega
  by_cases k33:k=33
  ·subst k33;simp [exprS_succ,exprStep,desigStep] at h;rcases subs with _ | ⟨x,r⟩
   ·simp at h
   ·skip;simp only [Nd.sub,List.getD_cons_zero] at h;have i1:=ih x (desig_expr h.1.2);have i2:=join_up ⟨#[44,32]⟩ (exprT d) r
    have i3:sumN (fun x=>(exprT d x).size+(⟨#[44,32]⟩:ByteArray).size) r≤sumN (fun x=>44*cntN d x) r:=sum_le fun z hz=>by
     have h2:=h.2 z (by simpa using hz);have:=ih z h2;simp only [ByteArray.size_append,ba_size,List.size_toArray,List.length_cons,List.length_nil];omega
    rw [sum_mul] at i3;rw [show exprT (d+1) ⟨33,s,num,pos,x::r⟩=exprT d x++(⟨#[40]⟩++joinB ⟨#[44,32]⟩ (r.map (exprT d))++⟨#[41]⟩) by simp [exprT_succ,exprTStep,Nd.sub,argsT]];simp only [ByteArray.size_append,ba_size,List.size_toArray,List.length_cons,List.length_nil,cntN,sumN];omega
  by_cases k34:k=34
  ·subst k34;simp [exprS_succ,exprStep,desigStep] at h;obtain ⟨x,rfl⟩:=len1 (l:=subs) (headB_len h.1 (by omega));simp only [Nd.sub,List.getD_cons_zero] at h;have i1:=ih x h.2;have i2:=atL_up (exprT d) x 3;rw [show exprT (d+1) ⟨34,s,num,pos,[x]⟩=⟨#[126]⟩++atL (exprT d) x 3 by simp [exprT_succ,exprTStep,Nd.sub]];simp only [ByteArray.size_append,ba_size,List.size_toArray,List.length_cons,List.length_nil,cntN,sumN];omega
  by_cases k35:k=35
  ·subst k35;simp [exprS_succ,exprStep,desigStep] at h;obtain ⟨x,rfl⟩:=len1 (l:=subs) (headB_len h.1 (by omega));simp only [Nd.sub,List.getD_cons_zero] at h;have i1:=ih x h.2;have i2:=atL_up (exprT d) x 2;rw [show exprT (d+1) ⟨35,s,num,pos,[x]⟩=⟨#[45]⟩++atL (exprT d) x 2 by simp [exprT_succ,exprTStep,Nd.sub]];simp only [ByteArray.size_append,ba_size,List.size_toArray,List.length_cons,List.length_nil,cntN,sumN];omega
  by_cases k37:k=37
  ·subst k37;simp [exprS_succ,exprStep,desigStep] at h;obtain ⟨x,y,rfl⟩:=len2 (l:=subs) (headB_len h.1.1 (by omega));simp only [Nd.sub,List.getD_cons_zero,List.getD_cons_succ] at h;have i1:=ih x h.1.2;have i2:=nameS_le h.2;have i3:=cnt_pos d y;have i4:=atL_up (exprT d) x 1;rw [show exprT (d+1) ⟨37,s,num,pos,[x,y]⟩=atL (exprT d) x 1++⟨#[32,73,83,32]⟩++nameT y by simp [exprT_succ,exprTStep,Nd.sub]];simp only [ByteArray.size_append,ba_size,List.size_toArray,List.length_cons,List.length_nil,cntN,sumN];omega
  by_cases k36:k=36
  ·subst k36;simp [exprS_succ,exprStep,desigStep] at h;have hlv:=level_le h.1.1.1;obtain ⟨x,y,rfl⟩:=len2 (l:=subs) (by have:=h.1.2;omega);have hx:exprS d x=true:=(by have h2:=h.2;simp at h2;exact h2.1);have hy:exprS d y=true:=(by have h2:=h.2;simp at h2;exact h2.2);have i1:=ih x hx;have i2:=ih y hy;have j1:=atL_up (exprT d) x (if levelN s=2 then 2 else 1);have j2:=atL_up (exprT d) y (if levelN s=2 then 3 else if levelN s=1 then 2 else 1);rw [show exprT (d+1) ⟨36,s,num,pos,[x,y]⟩=atL (exprT d) x (if levelN s=2 then 2 else 1)++⟨#[32]⟩++s++⟨#[32]⟩++atL (exprT d) y (if levelN s=2 then 3 else if levelN s=1 then 2 else 1) by simp [exprT_succ,exprTStep,Nd.sub]];simp only [ByteArray.size_append,ba_size,List.size_toArray,List.length_cons,List.length_nil,cntN,sumN];omega
  exfalso;simp [exprS_succ,exprStep,desigStep,k24,k25,k26,k27,k28,k29,k30,k31,k32,k33,k34,k35,k36,k37] at h
theorem upB_list {f:Nat→ByteArray} {g:Nd→Nat}:∀l:List Nd,(∀i x,l[i]?=some x→(f i).size≤g x)→(upB f l.length).size≤sumN g l:=by
 intro l;refine snoc_ind (P:=fun l=>(∀i x,l[i]?=some x→(f i).size≤g x)→(upB f l.length).size≤sumN g l) ?_ ?_ l
 ·intro _;simp [upB,sumN,ba_size]
 ·intro l x ih h;have h1:=ih fun i y hy=>h i y (by rw [List.getElem?_append_left (List.getElem?_eq_some_iff.1 hy).1];exact hy);have h2:=h l.length x (by simp);rw [List.length_append,sumN_snoc];simp only [List.length_cons,List.length_nil,Nat.zero_add,upB,ByteArray.size_append];omega
theorem upB_pairs {f:Nat→ByteArray} {g:Nd→Nat} {l:List Nd} (h:∀t x y,l[2*t]?=some x→l[2*t+1]?=some y→(f t).size≤g x+g y):∀t,2*t≤l.length→(upB f t).size≤sumN g (l.take (2*t))
 | 0,_=>by simp [upB,sumN,ba_size]
 | t+1,ht=>by
  have ih:=upB_pairs h t (by omega);have e1:l[2*t]?=some (l[2*t]'(by omega)):=List.getElem?_eq_getElem (by omega);have e2:l[2*t+1]?=some (l[2*t+1]'(by omega)):=List.getElem?_eq_getElem (by omega);have h1:=h t _ _ e1 e2;rw [show 2*(t+1)=2*t+1+1 by omega,List.take_succ_eq_append_getElem (by omega),List.take_succ_eq_append_getElem (by omega),sumN_snoc,sumN_snoc];simp only [upB,ByteArray.size_append];omega
theorem sum_take (g:Nd→Nat):∀(l:List Nd) (k:Nat),sumN g (l.take k)≤sumN g l
 | [],k=>by simp [sumN]
 | x::r,0=>by simp [sumN]
 | x::r,k+1=>by
  have:=sum_take g r k;simp only [List.take_succ_cons,sumN];omega
theorem builtT_le (k:Int):(builtT k).size≤6:=by
 unfold builtT;split
 ·simp [ba_size]
 ·split
  ·simp [ba_size]
  ·split <;> simp [ba_size]
/-- What is said of a statement's length, of a list's. -/
def SizeS (d:Nat):Prop:=∀(n:Nd) (pad:ByteArray),stmtS d n=true→pad.size+2*d≤200→(stmtT d n pad).size+220≤1100*cntN d n
def SizeL (d:Nat):Prop:=∀(n:Nd) (pad:ByteArray),stmtsS d n=true→pad.size+2*d≤200→(stmtsT d n pad).size+220≤1100*cntN d n
theorem list_size (d:Nat) (hX:SizeS d):SizeL (d+1):=by
 intro n pad hs hp;rw [stmtsS_succ] at hs;simp only [listStep,Bool.and_eq_true] at hs;rw [stmtsT_succ]
 have h1:=upB_list (f:=lineT (stmtT d) n.subs pad) (g:=fun x=>1100*cntN d x) n.subs fun i x hx=>by
  have:=hX x pad (all_at hs.2 hx) (by omega);simp only [lineT,getD_at hx];split <;> simp only [ByteArray.size_append,ba_size,List.size_toArray,List.length_cons,List.length_nil] <;> omega
 rw [sum_mul] at h1;simp only [cntN];omega
theorem stmt_size (d:Nat) (hL:SizeL d):SizeS (d+1):=by
 intro n pad h hp;have ih:=expr_size d;have hL':=fun x (hx:stmtsS d x=true)=>hL x (pad++⟨#[32,32]⟩) hx (by simp only [ByteArray.size_append,ba_size,List.size_toArray,List.length_cons,List.length_nil];omega);obtain ⟨k,s,num,pos,subs⟩:=n;by_cases k14:k=14
 ·subst k14;simp [stmtS_succ,stmtStep] at h;obtain ⟨x,y,rfl⟩:=len2 (l:=subs) (headB_len h.1.1 (by omega));simp only [Nd.sub,List.getD_cons_zero,List.getD_cons_succ] at h;have i1:=ih x (desig_expr h.1.2);have i2:=ih y h.2;rw [show stmtT (d+1) ⟨14,s,num,pos,[x,y]⟩ pad=pad++exprT d x++⟨#[32,58,61,32]⟩++exprT d y by simp [stmtT_succ,stmtTStep,Nd.sub]];simp only [ByteArray.size_append,ba_size,List.size_toArray,List.length_cons,List.length_nil,cntN,sumN];omega
 by_cases k15:k=15
 ·subst k15;simp [stmtS_succ,stmtStep] at h;rcases subs with _ | ⟨x,_ | ⟨y,r⟩⟩
  ·simp at h
  ·skip;simp only [Nd.sub,List.getD_cons_zero] at h;have i1:=ih x (desig_expr h.1.2);rw [show stmtT (d+1) ⟨15,s,num,pos,[x]⟩ pad=pad++exprT d x by simp [stmtT_succ,stmtTStep,Nd.sub]];simp only [ByteArray.size_append,ba_size,List.size_toArray,List.length_cons,List.length_nil,cntN,sumN];omega
  ·skip;simp only [Nd.sub,List.getD_cons_zero] at h;have i1:=ih x (desig_expr h.1.2);have i2:=join_up ⟨#[44,32]⟩ (exprT d) (y::r)
   have i3:sumN (fun x=>(exprT d x).size+(⟨#[44,32]⟩:ByteArray).size) (y::r)≤sumN (fun x=>44*cntN d x) (y::r):=sum_le fun z hz=>by
    have h2:=h.2 z (by simpa using hz);have:=ih z h2;simp only [ByteArray.size_append,ba_size,List.size_toArray,List.length_cons,List.length_nil];omega
   rw [sum_mul] at i3;rw [show stmtT (d+1) ⟨15,s,num,pos,x::y::r⟩ pad=pad++exprT d x++(⟨#[40]⟩++joinB ⟨#[44,32]⟩ ((y::r).map (exprT d))++⟨#[41]⟩) by simp [stmtT_succ,stmtTStep,Nd.sub,argsT]];simp only [ByteArray.size_append,ba_size,List.size_toArray,List.length_cons,List.length_nil,cntN,sumN] at i2 i3⊢;omega
 by_cases k17:k=17
 ·subst k17;simp [stmtS_succ,stmtStep] at h;obtain ⟨x,y,rfl⟩:=len2 (l:=subs) (headB_len h.1.1 (by omega));simp only [Nd.sub,List.getD_cons_zero,List.getD_cons_succ] at h;have i1:=ih x h.1.2;have i2:=hL' y h.2;rw [show stmtT (d+1) ⟨17,s,num,pos,[x,y]⟩ pad=pad++⟨#[87,72,73,76,69,32]⟩++exprT d x++⟨#[32,68,79,10]⟩++stmtsT d y (pad++⟨#[32,32]⟩)++pad++⟨#[69,78,68]⟩ by simp [stmtT_succ,stmtTStep,Nd.sub]];simp only [ByteArray.size_append,ba_size,List.size_toArray,List.length_cons,List.length_nil,cntN,sumN];omega
 by_cases k18:k=18
 ·subst k18;simp [stmtS_succ,stmtStep] at h;obtain ⟨x,y,rfl⟩:=len2 (l:=subs) (headB_len h.1.1 (by omega));simp only [Nd.sub,List.getD_cons_zero,List.getD_cons_succ] at h;have i1:=hL' x h.1.2;have i2:=ih y h.2;rw [show stmtT (d+1) ⟨18,s,num,pos,[x,y]⟩ pad=pad++⟨#[82,69,80,69,65,84,10]⟩++stmtsT d x (pad++⟨#[32,32]⟩)++pad++⟨#[85,78,84,73,76,32]⟩++exprT d y by simp [stmtT_succ,stmtTStep,Nd.sub]];simp only [ByteArray.size_append,ba_size,List.size_toArray,List.length_cons,List.length_nil,cntN,sumN];omega
 by_cases k19:k=19
 ·subst k19;simp [stmtS_succ,stmtStep] at h;rcases subs with _ | ⟨x,_ | ⟨y,r⟩⟩
  ·skip;rw [show stmtT (d+1) ⟨19,s,num,pos,[]⟩ pad=pad++⟨#[82,69,84,85,82,78]⟩ by simp [stmtT_succ,stmtTStep,Nd.sub]];simp only [ByteArray.size_append,ba_size,List.size_toArray,List.length_cons,List.length_nil,cntN,sumN];omega
  ·skip;have i1:=ih x (by have h2:=h.2;simpa using h2);rw [show stmtT (d+1) ⟨19,s,num,pos,[x]⟩ pad=pad++⟨#[82,69,84,85,82,78,32]⟩++exprT d x by simp [stmtT_succ,stmtTStep,Nd.sub]];simp only [ByteArray.size_append,ba_size,List.size_toArray,List.length_cons,List.length_nil,cntN,sumN];omega
  ·exfalso;have h2:=h.1.2;simp at h2
   try omega
 by_cases k16:k=16
 ·subst k16;obtain ⟨hnum,h2,hmod,hif⟩:=if_shape h
  have hp':=upB_pairs (f:=ifPiece (exprT d) (stmtsT d) subs pad) (g:=fun x=>1100*cntN d x) (l:=subs) (fun t x y hx hy=>by
   have hy1:t*2+1<subs.length:=(by have:=(List.getElem?_eq_some_iff.1 hy).1;omega);have a1:=hif _ _ hx;rw [if_neg (by omega)] at a1;have a2:=hif _ _ hy;rw [if_pos (Or.inl (by omega))] at a2;have i1:=ih x a1;have i2:=hL' y a2;have i3:=cnt_pos d x;simp only [ifPiece,getD_at hx,getD_at hy];split <;> simp only [ByteArray.size_append,ba_size,List.size_toArray,List.length_cons,List.length_nil] <;> omega) (subs.length / 2) (by omega)
  rcases hnum with rfl | rfl
  ·skip;have h3:=sum_take (fun x=>1100*cntN d x) subs (2*(subs.length / 2));rw [sum_mul 1100 (cntN d) subs] at h3;rw [show stmtT (d+1) ⟨16,s,0,pos,subs⟩ pad=upB (ifPiece (exprT d) (stmtsT d) subs pad) (subs.length / 2)++pad++⟨#[69,78,68]⟩ by simp [stmtT_succ,stmtTStep,Nd.sub,ba_nil]];simp only [ByteArray.size_append,ba_size,List.size_toArray,List.length_cons,List.length_nil,cntN];omega
  ·skip;obtain ⟨u,hlast⟩:∃u,subs[subs.length - 1]?=some u:=⟨_,List.getElem?_eq_getElem (by omega)⟩;have hu:=(List.getElem?_eq_some_iff.1 hlast).2;have a1:=hif _ _ hlast;rw [if_pos (Or.inr ⟨by omega,rfl⟩)] at a1;have i2:=hL' _ a1
   have h3:sumN (fun x=>1100*cntN d x) subs=sumN (fun x=>1100*cntN d x) (subs.take (2*(subs.length / 2)))+1100*cntN d u:=by
    have e0:2*(subs.length / 2)=subs.length - 1:=(by omega);rw [e0,← hu,← sumN_snoc (fun x=>1100*cntN d x),← List.take_succ_eq_append_getElem (by omega),List.take_of_length_le (by omega)]
   rw [sum_mul 1100 (cntN d) subs] at h3;rw [show stmtT (d+1) ⟨16,s,1,pos,subs⟩ pad=upB (ifPiece (exprT d) (stmtsT d) subs pad) (subs.length / 2)++(pad++⟨#[69,76,83,69,10]⟩++stmtsT d u (pad++⟨#[32,32]⟩))++pad++⟨#[69,78,68]⟩ by simp [stmtT_succ,stmtTStep,hlast]];simp only [ByteArray.size_append,ba_size,List.size_toArray,List.length_cons,List.length_nil,cntN];omega
 by_cases k20:k=20
 ·subst k20;simp [stmtS_succ,stmtStep] at h;obtain ⟨x,rfl⟩:=len1 (l:=subs) (headB_len h.1 (by omega));simp only [Nd.sub,List.getD_cons_zero] at h;have i1:=ih x (desig_expr h.2);have i2:=builtT_le 20;rw [show stmtT (d+1) ⟨20,s,num,pos,[x]⟩ pad=pad++builtT 20++⟨#[40]⟩++exprT d x++⟨#[41]⟩ by simp [stmtT_succ,stmtTStep,Nd.sub]];simp only [ByteArray.size_append,ba_size,List.size_toArray,List.length_cons,List.length_nil,cntN,sumN];omega
 by_cases k22:k=22
 ·subst k22;simp [stmtS_succ,stmtStep] at h;obtain ⟨x,rfl⟩:=len1 (l:=subs) (headB_len h.1 (by omega));simp only [Nd.sub,List.getD_cons_zero] at h;have i1:=ih x (desig_expr h.2);have i2:=builtT_le 22;rw [show stmtT (d+1) ⟨22,s,num,pos,[x]⟩ pad=pad++builtT 22++⟨#[40]⟩++exprT d x++⟨#[41]⟩ by simp [stmtT_succ,stmtTStep,Nd.sub]];simp only [ByteArray.size_append,ba_size,List.size_toArray,List.length_cons,List.length_nil,cntN,sumN];omega
 by_cases k21:k=21
 ·subst k21;simp [stmtS_succ,stmtStep] at h;obtain ⟨x,rfl⟩:=len1 (l:=subs) (headB_len h.1 (by omega));simp only [Nd.sub,List.getD_cons_zero] at h;have i1:=ih x (h.2);have i2:=builtT_le 21;rw [show stmtT (d+1) ⟨21,s,num,pos,[x]⟩ pad=pad++builtT 21++⟨#[40]⟩++exprT d x++⟨#[41]⟩ by simp [stmtT_succ,stmtTStep,Nd.sub]];simp only [ByteArray.size_append,ba_size,List.size_toArray,List.length_cons,List.length_nil,cntN,sumN];omega
 by_cases k23:k=23
 ·subst k23;simp [stmtS_succ,stmtStep] at h;obtain ⟨x,rfl⟩:=len1 (l:=subs) (headB_len h.1 (by omega));simp only [Nd.sub,List.getD_cons_zero] at h;have i1:=ih x (h.2);have i2:=builtT_le 23;rw [show stmtT (d+1) ⟨23,s,num,pos,[x]⟩ pad=pad++builtT 23++⟨#[40]⟩++exprT d x++⟨#[41]⟩ by simp [stmtT_succ,stmtTStep,Nd.sub]];simp only [ByteArray.size_append,ba_size,List.size_toArray,List.length_cons,List.length_nil,cntN,sumN];omega
 exfalso;simp [stmtS_succ,stmtStep,k14,k15,k17,k18,k19,k20,k22,k21,k23,k16] at h
theorem sizes:∀d,SizeS d∧SizeL d
 | 0=>⟨fun n pad h=>by simp [stmtS,stS] at h,fun n pad h=>by simp [stmtsS,stS] at h⟩
 | d+1=>⟨stmt_size d (sizes d).2,list_size d (sizes d).1⟩
end
section
open Go.RowKit
theorem type_size (e:Nat) (n:Nd) (h:typeS n=true):(typeT n).size≤100*cntN (e+1) n:=by
 obtain ⟨k,s,num,pos,subs⟩:=n;by_cases k9:k=9
 ·subst k9;simp [typeS] at h;obtain ⟨x,rfl⟩:=len1 (l:=subs) (headB_len h.1 (by omega));simp only [Nd.sub,List.getD_cons_zero] at h;have h1:=nameS_le h.2;have h2:(decT num).size≤21:=dec_le (by have:=h.1;simp [headB] at this;omega) (by have:=h.1;simp [headB] at this;omega);rw [show typeT ⟨9,s,num,pos,[x]⟩=⟨#[65,82,82,65,89,32]⟩++decT num++⟨#[32,79,70,32]⟩++nameT x by simp [typeT,Nd.sub]];simp only [ByteArray.size_append,ba_size,List.size_toArray,List.length_cons,List.length_nil,cntN,sumN];omega
 by_cases k12:k=12
 ·subst k12;simp [typeS] at h;obtain ⟨x,rfl⟩:=len1 (l:=subs) (headB_len h.1 (by omega));simp only [Nd.sub,List.getD_cons_zero] at h;have h1:=nameS_le h.2;rw [show typeT ⟨12,s,num,pos,[x]⟩=⟨#[80,79,73,78,84,69,82,32,84,79,32]⟩++nameT x by simp [typeT,Nd.sub]];simp only [ByteArray.size_append,ba_size,List.size_toArray,List.length_cons,List.length_nil,cntN,sumN];omega
 simp [typeS,k9,k12] at h;rcases subs with _ | ⟨x,r⟩
 ·simp at h
 have hx:x.kind≠0→(nameT x).size≤25:=fun h0=>by
  have h1:=h.1.2;simp only [Nd.sub,List.getD_cons_zero] at h1;rcases h1 with h1 | h1
  ·simp [headB] at h1;exact absurd h1.1.1.1.1 h0
  ·exact nameS_le h1
 have h2:=cat_up fieldT r
 have h3:sumN (fun x=>(fieldT x).size) r≤sumN (fun x=>42*cntN e x) r:=sum_le fun q hq=>by
  have h4:=h.2 q (by simpa using hq);simp only [varS,Bool.and_eq_true] at h4;have h5:=nameS_le h4.2.2;have h6:=starT_le (headB_name h4.2.1);have h7:=cnt_pos e q;simp only [fieldT,ByteArray.size_append,ba_size,List.size_toArray,List.length_cons,List.length_nil];omega
 rw [sum_mul] at h3;rw [show typeT ⟨k,s,num,pos,x::r⟩=(⟨#[82,69,67,79,82,68,32]⟩++(if x.kind=0 then ⟨#[]⟩ else ⟨#[40]⟩++nameT x++⟨#[41,32]⟩))++catB (r.map fieldT)++⟨#[69,78,68]⟩ by simp [typeT,Nd.sub,k9,k12]];by_cases h0:x.kind=0
 ·rw [if_pos h0];simp only [ByteArray.size_append,ba_size,List.size_toArray,List.length_cons,List.length_nil,cntN,sumN];omega
 ·have:=hx h0;rw [if_neg h0];simp only [ByteArray.size_append,ba_size,List.size_toArray,List.length_cons,List.length_nil,cntN,sumN];omega
theorem decl_size (e:Nat) (x:Nd) (h:declOK (e+1) x=true):(declLT (e+1) x).size≤1100*cntN (e+2) x:=by
 obtain ⟨k,s,num,pos,subs⟩:=x;simp only [declOK,varS,Bool.or_eq_true,Bool.and_eq_true,decide_eq_true_eq] at h;rcases h with (⟨⟨hk,h1⟩,h2⟩ | ⟨⟨hk,h1⟩,h2⟩) | ⟨hk,h1,h2⟩
 all_goals
  obtain ⟨z,rfl⟩:=len1 (headB_len h1 (by omega));have h3:=starT_le (headB_name h1);subst hk;simp only [Nd.sub,List.getD_cons_zero] at h2;have h9:=cnt_pos (e+1) z
 ·have h4:=expr_size _ z h2;rw [show declLT (e+1) ⟨4,s,num,pos,[z]⟩=⟨#[32,32]⟩++starT ⟨4,s,num,pos,[z]⟩++⟨#[32,61,32]⟩++exprT (e+1) z++⟨#[59,10]⟩ by simp [declLT,Nd.sub]];rw [show cntN (e+2) ⟨4,s,num,pos,[z]⟩=1+(cntN (e+1) z+0) from rfl];simp only [ByteArray.size_append,ba_size,List.size_toArray,List.length_cons,List.length_nil];omega
 ·have h4:=type_size e z h2;rw [show declLT (e+1) ⟨5,s,num,pos,[z]⟩=⟨#[32,32]⟩++starT ⟨5,s,num,pos,[z]⟩++⟨#[32,61,32]⟩++typeT z++⟨#[59,10]⟩ by simp [declLT,Nd.sub]];rw [show cntN (e+2) ⟨5,s,num,pos,[z]⟩=1+(cntN (e+1) z+0) from rfl];simp only [ByteArray.size_append,ba_size,List.size_toArray,List.length_cons,List.length_nil];omega
 ·have h4:=nameS_le h2;rw [show declLT (e+1) ⟨6,s,num,pos,[z]⟩=⟨#[32,32]⟩++starT ⟨6,s,num,pos,[z]⟩++⟨#[58,32]⟩++nameT z++⟨#[59,10]⟩ by simp [declLT,Nd.sub]];rw [show cntN (e+2) ⟨6,s,num,pos,[z]⟩=1+(cntN (e+1) z+0) from rfl];simp only [ByteArray.size_append,ba_size,List.size_toArray,List.length_cons,List.length_nil];omega
theorem decls_size (e:Nat) (wd:ByteArray) (l:List Nd) (h:l.all (declOK (e+1))=true):(declTT (e+1) wd l).size≤wd.size+1+1100*sumN (cntN (e+2)) l:=by
 have h1:=cat_up (declLT (e+1)) l;have h2:sumN (fun x=>(declLT (e+1) x).size) l≤sumN (fun x=>1100*cntN (e+2) x) l:=sum_le fun x hx=>decl_size e x (List.all_eq_true.1 h x hx);rw [sum_mul] at h2;unfold declTT;split
 ·simp [ba_size]
 ·simp only [ByteArray.size_append,ba_size,List.size_toArray,List.length_cons,List.length_nil];omega
theorem proc_size (d:Nat) (n:Nd) (h:procS (d+3) n=true) (hd:2+2*(d+3)≤200):(procT (d+1) n).size≤1100*cntN (d+4) n:=by
 obtain ⟨k,s,num,pos,subs⟩:=n;simp [procS] at h;obtain ⟨x,y,z,v,rfl⟩:=len4 (l:=subs) (headB_len h.1.1.1.1.1.1 (by omega));simp only [Nd.sub,List.getD_cons_zero,List.getD_cons_succ] at h;have hs:s.size≤12:=headB_name h.1.1.1.1.1.1;have h1:=starT_le (n:=⟨k,s,num,pos,[x,y,z,v]⟩) hs;have hvar:=declOK_var (d:=d+1) (show (z.subs.all fun q=>decide (q.kind=6) && decide (q.num=0) && varS q 6)=true by have h:=h.1.1.2;simpa using h);have h2:=decls_size d ⟨#[86,65,82]⟩ z.subs hvar;have h3:=(sizes (d+3)).2 v ⟨#[32,32]⟩ h.2 (by simp only [ba_size,List.size_toArray,List.length_cons,List.length_nil];omega);have h4:=join_up ⟨#[59,32]⟩ paramT x.subs
 have h5:sumN (fun q=>(paramT q).size+(⟨#[59,32]⟩:ByteArray).size) x.subs≤sumN (fun q=>1100*cntN (d+2) q) x.subs:=sum_le fun q hq=>by
  have hv:=h.1.1.1.2 q hq;simp only [varS,Bool.and_eq_true] at hv;have a1:=nameS_le hv.2.2;have a2:=headB_name hv.2.1;have a3:=cnt_pos (d+2) q;unfold paramT;split <;> simp only [ByteArray.size_append,ba_size,List.size_toArray,List.length_cons,List.length_nil] <;> omega
 rw [sum_mul] at h5
 have hres:y.kind≠0→(nameT y).size≤25:=fun h0=>by
  rcases h.1.2 with hh | hh
  ·simp [headB] at hh;exact absurd hh.1.1.1.1 h0
  ·exact nameS_le hh
 have h6:(resT ⟨k,s,num,pos,[x,y,z,v]⟩).size≤27:=by
  unfold resT;split
  ·rename_i hy;have:=hres hy;simp only [Nd.sub,List.getD_cons_zero,List.getD_cons_succ,ByteArray.size_append,ba_size,List.size_toArray,List.length_cons,List.length_nil];omega
  ·simp [ba_size]
 have h7:(parT ⟨k,s,num,pos,[x,y,z,v]⟩).size≤2+1100*sumN (cntN (d+2)) x.subs:=by
  unfold parT;split
  ·simp only [Nd.sub,List.getD_cons_zero,List.getD_cons_succ,ByteArray.size_append,ba_size,List.size_toArray,List.length_cons,List.length_nil];omega
  ·simp [ba_size]
 have e1:cntN (d+4) ⟨k,s,num,pos,[x,y,z,v]⟩=1+(cntN (d+3) x+(cntN (d+3) y+(cntN (d+3) z+(cntN (d+3) v+0)))):=rfl;have e2:cntN (d+3) x=1+sumN (cntN (d+2)) x.subs:=rfl;have e3:cntN (d+3) z=1+sumN (cntN (d+2)) z.subs:=rfl;rw [e1,e2,e3];rw [show procT (d+1) ⟨k,s,num,pos,[x,y,z,v]⟩=⟨#[80,82,79,67,69,68,85,82,69,32]⟩++starT ⟨k,s,num,pos,[x,y,z,v]⟩++parT ⟨k,s,num,pos,[x,y,z,v]⟩++resT ⟨k,s,num,pos,[x,y,z,v]⟩++⟨#[59,10]⟩++declTT (d+1) ⟨#[86,65,82]⟩ z.subs++⟨#[66,69,71,73,78,10]⟩++stmtsT (d+3) v ⟨#[32,32]⟩++⟨#[69,78,68,32]⟩++s++⟨#[59,10]⟩ from rfl];simp only [ByteArray.size_append,ba_size,List.size_toArray,List.length_cons,List.length_nil] at h2⊢;omega
theorem printed_size (d:Nat) (n:Nd) (h:shapedS (d+6) n=true) (hd:2+2*(d+5)≤200):(printedT (d+1) n).size≤1100*cntN (d+6) n+200:=by
 obtain ⟨k,s,num,pos,subs⟩:=n;rw [shapedS_at (d+4)] at h;simp only [Bool.and_eq_true] at h;obtain ⟨x,y,z,v,u,t,rfl⟩:=len6 (l:=subs) (headB_len h.1.1.1.1.1.1 (by omega));simp only [Nd.sub,List.getD_cons_zero,List.getD_cons_succ] at h;have hs:s.size≤12:=headB_name h.1.1.1.1.1.1;have hy:(declTT (d+3) ⟨#[67,79,78,83,84]⟩ y.subs).size≤(⟨#[67,79,78,83,84]⟩:ByteArray).size+1+1100*sumN (cntN (d+4)) y.subs:=decls_size (d+2) ⟨#[67,79,78,83,84]⟩ y.subs (part_ok (d:=d+3) (.inl rfl) h.1.1.1.1.2);have hz:(declTT (d+3) ⟨#[84,89,80,69]⟩ z.subs).size≤(⟨#[84,89,80,69]⟩:ByteArray).size+1+1100*sumN (cntN (d+4)) z.subs:=decls_size (d+2) ⟨#[84,89,80,69]⟩ z.subs (part_ok (d:=d+3) (.inr (.inl rfl)) h.1.1.1.2);have hv:(declTT (d+3) ⟨#[86,65,82]⟩ v.subs).size≤(⟨#[86,65,82]⟩:ByteArray).size+1+1100*sumN (cntN (d+4)) v.subs:=decls_size (d+2) ⟨#[86,65,82]⟩ v.subs (part_ok (d:=d+3) (.inr (.inr rfl)) h.1.1.2);have hu1:=cat_up (procT (d+1)) u.subs;have hu2:sumN (fun q=>(procT (d+1) q).size) u.subs≤sumN (fun q=>1100*cntN (d+4) q) u.subs:=sum_le fun q hq=>proc_size d q (List.all_eq_true.1 (part_proc (d:=d+3) h.1.2) q hq) (by omega);rw [sum_mul] at hu2;have ht:=(sizes (d+5)).2 t ⟨#[32,32]⟩ h.2 (by simp only [ba_size,List.size_toArray,List.length_cons,List.length_nil];omega);have hx1:=join_up ⟨#[44,32]⟩ (·.name) x.subs
 have hx2:sumN (fun q=>q.name.size+(⟨#[44,32]⟩:ByteArray).size) x.subs≤sumN (fun q=>1100*cntN (d+4) q) x.subs:=sum_le fun q hq=>by
  have h1:=List.all_eq_true.1 (part_all h.1.1.1.1.1.2) q hq;simp only [Bool.and_eq_true,decide_eq_true_eq] at h1;obtain ⟨h2,h3⟩:=h1;rw [declS_succ] at h3;simp [declStep,h2] at h3;have h4:=headB_name h3;have h5:=cnt_pos (d+4) q;simp only [ba_size,List.size_toArray,List.length_cons,List.length_nil];omega
 rw [sum_mul] at hx2
 have h7:(impT x.subs).size≤9+1100*sumN (cntN (d+4)) x.subs:=by
  unfold impT;split
  ·simp only [ByteArray.size_append,ba_size,List.size_toArray,List.length_cons,List.length_nil];omega
  ·simp [ba_size]
 have h8:(bodyT (d+5) t).size≤6+1100*cntN (d+5) t:=by
  unfold bodyT;split
  ·simp only [ByteArray.size_append,ba_size,List.size_toArray,List.length_cons,List.length_nil];omega
  ·simp [ba_size]
 have e1:cntN (d+6) ⟨k,s,num,pos,[x,y,z,v,u,t]⟩=1+(cntN (d+5) x+(cntN (d+5) y+(cntN (d+5) z+(cntN (d+5) v+(cntN (d+5) u+(cntN (d+5) t+0)))))):=rfl;have e2:cntN (d+5) x=1+sumN (cntN (d+4)) x.subs:=rfl;have e3:cntN (d+5) y=1+sumN (cntN (d+4)) y.subs:=rfl;have e4:cntN (d+5) z=1+sumN (cntN (d+4)) z.subs:=rfl;have e5:cntN (d+5) v=1+sumN (cntN (d+4)) v.subs:=rfl;have e6:cntN (d+5) u=1+sumN (cntN (d+4)) u.subs:=rfl;rw [e1,e2,e3,e4,e5,e6];rw [show printedT (d+1) ⟨k,s,num,pos,[x,y,z,v,u,t]⟩=⟨#[77,79,68,85,76,69,32]⟩++s++⟨#[59,10]⟩++impT x.subs++declTT (d+3) ⟨#[67,79,78,83,84]⟩ y.subs++declTT (d+3) ⟨#[84,89,80,69]⟩ z.subs++declTT (d+3) ⟨#[86,65,82]⟩ v.subs++catB (u.subs.map (procT (d+1)))++bodyT (d+5) t++⟨#[69,78,68,32]⟩++s++⟨#[46,10]⟩ from rfl];simp only [ByteArray.size_append,ba_size,List.size_toArray,List.length_cons,List.length_nil] at hy hz hv⊢;omega
/-- Of what is said: sixty levels, so many nodes. -/
theorem not_huge {w:World} {d:Nat} {n:Nd} {A:Option Addr} {c:Nat} (hd:3000<d) (hk:KT w d n A c) (h:hugeB d n=false):Kids w 60 n A c∧cntN 60 n≤3000:=by
 simp only [hugeB,Bool.or_eq_false_iff,decide_eq_false_iff_not] at h;have hk':=kids_refuel (w:=w) 60 d n A c (by omega) hk (by have e:((60:Nat):Int)=60:=rfl;rw [e];omega);refine ⟨hk',?_⟩;have h1:=count_fuel 60 d n A c 3000 (by omega) hk';have h2:=cnt_le 60 n 3000 (by omega) (by omega);omega
theorem printed_bound {n:Nd} (h:shapedS 60 n=true) (hc:cntN 60 n≤3000):(printedT 55 n).size≤4000000:=by
 have h1:(printedT 55 n).size≤1100*cntN 60 n+200:=printed_size 54 n h (by omega);omega
end
end Go.Proofs.YtneohanphabneaaGreatDoor
