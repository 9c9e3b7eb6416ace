/-
Maps that a call writes out as a literal, with keys that differ: what the block holds after each entry, and what a look-up in it answers. Conditions: the keys are strings or integers of one kind.
-/
import Derived.Test.YtneohanphabneaaGreatDoorProg
import Derived.WalkKit
import Derived.WalkLawsBesides
import Derived.WalkSpells
import Derived.BigQuiet
import Derived.Outline
import Derived.Maps.OwnSet
import Derived.MapKept
import Derived.Lib.Hide
namespace Go.Proofs.YtneohanphabneaaGreatDoor
set_option linter.unusedSimpArgs false
set_option linter.unusedVariables false
open Go.RowKit Go.MapKept
theorem beq_mk (a b : Array UInt8) : ((ByteArray.mk a) == (ByteArray.mk b)) = (a == b) := rfl
instance lawfulBA : LawfulBEq ByteArray where
 eq_of_beq {a b} h := by
  cases a; cases b
  rw [beq_mk] at h
  rw [eq_of_beq h]
 rfl {a} := by
  cases a
  rw [beq_mk]
  exact beq_self_eq_true _
theorem hid {p : Prop} (h : p) : RowKit.Hid p := h
theorem rBo {a b : Bool} (h : a = b) : Ending.returned (.bool a) = .returned (.bool b) := by rw [h]
theorem ret_str {a b : ByteArray} (h : a = b) : Ending.returned (.string a) = .returned (.string b) := by rw [h]
theorem ret_int {k : IntKind} {a b : Int} (h : a = b) : Ending.returned (.int k a) = .returned (.int k b) := by rw [h]
/-- The entries that a literal lays, numbered from n on. -/
def ents : List (Value × Value) → Nat → List MapEntry
 | [], _ => []
 | p :: r, n => ⟨p.1, p.2, n⟩ :: ents r (n + 1)
theorem ents_length : ∀ (l : List (Value × Value)) (n : Nat), (ents l n).length = l.length
 | [], _ => rfl
 | _ :: r, n => by simp [ents, ents_length r]
theorem ents_snoc : ∀ (l : List (Value × Value)) (p : Value × Value) (n : Nat), ents (l ++ [p]) n = ents l n ++ [⟨p.1, p.2, n + l.length⟩]
 | [], p, n => rfl
 | q :: r, p, n => by simp [ents, ents_snoc r p (n + 1)]; omega
def litMap (l : List (Value × Value)) : Obj := .map (ents l 0).toArray l.length
def keysAre (d : TypeDesc) (l : List (Value × Value)) : Prop := ∀ p ∈ l, IsKey d p.1
theorem ents_keys {d : TypeDesc} : ∀ {l : List (Value × Value)} {n : Nat}, keysAre d l → ∀ x ∈ ents l n, IsKey d x.key
 | [], _, _, x, hx => by simp [ents] at hx
 | p :: r, n, h, x, hx => by
  simp only [ents, List.mem_cons] at hx
  rcases hx with rfl | hx
  ·exact h p (.head _)
  ·exact ents_keys (fun q hq => h q (.tail _ hq)) x hx
/-- What is found in a literal's entries. -/
def look (l : List (Value × Value)) (same : Value → Bool) (z : Value) : Value :=
 match l with
 | [] => z
 | p :: r => if same p.1 then p.2 else look r same z
theorem find_none {d : TypeDesc} {k : Value} : ∀ {l : List (Value × Value)} {n i : Nat}, (∀ p ∈ l, Instr.sameNow d k p.1 = some false) → Instr.findNow d k (ents l n) i = some none
 | [], _, _, _ => rfl
 | p :: r, n, i, h => by
  simp only [ents, Instr.findNow, h p (.head _)]
  exact find_none (fun q hq => h q (.tail _ hq))
theorem find_look {d : TypeDesc} {k : Value} {same : Value → Bool} : ∀ {l : List (Value × Value)} {n i : Nat} (z : Value), (∀ p ∈ l, Instr.sameNow d k p.1 = some (same p.1)) →
  ∃ r, Instr.findNow d k (ents l n) i = some r ∧ (match r with | some x => x.2 | none => z) = look l same z
 | [], _, _, z, _ => ⟨none, rfl, rfl⟩
 | p :: r, n, i, z, h => by
  have h0 := h p (.head _)
  by_cases hs : same p.1 = true
  ·exact ⟨some (i, p.2), by simp [ents, Instr.findNow, h0, hs], by simp [look, hs]⟩
  ·obtain ⟨x, hx, hr⟩ := find_look (n := n + 1) (i := i + 1) z (fun q hq => h q (.tail _ hq))
   have hs' : same p.1 = false := by simpa using hs
   exact ⟨x, by simp [ents, Instr.findNow, h0, hs', hx], by simpa [look, hs'] using hr⟩
section
variable {P : Program} {t kt et : TypeId} {d : TypeDesc}
theorem run_insert (hm : P.underlying t = some (.map kt et)) (hd : P.underlying kt = some d) (w : World) (l : List (Value × Value)) (k v : Value) (hk : IsKey d k) (hn : ∀ p ∈ l, Instr.sameNow d k p.1 = some false) :
  (Instr.mapUpdate t (.map (some w.heap.size)) k v).run P (w.alloc (litMap l)) = .ok () (w.alloc (litMap (l ++ [(k, v)]))) := by
 have hb : (w.alloc (litMap l)).heap[w.heap.size]? = some (.map (ents l 0).toArray l.length) := (heap_alloc w _).1
 have hf : Instr.findNow d k (ents l 0).toArray.toList 0 = some none := find_none hn
 simp only [Instr.mapUpdate, Sem.run_bind, run_underlying hm, MapKept.run_getObj_map hb, run_checkKey hd hk, run_findKey hd hf, run_setObj_map _ hb, Result.andThen]
 congr 1
 simp only [World.alloc, litMap]
 congr 1
 apply Array.ext'
 simp [Array.setIfInBounds, ents_snoc]
theorem run_look (hm : P.underlying t = some (.map kt et)) (hd : P.underlying kt = some d) (w : World) (b : Nat) (l : List (Value × Value)) (k z : Value) (hb : w.heap[b]? = some (litMap l)) (hk : IsKey d k) (same : Value → Bool)
  (hs : ∀ p ∈ l, Instr.sameNow d k p.1 = some (same p.1)) (hz : (zeroValue et).run P w = .ok z w) :
  (Instr.lookup t (.map (some b)) k false).run P w = .ok (look l same z) w := by
 have hb' : w.heap[b]? = some (.map (ents l 0).toArray l.length) := hb
 obtain ⟨r, hf, hr⟩ := find_look (n := 0) (i := 0) z hs
 cases r with
 | none =>
  simp only at hr
  rw [← hr]
  simp [Instr.lookup, run_underlying hm, MapKept.run_getObj_map hb', run_checkKey hd hk, run_findKey hd hf, Result.andThen, hz]
 | some x =>
  simp only at hr
  rw [← hr]
  simp [Instr.lookup, run_underlying hm, MapKept.run_getObj_map hb', run_checkKey hd hk, run_findKey hd hf, Result.andThen]
end
theorem run_makeLit {P : Program} (t : TypeId) (w : World) : (Instr.makeMap t none).run P w = .ok (.map (some w.heap.size)) (w.alloc (litMap [])) := rfl
/-- An entry of a literal, at the operation. -/
theorem wpList_insert {P : Program} {W : World} {ops : Array Oper} {rest : List Oper} {o : Oper} {a : Act} {Q : Exit → Act → World → Prop} (hg : o.guard = none) (t : TypeId) (m : Operand) (k v : Value)
  (hop : o.op = Op.insert t m (.const k) (.const v)) (b : Nat) (ha : a.eval m = .map (some b)) (w : World) (l : List (Value × Value)) (hW : W = w.alloc (litMap l)) (hb : w.heap.size = b)
  (kt et : TypeId) (d : TypeDesc) (hm : P.underlying t = some (.map kt et)) (hd : P.underlying kt = some d)
  (hk : IsKey d k) (hnb : (l.all fun p => Instr.sameNow d k p.1 == some false) = true)
  (h : wpList P ops Q rest (a.put o.dst undef) (w.alloc (litMap (l ++ [(k, v)])))) : wpList P ops Q (o :: rest) a W := by
 subst hW
 subst hb
 refine wpList_plain hg fun K' hK' => ?_
 have hrun := run_insert hm hd w l k v hk (fun p hp => by simpa using List.all_eq_true.1 hnb p hp)
 unfold Oper.wp
 have e1 : a.eval (.const k) = k := rfl
 have e2 : a.eval (.const v) = v := rfl
 simp [execOp, hop, ha, e1, e2, hrun, Result.andThen]
 exact hK' _ _ h
/-- A look-up in a literal, at the operation. -/
theorem wpList_look {P : Program} (w : World) {ops : Array Oper} {rest : List Oper} {o : Oper} {a : Act} {Q : Exit → Act → World → Prop} (hg : o.guard = none) (t : TypeId) (m x : Operand)
  (hop : o.op = Op.lookup t m x false) (b : Nat) (l : List (Value × Value)) (k z : Value) (ha : a.eval m = .map (some b)) (hx : a.eval x = k) (kt et : TypeId) (d : TypeDesc) (hm : P.underlying t = some (.map kt et)) (hd : P.underlying kt = some d)
  (hb : w.heap[b]? = some (litMap l)) (hk : IsKey d k) (same : Value → Bool) (hs : ∀ p ∈ l, Instr.sameNow d k p.1 = some (same p.1)) (hz : (zeroValue et).run P w = .ok z w)
  (h : wpList P ops Q rest (a.put o.dst (look l same z)) w) : wpList P ops Q (o :: rest) a w := by
 refine wpList_plain hg fun K' hK' => ?_
 have hrun := run_look hm hd w b l k z hb hk same hs hz
 unfold Oper.wp
 simp [execOp, hop, ha, hx, hrun, Result.andThen]
 exact hK' _ _ h
end Go.Proofs.YtneohanphabneaaGreatDoor
