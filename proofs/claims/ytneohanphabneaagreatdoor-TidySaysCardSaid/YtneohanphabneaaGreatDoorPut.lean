/-
An entry stored into a literal's map in whatever world, and the map of the four statements that are written as calls. Conditions: the block holds the entries so far.
-/
import Derived.Test.YtneohanphabneaaGreatDoorTextS
namespace Go.Proofs.YtneohanphabneaaGreatDoor
set_option linter.unusedSimpArgs false
set_option linter.unusedVariables false
open Go.RowKit Go.MapKept
theorem heap_below {B : Nat} {w w' : World} (h : Below B w w') {b : Nat} (hb : b < B) {o : Obj} (ho : w.heap[b]? = some o) : w'.heap[b]? = some o := (h.block b hb).trans ho
theorem heap_lt {w : World} {b : Nat} {o : Obj} (ho : w.heap[b]? = some o) : b < w.heap.size := (Array.getElem?_eq_some_iff.1 ho).1
def kv20 : Value × Value := (.int .i64 20, .string ⟨#[78, 69, 87]⟩)
def kv22 : Value × Value := (.int .i64 22, .string ⟨#[71, 69, 84]⟩)
def kv21 : Value × Value := (.int .i64 21, .string ⟨#[79, 85, 84]⟩)
def kv23 : Value × Value := (.int .i64 23, .string ⟨#[65, 83, 83, 69, 82, 84]⟩)
theorem isBuilt {k : Int} (h : k = 20 ∨ k = 21 ∨ k = 22 ∨ k = 23) (l : List (Value × Value)) (hl : l = [kv20, kv22, kv21, kv23] ∨ l = [kv20, kv21, kv22, kv23]) {W : World} {b : Nat} (hb : W.heap[b]? = some (litMap l)) :
  (Instr.lookup 101 (.map (some b)) (.int .i64 k) false).run Tryz.prog W = .ok (.string (builtT k)) W := by
 have hs : ∀ p ∈ l, Instr.sameNow (.int .i64) (.int .i64 k) p.1 = some (decide (intOf p.1 = k)) := by
  rcases hl with rfl | rfl <;> rcases h with rfl | rfl | rfl | rfl <;> simp [kv20, kv21, kv22, kv23, intOf] <;> refine ⟨?_, ?_, ?_, ?_⟩ <;> rfl
 rw [run_look Tryz.underlying101 Tryz.underlying3 W b l (.int .i64 k) (.string ⟨#[]⟩) hb rfl (fun v => decide (intOf v = k)) hs (by kernel_rfl)]
 rcases hl with rfl | rfl <;> rcases h with rfl | rfl | rfl | rfl <;> simp [look, kv20, kv21, kv22, kv23, intOf, builtT]
/-- The entries of a map that is written out in whatever order. -/
def inMap (b2 b3 b4 b5 : Bool) (p : Value × Value) : Prop := (b2 = true ∧ p = kv20) ∨ (b3 = true ∧ p = kv22) ∨ (b4 = true ∧ p = kv21) ∨ (b5 = true ∧ p = kv23)
def MapHas (W : World) (mb : Nat) (b2 b3 b4 b5 : Bool) : Prop := ∃ l, W.heap[mb]? = some (litMap l) ∧ ∀ p, p ∈ l ↔ inMap b2 b3 b4 b5 p
theorem MapHas.below {W W' : World} {mb : Nat} {b2 b3 b4 b5 : Bool} (h : MapHas W mb b2 b3 b4 b5) (hb : Below W.heap.size W W') : MapHas W' mb b2 b3 b4 b5 := by
 obtain ⟨l, h1, h2⟩ := h
 exact ⟨l, heap_below hb (heap_lt h1) h1, h2⟩
end Go.Proofs.YtneohanphabneaaGreatDoor
