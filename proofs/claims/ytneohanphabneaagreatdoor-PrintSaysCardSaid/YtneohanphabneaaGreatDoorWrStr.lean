/-
The bytes that the writer has taken, as a string. Conditions: the block holds the writer.
-/
import Derived.Test.YtneohanphabneaaGreatDoorWrLine
namespace Go.Proofs.YtneohanphabneaaGreatDoor
set_option linter.unusedSimpArgs false
set_option linter.unusedVariables false
open Go.RowKit Go.BigFrame
theorem strCells_bytes (S : ByteArray) : Lib.strCells S = Lib.byteCells S.data.toList := rfl
theorem wr_fresh (w : World) : IsWr w.heap.size w.heap.size ⟨#[]⟩ (0 : Nat) (w.alloc (.cells #[.pointer none, .slice none 0 0, .int .i64 0] 55)) :=
 Or.inl ⟨Nat.le_refl _, .slice none 0 0, heap_new w _, World.ownsRow_nil _ _ _ _, by simp [Value.ownBlock]⟩
set_option maxHeartbeats 1000000 in
set_option maxRecDepth 100000 in
theorem wr_text (B b : Nat) (S : ByteArray) (d : Int) (w : World) (h : IsWr B b S d w) (h0 : 0 < S.size) :
  Calls Tryz.prog 26 #[.pointer (some ⟨b, 0, none⟩)] w fun e w' => e = .returned (.string S) ∧ Below B w w' := by
 obtain ⟨p, hB, v, hbk, hown, hne⟩ := h.at
 obtain ⟨l, hl⟩ : ∃ l, l = S.data.toList := ⟨_, rfl⟩
 have hS : S = ⟨l.toArray⟩ := by rw [hl]
 have hsz : S.size = l.length := by rw [hS]; simp [ba_size]
 have hl0 : l.length ≠ 0 := by omega
 have h00 : l ≠ [] := fun e => hl0 (by rw [e]; rfl)
 rw [strCells_bytes, ← hl, Lib.byteCells_length] at hown
 rw [hS]
 obtain ⟨g, cap, cur, rfl, hbg, hg, hnc, hcm, hcs, htake⟩ : ∃ g cap cur, v = .slice (some ⟨g, 0, none⟩) l.length cap ∧ B ≤ g ∧ w.heap[g]? = some (.cells cur 5 (0, 0)) ∧ l.length ≤ cap ∧ cap ≤ maxLen ∧ cur.size = cap * 1 ∧ cur.toList.take (l.length * 1) = Lib.byteCells l := by
  rcases hown.2 with ⟨_, hz⟩ | ⟨g, cap, cur, hv, r⟩
  ·exact absurd hz hl0
  ·exact ⟨g, cap, cur, hv, r⟩
 have c1 : w.drew.cell? ⟨b, 1, none⟩ = some (.slice (some ⟨g, 0, none⟩) l.length cap) := by
  have : w.drew.heap[b]? = some (.cells #[p, .slice (some ⟨g, 0, none⟩) l.length cap, .int .i64 d] 55 (0, 0)) := hbk
  rw [Lib.cell_of_heap this]; rfl
 have hSD : (Builtin.unsafeSliceData_ #[51] 81 #[.slice (some ⟨g, 0, none⟩) l.length cap]).run Tryz.prog w.drew = .ok (.pointer (some ⟨g, 0, none⟩)) w.drew :=
  Lib.run_unsafeSliceData_row _ _ _ _ _ _ (by omega)
 have hUS : (Builtin.unsafeString_ #[81, 3] 9 #[.pointer (some ⟨g, 0, none⟩), .int .i64 l.length]).run Tryz.prog w.drew = .ok (.string ⟨l.toArray⟩) (w.drew.freeze ⟨g, 0, none⟩ l.length) := by
  refine Lib.run_unsafeString_row w.drew 81 3 9 5 Tryz.underlying81 (by kernel_rfl) g cur.size (by have hg' : w.drew.heap[g]? = some (.cells cur 5 (0, 0)) := hg; simp [World.shape?, hg']) l h00 (by omega) (by unfold maxLen at hcm; omega) ?_
  intro j x hx
  have := hown.cells (g := g) rfl j (.int .u8 x.toNat) (by simp [Lib.byteCells, hx])
  exact this
 clear hS hsz hl
 go_enter Tryz.func26, Tryz.ntmps26
 go_wp2
 go_region
 all_goals (go_wp2; go_ret; exact ⟨rfl, Lib.below_freeze (Below.drew (Below.refl B w)) (p := ⟨g, 0, none⟩) hbg _⟩)
end Go.Proofs.YtneohanphabneaaGreatDoor
