/-
What api.Tell answers: of no error; of an error number. Conditions: the variable errors.errorType is as it is laid.
-/
import Derived.Test.YtneohanphabneaaGreatDoorAsWalk
import Derived.BigQuiet
import Derived.WalkLawsBesides
import Derived.WalkSpells
namespace Go.Proofs.YtneohanphabneaaGreatDoor
set_option linter.unusedSimpArgs false
set_option linter.unusedVariables false
open Go.RowKit
theorem tell_nil (w : World) : Calls Tryz.prog 27 #[.nilIface] w fun e w' => e = .returned (.tuple #[.int .i64 0, .int .i64 (-1), .int .i64 (-1)]) ∧ Below w.heap.size w w' := by
 go_enter Tryz.func27, Tryz.ntmps27
 go_wp2
 exact bodyPost_ret (v := .tuple #[.int .i64 0, .int .i64 (-1), .int .i64 (-1)]) (by simp [results, Tryz.results27, go_sem]) rfl ⟨rfl, (Below.refl _ _).alloc (Nat.le_refl _) _⟩
theorem as_hitE_post (n : Int) (t : Addr) (old : Value) (w : World) (hg : ErrLaid w) (ht0 : w.cell? t = some old) (hf0 : w.frozen? t = false) :
  Calls Tryz.prog 74 #[.iface 26 (.int .i64 n), .iface 87 (.pointer (some t))] w fun ev w' => ev = .returned (.bool true) ∧ Below t.block w w' ∧ w'.cell? t = some (.int .i64 n) ∧ w'.frozen? t = false := by
 have htl : t.block < w.heap.size := by
  rcases Nat.lt_or_ge t.block w.heap.size with h | h
  ·exact h
  ·simp [World.cell?, Array.getElem?_eq_none h] at ht0
 refine (as_hitE n t old w hg ht0 hf0).mono fun ev w' ⟨he, hw⟩ => ⟨he, ?_, ?_, ?_⟩
 ·rw [hw]
  exact (((((Below.refl _ _).alloc (by omega) _).alloc (by simp; omega) _).alloc (by simp; omega) _).alloc (by simp; omega) _).setCell (Nat.le_refl _) _
 ·rw [hw]
  exact World.cell?_setCell_same _ _ _ (u := old) (by rw [World.cell?_alloc_lt _ _ t (by simp; omega), World.cell?_alloc_lt _ _ t (by simp; omega), World.cell?_alloc_lt _ _ t (by simp; omega), World.cell?_alloc_lt _ _ t htl]; exact ht0)
 ·rw [hw, World.frozen?_setCell, World.frozen?_alloc_old _ _ t (by simp; omega), World.frozen?_alloc_old _ _ t (by simp; omega), World.frozen?_alloc_old _ _ t (by simp; omega), World.frozen?_alloc_old _ _ t (Nat.ne_of_lt htl)]; exact hf0
theorem as_hitF_post (e t : Addr) (old : Value) (w : World) (hg : ErrLaid w) (ht0 : w.cell? t = some old) (hf0 : w.frozen? t = false) :
  Calls Tryz.prog 74 #[.iface 82 (.pointer (some e)), .iface 84 (.pointer (some t))] w fun ev w' => ev = .returned (.bool true) ∧ Below t.block w w' ∧ w'.cell? t = some (.pointer (some e)) ∧ w'.frozen? t = false := by
 have htl : t.block < w.heap.size := by
  rcases Nat.lt_or_ge t.block w.heap.size with h | h
  ·exact h
  ·simp [World.cell?, Array.getElem?_eq_none h] at ht0
 refine (as_hitF e t old w hg ht0 hf0).mono fun ev w' ⟨he, hw⟩ => ⟨he, ?_, ?_, ?_⟩
 ·rw [hw]
  exact (((((Below.refl _ _).alloc (by omega) _).alloc (by simp; omega) _).alloc (by simp; omega) _).alloc (by simp; omega) _).setCell (Nat.le_refl _) _
 ·rw [hw]
  exact World.cell?_setCell_same _ _ _ (u := old) (by rw [World.cell?_alloc_lt _ _ t (by simp; omega), World.cell?_alloc_lt _ _ t (by simp; omega), World.cell?_alloc_lt _ _ t (by simp; omega), World.cell?_alloc_lt _ _ t htl]; exact ht0)
 ·rw [hw, World.frozen?_setCell, World.frozen?_alloc_old _ _ t (by simp; omega), World.frozen?_alloc_old _ _ t (by simp; omega), World.frozen?_alloc_old _ _ t (by simp; omega), World.frozen?_alloc_old _ _ t (Nat.ne_of_lt htl)]; exact hf0
theorem cell_new1 (w : World) (o o' : Obj) : ((w.alloc o).alloc o').cell? ⟨w.heap.size, 0, none⟩ = (w.alloc o).cell? ⟨w.heap.size, 0, none⟩ := World.cell?_alloc_lt _ _ ⟨w.heap.size, 0, none⟩ (by simp)
theorem ErrLaid.belowB {B : Nat} {w w' : World} (h : ErrLaid w) (hb : Below B w w') (hB : 0 < B) : ErrLaid w' := (hb.cell (p := ⟨0, 0, none⟩) hB).trans h
theorem ErrLaid.lt {w : World} (h : ErrLaid w) : 0 < w.heap.size := by
 rcases Nat.lt_or_ge 0 w.heap.size with h' | h'
 ·exact h'
 ·simp [ErrLaid, World.cell?, Array.getElem?_eq_none h'] at h
theorem tell_errno (n : Int) (w : World) (hg : ErrLaid w) : Calls Tryz.prog 27 #[.iface 26 (.int .i64 n)] w fun e w' => e = .returned (.tuple #[.int .i64 n, .int .i64 (-1), .int .i64 (-1)]) ∧ Below w.heap.size w w' := by
 have hb0 : Below w.heap.size w ((w.alloc (.cells #[.int .i64 0] 26)).alloc (.cells #[.pointer none] 82)) := ((Below.refl _ _).alloc (Nat.le_refl _) _).alloc (by simp) _
 have HG := Lib.hid (hg.below hb0)
 have HB := Lib.hid hb0
 clear hg hb0
 go_enter Tryz.func27, Tryz.ntmps27
 go_wp2_with (fail)
 refine (as_missE n _ _ HG.out).mono ?_
 rintro e w1 ⟨rfl, hb1⟩
 have hc1 : w1.cell? ⟨w.heap.size, 0, none⟩ = some (.int .i64 0) := by
  rw [hb1.cell (p := ⟨w.heap.size, 0, none⟩) (by simp; omega), cell_new1]
  simp
 have hf1 : w1.frozen? ⟨w.heap.size, 0, none⟩ = false := by
  rw [hb1.frozen (p := ⟨w.heap.size, 0, none⟩) (by simp; omega)]
  rw [World.frozen?_alloc_old _ _ ⟨w.heap.size, 0, none⟩ (by simp)]
  simp
 have HG1 := Lib.hid (HG.out.below hb1)
 have HB1 := Lib.hid (HB.out.trans (hb1.mono (by simp; omega)))
 clear hb1
 go_wp2_with (fail)
 refine (as_hitE_post n _ (.int .i64 0) _ HG1.out hc1 hf1).mono ?_
 rintro e w2 ⟨rfl, hb2, hc2, hf2⟩
 have HB2 := Lib.hid (HB1.out.trans hb2)
 have hz : w.heap.size < w2.heap.size := by
  rcases Nat.lt_or_ge w.heap.size w2.heap.size with h | h
  ·exact h
  ·simp [World.cell?, Array.getElem?_eq_none h] at hc2
 clear hb2
 go_wp2
 exact bodyPost_ret (v := .tuple #[.int .i64 n, .int .i64 (-1), .int .i64 (-1)]) (by simp [results, Tryz.results27, go_sem, hc2]) rfl ⟨rfl, HB2.out.setCell (Nat.le_refl _) _⟩
end Go.Proofs.YtneohanphabneaaGreatDoor
