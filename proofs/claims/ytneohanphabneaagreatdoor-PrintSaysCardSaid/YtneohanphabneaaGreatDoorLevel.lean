/-
The level of an operator, as the document's answer has it. Conditions: none.
-/
import Derived.Test.YtneohanphabneaaGreatDoorShape
namespace Go.Proofs.YtneohanphabneaaGreatDoor
set_option linter.unusedSimpArgs false
set_option linter.unusedVariables false
open Go.RowKit
theorem lit_cells (w : World) (ss : List ByteArray) (arr : Array Value) (T : TypeId) (harr : arr = (ss.map Value.string).toArray) (i : Nat) (h : i < ss.length) : (w.alloc (.cells arr T)).cell? ⟨w.heap.size, 0 + i, none⟩ = some (.string ss[i]) := by
 subst harr
 rw [World.cell?_alloc_new]
 simp [h]
theorem levelOf_any (s : ByteArray) (w : World) :
  Calls Tryz.prog 30 #[.string s] w fun e w' => e = .returned (.int .i64 (levelN s)) ∧ Below w.heap.size w w' := by
 have hb0 := bBw w
 have HBX := hid hb0
 clear hb0
 cases h0 : inB s relL with
 | true =>
  have FIN := hid (show levelN s = 0 by simp [levelN, h0])
  have H0 := hid h0
  clear h0
  go_enter Tryz.func30, Tryz.ntmps30
  go_wp2_with fail
  refine (in_any s w.heap.size 0 _ (wordsOf relL) _ (by decide) (lit_cells w (wordsOf relL) _ _ rfl)).mono ?_
  rintro e w' ⟨rfl, rfl⟩
  rw [show ((wordsOf relL).any fun x => x == s) = true from H0.out]
  go_wp2
  go_ret
  exact ⟨ret_int FIN.out.symm, HBX.out _⟩
 | false =>
  cases h1 : inB s sumL with
  | true =>
   have FIN := hid (show levelN s = 1 by simp [levelN, h0, h1])
   have H0 := hid h0
   have H1 := hid h1
   clear h0 h1
   go_enter Tryz.func30, Tryz.ntmps30
   go_wp2_with fail
   refine (in_any s w.heap.size 0 _ (wordsOf relL) _ (by decide) (lit_cells w (wordsOf relL) _ _ rfl)).mono ?_
   rintro e w' ⟨rfl, rfl⟩
   rw [show ((wordsOf relL).any fun x => x == s) = false from H0.out]
   generalize hw1 : w.alloc _ = w1
   have HB1 := hid (show Below w.heap.size w w1 by rw [← hw1]; exact HBX.out _)
   clear hw1
   go_wp2_with fail
   refine (in_any s w1.heap.size 0 _ (wordsOf sumL) _ (by decide) (lit_cells w1 (wordsOf sumL) _ _ rfl)).mono ?_
   rintro e w' ⟨rfl, rfl⟩
   rw [show ((wordsOf sumL).any fun x => x == s) = true from H1.out]
   go_wp2
   go_ret
   exact ⟨ret_int FIN.out.symm, bTh HB1.out (bBw _ _)⟩
  | false =>
   cases h2 : inB s mulL with
   | true =>
    have FIN := hid (show levelN s = 2 by simp [levelN, h0, h1, h2])
    have H0 := hid h0
    have H1 := hid h1
    have H2 := hid h2
    clear h0 h1 h2
    go_enter Tryz.func30, Tryz.ntmps30
    go_wp2_with fail
    refine (in_any s w.heap.size 0 _ (wordsOf relL) _ (by decide) (lit_cells w (wordsOf relL) _ _ rfl)).mono ?_
    rintro e w' ⟨rfl, rfl⟩
    rw [show ((wordsOf relL).any fun x => x == s) = false from H0.out]
    generalize hw1 : w.alloc _ = w1
    have HB1 := hid (show Below w.heap.size w w1 by rw [← hw1]; exact HBX.out _)
    clear hw1
    go_wp2_with fail
    refine (in_any s w1.heap.size 0 _ (wordsOf sumL) _ (by decide) (lit_cells w1 (wordsOf sumL) _ _ rfl)).mono ?_
    rintro e w' ⟨rfl, rfl⟩
    rw [show ((wordsOf sumL).any fun x => x == s) = false from H1.out]
    generalize hw2 : w1.alloc _ = w2
    have HB2 := hid (show Below w.heap.size w w2 by rw [← hw2]; exact bTh HB1.out (bBw _ _))
    clear hw2
    go_wp2_with fail
    refine (in_any s w2.heap.size 0 _ (wordsOf mulL) _ (by decide) (lit_cells w2 (wordsOf mulL) _ _ rfl)).mono ?_
    rintro e w' ⟨rfl, rfl⟩
    rw [show ((wordsOf mulL).any fun x => x == s) = true from H2.out]
    go_wp2
    go_ret
    exact ⟨ret_int FIN.out.symm, bTh HB2.out (bBw _ _)⟩
   | false =>
    have FIN := hid (show levelN s = -1 by simp [levelN, h0, h1, h2])
    have H0 := hid h0
    have H1 := hid h1
    have H2 := hid h2
    clear h0 h1 h2
    go_enter Tryz.func30, Tryz.ntmps30
    go_wp2_with fail
    refine (in_any s w.heap.size 0 _ (wordsOf relL) _ (by decide) (lit_cells w (wordsOf relL) _ _ rfl)).mono ?_
    rintro e w' ⟨rfl, rfl⟩
    rw [show ((wordsOf relL).any fun x => x == s) = false from H0.out]
    generalize hw1 : w.alloc _ = w1
    have HB1 := hid (show Below w.heap.size w w1 by rw [← hw1]; exact HBX.out _)
    clear hw1
    go_wp2_with fail
    refine (in_any s w1.heap.size 0 _ (wordsOf sumL) _ (by decide) (lit_cells w1 (wordsOf sumL) _ _ rfl)).mono ?_
    rintro e w' ⟨rfl, rfl⟩
    rw [show ((wordsOf sumL).any fun x => x == s) = false from H1.out]
    generalize hw2 : w1.alloc _ = w2
    have HB2 := hid (show Below w.heap.size w w2 by rw [← hw2]; exact bTh HB1.out (bBw _ _))
    clear hw2
    go_wp2_with fail
    refine (in_any s w2.heap.size 0 _ (wordsOf mulL) _ (by decide) (lit_cells w2 (wordsOf mulL) _ _ rfl)).mono ?_
    rintro e w' ⟨rfl, rfl⟩
    rw [show ((wordsOf mulL).any fun x => x == s) = false from H2.out]
    go_wp2
    go_ret
    exact ⟨ret_int FIN.out.symm, bTh HB2.out (bBw _ _)⟩
end Go.Proofs.YtneohanphabneaaGreatDoor
