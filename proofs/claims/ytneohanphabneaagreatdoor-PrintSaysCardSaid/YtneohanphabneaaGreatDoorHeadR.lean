/-
The document's answer on shapes, the small ones: a head, a type name, a type. Conditions: the tree lies in memory; the variable with the kept words is as it is laid.
-/
import Derived.Test.YtneohanphabneaaGreatDoorShape
namespace Go.Proofs.YtneohanphabneaaGreatDoor
set_option linter.unusedSimpArgs false
set_option linter.unusedVariables false
open Go.RowKit
theorem emptyB_true {s : ByteArray} (h : s.toList.isEmpty = true) : emptyB s = true := by
 simp only [emptyB, decide_eq_true_eq]
 rcases Nat.eq_zero_or_pos s.size with h0 | h0
 ·exact h0
 ·rw [not_empty_of h0] at h; cases h
theorem emptyB_false {s : ByteArray} (h : s.toList.isEmpty = false) : emptyB s = false := by
 simp only [emptyB, decide_eq_false_iff_not]
 have := nonempty h
 omega
theorem empty_eq (s : ByteArray) : s.toList.isEmpty = emptyB s := by
 cases h : s.toList.isEmpty with
 | true => rw [emptyB_true h]
 | false => rw [emptyB_false h]
set_option maxHeartbeats 1000000 in
theorem head_any (n : Nd) (A : Option Addr) (c : Nat) (kind : Int) (named : Bool) (most many : Int) (w : World) (hl : KeptLaid w) (hlen : n.subs.length ≤ maxLen) :
  Calls Tryz.prog 18 #[.agg #[.int .i64 n.kind, .string n.name, .int .i64 n.num, .int .i64 n.pos, .slice A n.subs.length c], .int .i64 kind, .bool named, .int .i64 most, .int .i64 many] w fun e w' => e = .returned (.bool (headB n kind named most many)) ∧ Below w.heap.size w w' := by
 obtain ⟨k, s, num, pos, subs⟩ := n
 unfold maxLen at hlen
 simp only at hlen
 have HL := hid (hl.below (bBw w (.cells #[.int .i64 k, .string s, .int .i64 num, .int .i64 pos, .slice A subs.length c] 24)))
 clear hl
 by_cases h1 : k = kind
 ·subst h1
  by_cases h2 : num < 0
  ·go_enter Tryz.func18, Tryz.ntmps18
   go_wp2
   go_ret
   exact ⟨rBo (by simp [headB]; omega), bBw _ _⟩
  ·by_cases h3 : most < num
   ·go_enter Tryz.func18, Tryz.ntmps18
    go_wp2
    go_ret
    exact ⟨rBo (by simp [headB]; omega), bBw _ _⟩
   ·by_cases h4 : 0 ≤ many ∧ (subs.length : Int) ≠ many
    ·obtain ⟨h4a, h4b⟩ := h4
     have h4c : ((subs.length : Int) != many) = true := by simpa using h4b
     go_enter Tryz.func18, Tryz.ntmps18
     go_wp2
     go_ret
     exact ⟨rBo (by simp [headB]; omega), bBw _ _⟩
    ·have h5 : headB ⟨k, s, num, pos, subs⟩ k named most many = if named then nameB s else emptyB s := by
      have : (decide (many < 0) || decide ((subs.length : Int) = many)) = true := by simp; omega
      simp only [headB]
      rw [this]
      simp [show 0 ≤ num by omega, show num ≤ most by omega]
     have H5 := hid h5
     clear h5
     have hm : many < 0 ∨ (0 ≤ many ∧ (subs.length : Int) = many) := by omega
     clear h4
     have HM := hid hm
     clear hm
     cases named with
     | true =>
      rcases HM.out with hm | ⟨hm1, hm2⟩
      ·go_enter Tryz.func18, Tryz.ntmps18
       go_wp2_with (go_at_call 39; refine (refName_any s _ HL.out).mono ?_; rintro e w' ⟨rfl, rfl⟩)
       go_ret
       exact ⟨rBo H5.out.symm, bBw _ _⟩
      ·have hm3 : ((subs.length : Int) != many) = false := by simpa using hm2
       have HM2 := hid hm2
       clear hm2
       go_enter Tryz.func18, Tryz.ntmps18
       go_wp2_with (go_at_call 39; refine (refName_any s _ HL.out).mono ?_; rintro e w' ⟨rfl, rfl⟩)
       go_ret
       exact ⟨rBo H5.out.symm, bBw _ _⟩
     | false =>
      rcases HM.out with hm | ⟨hm1, hm2⟩
      ·go_enter Tryz.func18, Tryz.ntmps18
       go_wp2
       go_ret
       exact ⟨rBo (by rw [H5.out]; simp [empty_eq]), bBw _ _⟩
      ·have hm3 : ((subs.length : Int) != many) = false := by simpa using hm2
       have HM2 := hid hm2
       clear hm2
       go_enter Tryz.func18, Tryz.ntmps18
       go_wp2
       go_ret
       exact ⟨rBo (by rw [H5.out]; simp [empty_eq]), bBw _ _⟩
 ·have h1b : (k != kind) = true := by simpa using h1
  go_enter Tryz.func18, Tryz.ntmps18
  go_wp2
  go_ret
  exact ⟨rBo (by simp [headB, h1]), bBw _ _⟩
end Go.Proofs.YtneohanphabneaaGreatDoor
