/-
The program's text of a tree, the walks: the level of an operator. Conditions: none.
-/
import Derived.Test.YtneohanphabneaaGreatDoorLevel
import Derived.Test.YtneohanphabneaaGreatDoorText
namespace Go.Proofs.YtneohanphabneaaGreatDoor
set_option linter.unusedSimpArgs false
set_option linter.unusedVariables false
open Go.RowKit
/-- 'level'. -/
def levelP (s : ByteArray) : Int := if inB s sumL then 1 else if inB s mulL then 2 else 0
theorem levelP_eq {s : ByteArray} (h : 0 ≤ levelN s) : levelP s = levelN s := by
 unfold levelN at h ⊢
 unfold levelP
 cases h1 : inB s relL with
 | false =>
  simp only [h1] at h ⊢
  cases h2 : inB s sumL <;> cases h3 : inB s mulL <;> simp_all
 | true =>
  have : inB s sumL = false ∧ inB s mulL = false := by
   simp only [inB, wordsOf, relL, sumL, mulL, List.map, List.any_cons, List.any_nil, Bool.or_false, Bool.or_eq_true] at h1 ⊢
   simp only [beq_iff_eq] at h1
   rcases h1 with h1 | h1 | h1 | h1 | h1 | h1 <;> subst h1 <;> exact ⟨by rfl, by rfl⟩
  simp [this.1, this.2]
theorem strEq (s : ByteArray) (l : List UInt8) : (s.toList == l) = ((⟨l.toArray⟩ : ByteArray) == s) := by
 rw [Bool.eq_iff_iff]
 simp only [beq_iff_eq]
 constructor
 ·intro h
  apply ba_ext
  rw [← h, ByteArray.toList_eq]
 ·intro h
  rw [← h, ByteArray.toList_eq]
theorem levelP_form (s : ByteArray) : levelP s = if (s.toList == [43]) || (s.toList == [45]) || (s.toList == [79, 82]) then 1 else if (s.toList == [42]) || (s.toList == [68, 73, 86]) || (s.toList == [77, 79, 68]) || (s.toList == [38]) then 2 else 0 := by
 simp only [strEq, levelP, inB, wordsOf, sumL, mulL, List.map, List.any_cons, List.any_nil, Bool.or_false, Bool.or_assoc]
theorem level_any (s : ByteArray) (w : World) :
  Calls Tryz.prog 117 #[.string s] w fun e w' => e = .returned (.int .i64 (levelP s)) ∧ w = w' := by
 have HF := hid (levelP_form s)
 cases h0 : (s.toList == [43]) with
 | true =>
  have FIN := hid (show levelP s = 1 by rw [HF.out]; simp [h0])
  go_enter Tryz.func117, Tryz.ntmps117
  go_wp2
  go_ret
  exact ⟨ret_int FIN.out.symm, rfl⟩
 | false =>
  cases h1 : (s.toList == [45]) with
  | true =>
   have FIN := hid (show levelP s = 1 by rw [HF.out]; simp [h0, h1])
   go_enter Tryz.func117, Tryz.ntmps117
   go_wp2
   go_ret
   exact ⟨ret_int FIN.out.symm, rfl⟩
  | false =>
   cases h2 : (s.toList == [79, 82]) with
   | true =>
    have FIN := hid (show levelP s = 1 by rw [HF.out]; simp [h0, h1, h2])
    go_enter Tryz.func117, Tryz.ntmps117
    go_wp2
    go_ret
    exact ⟨ret_int FIN.out.symm, rfl⟩
   | false =>
    cases h3 : (s.toList == [42]) with
    | true =>
     have FIN := hid (show levelP s = 2 by rw [HF.out]; simp [h0, h1, h2, h3])
     go_enter Tryz.func117, Tryz.ntmps117
     go_wp2
     go_ret
     exact ⟨ret_int FIN.out.symm, rfl⟩
    | false =>
     cases h4 : (s.toList == [68, 73, 86]) with
     | true =>
      have FIN := hid (show levelP s = 2 by rw [HF.out]; simp [h0, h1, h2, h3, h4])
      go_enter Tryz.func117, Tryz.ntmps117
      go_wp2
      go_ret
      exact ⟨ret_int FIN.out.symm, rfl⟩
     | false =>
      cases h5 : (s.toList == [77, 79, 68]) with
      | true =>
       have FIN := hid (show levelP s = 2 by rw [HF.out]; simp [h0, h1, h2, h3, h4, h5])
       go_enter Tryz.func117, Tryz.ntmps117
       go_wp2
       go_ret
       exact ⟨ret_int FIN.out.symm, rfl⟩
      | false =>
       cases h6 : (s.toList == [38]) with
       | true =>
        have FIN := hid (show levelP s = 2 by rw [HF.out]; simp [h0, h1, h2, h3, h4, h5, h6])
        go_enter Tryz.func117, Tryz.ntmps117
        go_wp2
        go_ret
        exact ⟨ret_int FIN.out.symm, rfl⟩
       | false =>
        have FIN := hid (show levelP s = 0 by rw [HF.out]; simp [h0, h1, h2, h3, h4, h5, h6])
        go_enter Tryz.func117, Tryz.ntmps117
        go_wp2
        go_ret
        exact ⟨ret_int FIN.out.symm, rfl⟩
end Go.Proofs.YtneohanphabneaaGreatDoor
