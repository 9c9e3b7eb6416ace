/-
Whether a word is a name: what the program answers, and what the document's answer answers, are one function. Conditions: the variable with the kept words is as it is laid.
-/
import Derived.Test.YtneohanphabneaaGreatDoorWords
namespace Go.Proofs.YtneohanphabneaaGreatDoor
set_option linter.unusedSimpArgs false
set_option linter.unusedVariables false
open Go.RowKit Go.MapKept
def wordC (c : UInt8) : Bool := letB c.toNat || digB c.toNat
def nameL : List UInt8 → Bool
 | [] => false
 | c :: r => letB c.toNat && r.all wordC
def nameB (s : ByteArray) : Bool := decide (s.size ≤ 12) && !keptB s && nameL s.data.toList
theorem empty_name {s : ByteArray} (h : s.toList.isEmpty = true) : nameB s = false := by
 have h1 : s.data.toList = [] := by rw [← ByteArray.toList_eq]; simpa using h
 simp [nameB, h1, nameL]
theorem nonempty {s : ByteArray} (h : s.toList.isEmpty = false) : 0 < s.size := by
 rcases Nat.eq_zero_or_pos s.size with h0 | h0
 ·have h1 : s.data.toList = [] := by
   apply List.eq_nil_of_length_eq_zero
   simpa using h0
  rw [ByteArray.toList_eq, h1] at h
  simp at h
 ·exact h0
theorem is_empty_of {s : ByteArray} (h : ¬ 0 < s.size) : s.toList.isEmpty = true := by
 have h1 : s.data.toList = [] := by
  apply List.eq_nil_of_length_eq_zero
  have : s.size = 0 := by omega
  simpa using this
 rw [ByteArray.toList_eq, h1]
 rfl
theorem not_empty_of {s : ByteArray} (h : 0 < s.size) : s.toList.isEmpty = false := by
 rw [Bool.eq_false_iff]
 intro h1
 have h2 : s.data.toList = [] := by rw [← ByteArray.toList_eq]; simpa using h1
 have h3 : s.data.toList.length = 0 := by rw [h2]; rfl
 have h4 : s.size = s.data.toList.length := by simp
 omega
theorem data_get (s : ByteArray) (k : Nat) (h : k < s.size) : s.data.toList[k]'(by simpa using h) = s[k] := by
 simp only [Array.getElem_toList]
 rfl
theorem name_first {s : ByteArray} (h : 0 < s.size) (h1 : letB (s[0].toNat : Int) = false) : nameB s = false := by
 have e := data_get s 0 h
 unfold nameB
 match hl : s.data.toList with
 | [] => simp [nameL]
 | c :: r =>
  simp only [hl, List.getElem_cons_zero] at e
  subst e
  simp [nameL, h1]
/-- After k bytes all is well. -/
def okTo (s : ByteArray) (k : Nat) : Bool := (s.data.toList.take k).all wordC
theorem okTo_zero (s : ByteArray) : okTo s 0 = true := rfl
theorem okTo_succ {s : ByteArray} {k : Nat} (h : k < s.size) : okTo s (k + 1) = (okTo s k && wordC s[k]) := by
 have hl : k < s.data.toList.length := by simpa using h
 unfold okTo
 rw [List.take_succ_eq_append_getElem hl, List.all_append, data_get s k h]
 simp
theorem okTo_bad {s : ByteArray} {k : Nat} (h : k < s.size) (hb : wordC s[k] = false) : okTo s s.size = false := by
 have hl : k < s.data.toList.length := by simpa using h
 unfold okTo
 rw [List.take_of_length_le (by simp)]
 rw [Bool.eq_false_iff]
 intro ha
 have := List.all_eq_true.1 ha s[k] (by rw [← data_get s k h]; exact List.getElem_mem hl)
 rw [hb] at this
 cases this
theorem letB_word {c : UInt8} (h : letB c.toNat = true) : wordC c = true := by simp [wordC, h]
theorem name_okTo {s : ByteArray} (h0 : 0 < s.size) (h12 : s.size ≤ 12) (hk : keptB s = false) (h1 : letB (s[0].toNat : Int) = true) : nameB s = okTo s s.size := by
 have e := data_get s 0 h0
 unfold nameB okTo
 rw [List.take_of_length_le (by simp)]
 match hl : s.data.toList with
 | [] =>
  have h3 : s.data.toList.length = 0 := by rw [hl]; rfl
  have h4 : s.size = s.data.toList.length := by simp
  omega
 | c :: r =>
  simp only [hl, List.getElem_cons_zero] at e
  subst e
  simp [nameL, h1, h12, hk, letB_word h1]
theorem refName_any (s : ByteArray) (w : World) (hl : KeptLaid w) :
  Calls Tryz.prog 39 #[.string s] w fun e w' => e = .returned (.bool (nameB s)) ∧ w = w' := by
 by_cases h0 : 0 < s.size
 ·have he := not_empty_of h0
  by_cases h12 : s.size ≤ 12
  ·cases hk : keptB s with
   | true =>
    have HK := hid hk
    clear hk
    have fin : nameB s = false := by simp [nameB, HK.out]
    have FIN := hid fin
    clear fin
    go_enter Tryz.func39, Tryz.ntmps39
    go_wp2_with (go_at_call 92; refine (refKept_any s _ hl).mono ?_; rintro e w' ⟨rfl, rfl⟩; rw [HK.out])
    go_ret
    exact ⟨rBo FIN.out.symm, rfl⟩
   | false =>
    have HK := hid hk
    cases h1 : letB (s[0].toNat : Int) with
    | false =>
     have FIN := hid (name_first h0 h1)
     have H1 := hid h1
     clear h1 hk
     go_enter Tryz.func39, Tryz.ntmps39
     go_wp2_with (first | (go_at_call 92; refine (refKept_any s _ hl).mono ?_; rintro e w' ⟨rfl, rfl⟩; rw [HK.out]) | (go_at_call 80; refine (isLetter_any _ _).mono ?_; rintro e w' ⟨rfl, rfl⟩; rw [H1.out]))
     go_ret
     exact ⟨rBo FIN.out.symm, rfl⟩
    | true =>
     have FIN := hid (name_okTo h0 h12 hk h1)
     have H1 := hid h1
     clear h1 hk
     go_enter Tryz.func39, Tryz.ntmps39
     go_wp2_with (first | (go_at_call 92; refine (refKept_any s _ hl).mono ?_; rintro e w' ⟨rfl, rfl⟩; rw [HK.out]) | (go_at_call 80; refine (isLetter_any _ _).mono ?_; rintro e w' ⟨rfl, rfl⟩; rw [H1.out]))
     go_loop [3] (fun i => ∃ k : Nat, k ≤ s.size ∧ i = .int .i64 k ∧ okTo s k = true) (fun i => s.size - (intOf i).toNat)
     case atStart => exact ⟨0, Nat.zero_le _, rfl, okTo_zero s⟩
     case round =>
      obtain ⟨k, hk, rfl, hok⟩ := hrel
      have HOK := hid hok
      clear hok
      by_cases hlt : k < s.size
      ·have hstep := hid (okTo_succ hlt)
       cases h2 : letB (s[k].toNat : Int) with
       | true =>
        have H2 := hid h2
        clear h2
        go_wp2_with (go_at_call 80; refine (isLetter_any _ _).mono ?_; rintro e w' ⟨rfl, rfl⟩; rw [H2.out])
        go_round
        case rel => exact ⟨k + 1, by omega, by go_num, by rw [hstep.out, HOK.out, letB_word H2.out]; rfl⟩
        case measure => simp [intOf]; omega
       | false =>
        have H2 := hid h2
        clear h2
        cases h3 : digB (s[k].toNat : Int) with
        | true =>
         have H3 := hid h3
         clear h3
         go_wp2_with (first | (go_at_call 80; refine (isLetter_any _ _).mono ?_; rintro e w' ⟨rfl, rfl⟩; rw [H2.out]) | (go_at_call 81; refine (isDigit_any _ _).mono ?_; rintro e w' ⟨rfl, rfl⟩; rw [H3.out]))
         go_round
         case rel => exact ⟨k + 1, by omega, by go_num, by rw [hstep.out, HOK.out]; simp [wordC, H3.out]⟩
         case measure => simp [intOf]; omega
        | false =>
         have H3 := hid h3
         clear h3
         go_wp2_with (first | (go_at_call 80; refine (isLetter_any _ _).mono ?_; rintro e w' ⟨rfl, rfl⟩; rw [H2.out]) | (go_at_call 81; refine (isDigit_any _ _).mono ?_; rintro e w' ⟨rfl, rfl⟩; rw [H3.out]))
         go_ret
         exact ⟨rBo (by rw [FIN.out, okTo_bad hlt (by simp [wordC, H2.out, H3.out])]), rfl⟩
      ·go_wp2
       go_ret
       exact ⟨rBo (by rw [FIN.out, ← HOK.out, show k = s.size from by omega]), rfl⟩
  ·have hgt : 12 < s.size := by omega
   have fin : nameB s = false := by simp [nameB]; intro h; omega
   have FIN := hid fin
   clear fin
   go_enter Tryz.func39, Tryz.ntmps39
   go_wp2
   go_ret
   exact ⟨rBo FIN.out.symm, rfl⟩
 ·have he := is_empty_of h0
  have FIN := hid (empty_name he)
  go_enter Tryz.func39, Tryz.ntmps39
  go_wp2
  go_ret
  exact ⟨rBo FIN.out.symm, rfl⟩
theorem letB_high (r : Int) (h : 128 ≤ r) : letB r = false := by simp [letB]; omega
theorem digB_high (r : Int) (h : 128 ≤ r) : digB r = false := by simp [digB]; omega
theorem range_below {w w' : World} {s : ByteArray} {k : Nat} {B : Nat} (hb : Below B w w') (hB : B ≤ w'.heap.size) : Below B w (w'.iter s k) := hb.alloc hB _
theorem name_bad {s : ByteArray} {k : Nat} (h : k < s.size) (hb : wordC s[k] = false) : nameB s = false := by
 have hl : k < s.data.toList.length := by simpa using h
 have hm : s[k] ∈ s.data.toList := by rw [← data_get s k h]; exact List.getElem_mem hl
 unfold nameB
 rw [Bool.and_eq_false_iff]
 right
 match s.data.toList, hm with
 | c :: r, hm =>
  rw [Bool.eq_false_iff]
  intro ha
  simp only [nameL, Bool.and_eq_true] at ha
  rcases List.mem_cons.1 hm with e | e
  ·rw [e] at hb
   rw [letB_word ha.1] at hb
   cases hb
  ·have := List.all_eq_true.1 ha.2 _ e
   rw [hb] at this
   cases this
theorem word_high {c : UInt8} (h : 128 ≤ c.toNat) : wordC c = false := by
 have h' : (128 : Int) ≤ (c.toNat : Int) := by omega
 simp [wordC, letB_high _ h', digB_high _ h']
theorem word_low {c : UInt8} (h1 : letB (c.toNat : Int) = false) (h2 : digB (c.toNat : Int) = false) : wordC c = false := by simp [wordC, h1, h2]
theorem word_dig {c : UInt8} (h2 : digB (c.toNat : Int) = true) : wordC c = true := by simp [wordC, h2]
theorem next_low (w : World) (o : Obj) (s : ByteArray) (k : Nat) (h : k < s.size) (ha : (s[k]'h).toNat < 128) (ty : TypeId) :
  (Instr.next (.pointer (some ⟨w.heap.size + 1, 0, none⟩)) true ty).run Tryz.prog ((w.alloc o).iter s k) = .ok (.tuple #[.bool true, .int .i64 k, .int .i32 (s[k]'h).toNat]) ((w.alloc o).iter s (k + 1)) := by
 have := run_next_ascii (P := Tryz.prog) (w.alloc o) s k ty h ha
 simpa using this
theorem next_high (w : World) (o : Obj) (s : ByteArray) (k : Nat) (h : k < s.size) (ha : 128 ≤ (s[k]'h).toNat) : ∃ r : Int, 128 ≤ r ∧ ∃ k', ∀ ty : TypeId,
  (Instr.next (.pointer (some ⟨w.heap.size + 1, 0, none⟩)) true ty).run Tryz.prog ((w.alloc o).iter s k) = .ok (.tuple #[.bool true, .int .i64 k, .int .i32 r]) ((w.alloc o).iter s k') := by
 have hd := decode_high s k h ha
 refine ⟨(Utf8.decode s k).1, by omega, k + (Utf8.decode s k).2, fun ty => ?_⟩
 have := run_next_any (P := Tryz.prog) (w.alloc o) s k ty h
 simpa using this
theorem next_end (w : World) (o : Obj) (s : ByteArray) (k : Nat) (h : ¬ k < s.size) (ty : TypeId) :
  (Instr.next (.pointer (some ⟨w.heap.size + 1, 0, none⟩)) true ty).run Tryz.prog ((w.alloc o).iter s k) = .ok (.tuple #[.bool false]) ((w.alloc o).iter s k) := by
 have := run_next_end (P := Tryz.prog) (w.alloc o) s k ty h
 simpa using this
theorem below_iter (w : World) (o : Obj) (s : ByteArray) (k : Nat) : Below w.heap.size w ((w.alloc o).iter s k) := ((Below.refl _ _).alloc (Nat.le_refl _) _).alloc (by simp) _
set_option maxHeartbeats 1000000 in
theorem scanName_any (s : ByteArray) (w : World) (hs : s.size ≤ maxLen) :
  Calls Tryz.prog 49 #[.string s] w fun e w' => e = .returned (.bool (nameB s)) ∧ Below w.heap.size w w' := by
 unfold maxLen at hs
 by_cases h0 : 0 < s.size
 ·have he := not_empty_of h0
  by_cases h12 : s.size ≤ 12
  ·cases hk : keptB s with
   | true =>
    have HK := hid hk
    clear hk
    have fin : nameB s = false := by simp [nameB, HK.out]
    have FIN := hid fin
    clear fin
    go_enter Tryz.func49, Tryz.ntmps49
    go_wp2_with (go_at_call 98; refine (scanKept_any s _).mono ?_; rintro e w' ⟨rfl, rfl⟩; rw [HK.out])
    go_ret
    exact ⟨rBo FIN.out.symm, (Below.refl _ _).alloc (Nat.le_refl _) _⟩
   | false =>
    have HK := hid hk
    have hd : decide ((12 : Int) < (s.size : Int)) = false := decide_eq_false (by omega)
    go_enter Tryz.func49, Tryz.ntmps49
    go_wp2_with (go_at_call 98; refine (scanKept_any s _).mono ?_; rintro e w' ⟨rfl, rfl⟩; rw [HK.out])
    obtain ⟨O, hO⟩ : ∃ O, O = litMap (setKV keptSS) := ⟨_, rfl⟩
    rw [← hO]
    clear hO
    go_loopw [3] (fun _ wr => ∃ k : Nat, k ≤ s.size ∧ wr = (w.alloc O).iter s k ∧ okTo s k = true ∧ (k = 0 ∨ letB (s[0].toNat : Int) = true)) (fun _ wr => s.size - wr.iterPos (w.heap.size + 1))
    case atStart => exact ⟨0, Nat.zero_le _, rfl, okTo_zero s, .inl rfl⟩
    case round =>
     obtain ⟨k, hk2, rfl, hok, hfirst⟩ := hrel
     have HOK := hid hok
     have HF := hid hfirst
     clear hok hfirst
     have ipos : ∀ k : Nat, ((w.alloc O).iter s k).iterPos (w.heap.size + 1) = k := fun k => by simpa using World.iterPos_iter (w.alloc O) s k
     have IPOS := hid ipos
     clear ipos
     by_cases hlt : k < s.size
     ·have hstep := hid (okTo_succ hlt)
      by_cases hlow : (s[k]'hlt).toNat < 128
      ·have hnx := next_low w O s k hlt hlow
       cases h2 : letB (s[k].toNat : Int) with
       | true =>
        have H2 := hid h2
        clear h2
        go_wp2_with (go_at_call 99; refine (letter_any _ _).mono ?_; rintro e w' ⟨rfl, rfl⟩; rw [H2.out])
        go_roundw
        case rel => exact ⟨k + 1, by omega, rfl, by rw [hstep.out, HOK.out, letB_word H2.out]; rfl, .inr (by
         rcases Nat.eq_zero_or_pos k with e | e
         ·subst e; exact H2.out
         ·rcases HF.out with e' | e'
          ·omega
          ·exact e')⟩
        case measure => rw [IPOS.out, IPOS.out]; omega
       | false =>
        have H2 := hid h2
        clear h2
        rcases Nat.eq_zero_or_pos k with e0 | e0
        ·subst e0
         have FIN := hid (name_first h0 H2.out)
         go_wp2_with (go_at_call 99; refine (letter_any _ _).mono ?_; rintro e w' ⟨rfl, rfl⟩; rw [H2.out])
         go_ret
         exact ⟨rBo FIN.out.symm, below_iter _ _ _ _⟩
        ·have hk0 : ((k : Int) == 0) = false := by simp; omega
         cases h3 : digB (s[k].toNat : Int) with
         | true =>
          have H3 := hid h3
          clear h3
          go_wp2_with (first | (go_at_call 99; refine (letter_any _ _).mono ?_; rintro e w' ⟨rfl, rfl⟩; rw [H2.out]) | (go_at_call 100; refine (digit_any _ _).mono ?_; rintro e w' ⟨rfl, rfl⟩; rw [H3.out]))
          go_roundw
          case rel => exact ⟨k + 1, by omega, rfl, by rw [hstep.out, HOK.out, word_dig H3.out]; rfl, .inr (by
           rcases HF.out with e' | e'
           ·omega
           ·exact e')⟩
          case measure => rw [IPOS.out, IPOS.out]; omega
         | false =>
          have FIN := hid (name_bad hlt (word_low H2.out h3))
          have H3 := hid h3
          clear h3
          go_wp2_with (first | (go_at_call 99; refine (letter_any _ _).mono ?_; rintro e w' ⟨rfl, rfl⟩; rw [H2.out]) | (go_at_call 100; refine (digit_any _ _).mono ?_; rintro e w' ⟨rfl, rfl⟩; rw [H3.out]))
          go_ret
          exact ⟨rBo FIN.out.symm, below_iter _ _ _ _⟩
      ·have hhigh : 128 ≤ (s[k]'hlt).toNat := by omega
       obtain ⟨r, hr, k', hnx⟩ := next_high w O s k hlt hhigh
       have H2 := hid (letB_high r hr)
       have H3 := hid (digB_high r hr)
       have FIN := hid (name_bad hlt (word_high hhigh))
       rcases Nat.eq_zero_or_pos k with e0 | e0
       ·subst e0
        go_wp2_with (go_at_call 99; refine (letter_any _ _).mono ?_; rintro e w' ⟨rfl, rfl⟩; rw [H2.out])
        go_ret
        exact ⟨rBo FIN.out.symm, below_iter _ _ _ _⟩
       ·have hk0 : ((k : Int) == 0) = false := by simp; omega
        go_wp2_with (first | (go_at_call 99; refine (letter_any _ _).mono ?_; rintro e w' ⟨rfl, rfl⟩; rw [H2.out]) | (go_at_call 100; refine (digit_any _ _).mono ?_; rintro e w' ⟨rfl, rfl⟩; rw [H3.out]))
        go_ret
        exact ⟨rBo FIN.out.symm, below_iter _ _ _ _⟩
     ·have hnx := next_end w O s k hlt
      have hks : k = s.size := by omega
      have h1 : letB (s[0].toNat : Int) = true := by
       rcases HF.out with e' | e'
       ·omega
       ·exact e'
      have fin : nameB s = true := by rw [name_okTo h0 h12 HK.out h1, ← hks]; exact HOK.out
      have FIN := hid fin
      clear fin h1 hks
      go_wp2
      go_ret
      exact ⟨rBo FIN.out.symm, below_iter _ _ _ _⟩
  ·have hgt : 12 < s.size := by omega
   have fin : nameB s = false := by simp [nameB]; intro h; omega
   have FIN := hid fin
   clear fin
   go_enter Tryz.func49, Tryz.ntmps49
   go_wp2
   go_ret
   exact ⟨rBo FIN.out.symm, Below.refl _ _⟩
 ·have he := is_empty_of h0
  have FIN := hid (empty_name he)
  go_enter Tryz.func49, Tryz.ntmps49
  go_wp2
  go_ret
  exact ⟨rBo FIN.out.symm, Below.refl _ _⟩
end Go.Proofs.YtneohanphabneaaGreatDoor
