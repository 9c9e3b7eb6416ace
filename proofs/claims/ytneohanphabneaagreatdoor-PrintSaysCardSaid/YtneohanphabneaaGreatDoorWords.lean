/-
The small tests on runes and on bytes; the kept words, as the program has them (a map that is written out) and as the document's answer has them (a slice of strings). Conditions: the slice's cells hold those strings.
-/
import Derived.Test.YtneohanphabneaaGreatDoorLit
namespace Go.Proofs.YtneohanphabneaaGreatDoor
set_option linter.unusedSimpArgs false
set_option linter.unusedVariables false
open Go.RowKit Go.MapKept
def letB (x : Int) : Bool := decide (97 ≤ x) && decide (x ≤ 122) || decide (65 ≤ x) && decide (x ≤ 90)
def digB (x : Int) : Bool := decide (48 ≤ x) && decide (x ≤ 57)
theorem letter_any (x : Int) (w : World) :
    Calls Tryz.prog 99 #[.int .i32 x] w fun e w' => e = .returned (.bool (letB x)) ∧ w = w' := by
  unfold letB
  go_enter Tryz.func99, Tryz.ntmps99
  go_wp2
  all_goals go_ret
  all_goals (refine ⟨rBo ?_, rfl⟩; first | (simp [*]; done) | (rw [Bool.eq_iff_iff]; simp; omega))
theorem digit_any (x : Int) (w : World) :
    Calls Tryz.prog 100 #[.int .i32 x] w fun e w' => e = .returned (.bool (digB x)) ∧ w = w' := by
  unfold digB
  go_enter Tryz.func100, Tryz.ntmps100
  go_wp2
  all_goals go_ret
  all_goals (refine ⟨rBo ?_, rfl⟩; first | (simp [*]; done) | (rw [Bool.eq_iff_iff]; simp; omega))
theorem isLetter_any (x : Int) (w : World) :
    Calls Tryz.prog 80 #[.int .u8 x] w fun e w' => e = .returned (.bool (letB x)) ∧ w = w' := by
  unfold letB
  go_enter Tryz.func80, Tryz.ntmps80
  go_wp2
  all_goals go_ret
  all_goals (refine ⟨rBo ?_, rfl⟩; first | (simp [*]; done) | (rw [Bool.eq_iff_iff]; simp; omega))
theorem isDigit_any (x : Int) (w : World) :
    Calls Tryz.prog 81 #[.int .u8 x] w fun e w' => e = .returned (.bool (digB x)) ∧ w = w' := by
  unfold digB
  go_enter Tryz.func81, Tryz.ntmps81
  go_wp2
  all_goals go_ret
  all_goals (refine ⟨rBo ?_, rfl⟩; first | (simp [*]; done) | (rw [Bool.eq_iff_iff]; simp; omega))
def keptWords : List (List UInt8) :=
  [[77, 79, 68, 85, 76, 69],
   [73, 77, 80, 79, 82, 84],
   [67, 79, 78, 83, 84],
   [84, 89, 80, 69],
   [86, 65, 82],
   [80, 82, 79, 67, 69, 68, 85, 82, 69],
   [66, 69, 71, 73, 78],
   [69, 78, 68],
   [73, 70],
   [84, 72, 69, 78],
   [69, 76, 83, 73, 70],
   [69, 76, 83, 69],
   [87, 72, 73, 76, 69],
   [68, 79],
   [82, 69, 80, 69, 65, 84],
   [85, 78, 84, 73, 76],
   [82, 69, 84, 85, 82, 78],
   [65, 82, 82, 65, 89],
   [79, 70],
   [82, 69, 67, 79, 82, 68],
   [80, 79, 73, 78, 84, 69, 82],
   [84, 79],
   [78, 73, 76],
   [84, 82, 85, 69],
   [70, 65, 76, 83, 69],
   [68, 73, 86],
   [77, 79, 68],
   [79, 82],
   [73, 83],
   [78, 69, 87],
   [79, 85, 84],
   [71, 69, 84],
   [65, 83, 83, 69, 82, 84]]
def wordsOf (l : List (List UInt8)) : List ByteArray := l.map fun b => ⟨b.toArray⟩
def keptSS : List ByteArray := wordsOf keptWords
def keptB (s : ByteArray) : Bool := keptSS.any (· == s)
def setKV (l : List ByteArray) : List (Value × Value) := l.map fun b => (.string b, .bool true)
def sameStr (s : ByteArray) : Value → Bool | .string t => s == t | _ => false
theorem same_setKV (l : List ByteArray) (s : ByteArray) : ∀ p ∈ setKV l, Instr.sameNow .string (.string s) p.1 = some (sameStr s p.1) := by
  intro p hp
  obtain ⟨b, _, rfl⟩ := List.mem_map.1 hp
  rfl
theorem look_setKV (s : ByteArray) : ∀ l : List ByteArray, look (setKV l) (sameStr s) (.bool false) = .bool (l.any (· == s))
  | [] => rfl
  | b :: r => by
    have ih := look_setKV s r
    unfold setKV at ih ⊢
    have e : sameStr s (.string b) = (b == s) := by
      show (s == b) = (b == s)
      rw [Bool.eq_iff_iff, beq_iff_eq, beq_iff_eq]
      exact eq_comm
    simp only [List.map_cons, look, List.any_cons, e]
    by_cases h : (b == s) = true
    · simp [h]
    · have h1 : (b == s) = false := by simpa using h
      rw [h1, Bool.false_or, ← ih]
      rfl
set_option maxRecDepth 100000 in
set_option maxHeartbeats 1000000 in
theorem keptMap_any (w : World) :
    Calls Tryz.prog 134 #[] w fun e w' => e = .returned (.map (some w.heap.size)) ∧ w.alloc (litMap (setKV keptSS)) = w' := by
  have hmm := @run_makeLit Tryz.prog
  go_enter Tryz.func134, Tryz.ntmps134
  go_wp2_with (refine wpList_insert rfl 105 (.tmp 1) _ _ rfl w.heap.size rfl w _ rfl rfl 9 4 .string Tryz.underlying105 Tryz.underlying9 ?_ ?_ ?_; (· trivial); (· rfl))
  go_ret
  exact ⟨rfl, rfl⟩
theorem zero_bool (w : World) : (zeroValue 4).run Tryz.prog w = .ok (.bool false) w := by kernel_rfl
theorem heap_new (w : World) (o : Obj) : (w.alloc o).heap[w.heap.size]? = some o := (heap_alloc w o).1
theorem scanKept_any (s : ByteArray) (w : World) :
    Calls Tryz.prog 98 #[.string s] w fun e w' => e = .returned (.bool (keptB s)) ∧ w.alloc (litMap (setKV keptSS)) = w' := by
  go_enter Tryz.func98, Tryz.ntmps98
  go_wp2_with (first
    | (go_at_call 134; refine (keptMap_any _).mono ?_; rintro e w' ⟨rfl, rfl⟩)
    | (at_lookup; refine wpList_look _ rfl 105 _ _ rfl w.heap.size (setKV keptSS) (.string s) (.bool false) rfl rfl 9 4 .string Tryz.underlying105 Tryz.underlying9 (heap_new _ _) trivial (sameStr s) (same_setKV _ _) (zero_bool _) ?_; rw [look_setKV]))
  go_ret
  exact ⟨rfl, rfl⟩
theorem toList_eq_of {a b : ByteArray} (h : (a.toList == b.toList) = true) : a = b := by
  have h' := eq_of_beq h
  rw [ByteArray.toList_eq, ByteArray.toList_eq] at h'
  cases a; cases b
  exact congrArg ByteArray.mk (Array.ext' h')
theorem toList_ne_of {a b : ByteArray} (h : (a.toList == b.toList) = false) : (a == b) = false := by
  rw [beq_eq_false_iff_ne] at h ⊢
  exact fun e => h (by rw [e])
theorem any_hit {ss : List ByteArray} {s : ByteArray} {k : Nat} (hk : k < ss.length) (h : ss[k] = s) : ss.any (· == s) = true :=
  List.any_eq_true.2 ⟨ss[k], List.getElem_mem hk, by rw [h]; exact beq_self_eq_true _⟩
theorem any_step {ss : List ByteArray} {s : ByteArray} {k : Nat} (hk : k < ss.length) (h0 : (ss.take k).any (· == s) = false) (h : (ss[k].toList == s.toList) = false) : (ss.take (k + 1)).any (· == s) = false := by
  rw [List.take_succ_eq_append_getElem hk, List.any_append, h0]
  simp [toList_ne_of h]
theorem in_any (s : ByteArray) (b o c : Nat) (ss : List ByteArray) (w : World) (hl : ss.length ≤ 65536) (hc : ∀ i (h : i < ss.length), w.cell? ⟨b, o + i, none⟩ = some (.string ss[i])) :
    Calls Tryz.prog 77 #[.string s, .slice (some ⟨b, o, none⟩) ss.length c] w fun e w' => e = .returned (.bool (ss.any (· == s))) ∧ w = w' := by
  have HC := hid hc
  clear hc
  go_enter Tryz.func77, Tryz.ntmps77
  go_wp2
  go_loop [5] (fun i => ∃ k : Nat, k ≤ ss.length ∧ i = .int .i64 k ∧ (ss.take k).any (· == s) = false) (fun i => ss.length - (intOf i).toNat)
  case atStart => exact ⟨0, Nat.zero_le _, rfl, rfl⟩
  case round =>
    obtain ⟨k, hk, rfl, hn⟩ := hrel
    have HN := hid hn
    clear hn
    by_cases hlt : k < ss.length
    · have hcell := HC.out k hlt
      go_wp2
      · go_ret
        have h1 : ss[k] = s := toList_eq_of (by assumption)
        exact ⟨rBo (any_hit hlt h1).symm, rfl⟩
      · have h1 : (ss[k].toList == s.toList) = false := by assumption
        have h2 := any_step hlt HN.out h1
        clear h1
        go_round
        case rel => exact ⟨k + 1, by omega, by go_num, h2⟩
        case measure => simp [intOf]; omega
    · go_wp2
      go_ret
      have := HN.out
      rw [List.take_of_length_le (by omega)] at this
      exact ⟨rBo this.symm, rfl⟩
/-- The variable with the kept words, as it is laid. -/
def KeptLaid (w : World) : Prop := ∃ b o c, w.cell? ⟨1, 0, none⟩ = some (.slice (some ⟨b, o, none⟩) keptSS.length c) ∧ ∀ i (h : i < keptSS.length), w.cell? ⟨b, o + i, none⟩ = some (.string keptSS[i])
theorem lt_of_cell {w : World} {a : Addr} {v : Value} (h : w.cell? a = some v) : a.block < w.heap.size := by
  rcases Nat.lt_or_ge a.block w.heap.size with h' | h'
  · exact h'
  · simp [World.cell?, Array.getElem?_eq_none h'] at h
theorem keep_cell {w w' : World} (hb : Below w.heap.size w w') {a : Addr} {v : Value} (h : w.cell? a = some v) : w'.cell? a = some v := (hb.cell (lt_of_cell h)).trans h
theorem KeptLaid.below {w w' : World} (h : KeptLaid w) (hb : Below w.heap.size w w') : KeptLaid w' := by
  obtain ⟨b, o, c, h1, h2⟩ := h
  exact ⟨b, o, c, keep_cell hb h1, fun i hi => keep_cell hb (h2 i hi)⟩
theorem refKept_any (s : ByteArray) (w : World) (hl : KeptLaid w) :
    Calls Tryz.prog 92 #[.string s] w fun e w' => e = .returned (.bool (keptB s)) ∧ w = w' := by
  obtain ⟨b, o, c, h1, h2⟩ := hl
  have HC := hid h2
  clear h2
  go_enter Tryz.func92, Tryz.ntmps92
  go_wp2_with (go_at_call 77; refine (in_any s b o c keptSS _ (by decide) HC.out).mono ?_; rintro e w' ⟨rfl, rfl⟩)
  go_ret
  exact ⟨rfl, rfl⟩
end Go.Proofs.YtneohanphabneaaGreatDoor
