/-
The document's answer on shapes, the walks: type names, designators, expressions. Conditions: the tree lies in memory; the variable with the kept words is as it is laid.
-/
import Derived.Test.YtneohanphabneaaGreatDoorBase
namespace Go.Proofs.YtneohanphabneaaGreatDoor
set_option linter.unusedSimpArgs false
set_option linter.unusedVariables false
open Go.RowKit
theorem headB_len {n : Nd} {kind most many : Int} {named : Bool} (h : headB n kind named most many = true) (hm : 0 ≤ many) : (n.subs.length : Int) = many := by
 simp [headB] at h
 omega
theorem len1 {l : List Nd} (h : (l.length : Int) = 1) : ∃ x, l = [x] := by
 match l, h with
 | [x], _ => exact ⟨x, rfl⟩
 | [], h => simp at h
 | _ :: _ :: _, h => simp at h; omega
theorem len2 {l : List Nd} (h : (l.length : Int) = 2) : ∃ x y, l = [x, y] := by
 match l, h with
 | [x, y], _ => exact ⟨x, y, rfl⟩
 | [], h => simp at h
 | [_], h => simp at h
 | _ :: _ :: _ :: _, h => simp at h; omega
set_option maxHeartbeats 1000000 in
theorem nameShaped_any (d : Nat) (n : Nd) (A : Option Addr) (c : Nat) (w : World) (hl : KeptLaid w) (hk : Kids w d n A c) :
  Calls Tryz.prog 42 #[.agg #[.int .i64 n.kind, .string n.name, .int .i64 n.num, .int .i64 n.pos, .slice A n.subs.length c]] w fun e w' => e = .returned (.bool (nameS n)) ∧ Below w.heap.size w w' := by
 obtain ⟨d, rfl⟩ : ∃ d', d = d' + 1 := by cases d with | zero => exact hk.elim | succ d => exact ⟨d, rfl⟩
 obtain ⟨k, s, num, pos, subs⟩ := n
 have hlen := hk.len
 unfold maxLen at hlen
 simp only at hlen
 rcases subs with _ | ⟨x, _ | ⟨y, r⟩⟩
 ·skip
  simp only [List.length_cons, List.length_nil, Nat.zero_add] at hlen
  have HAT := hid (bAt w ⟨k, s, num, pos, []⟩ A c 24)
  have HL := hid (hl.below (bBw w (.cells #[.int .i64 k, .string s, .int .i64 num, .int .i64 pos, .slice A 0 c] 24)))
  clear hl hk
  cases hh : headB ⟨k, s, num, pos, []⟩ 13 true 0 (-1) with
  | false =>
   have HH := hid hh
   clear hh
   go_enter Tryz.func42, Tryz.ntmps42
   go_wp2_with fail
   generalize hW0 : w.alloc (.cells #[.int .i64 k, .string s, .int .i64 num, .int .i64 pos, .slice A 0 c] 24) = W0 at *
   refine (head_any ⟨k, s, num, pos, []⟩ A c 13 true 0 (-1) _ HL.out (by simp only [List.length_cons, List.length_nil]; unfold maxLen; omega)).mono ?_
   rintro e w1 ⟨rfl, hb1⟩
   rw [HH.out]
   have HC1 := hid hb1
   have HB1 := hid (show Below w.heap.size w w1 by rw [← hW0] at hb1; exact box_step hb1)
   clear hb1 hW0
   obtain ⟨x0, x1, x2, x3, x4⟩ := nb HAT HC1
   go_wp2
   go_ret
   exact ⟨rBo (by simp [nameS, HH.out, Nd.sub]), HB1.out⟩
  | true =>
   have HH := hid hh
   clear hh
   go_enter Tryz.func42, Tryz.ntmps42
   go_wp2_with fail
   generalize hW0 : w.alloc (.cells #[.int .i64 k, .string s, .int .i64 num, .int .i64 pos, .slice A 0 c] 24) = W0 at *
   refine (head_any ⟨k, s, num, pos, []⟩ A c 13 true 0 (-1) _ HL.out (by simp only [List.length_cons, List.length_nil]; unfold maxLen; omega)).mono ?_
   rintro e w1 ⟨rfl, hb1⟩
   rw [HH.out]
   have HC1 := hid hb1
   have HB1 := hid (show Below w.heap.size w w1 by rw [← hW0] at hb1; exact box_step hb1)
   clear hb1 hW0
   obtain ⟨x0, x1, x2, x3, x4⟩ := nb HAT HC1
   go_wp2
   go_ret
   exact ⟨rBo (by simp [nameS, HH.out, Nd.sub]), HB1.out⟩
 ·skip
  simp only [List.length_cons, List.length_nil, Nat.zero_add] at hlen
  obtain ⟨b, o, Ax, cx, rfl, hx_x, hk_x⟩ := hk.one (x := x) (r := []) rfl
  have HAT := hid (bAt w ⟨k, s, num, pos, [x]⟩ (some ⟨b, o, none⟩) c 24)
  have HL := hid (hl.below (bBw w (.cells #[.int .i64 k, .string s, .int .i64 num, .int .i64 pos, .slice (some ⟨b, o, none⟩) 1 c] 24)))
  have HX_x := hid (hx_x.below (bBw w (.cells #[.int .i64 k, .string s, .int .i64 num, .int .i64 pos, .slice (some ⟨b, o, none⟩) 1 c] 24)))
  have HK_x := hid (hk_x.below (bBw w (.cells #[.int .i64 k, .string s, .int .i64 num, .int .i64 pos, .slice (some ⟨b, o, none⟩) 1 c] 24)))
  clear hx_x hk_x
  clear hl hk
  cases hh : headB ⟨k, s, num, pos, [x]⟩ 13 true 0 (-1) with
  | false =>
   have HH := hid hh
   clear hh
   obtain ⟨fx0, fx1, fx2, fx3, fx4⟩ := HX_x.out
   go_enter Tryz.func42, Tryz.ntmps42
   go_wp2_with fail
   generalize hW0 : w.alloc (.cells #[.int .i64 k, .string s, .int .i64 num, .int .i64 pos, .slice (some ⟨b, o, none⟩) 1 c] 24) = W0 at *
   refine (head_any ⟨k, s, num, pos, [x]⟩ (some ⟨b, o, none⟩) c 13 true 0 (-1) _ HL.out (by simp only [List.length_cons, List.length_nil]; unfold maxLen; omega)).mono ?_
   rintro e w1 ⟨rfl, hb1⟩
   rw [HH.out]
   clear fx0 fx1 fx2 fx3 fx4
   have HC1 := hid hb1
   have HB1 := hid (show Below w.heap.size w w1 by rw [← hW0] at hb1; exact box_step hb1)
   clear hb1 hW0
   obtain ⟨x0, x1, x2, x3, x4⟩ := nb HAT HC1
   obtain ⟨fx0, fx1, fx2, fx3, fx4⟩ := nb HX_x HC1
   go_wp2
   go_ret
   exact ⟨rBo (by simp [nameS, HH.out, Nd.sub]), HB1.out⟩
  | true =>
   have HH := hid hh
   clear hh
   obtain ⟨fx0, fx1, fx2, fx3, fx4⟩ := HX_x.out
   go_enter Tryz.func42, Tryz.ntmps42
   go_wp2_with fail
   generalize hW0 : w.alloc (.cells #[.int .i64 k, .string s, .int .i64 num, .int .i64 pos, .slice (some ⟨b, o, none⟩) 1 c] 24) = W0 at *
   refine (head_any ⟨k, s, num, pos, [x]⟩ (some ⟨b, o, none⟩) c 13 true 0 (-1) _ HL.out (by simp only [List.length_cons, List.length_nil]; unfold maxLen; omega)).mono ?_
   rintro e w1 ⟨rfl, hb1⟩
   rw [HH.out]
   clear fx0 fx1 fx2 fx3 fx4
   have HC1 := hid hb1
   have HB1 := hid (show Below w.heap.size w w1 by rw [← hW0] at hb1; exact box_step hb1)
   clear hb1 hW0
   obtain ⟨x0, x1, x2, x3, x4⟩ := nb HAT HC1
   obtain ⟨fx0, fx1, fx2, fx3, fx4⟩ := nb HX_x HC1
   go_wp2_with fail
   refine (head_any x Ax cx 24 true 0 0 _ (HL.out.below HC1.out) (kb HK_x HC1).len).mono ?_
   rintro e w2 ⟨rfl, hb2⟩
   clear x0 x1 x2 x3 x4 fx0 fx1 fx2 fx3 fx4
   have HC2 := hid (bTh HC1.out hb2)
   have HB2 := hid (bTh HB1.out hb2)
   clear hb2
   obtain ⟨x0, x1, x2, x3, x4⟩ := nb HAT HC2
   obtain ⟨fx0, fx1, fx2, fx3, fx4⟩ := nb HX_x HC2
   go_wp2
   go_ret
   exact ⟨rBo (by simp [nameS, HH.out, Nd.sub]), HB2.out⟩
 ·skip
  simp only [List.length_cons, List.length_nil, Nat.zero_add] at hlen
  have HAT := hid (bAt w ⟨k, s, num, pos, x :: y :: r⟩ A c 24)
  have HL := hid (hl.below (bBw w (.cells #[.int .i64 k, .string s, .int .i64 num, .int .i64 pos, .slice A (r.length + 1 + 1) c] 24)))
  clear hl hk
  cases hh : headB ⟨k, s, num, pos, x :: y :: r⟩ 13 true 0 (-1) with
  | false =>
   have HH := hid hh
   clear hh
   go_enter Tryz.func42, Tryz.ntmps42
   go_wp2_with fail
   generalize hW0 : w.alloc (.cells #[.int .i64 k, .string s, .int .i64 num, .int .i64 pos, .slice A (r.length + 1 + 1) c] 24) = W0 at *
   refine (head_any ⟨k, s, num, pos, x :: y :: r⟩ A c 13 true 0 (-1) _ HL.out (by simp only [List.length_cons, List.length_nil]; unfold maxLen; omega)).mono ?_
   rintro e w1 ⟨rfl, hb1⟩
   rw [HH.out]
   have HC1 := hid hb1
   have HB1 := hid (show Below w.heap.size w w1 by rw [← hW0] at hb1; exact box_step hb1)
   clear hb1 hW0
   obtain ⟨x0, x1, x2, x3, x4⟩ := nb HAT HC1
   go_wp2
   go_ret
   exact ⟨rBo (by simp [nameS, HH.out, Nd.sub]), HB1.out⟩
  | true =>
   have HH := hid hh
   clear hh
   go_enter Tryz.func42, Tryz.ntmps42
   go_wp2_with fail
   generalize hW0 : w.alloc (.cells #[.int .i64 k, .string s, .int .i64 num, .int .i64 pos, .slice A (r.length + 1 + 1) c] 24) = W0 at *
   refine (head_any ⟨k, s, num, pos, x :: y :: r⟩ A c 13 true 0 (-1) _ HL.out (by simp only [List.length_cons, List.length_nil]; unfold maxLen; omega)).mono ?_
   rintro e w1 ⟨rfl, hb1⟩
   rw [HH.out]
   have HC1 := hid hb1
   have HB1 := hid (show Below w.heap.size w w1 by rw [← hW0] at hb1; exact box_step hb1)
   clear hb1 hW0
   obtain ⟨x0, x1, x2, x3, x4⟩ := nb HAT HC1
   go_wp2
   go_ret
   exact ⟨rBo (by simp [nameS, HH.out, Nd.sub]), HB1.out⟩
/-- What is claimed of the asking of one tree, d levels deep. -/
def Asks_exprShaped (d : Nat) : Prop := ∀ (n : Nd) (A : Option Addr) (c : Nat) (w : World), KeptLaid w → Kids w d n A c →
  Calls Tryz.prog 40 #[.agg #[.int .i64 n.kind, .string n.name, .int .i64 n.num, .int .i64 n.pos, .slice A n.subs.length c]] w fun e w' => e = .returned (.bool (exprS d n)) ∧ Below w.heap.size w w'
/-- What is claimed of the asking of one tree, d levels deep. -/
def Asks_desigShaped (d : Nat) : Prop := ∀ (n : Nd) (A : Option Addr) (c : Nat) (w : World), KeptLaid w → Kids w d n A c →
  Calls Tryz.prog 93 #[.agg #[.int .i64 n.kind, .string n.name, .int .i64 n.num, .int .i64 n.pos, .slice A n.subs.length c]] w fun e w' => e = .returned (.bool (desigS d n)) ∧ Below w.heap.size w w'
set_option maxHeartbeats 1000000 in
theorem exprsShaped_any (d : Nat) (hE : Asks_exprShaped d) (l : List Nd) (A : Option Addr) (c : Nat) (w : World) (hl : KeptLaid w) (hk : KidsL w d l A c) :
  Calls Tryz.prog 94 #[.slice A l.length c] w fun e w' => e = .returned (.bool (l.all (exprS d))) ∧ Below w.heap.size w w' := by
 have hlen := hk.len
 unfold maxLen at hlen
 have HK := hid hk
 have HL := hid hl
 clear hk hl
 go_enter Tryz.func94, Tryz.ntmps94
 go_wp2
 go_loopw [3] (fun ii wr => ∃ j : Nat, j ≤ l.length ∧ ii = .int .i64 j ∧ (l.take j).all (exprS d) = true ∧ Below w.heap.size w wr) (fun ii _ => l.length - (intOf ii).toNat)
 case atStart => exact ⟨0, Nat.zero_le _, rfl, rfl, Below.refl _ _⟩
 case round =>
  obtain ⟨j, hj, rfl, hall, hbr⟩ := hrel
  have HBR := hid hbr
  have HALL := hid hall
  clear hbr hall
  by_cases hlt : j < l.length
  ·obtain ⟨b, o, Ax, cx, hA, hx, hkx⟩ := (HK.out.below HBR.out).at (i := j) hlt
   subst hA
   have x0 := hx.c0
   have x1 := hx.c1
   have x2 := hx.c2
   have x3 := hx.c3
   have x4 := hx.c4
   clear hx
   have HKX := hid hkx
   clear hkx
   cases hp : exprS d l[j] with
   | false =>
    have FIN := hid (all_bad (p := exprS d) hlt hp)
    have HP := hid hp
    clear hp
    go_wp2_with fail
    refine (hE l[j] Ax cx wr (HL.out.below HBR.out) HKX.out).mono ?_
    rintro e w2 ⟨rfl, hb2⟩
    rw [HP.out]
    have HB2 := hid (bTh HBR.out hb2)
    clear hb2
    go_wp2
    go_ret
    exact ⟨rBo FIN.out.symm, HB2.out⟩
   | true =>
    have STEP := hid (all_step (p := exprS d) hlt HALL.out hp)
    have HP := hid hp
    clear hp
    go_wp2_with fail
    refine (hE l[j] Ax cx wr (HL.out.below HBR.out) HKX.out).mono ?_
    rintro e w2 ⟨rfl, hb2⟩
    rw [HP.out]
    have HB2 := hid (bTh HBR.out hb2)
    clear hb2
    go_wp2
    go_roundw
    case rel => exact ⟨j + 1, by omega, by go_num, STEP.out, HB2.out⟩
    case measure => simp [intOf]; omega
  ·go_wp2
   go_ret
   exact ⟨rBo (all_end hlt HALL.out).symm, HBR.out⟩
set_option maxHeartbeats 4000000 in
theorem desig_step (d : Nat) (hE : Asks_exprShaped d) (hD : Asks_desigShaped d) : Asks_desigShaped (d + 1) := by
 intro n A c w hl hk
 obtain ⟨k, s, num, pos, subs⟩ := n
 have hlen := hk.len
 unfold maxLen at hlen
 simp only at hlen
 by_cases k24 : k = 24
 ·subst k24
  have HAT := hid (bAt w ⟨24, s, num, pos, subs⟩ A c 24)
  have HL := hid (hl.below (bBw w (.cells #[.int .i64 24, .string s, .int .i64 num, .int .i64 pos, .slice A subs.length c] 24)))
  clear hl hk
  go_enter Tryz.func93, Tryz.ntmps93
  go_wp2_with fail
  generalize hW0 : w.alloc (.cells #[.int .i64 24, .string s, .int .i64 num, .int .i64 pos, .slice A subs.length c] 24) = W0 at *
  refine (head_any ⟨24, s, num, pos, subs⟩ A c 24 true 0 0 _ HL.out (by unfold maxLen; omega)).mono ?_
  rintro e w1 ⟨rfl, hb1⟩
  have HC1 := hid hb1
  have HB1 := hid (show Below w.heap.size w w1 by rw [← hW0] at hb1; exact box_step hb1)
  clear hb1 hW0
  obtain ⟨x0, x1, x2, x3, x4⟩ := nb HAT HC1
  go_wp2
  go_ret
  exact ⟨rBo (by simp [desigS_succ, desigStep]), HB1.out⟩
 ·have b24 : (k == 24) = false := by simpa using k24
  by_cases k25 : k = 25
  ·subst k25
   cases hh : headB ⟨25, s, num, pos, subs⟩ 25 true 0 1 with
   | false =>
    have HAT := hid (bAt w ⟨25, s, num, pos, subs⟩ A c 24)
    have HL := hid (hl.below (bBw w (.cells #[.int .i64 25, .string s, .int .i64 num, .int .i64 pos, .slice A subs.length c] 24)))
    clear hl hk
    have HH := hid hh
    clear hh
    go_enter Tryz.func93, Tryz.ntmps93
    go_wp2_with fail
    generalize hW0 : w.alloc (.cells #[.int .i64 25, .string s, .int .i64 num, .int .i64 pos, .slice A subs.length c] 24) = W0 at *
    refine (head_any ⟨25, s, num, pos, subs⟩ A c 25 true 0 1 _ HL.out (by unfold maxLen; omega)).mono ?_
    rintro e w1 ⟨rfl, hb1⟩
    rw [HH.out]
    have HC1 := hid hb1
    have HB1 := hid (show Below w.heap.size w w1 by rw [← hW0] at hb1; exact box_step hb1)
    clear hb1 hW0
    obtain ⟨x0, x1, x2, x3, x4⟩ := nb HAT HC1
    go_wp2
    go_ret
    exact ⟨rBo (by simp [desigS_succ, desigStep, Nd.sub, HH.out]), HB1.out⟩
   | true =>
    obtain ⟨x, rfl⟩ := len1 (headB_len hh (by omega))
    obtain ⟨b, o, Ax, cx, rfl, hx_x, hk_x⟩ := hk.one (x := x) (r := []) rfl
    have HAT := hid (bAt w ⟨25, s, num, pos, [x]⟩ (some ⟨b, o, none⟩) c 24)
    have HL := hid (hl.below (bBw w (.cells #[.int .i64 25, .string s, .int .i64 num, .int .i64 pos, .slice (some ⟨b, o, none⟩) 1 c] 24)))
    have HX_x := hid (hx_x.below (bBw w (.cells #[.int .i64 25, .string s, .int .i64 num, .int .i64 pos, .slice (some ⟨b, o, none⟩) 1 c] 24)))
    have HK_x := hid (hk_x.below (bBw w (.cells #[.int .i64 25, .string s, .int .i64 num, .int .i64 pos, .slice (some ⟨b, o, none⟩) 1 c] 24)))
    clear hx_x hk_x
    clear hl hk
    have HH := hid hh
    clear hh
    obtain ⟨fx0, fx1, fx2, fx3, fx4⟩ := HX_x.out
    go_enter Tryz.func93, Tryz.ntmps93
    go_wp2_with fail
    generalize hW0 : w.alloc (.cells #[.int .i64 25, .string s, .int .i64 num, .int .i64 pos, .slice (some ⟨b, o, none⟩) 1 c] 24) = W0 at *
    refine (head_any ⟨25, s, num, pos, [x]⟩ (some ⟨b, o, none⟩) c 25 true 0 1 _ HL.out (by simp only [List.length_cons, List.length_nil]; unfold maxLen; omega)).mono ?_
    rintro e w1 ⟨rfl, hb1⟩
    rw [HH.out]
    clear fx0 fx1 fx2 fx3 fx4
    have HC1 := hid hb1
    have HB1 := hid (show Below w.heap.size w w1 by rw [← hW0] at hb1; exact box_step hb1)
    clear hb1 hW0
    obtain ⟨x0, x1, x2, x3, x4⟩ := nb HAT HC1
    obtain ⟨fx0, fx1, fx2, fx3, fx4⟩ := nb HX_x HC1
    go_wp2_with fail
    refine (hD x Ax cx _ (HL.out.below HC1.out) (kb HK_x HC1)).mono ?_
    rintro e w2 ⟨rfl, hb2⟩
    clear x0 x1 x2 x3 x4 fx0 fx1 fx2 fx3 fx4
    have HC2 := hid (bTh HC1.out hb2)
    have HB2 := hid (bTh HB1.out hb2)
    clear hb2
    obtain ⟨x0, x1, x2, x3, x4⟩ := nb HAT HC2
    obtain ⟨fx0, fx1, fx2, fx3, fx4⟩ := nb HX_x HC2
    go_wp2
    go_ret
    exact ⟨rBo (by simp [desigS_succ, desigStep, Nd.sub, HH.out]), HB2.out⟩
  ·have b25 : (k == 25) = false := by simpa using k25
   by_cases k27 : k = 27
   ·subst k27
    cases hh : headB ⟨27, s, num, pos, subs⟩ 27 false 0 1 with
    | false =>
     have HAT := hid (bAt w ⟨27, s, num, pos, subs⟩ A c 24)
     have HL := hid (hl.below (bBw w (.cells #[.int .i64 27, .string s, .int .i64 num, .int .i64 pos, .slice A subs.length c] 24)))
     clear hl hk
     have HH := hid hh
     clear hh
     go_enter Tryz.func93, Tryz.ntmps93
     go_wp2_with fail
     generalize hW0 : w.alloc (.cells #[.int .i64 27, .string s, .int .i64 num, .int .i64 pos, .slice A subs.length c] 24) = W0 at *
     refine (head_any ⟨27, s, num, pos, subs⟩ A c 27 false 0 1 _ HL.out (by unfold maxLen; omega)).mono ?_
     rintro e w1 ⟨rfl, hb1⟩
     rw [HH.out]
     have HC1 := hid hb1
     have HB1 := hid (show Below w.heap.size w w1 by rw [← hW0] at hb1; exact box_step hb1)
     clear hb1 hW0
     obtain ⟨x0, x1, x2, x3, x4⟩ := nb HAT HC1
     go_wp2
     go_ret
     exact ⟨rBo (by simp [desigS_succ, desigStep, Nd.sub, HH.out]), HB1.out⟩
    | true =>
     obtain ⟨x, rfl⟩ := len1 (headB_len hh (by omega))
     obtain ⟨b, o, Ax, cx, rfl, hx_x, hk_x⟩ := hk.one (x := x) (r := []) rfl
     have HAT := hid (bAt w ⟨27, s, num, pos, [x]⟩ (some ⟨b, o, none⟩) c 24)
     have HL := hid (hl.below (bBw w (.cells #[.int .i64 27, .string s, .int .i64 num, .int .i64 pos, .slice (some ⟨b, o, none⟩) 1 c] 24)))
     have HX_x := hid (hx_x.below (bBw w (.cells #[.int .i64 27, .string s, .int .i64 num, .int .i64 pos, .slice (some ⟨b, o, none⟩) 1 c] 24)))
     have HK_x := hid (hk_x.below (bBw w (.cells #[.int .i64 27, .string s, .int .i64 num, .int .i64 pos, .slice (some ⟨b, o, none⟩) 1 c] 24)))
     clear hx_x hk_x
     clear hl hk
     have HH := hid hh
     clear hh
     obtain ⟨fx0, fx1, fx2, fx3, fx4⟩ := HX_x.out
     go_enter Tryz.func93, Tryz.ntmps93
     go_wp2_with fail
     generalize hW0 : w.alloc (.cells #[.int .i64 27, .string s, .int .i64 num, .int .i64 pos, .slice (some ⟨b, o, none⟩) 1 c] 24) = W0 at *
     refine (head_any ⟨27, s, num, pos, [x]⟩ (some ⟨b, o, none⟩) c 27 false 0 1 _ HL.out (by simp only [List.length_cons, List.length_nil]; unfold maxLen; omega)).mono ?_
     rintro e w1 ⟨rfl, hb1⟩
     rw [HH.out]
     clear fx0 fx1 fx2 fx3 fx4
     have HC1 := hid hb1
     have HB1 := hid (show Below w.heap.size w w1 by rw [← hW0] at hb1; exact box_step hb1)
     clear hb1 hW0
     obtain ⟨x0, x1, x2, x3, x4⟩ := nb HAT HC1
     obtain ⟨fx0, fx1, fx2, fx3, fx4⟩ := nb HX_x HC1
     go_wp2_with fail
     refine (hD x Ax cx _ (HL.out.below HC1.out) (kb HK_x HC1)).mono ?_
     rintro e w2 ⟨rfl, hb2⟩
     clear x0 x1 x2 x3 x4 fx0 fx1 fx2 fx3 fx4
     have HC2 := hid (bTh HC1.out hb2)
     have HB2 := hid (bTh HB1.out hb2)
     clear hb2
     obtain ⟨x0, x1, x2, x3, x4⟩ := nb HAT HC2
     obtain ⟨fx0, fx1, fx2, fx3, fx4⟩ := nb HX_x HC2
     go_wp2
     go_ret
     exact ⟨rBo (by simp [desigS_succ, desigStep, Nd.sub, HH.out]), HB2.out⟩
   ·have b27 : (k == 27) = false := by simpa using k27
    by_cases k26 : k = 26
    ·subst k26
     cases hh : headB ⟨26, s, num, pos, subs⟩ 26 false 0 2 with
     | false =>
      have HAT := hid (bAt w ⟨26, s, num, pos, subs⟩ A c 24)
      have HL := hid (hl.below (bBw w (.cells #[.int .i64 26, .string s, .int .i64 num, .int .i64 pos, .slice A subs.length c] 24)))
      clear hl hk
      have HH := hid hh
      clear hh
      go_enter Tryz.func93, Tryz.ntmps93
      go_wp2_with fail
      generalize hW0 : w.alloc (.cells #[.int .i64 26, .string s, .int .i64 num, .int .i64 pos, .slice A subs.length c] 24) = W0 at *
      refine (head_any ⟨26, s, num, pos, subs⟩ A c 26 false 0 2 _ HL.out (by unfold maxLen; omega)).mono ?_
      rintro e w1 ⟨rfl, hb1⟩
      rw [HH.out]
      have HC1 := hid hb1
      have HB1 := hid (show Below w.heap.size w w1 by rw [← hW0] at hb1; exact box_step hb1)
      clear hb1 hW0
      obtain ⟨x0, x1, x2, x3, x4⟩ := nb HAT HC1
      go_wp2
      go_ret
      exact ⟨rBo (by simp [desigS_succ, desigStep, Nd.sub, HH.out]), HB1.out⟩
     | true =>
      obtain ⟨x, y, rfl⟩ := len2 (headB_len hh (by omega))
      obtain ⟨b, o, Ax, cx, rfl, hx_x, hk_x⟩ := hk.one (x := x) (r := [y]) rfl
      obtain ⟨Ay, cy, hx_y, hk_y⟩ := hk.nth rfl (i := 1) (x := y) rfl rfl
      rw [Nat.one_mul] at hx_y
      have HAT := hid (bAt w ⟨26, s, num, pos, [x, y]⟩ (some ⟨b, o, none⟩) c 24)
      have HL := hid (hl.below (bBw w (.cells #[.int .i64 26, .string s, .int .i64 num, .int .i64 pos, .slice (some ⟨b, o, none⟩) 2 c] 24)))
      have HX_x := hid (hx_x.below (bBw w (.cells #[.int .i64 26, .string s, .int .i64 num, .int .i64 pos, .slice (some ⟨b, o, none⟩) 2 c] 24)))
      have HK_x := hid (hk_x.below (bBw w (.cells #[.int .i64 26, .string s, .int .i64 num, .int .i64 pos, .slice (some ⟨b, o, none⟩) 2 c] 24)))
      clear hx_x hk_x
      have HX_y := hid (hx_y.below (bBw w (.cells #[.int .i64 26, .string s, .int .i64 num, .int .i64 pos, .slice (some ⟨b, o, none⟩) 2 c] 24)))
      have HK_y := hid (hk_y.below (bBw w (.cells #[.int .i64 26, .string s, .int .i64 num, .int .i64 pos, .slice (some ⟨b, o, none⟩) 2 c] 24)))
      clear hx_y hk_y
      clear hl hk
      have HH := hid hh
      clear hh
      cases h0 : desigS d x with
      | false =>
       have H0 := hid h0
       clear h0
       obtain ⟨fx0, fx1, fx2, fx3, fx4⟩ := HX_x.out
       obtain ⟨fy0, fy1, fy2, fy3, fy4⟩ := HX_y.out
       go_enter Tryz.func93, Tryz.ntmps93
       go_wp2_with fail
       generalize hW0 : w.alloc (.cells #[.int .i64 26, .string s, .int .i64 num, .int .i64 pos, .slice (some ⟨b, o, none⟩) 2 c] 24) = W0 at *
       refine (head_any ⟨26, s, num, pos, [x, y]⟩ (some ⟨b, o, none⟩) c 26 false 0 2 _ HL.out (by simp only [List.length_cons, List.length_nil]; unfold maxLen; omega)).mono ?_
       rintro e w1 ⟨rfl, hb1⟩
       rw [HH.out]
       clear fx0 fx1 fx2 fx3 fx4 fy0 fy1 fy2 fy3 fy4
       have HC1 := hid hb1
       have HB1 := hid (show Below w.heap.size w w1 by rw [← hW0] at hb1; exact box_step hb1)
       clear hb1 hW0
       obtain ⟨x0, x1, x2, x3, x4⟩ := nb HAT HC1
       obtain ⟨fx0, fx1, fx2, fx3, fx4⟩ := nb HX_x HC1
       obtain ⟨fy0, fy1, fy2, fy3, fy4⟩ := nb HX_y HC1
       go_wp2_with fail
       refine (hD x Ax cx _ (HL.out.below HC1.out) (kb HK_x HC1)).mono ?_
       rintro e w2 ⟨rfl, hb2⟩
       rw [H0.out]
       clear x0 x1 x2 x3 x4 fx0 fx1 fx2 fx3 fx4 fy0 fy1 fy2 fy3 fy4
       have HC2 := hid (bTh HC1.out hb2)
       have HB2 := hid (bTh HB1.out hb2)
       clear hb2
       obtain ⟨x0, x1, x2, x3, x4⟩ := nb HAT HC2
       obtain ⟨fx0, fx1, fx2, fx3, fx4⟩ := nb HX_x HC2
       obtain ⟨fy0, fy1, fy2, fy3, fy4⟩ := nb HX_y HC2
       go_wp2
       go_ret
       exact ⟨rBo (by simp [desigS_succ, desigStep, Nd.sub, HH.out, H0.out]), HB2.out⟩
      | true =>
       have H0 := hid h0
       clear h0
       obtain ⟨fx0, fx1, fx2, fx3, fx4⟩ := HX_x.out
       obtain ⟨fy0, fy1, fy2, fy3, fy4⟩ := HX_y.out
       go_enter Tryz.func93, Tryz.ntmps93
       go_wp2_with fail
       generalize hW0 : w.alloc (.cells #[.int .i64 26, .string s, .int .i64 num, .int .i64 pos, .slice (some ⟨b, o, none⟩) 2 c] 24) = W0 at *
       refine (head_any ⟨26, s, num, pos, [x, y]⟩ (some ⟨b, o, none⟩) c 26 false 0 2 _ HL.out (by simp only [List.length_cons, List.length_nil]; unfold maxLen; omega)).mono ?_
       rintro e w1 ⟨rfl, hb1⟩
       rw [HH.out]
       clear fx0 fx1 fx2 fx3 fx4 fy0 fy1 fy2 fy3 fy4
       have HC1 := hid hb1
       have HB1 := hid (show Below w.heap.size w w1 by rw [← hW0] at hb1; exact box_step hb1)
       clear hb1 hW0
       obtain ⟨x0, x1, x2, x3, x4⟩ := nb HAT HC1
       obtain ⟨fx0, fx1, fx2, fx3, fx4⟩ := nb HX_x HC1
       obtain ⟨fy0, fy1, fy2, fy3, fy4⟩ := nb HX_y HC1
       go_wp2_with fail
       refine (hD x Ax cx _ (HL.out.below HC1.out) (kb HK_x HC1)).mono ?_
       rintro e w2 ⟨rfl, hb2⟩
       rw [H0.out]
       clear x0 x1 x2 x3 x4 fx0 fx1 fx2 fx3 fx4 fy0 fy1 fy2 fy3 fy4
       have HC2 := hid (bTh HC1.out hb2)
       have HB2 := hid (bTh HB1.out hb2)
       clear hb2
       obtain ⟨x0, x1, x2, x3, x4⟩ := nb HAT HC2
       obtain ⟨fx0, fx1, fx2, fx3, fx4⟩ := nb HX_x HC2
       obtain ⟨fy0, fy1, fy2, fy3, fy4⟩ := nb HX_y HC2
       go_wp2_with fail
       refine (hE y Ay cy _ (HL.out.below HC2.out) (kb HK_y HC2)).mono ?_
       rintro e w3 ⟨rfl, hb3⟩
       clear x0 x1 x2 x3 x4 fx0 fx1 fx2 fx3 fx4 fy0 fy1 fy2 fy3 fy4
       have HC3 := hid (bTh HC2.out hb3)
       have HB3 := hid (bTh HB2.out hb3)
       clear hb3
       obtain ⟨x0, x1, x2, x3, x4⟩ := nb HAT HC3
       obtain ⟨fx0, fx1, fx2, fx3, fx4⟩ := nb HX_x HC3
       obtain ⟨fy0, fy1, fy2, fy3, fy4⟩ := nb HX_y HC3
       go_wp2
       go_ret
       exact ⟨rBo (by simp [desigS_succ, desigStep, Nd.sub, HH.out, H0.out]), HB3.out⟩
    ·have b26 : (k == 26) = false := by simpa using k26
     by_cases k28 : k = 28
     ·subst k28
      cases hh : headB ⟨28, s, num, pos, subs⟩ 28 false 0 2 with
      | false =>
       have HAT := hid (bAt w ⟨28, s, num, pos, subs⟩ A c 24)
       have HL := hid (hl.below (bBw w (.cells #[.int .i64 28, .string s, .int .i64 num, .int .i64 pos, .slice A subs.length c] 24)))
       clear hl hk
       have HH := hid hh
       clear hh
       go_enter Tryz.func93, Tryz.ntmps93
       go_wp2_with fail
       generalize hW0 : w.alloc (.cells #[.int .i64 28, .string s, .int .i64 num, .int .i64 pos, .slice A subs.length c] 24) = W0 at *
       refine (head_any ⟨28, s, num, pos, subs⟩ A c 28 false 0 2 _ HL.out (by unfold maxLen; omega)).mono ?_
       rintro e w1 ⟨rfl, hb1⟩
       rw [HH.out]
       have HC1 := hid hb1
       have HB1 := hid (show Below w.heap.size w w1 by rw [← hW0] at hb1; exact box_step hb1)
       clear hb1 hW0
       obtain ⟨x0, x1, x2, x3, x4⟩ := nb HAT HC1
       go_wp2
       go_ret
       exact ⟨rBo (by simp [desigS_succ, desigStep, Nd.sub, HH.out]), HB1.out⟩
      | true =>
       obtain ⟨x, y, rfl⟩ := len2 (headB_len hh (by omega))
       obtain ⟨b, o, Ax, cx, rfl, hx_x, hk_x⟩ := hk.one (x := x) (r := [y]) rfl
       obtain ⟨Ay, cy, hx_y, hk_y⟩ := hk.nth rfl (i := 1) (x := y) rfl rfl
       rw [Nat.one_mul] at hx_y
       have HAT := hid (bAt w ⟨28, s, num, pos, [x, y]⟩ (some ⟨b, o, none⟩) c 24)
       have HL := hid (hl.below (bBw w (.cells #[.int .i64 28, .string s, .int .i64 num, .int .i64 pos, .slice (some ⟨b, o, none⟩) 2 c] 24)))
       have HX_x := hid (hx_x.below (bBw w (.cells #[.int .i64 28, .string s, .int .i64 num, .int .i64 pos, .slice (some ⟨b, o, none⟩) 2 c] 24)))
       have HK_x := hid (hk_x.below (bBw w (.cells #[.int .i64 28, .string s, .int .i64 num, .int .i64 pos, .slice (some ⟨b, o, none⟩) 2 c] 24)))
       clear hx_x hk_x
       have HX_y := hid (hx_y.below (bBw w (.cells #[.int .i64 28, .string s, .int .i64 num, .int .i64 pos, .slice (some ⟨b, o, none⟩) 2 c] 24)))
       have HK_y := hid (hk_y.below (bBw w (.cells #[.int .i64 28, .string s, .int .i64 num, .int .i64 pos, .slice (some ⟨b, o, none⟩) 2 c] 24)))
       clear hx_y hk_y
       clear hl hk
       have HH := hid hh
       clear hh
       cases h0 : desigS d x with
       | false =>
        have H0 := hid h0
        clear h0
        obtain ⟨fx0, fx1, fx2, fx3, fx4⟩ := HX_x.out
        obtain ⟨fy0, fy1, fy2, fy3, fy4⟩ := HX_y.out
        go_enter Tryz.func93, Tryz.ntmps93
        go_wp2_with fail
        generalize hW0 : w.alloc (.cells #[.int .i64 28, .string s, .int .i64 num, .int .i64 pos, .slice (some ⟨b, o, none⟩) 2 c] 24) = W0 at *
        refine (head_any ⟨28, s, num, pos, [x, y]⟩ (some ⟨b, o, none⟩) c 28 false 0 2 _ HL.out (by simp only [List.length_cons, List.length_nil]; unfold maxLen; omega)).mono ?_
        rintro e w1 ⟨rfl, hb1⟩
        rw [HH.out]
        clear fx0 fx1 fx2 fx3 fx4 fy0 fy1 fy2 fy3 fy4
        have HC1 := hid hb1
        have HB1 := hid (show Below w.heap.size w w1 by rw [← hW0] at hb1; exact box_step hb1)
        clear hb1 hW0
        obtain ⟨x0, x1, x2, x3, x4⟩ := nb HAT HC1
        obtain ⟨fx0, fx1, fx2, fx3, fx4⟩ := nb HX_x HC1
        obtain ⟨fy0, fy1, fy2, fy3, fy4⟩ := nb HX_y HC1
        go_wp2_with fail
        refine (hD x Ax cx _ (HL.out.below HC1.out) (kb HK_x HC1)).mono ?_
        rintro e w2 ⟨rfl, hb2⟩
        rw [H0.out]
        clear x0 x1 x2 x3 x4 fx0 fx1 fx2 fx3 fx4 fy0 fy1 fy2 fy3 fy4
        have HC2 := hid (bTh HC1.out hb2)
        have HB2 := hid (bTh HB1.out hb2)
        clear hb2
        obtain ⟨x0, x1, x2, x3, x4⟩ := nb HAT HC2
        obtain ⟨fx0, fx1, fx2, fx3, fx4⟩ := nb HX_x HC2
        obtain ⟨fy0, fy1, fy2, fy3, fy4⟩ := nb HX_y HC2
        go_wp2
        go_ret
        exact ⟨rBo (by simp [desigS_succ, desigStep, Nd.sub, HH.out, H0.out]), HB2.out⟩
       | true =>
        have H0 := hid h0
        clear h0
        obtain ⟨fx0, fx1, fx2, fx3, fx4⟩ := HX_x.out
        obtain ⟨fy0, fy1, fy2, fy3, fy4⟩ := HX_y.out
        go_enter Tryz.func93, Tryz.ntmps93
        go_wp2_with fail
        generalize hW0 : w.alloc (.cells #[.int .i64 28, .string s, .int .i64 num, .int .i64 pos, .slice (some ⟨b, o, none⟩) 2 c] 24) = W0 at *
        refine (head_any ⟨28, s, num, pos, [x, y]⟩ (some ⟨b, o, none⟩) c 28 false 0 2 _ HL.out (by simp only [List.length_cons, List.length_nil]; unfold maxLen; omega)).mono ?_
        rintro e w1 ⟨rfl, hb1⟩
        rw [HH.out]
        clear fx0 fx1 fx2 fx3 fx4 fy0 fy1 fy2 fy3 fy4
        have HC1 := hid hb1
        have HB1 := hid (show Below w.heap.size w w1 by rw [← hW0] at hb1; exact box_step hb1)
        clear hb1 hW0
        obtain ⟨x0, x1, x2, x3, x4⟩ := nb HAT HC1
        obtain ⟨fx0, fx1, fx2, fx3, fx4⟩ := nb HX_x HC1
        obtain ⟨fy0, fy1, fy2, fy3, fy4⟩ := nb HX_y HC1
        go_wp2_with fail
        refine (hD x Ax cx _ (HL.out.below HC1.out) (kb HK_x HC1)).mono ?_
        rintro e w2 ⟨rfl, hb2⟩
        rw [H0.out]
        clear x0 x1 x2 x3 x4 fx0 fx1 fx2 fx3 fx4 fy0 fy1 fy2 fy3 fy4
        have HC2 := hid (bTh HC1.out hb2)
        have HB2 := hid (bTh HB1.out hb2)
        clear hb2
        obtain ⟨x0, x1, x2, x3, x4⟩ := nb HAT HC2
        obtain ⟨fx0, fx1, fx2, fx3, fx4⟩ := nb HX_x HC2
        obtain ⟨fy0, fy1, fy2, fy3, fy4⟩ := nb HX_y HC2
        go_wp2_with fail
        refine (nameShaped_any d y Ay cy _ (HL.out.below HC2.out) (kb HK_y HC2)).mono ?_
        rintro e w3 ⟨rfl, hb3⟩
        clear x0 x1 x2 x3 x4 fx0 fx1 fx2 fx3 fx4 fy0 fy1 fy2 fy3 fy4
        have HC3 := hid (bTh HC2.out hb3)
        have HB3 := hid (bTh HB2.out hb3)
        clear hb3
        obtain ⟨x0, x1, x2, x3, x4⟩ := nb HAT HC3
        obtain ⟨fx0, fx1, fx2, fx3, fx4⟩ := nb HX_x HC3
        obtain ⟨fy0, fy1, fy2, fy3, fy4⟩ := nb HX_y HC3
        go_wp2
        go_ret
        exact ⟨rBo (by simp [desigS_succ, desigStep, Nd.sub, HH.out, H0.out]), HB3.out⟩
     ·have b28 : (k == 28) = false := by simpa using k28
      have HAT := hid (bAt w ⟨k, s, num, pos, subs⟩ A c 24)
      have HL := hid (hl.below (bBw w (.cells #[.int .i64 k, .string s, .int .i64 num, .int .i64 pos, .slice A subs.length c] 24)))
      clear hl hk
      go_enter Tryz.func93, Tryz.ntmps93
      go_wp2
      go_ret
      exact ⟨rBo (by simp [desigS_succ, desigStep, k24, k25, k26, k27, k28]), bBw _ _⟩
/-- subs[1:], at the operation. -/
theorem slice_tail (b o m c : Nat) (hc : m + 1 ≤ c) : ∃ A' : Option Addr, (1 < c → A' = some ⟨b, o + 5, none⟩) ∧ ∀ W : World, (Instr.slice 22 (.slice (some ⟨b, o, none⟩) (m + 1) c) (some (.int .i64 1)) none none).run Tryz.prog W = .ok (.slice A' m (c - 1)) W := by
 refine ⟨if c = 1 then some ⟨b, o, none⟩ else some ⟨b, o + 5, none⟩, fun h => if_neg (by omega), fun W => ?_⟩
 rw [run_slice_l W 22 (some ⟨b, o, none⟩) (m + 1) c (by kernel_rfl) .i64 1 (by omega) (by omega)]
 have hs : (sizeOf (Tryz.prog.elem 22)).run Tryz.prog W = .ok 5 W := by kernel_rfl
 rw [hs]
 simp [Result.andThen, sliced, Addr.add]
set_option maxHeartbeats 8000000 in
theorem expr_step (d : Nat) (hE : Asks_exprShaped d) (hD : Asks_desigShaped d) (hD1 : Asks_desigShaped (d + 1)) : Asks_exprShaped (d + 1) := by
 intro n A c w hl hk
 obtain ⟨k, s, num, pos, subs⟩ := n
 have hlen := hk.len
 unfold maxLen at hlen
 simp only at hlen
 by_cases k29 : k = 29
 ·subst k29
  have HAT := hid (bAt w ⟨29, s, num, pos, subs⟩ A c 24)
  have HL := hid (hl.below (bBw w (.cells #[.int .i64 29, .string s, .int .i64 num, .int .i64 pos, .slice A subs.length c] 24)))
  clear hl hk
  go_enter Tryz.func40, Tryz.ntmps40
  go_wp2_with fail
  generalize hW0 : w.alloc (.cells #[.int .i64 29, .string s, .int .i64 num, .int .i64 pos, .slice A subs.length c] 24) = W0 at *
  refine (head_any ⟨29, s, num, pos, subs⟩ A c 29 false 2147483647 0 _ HL.out (by unfold maxLen; omega)).mono ?_
  rintro e w1 ⟨rfl, hb1⟩
  have HC1 := hid hb1
  have HB1 := hid (show Below w.heap.size w w1 by rw [← hW0] at hb1; exact box_step hb1)
  clear hb1 hW0
  obtain ⟨x0, x1, x2, x3, x4⟩ := nb HAT HC1
  go_wp2
  go_ret
  exact ⟨rBo (by simp [exprS_succ, exprStep]), HB1.out⟩
 ·have b29 : (k == 29) = false := by simpa using k29
  by_cases k30 : k = 30
  ·subst k30
   have HAT := hid (bAt w ⟨30, s, num, pos, subs⟩ A c 24)
   have HL := hid (hl.below (bBw w (.cells #[.int .i64 30, .string s, .int .i64 num, .int .i64 pos, .slice A subs.length c] 24)))
   clear hl hk
   go_enter Tryz.func40, Tryz.ntmps40
   go_wp2_with fail
   generalize hW0 : w.alloc (.cells #[.int .i64 30, .string s, .int .i64 num, .int .i64 pos, .slice A subs.length c] 24) = W0 at *
   refine (head_any ⟨30, s, num, pos, subs⟩ A c 30 false 0 0 _ HL.out (by unfold maxLen; omega)).mono ?_
   rintro e w1 ⟨rfl, hb1⟩
   have HC1 := hid hb1
   have HB1 := hid (show Below w.heap.size w w1 by rw [← hW0] at hb1; exact box_step hb1)
   clear hb1 hW0
   obtain ⟨x0, x1, x2, x3, x4⟩ := nb HAT HC1
   go_wp2
   go_ret
   exact ⟨rBo (by simp [exprS_succ, exprStep]), HB1.out⟩
  ·have b30 : (k == 30) = false := by simpa using k30
   by_cases k31 : k = 31
   ·subst k31
    have HAT := hid (bAt w ⟨31, s, num, pos, subs⟩ A c 24)
    have HL := hid (hl.below (bBw w (.cells #[.int .i64 31, .string s, .int .i64 num, .int .i64 pos, .slice A subs.length c] 24)))
    clear hl hk
    go_enter Tryz.func40, Tryz.ntmps40
    go_wp2_with fail
    generalize hW0 : w.alloc (.cells #[.int .i64 31, .string s, .int .i64 num, .int .i64 pos, .slice A subs.length c] 24) = W0 at *
    refine (head_any ⟨31, s, num, pos, subs⟩ A c 31 false 0 0 _ HL.out (by unfold maxLen; omega)).mono ?_
    rintro e w1 ⟨rfl, hb1⟩
    have HC1 := hid hb1
    have HB1 := hid (show Below w.heap.size w w1 by rw [← hW0] at hb1; exact box_step hb1)
    clear hb1 hW0
    obtain ⟨x0, x1, x2, x3, x4⟩ := nb HAT HC1
    go_wp2
    go_ret
    exact ⟨rBo (by simp [exprS_succ, exprStep]), HB1.out⟩
   ·have b31 : (k == 31) = false := by simpa using k31
    by_cases k32 : k = 32
    ·subst k32
     have HAT := hid (bAt w ⟨32, s, num, pos, subs⟩ A c 24)
     have HL := hid (hl.below (bBw w (.cells #[.int .i64 32, .string s, .int .i64 num, .int .i64 pos, .slice A subs.length c] 24)))
     clear hl hk
     go_enter Tryz.func40, Tryz.ntmps40
     go_wp2_with fail
     generalize hW0 : w.alloc (.cells #[.int .i64 32, .string s, .int .i64 num, .int .i64 pos, .slice A subs.length c] 24) = W0 at *
     refine (head_any ⟨32, s, num, pos, subs⟩ A c 32 false 0 0 _ HL.out (by unfold maxLen; omega)).mono ?_
     rintro e w1 ⟨rfl, hb1⟩
     have HC1 := hid hb1
     have HB1 := hid (show Below w.heap.size w w1 by rw [← hW0] at hb1; exact box_step hb1)
     clear hb1 hW0
     obtain ⟨x0, x1, x2, x3, x4⟩ := nb HAT HC1
     go_wp2
     go_ret
     exact ⟨rBo (by simp [exprS_succ, exprStep]), HB1.out⟩
    ·have b32 : (k == 32) = false := by simpa using k32
     by_cases k34 : k = 34
     ·subst k34
      cases hh : headB ⟨34, s, num, pos, subs⟩ 34 false 0 1 with
      | false =>
       have HAT := hid (bAt w ⟨34, s, num, pos, subs⟩ A c 24)
       have HL := hid (hl.below (bBw w (.cells #[.int .i64 34, .string s, .int .i64 num, .int .i64 pos, .slice A subs.length c] 24)))
       clear hl hk
       have HH := hid hh
       clear hh
       go_enter Tryz.func40, Tryz.ntmps40
       go_wp2_with fail
       generalize hW0 : w.alloc (.cells #[.int .i64 34, .string s, .int .i64 num, .int .i64 pos, .slice A subs.length c] 24) = W0 at *
       refine (head_any ⟨34, s, num, pos, subs⟩ A c 34 false 0 1 _ HL.out (by unfold maxLen; omega)).mono ?_
       rintro e w1 ⟨rfl, hb1⟩
       rw [HH.out]
       have HC1 := hid hb1
       have HB1 := hid (show Below w.heap.size w w1 by rw [← hW0] at hb1; exact box_step hb1)
       clear hb1 hW0
       obtain ⟨x0, x1, x2, x3, x4⟩ := nb HAT HC1
       go_wp2
       go_ret
       exact ⟨rBo (by simp [exprS_succ, exprStep, Nd.sub, HH.out]), HB1.out⟩
      | true =>
       obtain ⟨x, rfl⟩ := len1 (headB_len hh (by omega))
       obtain ⟨b, o, Ax, cx, rfl, hx_x, hk_x⟩ := hk.one (x := x) (r := []) rfl
       have HAT := hid (bAt w ⟨34, s, num, pos, [x]⟩ (some ⟨b, o, none⟩) c 24)
       have HL := hid (hl.below (bBw w (.cells #[.int .i64 34, .string s, .int .i64 num, .int .i64 pos, .slice (some ⟨b, o, none⟩) 1 c] 24)))
       have HX_x := hid (hx_x.below (bBw w (.cells #[.int .i64 34, .string s, .int .i64 num, .int .i64 pos, .slice (some ⟨b, o, none⟩) 1 c] 24)))
       have HK_x := hid (hk_x.below (bBw w (.cells #[.int .i64 34, .string s, .int .i64 num, .int .i64 pos, .slice (some ⟨b, o, none⟩) 1 c] 24)))
       clear hx_x hk_x
       clear hl hk
       have HH := hid hh
       clear hh
       obtain ⟨fx0, fx1, fx2, fx3, fx4⟩ := HX_x.out
       go_enter Tryz.func40, Tryz.ntmps40
       go_wp2_with fail
       generalize hW0 : w.alloc (.cells #[.int .i64 34, .string s, .int .i64 num, .int .i64 pos, .slice (some ⟨b, o, none⟩) 1 c] 24) = W0 at *
       refine (head_any ⟨34, s, num, pos, [x]⟩ (some ⟨b, o, none⟩) c 34 false 0 1 _ HL.out (by simp only [List.length_cons, List.length_nil]; unfold maxLen; omega)).mono ?_
       rintro e w1 ⟨rfl, hb1⟩
       rw [HH.out]
       clear fx0 fx1 fx2 fx3 fx4
       have HC1 := hid hb1
       have HB1 := hid (show Below w.heap.size w w1 by rw [← hW0] at hb1; exact box_step hb1)
       clear hb1 hW0
       obtain ⟨x0, x1, x2, x3, x4⟩ := nb HAT HC1
       obtain ⟨fx0, fx1, fx2, fx3, fx4⟩ := nb HX_x HC1
       go_wp2_with fail
       refine (hE x Ax cx _ (HL.out.below HC1.out) (kb HK_x HC1)).mono ?_
       rintro e w2 ⟨rfl, hb2⟩
       clear x0 x1 x2 x3 x4 fx0 fx1 fx2 fx3 fx4
       have HC2 := hid (bTh HC1.out hb2)
       have HB2 := hid (bTh HB1.out hb2)
       clear hb2
       obtain ⟨x0, x1, x2, x3, x4⟩ := nb HAT HC2
       obtain ⟨fx0, fx1, fx2, fx3, fx4⟩ := nb HX_x HC2
       go_wp2
       go_ret
       exact ⟨rBo (by simp [exprS_succ, exprStep, Nd.sub, HH.out]), HB2.out⟩
     ·have b34 : (k == 34) = false := by simpa using k34
      by_cases k35 : k = 35
      ·subst k35
       cases hh : headB ⟨35, s, num, pos, subs⟩ 35 false 0 1 with
       | false =>
        have HAT := hid (bAt w ⟨35, s, num, pos, subs⟩ A c 24)
        have HL := hid (hl.below (bBw w (.cells #[.int .i64 35, .string s, .int .i64 num, .int .i64 pos, .slice A subs.length c] 24)))
        clear hl hk
        have HH := hid hh
        clear hh
        go_enter Tryz.func40, Tryz.ntmps40
        go_wp2_with fail
        generalize hW0 : w.alloc (.cells #[.int .i64 35, .string s, .int .i64 num, .int .i64 pos, .slice A subs.length c] 24) = W0 at *
        refine (head_any ⟨35, s, num, pos, subs⟩ A c 35 false 0 1 _ HL.out (by unfold maxLen; omega)).mono ?_
        rintro e w1 ⟨rfl, hb1⟩
        rw [HH.out]
        have HC1 := hid hb1
        have HB1 := hid (show Below w.heap.size w w1 by rw [← hW0] at hb1; exact box_step hb1)
        clear hb1 hW0
        obtain ⟨x0, x1, x2, x3, x4⟩ := nb HAT HC1
        go_wp2
        go_ret
        exact ⟨rBo (by simp [exprS_succ, exprStep, Nd.sub, HH.out]), HB1.out⟩
       | true =>
        obtain ⟨x, rfl⟩ := len1 (headB_len hh (by omega))
        obtain ⟨b, o, Ax, cx, rfl, hx_x, hk_x⟩ := hk.one (x := x) (r := []) rfl
        have HAT := hid (bAt w ⟨35, s, num, pos, [x]⟩ (some ⟨b, o, none⟩) c 24)
        have HL := hid (hl.below (bBw w (.cells #[.int .i64 35, .string s, .int .i64 num, .int .i64 pos, .slice (some ⟨b, o, none⟩) 1 c] 24)))
        have HX_x := hid (hx_x.below (bBw w (.cells #[.int .i64 35, .string s, .int .i64 num, .int .i64 pos, .slice (some ⟨b, o, none⟩) 1 c] 24)))
        have HK_x := hid (hk_x.below (bBw w (.cells #[.int .i64 35, .string s, .int .i64 num, .int .i64 pos, .slice (some ⟨b, o, none⟩) 1 c] 24)))
        clear hx_x hk_x
        clear hl hk
        have HH := hid hh
        clear hh
        obtain ⟨fx0, fx1, fx2, fx3, fx4⟩ := HX_x.out
        go_enter Tryz.func40, Tryz.ntmps40
        go_wp2_with fail
        generalize hW0 : w.alloc (.cells #[.int .i64 35, .string s, .int .i64 num, .int .i64 pos, .slice (some ⟨b, o, none⟩) 1 c] 24) = W0 at *
        refine (head_any ⟨35, s, num, pos, [x]⟩ (some ⟨b, o, none⟩) c 35 false 0 1 _ HL.out (by simp only [List.length_cons, List.length_nil]; unfold maxLen; omega)).mono ?_
        rintro e w1 ⟨rfl, hb1⟩
        rw [HH.out]
        clear fx0 fx1 fx2 fx3 fx4
        have HC1 := hid hb1
        have HB1 := hid (show Below w.heap.size w w1 by rw [← hW0] at hb1; exact box_step hb1)
        clear hb1 hW0
        obtain ⟨x0, x1, x2, x3, x4⟩ := nb HAT HC1
        obtain ⟨fx0, fx1, fx2, fx3, fx4⟩ := nb HX_x HC1
        go_wp2_with fail
        refine (hE x Ax cx _ (HL.out.below HC1.out) (kb HK_x HC1)).mono ?_
        rintro e w2 ⟨rfl, hb2⟩
        clear x0 x1 x2 x3 x4 fx0 fx1 fx2 fx3 fx4
        have HC2 := hid (bTh HC1.out hb2)
        have HB2 := hid (bTh HB1.out hb2)
        clear hb2
        obtain ⟨x0, x1, x2, x3, x4⟩ := nb HAT HC2
        obtain ⟨fx0, fx1, fx2, fx3, fx4⟩ := nb HX_x HC2
        go_wp2
        go_ret
        exact ⟨rBo (by simp [exprS_succ, exprStep, Nd.sub, HH.out]), HB2.out⟩
      ·have b35 : (k == 35) = false := by simpa using k35
       by_cases k33 : k = 33
       ·subst k33
        cases hh : headB ⟨33, s, num, pos, subs⟩ 33 false 0 (-1) with
        | false =>
         have HAT := hid (bAt w ⟨33, s, num, pos, subs⟩ A c 24)
         have HL := hid (hl.below (bBw w (.cells #[.int .i64 33, .string s, .int .i64 num, .int .i64 pos, .slice A subs.length c] 24)))
         clear hl hk
         have HH := hid hh
         clear hh
         go_enter Tryz.func40, Tryz.ntmps40
         go_wp2_with fail
         generalize hW0 : w.alloc (.cells #[.int .i64 33, .string s, .int .i64 num, .int .i64 pos, .slice A subs.length c] 24) = W0 at *
         refine (head_any ⟨33, s, num, pos, subs⟩ A c 33 false 0 (-1) _ HL.out (by unfold maxLen; omega)).mono ?_
         rintro e w1 ⟨rfl, hb1⟩
         rw [HH.out]
         have HC1 := hid hb1
         have HB1 := hid (show Below w.heap.size w w1 by rw [← hW0] at hb1; exact box_step hb1)
         clear hb1 hW0
         obtain ⟨x0, x1, x2, x3, x4⟩ := nb HAT HC1
         go_wp2
         go_ret
         exact ⟨rBo (by simp [exprS_succ, exprStep, Nd.sub, HH.out]), HB1.out⟩
        | true =>
         rcases subs with _ | ⟨x, r⟩
         ·skip
          have HAT := hid (bAt w ⟨33, s, num, pos, []⟩ A c 24)
          have HL := hid (hl.below (bBw w (.cells #[.int .i64 33, .string s, .int .i64 num, .int .i64 pos, .slice A 0 c] 24)))
          clear hl hk
          have HH := hid hh
          clear hh
          go_enter Tryz.func40, Tryz.ntmps40
          go_wp2_with fail
          generalize hW0 : w.alloc (.cells #[.int .i64 33, .string s, .int .i64 num, .int .i64 pos, .slice A 0 c] 24) = W0 at *
          refine (head_any ⟨33, s, num, pos, []⟩ A c 33 false 0 (-1) _ HL.out (by simp)).mono ?_
          rintro e w1 ⟨rfl, hb1⟩
          rw [HH.out]
          have HC1 := hid hb1
          have HB1 := hid (show Below w.heap.size w w1 by rw [← hW0] at hb1; exact box_step hb1)
          clear hb1 hW0
          obtain ⟨x0, x1, x2, x3, x4⟩ := nb HAT HC1
          go_wp2
          go_ret
          exact ⟨rBo (by simp [exprS_succ, exprStep, Nd.sub, HH.out]), HB1.out⟩
         ·skip
          simp only [List.length_cons] at hlen
          obtain ⟨b, o, Ax, cx, rfl, hx_x, hk_x⟩ := hk.one (x := x) (r := r) rfl
          obtain ⟨A', hA', hsl⟩ := slice_tail b o r.length c (by have := hk.list.1; simpa using this)
          have HR := hid ((hk.list.tail hA').below (bBw w (.cells #[.int .i64 33, .string s, .int .i64 num, .int .i64 pos, .slice (some ⟨b, o, none⟩) (r.length + 1) c] 24)))
          clear hA'
          have HAT := hid (bAt w ⟨33, s, num, pos, x :: r⟩ (some ⟨b, o, none⟩) c 24)
          have HL := hid (hl.below (bBw w (.cells #[.int .i64 33, .string s, .int .i64 num, .int .i64 pos, .slice (some ⟨b, o, none⟩) (r.length + 1) c] 24)))
          have HX_x := hid (hx_x.below (bBw w (.cells #[.int .i64 33, .string s, .int .i64 num, .int .i64 pos, .slice (some ⟨b, o, none⟩) (r.length + 1) c] 24)))
          have HK_x := hid (hk_x.below (bBw w (.cells #[.int .i64 33, .string s, .int .i64 num, .int .i64 pos, .slice (some ⟨b, o, none⟩) (r.length + 1) c] 24)))
          clear hx_x hk_x
          clear hl hk
          have HH := hid hh
          clear hh
          cases h0 : desigS d x with
          | false =>
           have H0 := hid h0
           clear h0
           obtain ⟨fx0, fx1, fx2, fx3, fx4⟩ := HX_x.out
           go_enter Tryz.func40, Tryz.ntmps40
           go_wp2_with fail
           generalize hW0 : w.alloc (.cells #[.int .i64 33, .string s, .int .i64 num, .int .i64 pos, .slice (some ⟨b, o, none⟩) (r.length + 1) c] 24) = W0 at *
           refine (head_any ⟨33, s, num, pos, x :: r⟩ (some ⟨b, o, none⟩) c 33 false 0 (-1) _ HL.out (by simp only [List.length_cons]; unfold maxLen; omega)).mono ?_
           rintro e w1 ⟨rfl, hb1⟩
           rw [HH.out]
           clear fx0 fx1 fx2 fx3 fx4
           have HC1 := hid hb1
           have HB1 := hid (show Below w.heap.size w w1 by rw [← hW0] at hb1; exact box_step hb1)
           clear hb1 hW0
           obtain ⟨x0, x1, x2, x3, x4⟩ := nb HAT HC1
           obtain ⟨fx0, fx1, fx2, fx3, fx4⟩ := nb HX_x HC1
           go_wp2_with fail
           refine (hD x Ax cx _ (HL.out.below HC1.out) (kb HK_x HC1)).mono ?_
           rintro e w2 ⟨rfl, hb2⟩
           rw [H0.out]
           clear x0 x1 x2 x3 x4 fx0 fx1 fx2 fx3 fx4
           have HC2 := hid (bTh HC1.out hb2)
           have HB2 := hid (bTh HB1.out hb2)
           clear hb2
           obtain ⟨x0, x1, x2, x3, x4⟩ := nb HAT HC2
           obtain ⟨fx0, fx1, fx2, fx3, fx4⟩ := nb HX_x HC2
           go_wp2
           go_ret
           exact ⟨rBo (by simp [exprS_succ, exprStep, Nd.sub, HH.out, H0.out]), HB2.out⟩
          | true =>
           have H0 := hid h0
           clear h0
           obtain ⟨fx0, fx1, fx2, fx3, fx4⟩ := HX_x.out
           go_enter Tryz.func40, Tryz.ntmps40
           go_wp2_with fail
           generalize hW0 : w.alloc (.cells #[.int .i64 33, .string s, .int .i64 num, .int .i64 pos, .slice (some ⟨b, o, none⟩) (r.length + 1) c] 24) = W0 at *
           refine (head_any ⟨33, s, num, pos, x :: r⟩ (some ⟨b, o, none⟩) c 33 false 0 (-1) _ HL.out (by simp only [List.length_cons]; unfold maxLen; omega)).mono ?_
           rintro e w1 ⟨rfl, hb1⟩
           rw [HH.out]
           clear fx0 fx1 fx2 fx3 fx4
           have HC1 := hid hb1
           have HB1 := hid (show Below w.heap.size w w1 by rw [← hW0] at hb1; exact box_step hb1)
           clear hb1 hW0
           obtain ⟨x0, x1, x2, x3, x4⟩ := nb HAT HC1
           obtain ⟨fx0, fx1, fx2, fx3, fx4⟩ := nb HX_x HC1
           go_wp2_with fail
           refine (hD x Ax cx _ (HL.out.below HC1.out) (kb HK_x HC1)).mono ?_
           rintro e w2 ⟨rfl, hb2⟩
           rw [H0.out]
           clear x0 x1 x2 x3 x4 fx0 fx1 fx2 fx3 fx4
           have HC2 := hid (bTh HC1.out hb2)
           have HB2 := hid (bTh HB1.out hb2)
           clear hb2
           obtain ⟨x0, x1, x2, x3, x4⟩ := nb HAT HC2
           obtain ⟨fx0, fx1, fx2, fx3, fx4⟩ := nb HX_x HC2
           go_wp2_with fail
           refine (exprsShaped_any d hE r A' (c - 1) _ (HL.out.below HC2.out) (HR.out.below HC2.out)).mono ?_
           rintro e w3 ⟨rfl, hb3⟩
           clear x0 x1 x2 x3 x4 fx0 fx1 fx2 fx3 fx4
           have HC3 := hid (bTh HC2.out hb3)
           have HB3 := hid (bTh HB2.out hb3)
           clear hb3
           obtain ⟨x0, x1, x2, x3, x4⟩ := nb HAT HC3
           obtain ⟨fx0, fx1, fx2, fx3, fx4⟩ := nb HX_x HC3
           go_wp2
           go_ret
           exact ⟨rBo (by simp [exprS_succ, exprStep, Nd.sub, HH.out, H0.out]), HB3.out⟩
       ·have b33 : (k == 33) = false := by simpa using k33
        by_cases k37 : k = 37
        ·subst k37
         cases hh : headB ⟨37, s, num, pos, subs⟩ 37 false 0 2 with
         | false =>
          have HAT := hid (bAt w ⟨37, s, num, pos, subs⟩ A c 24)
          have HL := hid (hl.below (bBw w (.cells #[.int .i64 37, .string s, .int .i64 num, .int .i64 pos, .slice A subs.length c] 24)))
          clear hl hk
          have HH := hid hh
          clear hh
          go_enter Tryz.func40, Tryz.ntmps40
          go_wp2_with fail
          generalize hW0 : w.alloc (.cells #[.int .i64 37, .string s, .int .i64 num, .int .i64 pos, .slice A subs.length c] 24) = W0 at *
          refine (head_any ⟨37, s, num, pos, subs⟩ A c 37 false 0 2 _ HL.out (by unfold maxLen; omega)).mono ?_
          rintro e w1 ⟨rfl, hb1⟩
          rw [HH.out]
          have HC1 := hid hb1
          have HB1 := hid (show Below w.heap.size w w1 by rw [← hW0] at hb1; exact box_step hb1)
          clear hb1 hW0
          obtain ⟨x0, x1, x2, x3, x4⟩ := nb HAT HC1
          go_wp2
          go_ret
          exact ⟨rBo (by simp [exprS_succ, exprStep, Nd.sub, HH.out]), HB1.out⟩
         | true =>
          obtain ⟨x, y, rfl⟩ := len2 (headB_len hh (by omega))
          obtain ⟨b, o, Ax, cx, rfl, hx_x, hk_x⟩ := hk.one (x := x) (r := [y]) rfl
          obtain ⟨Ay, cy, hx_y, hk_y⟩ := hk.nth rfl (i := 1) (x := y) rfl rfl
          rw [Nat.one_mul] at hx_y
          have HAT := hid (bAt w ⟨37, s, num, pos, [x, y]⟩ (some ⟨b, o, none⟩) c 24)
          have HL := hid (hl.below (bBw w (.cells #[.int .i64 37, .string s, .int .i64 num, .int .i64 pos, .slice (some ⟨b, o, none⟩) 2 c] 24)))
          have HX_x := hid (hx_x.below (bBw w (.cells #[.int .i64 37, .string s, .int .i64 num, .int .i64 pos, .slice (some ⟨b, o, none⟩) 2 c] 24)))
          have HK_x := hid (hk_x.below (bBw w (.cells #[.int .i64 37, .string s, .int .i64 num, .int .i64 pos, .slice (some ⟨b, o, none⟩) 2 c] 24)))
          clear hx_x hk_x
          have HX_y := hid (hx_y.below (bBw w (.cells #[.int .i64 37, .string s, .int .i64 num, .int .i64 pos, .slice (some ⟨b, o, none⟩) 2 c] 24)))
          have HK_y := hid (hk_y.below (bBw w (.cells #[.int .i64 37, .string s, .int .i64 num, .int .i64 pos, .slice (some ⟨b, o, none⟩) 2 c] 24)))
          clear hx_y hk_y
          clear hl hk
          have HH := hid hh
          clear hh
          cases h0 : exprS d x with
          | false =>
           have H0 := hid h0
           clear h0
           obtain ⟨fx0, fx1, fx2, fx3, fx4⟩ := HX_x.out
           obtain ⟨fy0, fy1, fy2, fy3, fy4⟩ := HX_y.out
           go_enter Tryz.func40, Tryz.ntmps40
           go_wp2_with fail
           generalize hW0 : w.alloc (.cells #[.int .i64 37, .string s, .int .i64 num, .int .i64 pos, .slice (some ⟨b, o, none⟩) 2 c] 24) = W0 at *
           refine (head_any ⟨37, s, num, pos, [x, y]⟩ (some ⟨b, o, none⟩) c 37 false 0 2 _ HL.out (by simp only [List.length_cons, List.length_nil]; unfold maxLen; omega)).mono ?_
           rintro e w1 ⟨rfl, hb1⟩
           rw [HH.out]
           clear fx0 fx1 fx2 fx3 fx4 fy0 fy1 fy2 fy3 fy4
           have HC1 := hid hb1
           have HB1 := hid (show Below w.heap.size w w1 by rw [← hW0] at hb1; exact box_step hb1)
           clear hb1 hW0
           obtain ⟨x0, x1, x2, x3, x4⟩ := nb HAT HC1
           obtain ⟨fx0, fx1, fx2, fx3, fx4⟩ := nb HX_x HC1
           obtain ⟨fy0, fy1, fy2, fy3, fy4⟩ := nb HX_y HC1
           go_wp2_with fail
           refine (hE x Ax cx _ (HL.out.below HC1.out) (kb HK_x HC1)).mono ?_
           rintro e w2 ⟨rfl, hb2⟩
           rw [H0.out]
           clear x0 x1 x2 x3 x4 fx0 fx1 fx2 fx3 fx4 fy0 fy1 fy2 fy3 fy4
           have HC2 := hid (bTh HC1.out hb2)
           have HB2 := hid (bTh HB1.out hb2)
           clear hb2
           obtain ⟨x0, x1, x2, x3, x4⟩ := nb HAT HC2
           obtain ⟨fx0, fx1, fx2, fx3, fx4⟩ := nb HX_x HC2
           obtain ⟨fy0, fy1, fy2, fy3, fy4⟩ := nb HX_y HC2
           go_wp2
           go_ret
           exact ⟨rBo (by simp [exprS_succ, exprStep, Nd.sub, HH.out, H0.out]), HB2.out⟩
          | true =>
           have H0 := hid h0
           clear h0
           obtain ⟨fx0, fx1, fx2, fx3, fx4⟩ := HX_x.out
           obtain ⟨fy0, fy1, fy2, fy3, fy4⟩ := HX_y.out
           go_enter Tryz.func40, Tryz.ntmps40
           go_wp2_with fail
           generalize hW0 : w.alloc (.cells #[.int .i64 37, .string s, .int .i64 num, .int .i64 pos, .slice (some ⟨b, o, none⟩) 2 c] 24) = W0 at *
           refine (head_any ⟨37, s, num, pos, [x, y]⟩ (some ⟨b, o, none⟩) c 37 false 0 2 _ HL.out (by simp only [List.length_cons, List.length_nil]; unfold maxLen; omega)).mono ?_
           rintro e w1 ⟨rfl, hb1⟩
           rw [HH.out]
           clear fx0 fx1 fx2 fx3 fx4 fy0 fy1 fy2 fy3 fy4
           have HC1 := hid hb1
           have HB1 := hid (show Below w.heap.size w w1 by rw [← hW0] at hb1; exact box_step hb1)
           clear hb1 hW0
           obtain ⟨x0, x1, x2, x3, x4⟩ := nb HAT HC1
           obtain ⟨fx0, fx1, fx2, fx3, fx4⟩ := nb HX_x HC1
           obtain ⟨fy0, fy1, fy2, fy3, fy4⟩ := nb HX_y HC1
           go_wp2_with fail
           refine (hE x Ax cx _ (HL.out.below HC1.out) (kb HK_x HC1)).mono ?_
           rintro e w2 ⟨rfl, hb2⟩
           rw [H0.out]
           clear x0 x1 x2 x3 x4 fx0 fx1 fx2 fx3 fx4 fy0 fy1 fy2 fy3 fy4
           have HC2 := hid (bTh HC1.out hb2)
           have HB2 := hid (bTh HB1.out hb2)
           clear hb2
           obtain ⟨x0, x1, x2, x3, x4⟩ := nb HAT HC2
           obtain ⟨fx0, fx1, fx2, fx3, fx4⟩ := nb HX_x HC2
           obtain ⟨fy0, fy1, fy2, fy3, fy4⟩ := nb HX_y HC2
           go_wp2_with fail
           refine (nameShaped_any d y Ay cy _ (HL.out.below HC2.out) (kb HK_y HC2)).mono ?_
           rintro e w3 ⟨rfl, hb3⟩
           clear x0 x1 x2 x3 x4 fx0 fx1 fx2 fx3 fx4 fy0 fy1 fy2 fy3 fy4
           have HC3 := hid (bTh HC2.out hb3)
           have HB3 := hid (bTh HB2.out hb3)
           clear hb3
           obtain ⟨x0, x1, x2, x3, x4⟩ := nb HAT HC3
           obtain ⟨fx0, fx1, fx2, fx3, fx4⟩ := nb HX_x HC3
           obtain ⟨fy0, fy1, fy2, fy3, fy4⟩ := nb HX_y HC3
           go_wp2
           go_ret
           exact ⟨rBo (by simp [exprS_succ, exprStep, Nd.sub, HH.out, H0.out]), HB3.out⟩
        ·have b37 : (k == 37) = false := by simpa using k37
         by_cases k36 : k = 36
         ·subst k36
          have HKL := hid (hk.list.below (bBw w (.cells #[.int .i64 36, .string s, .int .i64 num, .int .i64 pos, .slice A subs.length c] 24)))
          have HAT := hid (bAt w ⟨36, s, num, pos, subs⟩ A c 24)
          have HL := hid (hl.below (bBw w (.cells #[.int .i64 36, .string s, .int .i64 num, .int .i64 pos, .slice A subs.length c] 24)))
          clear hl hk
          by_cases hv : 0 ≤ levelN s
          ·skip
           by_cases hn : num = 0
           ·have hnb : (num == 0) = true := by simpa using hn
            have HN := hid hn
            clear hn
            by_cases h2 : (subs.length : Int) = 2
            ·have h2b : ((subs.length : Int) == 2) = true := by simpa using h2
             have h2c : subs.length = 2 := by omega
             have H2 := hid h2c
             clear h2 h2c
             go_enter Tryz.func40, Tryz.ntmps40
             go_wp2_with fail
             generalize hW0 : w.alloc (.cells #[.int .i64 36, .string s, .int .i64 num, .int .i64 pos, .slice A subs.length c] 24) = W0 at *
             refine (levelOf_any s _).mono ?_
             rintro e w1 ⟨rfl, hb1⟩
             have HC1 := hid hb1
             have HB1 := hid (show Below w.heap.size w w1 by rw [← hW0] at hb1; exact box_step hb1)
             clear hb1 hW0
             obtain ⟨x0, x1, x2, x3, x4⟩ := nb HAT HC1
             go_wp2_with fail
             refine (exprsShaped_any d hE subs A c _ (HL.out.below HC1.out) (HKL.out.below HC1.out)).mono ?_
             rintro e w2 ⟨rfl, hb2⟩
             clear x0 x1 x2 x3 x4
             have HC2 := hid (bTh HC1.out hb2)
             have HB2 := hid (bTh HB1.out hb2)
             clear hb2
             obtain ⟨x0, x1, x2, x3, x4⟩ := nb HAT HC2
             go_wp2
             go_ret
             exact ⟨rBo (by simp [exprS_succ, exprStep, hv, HN.out, H2.out]), HB2.out⟩
            ·have h2b : ((subs.length : Int) == 2) = false := by simpa using h2
             have h2c : ¬ subs.length = 2 := by omega
             go_enter Tryz.func40, Tryz.ntmps40
             go_wp2_with fail
             generalize hW0 : w.alloc (.cells #[.int .i64 36, .string s, .int .i64 num, .int .i64 pos, .slice A subs.length c] 24) = W0 at *
             refine (levelOf_any s _).mono ?_
             rintro e w1 ⟨rfl, hb1⟩
             have HC1 := hid hb1
             have HB1 := hid (show Below w.heap.size w w1 by rw [← hW0] at hb1; exact box_step hb1)
             clear hb1 hW0
             obtain ⟨x0, x1, x2, x3, x4⟩ := nb HAT HC1
             go_wp2
             go_ret
             exact ⟨rBo (by simp [exprS_succ, exprStep, hv, HN.out, h2c]), HB1.out⟩
           ·have hnb : (num == 0) = false := by simpa using hn
            go_enter Tryz.func40, Tryz.ntmps40
            go_wp2_with fail
            generalize hW0 : w.alloc (.cells #[.int .i64 36, .string s, .int .i64 num, .int .i64 pos, .slice A subs.length c] 24) = W0 at *
            refine (levelOf_any s _).mono ?_
            rintro e w1 ⟨rfl, hb1⟩
            have HC1 := hid hb1
            have HB1 := hid (show Below w.heap.size w w1 by rw [← hW0] at hb1; exact box_step hb1)
            clear hb1 hW0
            obtain ⟨x0, x1, x2, x3, x4⟩ := nb HAT HC1
            go_wp2
            go_ret
            exact ⟨rBo (by simp [exprS_succ, exprStep, hn]), HB1.out⟩
          ·have hvb : decide (0 ≤ levelN s) = false := decide_eq_false hv
           go_enter Tryz.func40, Tryz.ntmps40
           go_wp2_with fail
           generalize hW0 : w.alloc (.cells #[.int .i64 36, .string s, .int .i64 num, .int .i64 pos, .slice A subs.length c] 24) = W0 at *
           refine (levelOf_any s _).mono ?_
           rintro e w1 ⟨rfl, hb1⟩
           have HC1 := hid hb1
           have HB1 := hid (show Below w.heap.size w w1 by rw [← hW0] at hb1; exact box_step hb1)
           clear hb1 hW0
           obtain ⟨x0, x1, x2, x3, x4⟩ := nb HAT HC1
           go_wp2
           go_ret
           exact ⟨rBo (by simp [exprS_succ, exprStep, hvb]), HB1.out⟩
         ·have b36 : (k == 36) = false := by simpa using k36
          have HKN := hid (hk.below (bBw w (.cells #[.int .i64 k, .string s, .int .i64 num, .int .i64 pos, .slice A subs.length c] 24)))
          have HAT := hid (bAt w ⟨k, s, num, pos, subs⟩ A c 24)
          have HL := hid (hl.below (bBw w (.cells #[.int .i64 k, .string s, .int .i64 num, .int .i64 pos, .slice A subs.length c] 24)))
          clear hl hk
          go_enter Tryz.func40, Tryz.ntmps40
          go_wp2_with fail
          generalize hW0 : w.alloc (.cells #[.int .i64 k, .string s, .int .i64 num, .int .i64 pos, .slice A subs.length c] 24) = W0 at *
          refine (hD1 ⟨k, s, num, pos, subs⟩ A c _ HL.out HKN.out).mono ?_
          rintro e w1 ⟨rfl, hb1⟩
          have HC1 := hid hb1
          have HB1 := hid (show Below w.heap.size w w1 by rw [← hW0] at hb1; exact box_step hb1)
          clear hb1 hW0
          obtain ⟨x0, x1, x2, x3, x4⟩ := nb HAT HC1
          go_wp2
          go_ret
          exact ⟨rBo (by simp [exprS_succ, desigS_succ, exprStep, k29, k30, k31, k32, k34, k35, k33, k37, k36]), HB1.out⟩
theorem ed_any : ∀ d : Nat, Asks_exprShaped d ∧ Asks_desigShaped d
 | 0 => ⟨fun _ _ _ _ _ hk => hk.elim, fun _ _ _ _ _ hk => hk.elim⟩
 | d + 1 => by
  obtain ⟨hE, hD⟩ := ed_any d
  have hD1 := desig_step d hE hD
  exact ⟨expr_step d hE hD hD1, hD1⟩
end Go.Proofs.YtneohanphabneaaGreatDoor
