/-
The document's answer on shapes, the walks: statements. Conditions: the tree lies in memory; the variable with the kept words is as it is laid.
-/
import Derived.Test.YtneohanphabneaaGreatDoorShapeR2
namespace Go.Proofs.YtneohanphabneaaGreatDoor
set_option linter.unusedSimpArgs false
set_option linter.unusedVariables false
open Go.RowKit
def Asks_stmtShaped (d : Nat) : Prop := ∀ (n : Nd) (A : Option Addr) (c : Nat) (w : World), KeptLaid w → Kids w d n A c →
  Calls Tryz.prog 43 #[.agg #[.int .i64 n.kind, .string n.name, .int .i64 n.num, .int .i64 n.pos, .slice A n.subs.length c]] w fun e w' => e = .returned (.bool (stmtS d n)) ∧ Below w.heap.size w w'
def Asks_stmtsShaped (d : Nat) : Prop := ∀ (n : Nd) (A : Option Addr) (c : Nat) (w : World), KeptLaid w → Kids w d n A c →
  Calls Tryz.prog 20 #[.agg #[.int .i64 n.kind, .string n.name, .int .i64 n.num, .int .i64 n.pos, .slice A n.subs.length c]] w fun e w' => e = .returned (.bool (stmtsS d n)) ∧ Below w.heap.size w w'
set_option maxRecDepth 100000 in
set_option maxHeartbeats 4000000 in
theorem stmts_step (d : Nat) (hS : Asks_stmtShaped d) : Asks_stmtsShaped (d + 1) := by
 intro n A c w hl hk
 obtain ⟨k, s, num, pos, subs⟩ := n
 have hlen := hk.len
 unfold maxLen at hlen
 simp only at hlen
 cases hh : headB ⟨k, s, num, pos, subs⟩ 1 false 0 (-1) with
 | false =>
  have HAT := hid (bAt w ⟨k, s, num, pos, subs⟩ A c 24)
  have HL := hid (hl.below (bBw w (.cells #[.int .i64 k, .string s, .int .i64 num, .int .i64 pos, .slice A subs.length c] 24)))
  clear hl hk
  have HH := hid hh
  clear hh
  go_enter Tryz.func20, Tryz.ntmps20
  go_wp2_with fail
  generalize hW0 : w.alloc (.cells #[.int .i64 k, .string s, .int .i64 num, .int .i64 pos, .slice A subs.length c] 24) = W0 at *
  have HBOX := hid (show Below w.heap.size w W0 by rw [← hW0]; exact bBw _ _)
  clear hW0
  refine (head_any ⟨k, s, num, pos, subs⟩ A c 1 false 0 (-1) _ HL.out (by unfold maxLen; simp only [List.length_cons, List.length_nil]; omega)).mono ?_
  rintro e w1 ⟨rfl, hb1⟩
  have HC1 := hid hb1
  clear hb1
  obtain ⟨x0, x1, x2, x3, x4⟩ := nb HAT HC1
  rw [HH.out]
  go_wp2
  go_ret
  exact ⟨rBo (by simp [stmtsS_succ, listStep, HH.out]), bTh HBOX.out HC1.out⟩
 | true =>
  have HAT := hid (bAt w ⟨k, s, num, pos, subs⟩ A c 24)
  have HL := hid (hl.below (bBw w (.cells #[.int .i64 k, .string s, .int .i64 num, .int .i64 pos, .slice A subs.length c] 24)))
  have HKL := hid ((hk.list).below (bBw w (.cells #[.int .i64 k, .string s, .int .i64 num, .int .i64 pos, .slice A subs.length c] 24)))
  clear hl hk
  have HH := hid hh
  clear hh
  go_enter Tryz.func20, Tryz.ntmps20
  go_wp2_with fail
  generalize hW0 : w.alloc (.cells #[.int .i64 k, .string s, .int .i64 num, .int .i64 pos, .slice A subs.length c] 24) = W0 at *
  have HBOX := hid (show Below w.heap.size w W0 by rw [← hW0]; exact bBw _ _)
  clear hW0
  refine (head_any ⟨k, s, num, pos, subs⟩ A c 1 false 0 (-1) _ HL.out (by unfold maxLen; simp only [List.length_cons, List.length_nil]; omega)).mono ?_
  rintro e w1 ⟨rfl, hb1⟩
  have HC1 := hid hb1
  clear hb1
  obtain ⟨x0, x1, x2, x3, x4⟩ := nb HAT HC1
  rw [HH.out]
  go_wp2
  go_loopw [3] (fun ii wr => ∃ j : Nat, j ≤ subs.length ∧ ii = .int .i64 j ∧ (subs.take j).all (stmtS d) = true ∧ Below W0.heap.size W0 wr) (fun ii _ => subs.length - (intOf ii).toNat)
  case atStart => exact ⟨0, by simp, rfl, by simp, HC1.out⟩
  case round =>
   obtain ⟨j, hj, rfl, hall, hbr⟩ := hrel
   have HC2 := hid hbr
   have HALL := hid hall
   clear hbr hall
   clear x0 x1 x2 x3 x4
   obtain ⟨x0, x1, x2, x3, x4⟩ := nb HAT HC2
   by_cases hlt : j < subs.length
   ·skip
    obtain ⟨y, hy⟩ : ∃ y, subs[j]? = some y := ⟨_, List.getElem?_eq_getElem (by simpa using hlt)⟩
    obtain ⟨by_, oy, Ay, cy, hA, hx, hky⟩ := HKL.out.2.2 j y hy
    subst hA
    have HX_y := hid hx
    have HK_y := hid hky
    have HY := hid hy
    clear hx hky hy
    clear x0 x1 x2 x3 x4
    obtain ⟨x0, x1, x2, x3, x4⟩ := nb HAT HC2
    obtain ⟨fy0, fy1, fy2, fy3, fy4⟩ := nb HX_y HC2
    go_wp2_with fail
    refine (hS y Ay cy _ (HL.out.below HC2.out) (kb HK_y HC2)).mono ?_
    rintro e w3 ⟨rfl, hb3⟩
    have HC3 := hid (bTh HC2.out hb3)
    clear hb3
    clear x0 x1 x2 x3 x4 fy0 fy1 fy2 fy3 fy4
    obtain ⟨x0, x1, x2, x3, x4⟩ := nb HAT HC3
    obtain ⟨fy0, fy1, fy2, fy3, fy4⟩ := nb HX_y HC3
    cases hHV : stmtS d y with
    | false =>
     have HV := hid hHV
     clear hHV
     have FIN := hid (bad_at (p := stmtS d) HY.out HV.out)
     go_wp2
     go_ret
     exact ⟨rBo (by simp [stmtsS_succ, listStep, HH.out, FIN.out]), bTh HBOX.out HC3.out⟩
    | true =>
     have HV := hid hHV
     clear hHV
     have STEP := hid (step_at (p := stmtS d) HY.out HALL.out HV.out)
     go_wp2
     go_roundw
     case rel => exact ⟨j + 1, by omega, by go_num, STEP.out, HC3.out⟩
     case measure => simp [intOf]; omega
   ·skip
    have FIN := hid (all_end hlt HALL.out)
    go_wp2
    go_ret
    exact ⟨rBo (by simp [stmtsS_succ, listStep, HH.out, FIN.out]), bTh HBOX.out HC2.out⟩
theorem ifAll_at (E L : Nd → Bool) (num : Int) (k : Nat) {l : List Nd} {j : Nat} {y : Nd} (h : l[j]? = some y) : ifAll E L num k (l.drop j) j = ((if j % 2 = 1 ∨ (j + 1 = k ∧ num = 1) then L y else E y) && ifAll E L num k (l.drop (j + 1)) (j + 1)) := by
 have hlt := at_lt h
 rw [List.drop_eq_getElem_cons hlt, at_eq h]
 rfl
set_option maxRecDepth 100000 in
set_option maxHeartbeats 16000000 in
theorem stmt_step (d : Nat) (hE : Asks_exprShaped d) (hD : Asks_desigShaped d) (hL : Asks_stmtsShaped d) : Asks_stmtShaped (d + 1) := by
 intro n A c w hl hk
 obtain ⟨k, s, num, pos, subs⟩ := n
 have hlen := hk.len
 unfold maxLen at hlen
 simp only at hlen
 by_cases k14 : k = 14
 ·subst k14
  cases hh : headB ⟨14, s, num, pos, subs⟩ 14 false 0 2 with
  | false =>
   have HAT := hid (bAt w ⟨14, s, num, pos, subs⟩ A c 24)
   have HL := hid (hl.below (bBw w (.cells #[.int .i64 14, .string s, .int .i64 num, .int .i64 pos, .slice A subs.length c] 24)))
   clear hl hk
   have HH := hid hh
   clear hh
   go_enter Tryz.func43, Tryz.ntmps43
   go_wp2_with fail
   generalize hW0 : w.alloc (.cells #[.int .i64 14, .string s, .int .i64 num, .int .i64 pos, .slice A subs.length c] 24) = W0 at *
   have HBOX := hid (show Below w.heap.size w W0 by rw [← hW0]; exact bBw _ _)
   clear hW0
   refine (head_any ⟨14, s, num, pos, subs⟩ A c 14 false 0 2 _ HL.out (by unfold maxLen; simp only [List.length_cons, List.length_nil]; omega)).mono ?_
   rintro e w1 ⟨rfl, hb1⟩
   have HC1 := hid hb1
   clear hb1
   obtain ⟨x0, x1, x2, x3, x4⟩ := nb HAT HC1
   rw [HH.out]
   go_wp2
   go_ret
   exact ⟨rBo (by simp [stmtS_succ, stmtStep, Nd.sub, HH.out]), bTh HBOX.out HC1.out⟩
  | true =>
   obtain ⟨x, y, rfl⟩ := len2 (headB_len hh (by omega))
   obtain ⟨b, o, Ax, cx, rfl, hx_x, hk_x⟩ := hk.one (x := x) (r := [y]) rfl
   obtain ⟨Ay, cy, hx_y, hk_y⟩ := hk.nth rfl (i := 1) (x := y) rfl (p := o + 5) (by omega)
   simp only [List.length_cons, List.length_nil, Nat.zero_add] at hlen
   have HAT := hid (bAt w ⟨14, s, num, pos, [x, y]⟩ (some ⟨b, o, none⟩) c 24)
   have HL := hid (hl.below (bBw w (.cells #[.int .i64 14, .string s, .int .i64 num, .int .i64 pos, .slice (some ⟨b, o, none⟩) 2 c] 24)))
   have HX_x := hid (hx_x.below (bBw w (.cells #[.int .i64 14, .string s, .int .i64 num, .int .i64 pos, .slice (some ⟨b, o, none⟩) 2 c] 24)))
   have HK_x := hid (hk_x.below (bBw w (.cells #[.int .i64 14, .string s, .int .i64 num, .int .i64 pos, .slice (some ⟨b, o, none⟩) 2 c] 24)))
   clear hx_x hk_x
   have HX_y := hid (hx_y.below (bBw w (.cells #[.int .i64 14, .string s, .int .i64 num, .int .i64 pos, .slice (some ⟨b, o, none⟩) 2 c] 24)))
   have HK_y := hid (hk_y.below (bBw w (.cells #[.int .i64 14, .string s, .int .i64 num, .int .i64 pos, .slice (some ⟨b, o, none⟩) 2 c] 24)))
   clear hx_y hk_y
   clear hl hk
   have HH := hid hh
   clear hh
   obtain ⟨fx0, fx1, fx2, fx3, fx4⟩ := HX_x.out
   obtain ⟨fy0, fy1, fy2, fy3, fy4⟩ := HX_y.out
   go_enter Tryz.func43, Tryz.ntmps43
   go_wp2_with fail
   generalize hW0 : w.alloc (.cells #[.int .i64 14, .string s, .int .i64 num, .int .i64 pos, .slice (some ⟨b, o, none⟩) 2 c] 24) = W0 at *
   have HBOX := hid (show Below w.heap.size w W0 by rw [← hW0]; exact bBw _ _)
   clear hW0
   refine (head_any ⟨14, s, num, pos, [x, y]⟩ (some ⟨b, o, none⟩) c 14 false 0 2 _ HL.out (by unfold maxLen; simp only [List.length_cons, List.length_nil]; omega)).mono ?_
   rintro e w1 ⟨rfl, hb1⟩
   have HC1 := hid hb1
   clear hb1
   clear fx0 fx1 fx2 fx3 fx4 fy0 fy1 fy2 fy3 fy4
   obtain ⟨x0, x1, x2, x3, x4⟩ := nb HAT HC1
   obtain ⟨fx0, fx1, fx2, fx3, fx4⟩ := nb HX_x HC1
   obtain ⟨fy0, fy1, fy2, fy3, fy4⟩ := nb HX_y HC1
   rw [HH.out]
   go_wp2_with fail
   refine (hD x Ax cx _ (HL.out.below HC1.out) (kb HK_x HC1)).mono ?_
   rintro e w2 ⟨rfl, hb2⟩
   have HC2 := hid (bTh HC1.out hb2)
   clear hb2
   clear x0 x1 x2 x3 x4 fx0 fx1 fx2 fx3 fx4 fy0 fy1 fy2 fy3 fy4
   obtain ⟨x0, x1, x2, x3, x4⟩ := nb HAT HC2
   obtain ⟨fx0, fx1, fx2, fx3, fx4⟩ := nb HX_x HC2
   obtain ⟨fy0, fy1, fy2, fy3, fy4⟩ := nb HX_y HC2
   cases hH1 : desigS d x with
   | false =>
    have H1 := hid hH1
    clear hH1
    go_wp2
    go_ret
    exact ⟨rBo (by simp [stmtS_succ, stmtStep, Nd.sub, HH.out, H1.out]), bTh HBOX.out HC2.out⟩
   | true =>
    have H1 := hid hH1
    clear hH1
    go_wp2_with fail
    refine (hE y Ay cy _ (HL.out.below HC2.out) (kb HK_y HC2)).mono ?_
    rintro e w3 ⟨rfl, hb3⟩
    have HC3 := hid (bTh HC2.out hb3)
    clear hb3
    clear x0 x1 x2 x3 x4 fx0 fx1 fx2 fx3 fx4 fy0 fy1 fy2 fy3 fy4
    obtain ⟨x0, x1, x2, x3, x4⟩ := nb HAT HC3
    obtain ⟨fx0, fx1, fx2, fx3, fx4⟩ := nb HX_x HC3
    obtain ⟨fy0, fy1, fy2, fy3, fy4⟩ := nb HX_y HC3
    go_wp2
    go_ret
    exact ⟨rBo (by simp [stmtS_succ, stmtStep, Nd.sub, HH.out, H1.out]), bTh HBOX.out HC3.out⟩
 ·have b14 : (k == 14) = false := by simpa using k14
  by_cases k15 : k = 15
  ·subst k15
   cases hh : headB ⟨15, s, num, pos, subs⟩ 15 false 0 (-1) with
   | false =>
    have HAT := hid (bAt w ⟨15, s, num, pos, subs⟩ A c 24)
    have HL := hid (hl.below (bBw w (.cells #[.int .i64 15, .string s, .int .i64 num, .int .i64 pos, .slice A subs.length c] 24)))
    clear hl hk
    have HH := hid hh
    clear hh
    go_enter Tryz.func43, Tryz.ntmps43
    go_wp2_with fail
    generalize hW0 : w.alloc (.cells #[.int .i64 15, .string s, .int .i64 num, .int .i64 pos, .slice A subs.length c] 24) = W0 at *
    have HBOX := hid (show Below w.heap.size w W0 by rw [← hW0]; exact bBw _ _)
    clear hW0
    refine (head_any ⟨15, s, num, pos, subs⟩ A c 15 false 0 (-1) _ HL.out (by unfold maxLen; simp only [List.length_cons, List.length_nil]; omega)).mono ?_
    rintro e w1 ⟨rfl, hb1⟩
    have HC1 := hid hb1
    clear hb1
    obtain ⟨x0, x1, x2, x3, x4⟩ := nb HAT HC1
    rw [HH.out]
    go_wp2
    go_ret
    exact ⟨rBo (by simp [stmtS_succ, stmtStep, Nd.sub, HH.out]), bTh HBOX.out HC1.out⟩
   | true =>
    rcases subs with _ | ⟨x, r⟩
    ·skip
     have HAT := hid (bAt w ⟨15, s, num, pos, []⟩ A c 24)
     have HL := hid (hl.below (bBw w (.cells #[.int .i64 15, .string s, .int .i64 num, .int .i64 pos, .slice A 0 c] 24)))
     clear hl hk
     have HH := hid hh
     clear hh
     go_enter Tryz.func43, Tryz.ntmps43
     go_wp2_with fail
     generalize hW0 : w.alloc (.cells #[.int .i64 15, .string s, .int .i64 num, .int .i64 pos, .slice A 0 c] 24) = W0 at *
     have HBOX := hid (show Below w.heap.size w W0 by rw [← hW0]; exact bBw _ _)
     clear hW0
     refine (head_any ⟨15, s, num, pos, []⟩ A c 15 false 0 (-1) _ HL.out (by unfold maxLen; simp only [List.length_cons, List.length_nil]; omega)).mono ?_
     rintro e w1 ⟨rfl, hb1⟩
     have HC1 := hid hb1
     clear hb1
     obtain ⟨x0, x1, x2, x3, x4⟩ := nb HAT HC1
     rw [HH.out]
     go_wp2
     go_ret
     exact ⟨rBo (by simp [stmtS_succ, stmtStep, Nd.sub, HH.out]), bTh HBOX.out HC1.out⟩
    ·skip
     simp only [List.length_cons] at hlen
     obtain ⟨b, o, Ax, cx, rfl, hx_x, hk_x⟩ := hk.one (x := x) (r := r) rfl
     obtain ⟨A', hA', hsl⟩ := slice_tail b o r.length c (by have := hk.list.1; simpa using this)
     have HAT := hid (bAt w ⟨15, s, num, pos, x :: r⟩ (some ⟨b, o, none⟩) c 24)
     have HL := hid (hl.below (bBw w (.cells #[.int .i64 15, .string s, .int .i64 num, .int .i64 pos, .slice (some ⟨b, o, none⟩) (r.length + 1) c] 24)))
     have HX_x := hid (hx_x.below (bBw w (.cells #[.int .i64 15, .string s, .int .i64 num, .int .i64 pos, .slice (some ⟨b, o, none⟩) (r.length + 1) c] 24)))
     have HK_x := hid (hk_x.below (bBw w (.cells #[.int .i64 15, .string s, .int .i64 num, .int .i64 pos, .slice (some ⟨b, o, none⟩) (r.length + 1) c] 24)))
     clear hx_x hk_x
     have HR := hid ((hk.list.tail hA').below (bBw w (.cells #[.int .i64 15, .string s, .int .i64 num, .int .i64 pos, .slice (some ⟨b, o, none⟩) (r.length + 1) c] 24)))
     clear hl hk
     have HH := hid hh
     clear hh
     clear hA'
     obtain ⟨fx0, fx1, fx2, fx3, fx4⟩ := HX_x.out
     go_enter Tryz.func43, Tryz.ntmps43
     go_wp2_with fail
     generalize hW0 : w.alloc (.cells #[.int .i64 15, .string s, .int .i64 num, .int .i64 pos, .slice (some ⟨b, o, none⟩) (r.length + 1) c] 24) = W0 at *
     have HBOX := hid (show Below w.heap.size w W0 by rw [← hW0]; exact bBw _ _)
     clear hW0
     refine (head_any ⟨15, s, num, pos, x :: r⟩ (some ⟨b, o, none⟩) c 15 false 0 (-1) _ HL.out (by unfold maxLen; simp only [List.length_cons, List.length_nil]; omega)).mono ?_
     rintro e w1 ⟨rfl, hb1⟩
     have HC1 := hid hb1
     clear hb1
     clear fx0 fx1 fx2 fx3 fx4
     obtain ⟨x0, x1, x2, x3, x4⟩ := nb HAT HC1
     obtain ⟨fx0, fx1, fx2, fx3, fx4⟩ := nb HX_x HC1
     rw [HH.out]
     go_wp2_with fail
     refine (hD x Ax cx _ (HL.out.below HC1.out) (kb HK_x HC1)).mono ?_
     rintro e w2 ⟨rfl, hb2⟩
     have HC2 := hid (bTh HC1.out hb2)
     clear hb2
     clear x0 x1 x2 x3 x4 fx0 fx1 fx2 fx3 fx4
     obtain ⟨x0, x1, x2, x3, x4⟩ := nb HAT HC2
     obtain ⟨fx0, fx1, fx2, fx3, fx4⟩ := nb HX_x HC2
     cases hH1 : desigS d x with
     | false =>
      have H1 := hid hH1
      clear hH1
      go_wp2
      go_ret
      exact ⟨rBo (by simp [stmtS_succ, stmtStep, Nd.sub, HH.out, H1.out]), bTh HBOX.out HC2.out⟩
     | true =>
      have H1 := hid hH1
      clear hH1
      go_wp2_with fail
      refine (exprsShaped_any d hE r A' (c - 1) _ (HL.out.below HC2.out) (HR.out.below HC2.out)).mono ?_
      rintro e w3 ⟨rfl, hb3⟩
      have HC3 := hid (bTh HC2.out hb3)
      clear hb3
      clear x0 x1 x2 x3 x4 fx0 fx1 fx2 fx3 fx4
      obtain ⟨x0, x1, x2, x3, x4⟩ := nb HAT HC3
      obtain ⟨fx0, fx1, fx2, fx3, fx4⟩ := nb HX_x HC3
      go_wp2
      go_ret
      exact ⟨rBo (by simp [stmtS_succ, stmtStep, Nd.sub, HH.out, H1.out]), bTh HBOX.out HC3.out⟩
  ·have b15 : (k == 15) = false := by simpa using k15
   by_cases k17 : k = 17
   ·subst k17
    cases hh : headB ⟨17, s, num, pos, subs⟩ 17 false 0 2 with
    | false =>
     have HAT := hid (bAt w ⟨17, s, num, pos, subs⟩ A c 24)
     have HL := hid (hl.below (bBw w (.cells #[.int .i64 17, .string s, .int .i64 num, .int .i64 pos, .slice A subs.length c] 24)))
     clear hl hk
     have HH := hid hh
     clear hh
     go_enter Tryz.func43, Tryz.ntmps43
     go_wp2_with fail
     generalize hW0 : w.alloc (.cells #[.int .i64 17, .string s, .int .i64 num, .int .i64 pos, .slice A subs.length c] 24) = W0 at *
     have HBOX := hid (show Below w.heap.size w W0 by rw [← hW0]; exact bBw _ _)
     clear hW0
     refine (head_any ⟨17, s, num, pos, subs⟩ A c 17 false 0 2 _ HL.out (by unfold maxLen; simp only [List.length_cons, List.length_nil]; omega)).mono ?_
     rintro e w1 ⟨rfl, hb1⟩
     have HC1 := hid hb1
     clear hb1
     obtain ⟨x0, x1, x2, x3, x4⟩ := nb HAT HC1
     rw [HH.out]
     go_wp2
     go_ret
     exact ⟨rBo (by simp [stmtS_succ, stmtStep, Nd.sub, HH.out]), bTh HBOX.out HC1.out⟩
    | true =>
     obtain ⟨x, y, rfl⟩ := len2 (headB_len hh (by omega))
     obtain ⟨b, o, Ax, cx, rfl, hx_x, hk_x⟩ := hk.one (x := x) (r := [y]) rfl
     obtain ⟨Ay, cy, hx_y, hk_y⟩ := hk.nth rfl (i := 1) (x := y) rfl (p := o + 5) (by omega)
     simp only [List.length_cons, List.length_nil, Nat.zero_add] at hlen
     have HAT := hid (bAt w ⟨17, s, num, pos, [x, y]⟩ (some ⟨b, o, none⟩) c 24)
     have HL := hid (hl.below (bBw w (.cells #[.int .i64 17, .string s, .int .i64 num, .int .i64 pos, .slice (some ⟨b, o, none⟩) 2 c] 24)))
     have HX_x := hid (hx_x.below (bBw w (.cells #[.int .i64 17, .string s, .int .i64 num, .int .i64 pos, .slice (some ⟨b, o, none⟩) 2 c] 24)))
     have HK_x := hid (hk_x.below (bBw w (.cells #[.int .i64 17, .string s, .int .i64 num, .int .i64 pos, .slice (some ⟨b, o, none⟩) 2 c] 24)))
     clear hx_x hk_x
     have HX_y := hid (hx_y.below (bBw w (.cells #[.int .i64 17, .string s, .int .i64 num, .int .i64 pos, .slice (some ⟨b, o, none⟩) 2 c] 24)))
     have HK_y := hid (hk_y.below (bBw w (.cells #[.int .i64 17, .string s, .int .i64 num, .int .i64 pos, .slice (some ⟨b, o, none⟩) 2 c] 24)))
     clear hx_y hk_y
     clear hl hk
     have HH := hid hh
     clear hh
     obtain ⟨fx0, fx1, fx2, fx3, fx4⟩ := HX_x.out
     obtain ⟨fy0, fy1, fy2, fy3, fy4⟩ := HX_y.out
     go_enter Tryz.func43, Tryz.ntmps43
     go_wp2_with fail
     generalize hW0 : w.alloc (.cells #[.int .i64 17, .string s, .int .i64 num, .int .i64 pos, .slice (some ⟨b, o, none⟩) 2 c] 24) = W0 at *
     have HBOX := hid (show Below w.heap.size w W0 by rw [← hW0]; exact bBw _ _)
     clear hW0
     refine (head_any ⟨17, s, num, pos, [x, y]⟩ (some ⟨b, o, none⟩) c 17 false 0 2 _ HL.out (by unfold maxLen; simp only [List.length_cons, List.length_nil]; omega)).mono ?_
     rintro e w1 ⟨rfl, hb1⟩
     have HC1 := hid hb1
     clear hb1
     clear fx0 fx1 fx2 fx3 fx4 fy0 fy1 fy2 fy3 fy4
     obtain ⟨x0, x1, x2, x3, x4⟩ := nb HAT HC1
     obtain ⟨fx0, fx1, fx2, fx3, fx4⟩ := nb HX_x HC1
     obtain ⟨fy0, fy1, fy2, fy3, fy4⟩ := nb HX_y HC1
     rw [HH.out]
     go_wp2_with fail
     refine (hE x Ax cx _ (HL.out.below HC1.out) (kb HK_x HC1)).mono ?_
     rintro e w2 ⟨rfl, hb2⟩
     have HC2 := hid (bTh HC1.out hb2)
     clear hb2
     clear x0 x1 x2 x3 x4 fx0 fx1 fx2 fx3 fx4 fy0 fy1 fy2 fy3 fy4
     obtain ⟨x0, x1, x2, x3, x4⟩ := nb HAT HC2
     obtain ⟨fx0, fx1, fx2, fx3, fx4⟩ := nb HX_x HC2
     obtain ⟨fy0, fy1, fy2, fy3, fy4⟩ := nb HX_y HC2
     cases hH1 : exprS d x with
     | false =>
      have H1 := hid hH1
      clear hH1
      go_wp2
      go_ret
      exact ⟨rBo (by simp [stmtS_succ, stmtStep, Nd.sub, HH.out, H1.out]), bTh HBOX.out HC2.out⟩
     | true =>
      have H1 := hid hH1
      clear hH1
      go_wp2_with fail
      refine (hL y Ay cy _ (HL.out.below HC2.out) (kb HK_y HC2)).mono ?_
      rintro e w3 ⟨rfl, hb3⟩
      have HC3 := hid (bTh HC2.out hb3)
      clear hb3
      clear x0 x1 x2 x3 x4 fx0 fx1 fx2 fx3 fx4 fy0 fy1 fy2 fy3 fy4
      obtain ⟨x0, x1, x2, x3, x4⟩ := nb HAT HC3
      obtain ⟨fx0, fx1, fx2, fx3, fx4⟩ := nb HX_x HC3
      obtain ⟨fy0, fy1, fy2, fy3, fy4⟩ := nb HX_y HC3
      go_wp2
      go_ret
      exact ⟨rBo (by simp [stmtS_succ, stmtStep, Nd.sub, HH.out, H1.out]), bTh HBOX.out HC3.out⟩
   ·have b17 : (k == 17) = false := by simpa using k17
    by_cases k18 : k = 18
    ·subst k18
     cases hh : headB ⟨18, s, num, pos, subs⟩ 18 false 0 2 with
     | false =>
      have HAT := hid (bAt w ⟨18, s, num, pos, subs⟩ A c 24)
      have HL := hid (hl.below (bBw w (.cells #[.int .i64 18, .string s, .int .i64 num, .int .i64 pos, .slice A subs.length c] 24)))
      clear hl hk
      have HH := hid hh
      clear hh
      go_enter Tryz.func43, Tryz.ntmps43
      go_wp2_with fail
      generalize hW0 : w.alloc (.cells #[.int .i64 18, .string s, .int .i64 num, .int .i64 pos, .slice A subs.length c] 24) = W0 at *
      have HBOX := hid (show Below w.heap.size w W0 by rw [← hW0]; exact bBw _ _)
      clear hW0
      refine (head_any ⟨18, s, num, pos, subs⟩ A c 18 false 0 2 _ HL.out (by unfold maxLen; simp only [List.length_cons, List.length_nil]; omega)).mono ?_
      rintro e w1 ⟨rfl, hb1⟩
      have HC1 := hid hb1
      clear hb1
      obtain ⟨x0, x1, x2, x3, x4⟩ := nb HAT HC1
      rw [HH.out]
      go_wp2
      go_ret
      exact ⟨rBo (by simp [stmtS_succ, stmtStep, Nd.sub, HH.out]), bTh HBOX.out HC1.out⟩
     | true =>
      obtain ⟨x, y, rfl⟩ := len2 (headB_len hh (by omega))
      obtain ⟨b, o, Ax, cx, rfl, hx_x, hk_x⟩ := hk.one (x := x) (r := [y]) rfl
      obtain ⟨Ay, cy, hx_y, hk_y⟩ := hk.nth rfl (i := 1) (x := y) rfl (p := o + 5) (by omega)
      simp only [List.length_cons, List.length_nil, Nat.zero_add] at hlen
      have HAT := hid (bAt w ⟨18, s, num, pos, [x, y]⟩ (some ⟨b, o, none⟩) c 24)
      have HL := hid (hl.below (bBw w (.cells #[.int .i64 18, .string s, .int .i64 num, .int .i64 pos, .slice (some ⟨b, o, none⟩) 2 c] 24)))
      have HX_x := hid (hx_x.below (bBw w (.cells #[.int .i64 18, .string s, .int .i64 num, .int .i64 pos, .slice (some ⟨b, o, none⟩) 2 c] 24)))
      have HK_x := hid (hk_x.below (bBw w (.cells #[.int .i64 18, .string s, .int .i64 num, .int .i64 pos, .slice (some ⟨b, o, none⟩) 2 c] 24)))
      clear hx_x hk_x
      have HX_y := hid (hx_y.below (bBw w (.cells #[.int .i64 18, .string s, .int .i64 num, .int .i64 pos, .slice (some ⟨b, o, none⟩) 2 c] 24)))
      have HK_y := hid (hk_y.below (bBw w (.cells #[.int .i64 18, .string s, .int .i64 num, .int .i64 pos, .slice (some ⟨b, o, none⟩) 2 c] 24)))
      clear hx_y hk_y
      clear hl hk
      have HH := hid hh
      clear hh
      obtain ⟨fx0, fx1, fx2, fx3, fx4⟩ := HX_x.out
      obtain ⟨fy0, fy1, fy2, fy3, fy4⟩ := HX_y.out
      go_enter Tryz.func43, Tryz.ntmps43
      go_wp2_with fail
      generalize hW0 : w.alloc (.cells #[.int .i64 18, .string s, .int .i64 num, .int .i64 pos, .slice (some ⟨b, o, none⟩) 2 c] 24) = W0 at *
      have HBOX := hid (show Below w.heap.size w W0 by rw [← hW0]; exact bBw _ _)
      clear hW0
      refine (head_any ⟨18, s, num, pos, [x, y]⟩ (some ⟨b, o, none⟩) c 18 false 0 2 _ HL.out (by unfold maxLen; simp only [List.length_cons, List.length_nil]; omega)).mono ?_
      rintro e w1 ⟨rfl, hb1⟩
      have HC1 := hid hb1
      clear hb1
      clear fx0 fx1 fx2 fx3 fx4 fy0 fy1 fy2 fy3 fy4
      obtain ⟨x0, x1, x2, x3, x4⟩ := nb HAT HC1
      obtain ⟨fx0, fx1, fx2, fx3, fx4⟩ := nb HX_x HC1
      obtain ⟨fy0, fy1, fy2, fy3, fy4⟩ := nb HX_y HC1
      rw [HH.out]
      go_wp2_with fail
      refine (hL x Ax cx _ (HL.out.below HC1.out) (kb HK_x HC1)).mono ?_
      rintro e w2 ⟨rfl, hb2⟩
      have HC2 := hid (bTh HC1.out hb2)
      clear hb2
      clear x0 x1 x2 x3 x4 fx0 fx1 fx2 fx3 fx4 fy0 fy1 fy2 fy3 fy4
      obtain ⟨x0, x1, x2, x3, x4⟩ := nb HAT HC2
      obtain ⟨fx0, fx1, fx2, fx3, fx4⟩ := nb HX_x HC2
      obtain ⟨fy0, fy1, fy2, fy3, fy4⟩ := nb HX_y HC2
      cases hH1 : stmtsS d x with
      | false =>
       have H1 := hid hH1
       clear hH1
       go_wp2
       go_ret
       exact ⟨rBo (by simp [stmtS_succ, stmtStep, Nd.sub, HH.out, H1.out]), bTh HBOX.out HC2.out⟩
      | true =>
       have H1 := hid hH1
       clear hH1
       go_wp2_with fail
       refine (hE y Ay cy _ (HL.out.below HC2.out) (kb HK_y HC2)).mono ?_
       rintro e w3 ⟨rfl, hb3⟩
       have HC3 := hid (bTh HC2.out hb3)
       clear hb3
       clear x0 x1 x2 x3 x4 fx0 fx1 fx2 fx3 fx4 fy0 fy1 fy2 fy3 fy4
       obtain ⟨x0, x1, x2, x3, x4⟩ := nb HAT HC3
       obtain ⟨fx0, fx1, fx2, fx3, fx4⟩ := nb HX_x HC3
       obtain ⟨fy0, fy1, fy2, fy3, fy4⟩ := nb HX_y HC3
       go_wp2
       go_ret
       exact ⟨rBo (by simp [stmtS_succ, stmtStep, Nd.sub, HH.out, H1.out]), bTh HBOX.out HC3.out⟩
    ·have b18 : (k == 18) = false := by simpa using k18
     by_cases k19 : k = 19
     ·subst k19
      cases hh : headB ⟨19, s, num, pos, subs⟩ 19 false 0 (-1) with
      | false =>
       have HAT := hid (bAt w ⟨19, s, num, pos, subs⟩ A c 24)
       have HL := hid (hl.below (bBw w (.cells #[.int .i64 19, .string s, .int .i64 num, .int .i64 pos, .slice A subs.length c] 24)))
       clear hl hk
       have HH := hid hh
       clear hh
       go_enter Tryz.func43, Tryz.ntmps43
       go_wp2_with fail
       generalize hW0 : w.alloc (.cells #[.int .i64 19, .string s, .int .i64 num, .int .i64 pos, .slice A subs.length c] 24) = W0 at *
       have HBOX := hid (show Below w.heap.size w W0 by rw [← hW0]; exact bBw _ _)
       clear hW0
       refine (head_any ⟨19, s, num, pos, subs⟩ A c 19 false 0 (-1) _ HL.out (by unfold maxLen; simp only [List.length_cons, List.length_nil]; omega)).mono ?_
       rintro e w1 ⟨rfl, hb1⟩
       have HC1 := hid hb1
       clear hb1
       obtain ⟨x0, x1, x2, x3, x4⟩ := nb HAT HC1
       rw [HH.out]
       go_wp2
       go_ret
       exact ⟨rBo (by simp [stmtS_succ, stmtStep, Nd.sub, HH.out]), bTh HBOX.out HC1.out⟩
      | true =>
       by_cases h2 : subs.length < 2
       ·have h2b : decide ((subs.length : Int) < 2) = true := decide_eq_true (by omega)
        have HAT := hid (bAt w ⟨19, s, num, pos, subs⟩ A c 24)
        have HL := hid (hl.below (bBw w (.cells #[.int .i64 19, .string s, .int .i64 num, .int .i64 pos, .slice A subs.length c] 24)))
        have HKL := hid ((hk.list).below (bBw w (.cells #[.int .i64 19, .string s, .int .i64 num, .int .i64 pos, .slice A subs.length c] 24)))
        clear hl hk
        have HH := hid hh
        clear hh
        have H2 := hid h2
        clear h2
        go_enter Tryz.func43, Tryz.ntmps43
        go_wp2_with fail
        generalize hW0 : w.alloc (.cells #[.int .i64 19, .string s, .int .i64 num, .int .i64 pos, .slice A subs.length c] 24) = W0 at *
        have HBOX := hid (show Below w.heap.size w W0 by rw [← hW0]; exact bBw _ _)
        clear hW0
        refine (head_any ⟨19, s, num, pos, subs⟩ A c 19 false 0 (-1) _ HL.out (by unfold maxLen; simp only [List.length_cons, List.length_nil]; omega)).mono ?_
        rintro e w1 ⟨rfl, hb1⟩
        have HC1 := hid hb1
        clear hb1
        obtain ⟨x0, x1, x2, x3, x4⟩ := nb HAT HC1
        rw [HH.out]
        go_wp2_with fail
        refine (exprsShaped_any d hE subs A c _ (HL.out.below HC1.out) (HKL.out.below HC1.out)).mono ?_
        rintro e w2 ⟨rfl, hb2⟩
        have HC2 := hid (bTh HC1.out hb2)
        clear hb2
        clear x0 x1 x2 x3 x4
        obtain ⟨x0, x1, x2, x3, x4⟩ := nb HAT HC2
        go_wp2
        go_ret
        exact ⟨rBo (by simp [stmtS_succ, stmtStep, Nd.sub, HH.out, H2.out]), bTh HBOX.out HC2.out⟩
       ·have h2b : decide ((subs.length : Int) < 2) = false := decide_eq_false (by omega)
        have HAT := hid (bAt w ⟨19, s, num, pos, subs⟩ A c 24)
        have HL := hid (hl.below (bBw w (.cells #[.int .i64 19, .string s, .int .i64 num, .int .i64 pos, .slice A subs.length c] 24)))
        clear hl hk
        have HH := hid hh
        clear hh
        have H2 := hid h2
        clear h2
        go_enter Tryz.func43, Tryz.ntmps43
        go_wp2_with fail
        generalize hW0 : w.alloc (.cells #[.int .i64 19, .string s, .int .i64 num, .int .i64 pos, .slice A subs.length c] 24) = W0 at *
        have HBOX := hid (show Below w.heap.size w W0 by rw [← hW0]; exact bBw _ _)
        clear hW0
        refine (head_any ⟨19, s, num, pos, subs⟩ A c 19 false 0 (-1) _ HL.out (by unfold maxLen; simp only [List.length_cons, List.length_nil]; omega)).mono ?_
        rintro e w1 ⟨rfl, hb1⟩
        have HC1 := hid hb1
        clear hb1
        obtain ⟨x0, x1, x2, x3, x4⟩ := nb HAT HC1
        rw [HH.out]
        go_wp2
        go_ret
        exact ⟨rBo (by simp [stmtS_succ, stmtStep, Nd.sub, HH.out, H2.out]), bTh HBOX.out HC1.out⟩
     ·have b19 : (k == 19) = false := by simpa using k19
      by_cases k20 : k = 20
      ·subst k20
       cases hh : headB ⟨20, s, num, pos, subs⟩ 20 false 0 1 with
       | false =>
        have HAT := hid (bAt w ⟨20, s, num, pos, subs⟩ A c 24)
        have HL := hid (hl.below (bBw w (.cells #[.int .i64 20, .string s, .int .i64 num, .int .i64 pos, .slice A subs.length c] 24)))
        clear hl hk
        have HH := hid hh
        clear hh
        go_enter Tryz.func43, Tryz.ntmps43
        go_wp2_with fail
        generalize hW0 : w.alloc (.cells #[.int .i64 20, .string s, .int .i64 num, .int .i64 pos, .slice A subs.length c] 24) = W0 at *
        have HBOX := hid (show Below w.heap.size w W0 by rw [← hW0]; exact bBw _ _)
        clear hW0
        refine (head_any ⟨20, s, num, pos, subs⟩ A c 20 false 0 1 _ HL.out (by unfold maxLen; simp only [List.length_cons, List.length_nil]; omega)).mono ?_
        rintro e w1 ⟨rfl, hb1⟩
        have HC1 := hid hb1
        clear hb1
        obtain ⟨x0, x1, x2, x3, x4⟩ := nb HAT HC1
        rw [HH.out]
        go_wp2
        go_ret
        exact ⟨rBo (by simp [stmtS_succ, stmtStep, Nd.sub, HH.out]), bTh HBOX.out HC1.out⟩
       | true =>
        obtain ⟨x, rfl⟩ := len1 (headB_len hh (by omega))
        obtain ⟨b, o, Ax, cx, rfl, hx_x, hk_x⟩ := hk.one (x := x) (r := []) rfl
        simp only [List.length_cons, List.length_nil, Nat.zero_add] at hlen
        have HAT := hid (bAt w ⟨20, s, num, pos, [x]⟩ (some ⟨b, o, none⟩) c 24)
        have HL := hid (hl.below (bBw w (.cells #[.int .i64 20, .string s, .int .i64 num, .int .i64 pos, .slice (some ⟨b, o, none⟩) 1 c] 24)))
        have HX_x := hid (hx_x.below (bBw w (.cells #[.int .i64 20, .string s, .int .i64 num, .int .i64 pos, .slice (some ⟨b, o, none⟩) 1 c] 24)))
        have HK_x := hid (hk_x.below (bBw w (.cells #[.int .i64 20, .string s, .int .i64 num, .int .i64 pos, .slice (some ⟨b, o, none⟩) 1 c] 24)))
        clear hx_x hk_x
        clear hl hk
        have HH := hid hh
        clear hh
        obtain ⟨fx0, fx1, fx2, fx3, fx4⟩ := HX_x.out
        go_enter Tryz.func43, Tryz.ntmps43
        go_wp2_with fail
        generalize hW0 : w.alloc (.cells #[.int .i64 20, .string s, .int .i64 num, .int .i64 pos, .slice (some ⟨b, o, none⟩) 1 c] 24) = W0 at *
        have HBOX := hid (show Below w.heap.size w W0 by rw [← hW0]; exact bBw _ _)
        clear hW0
        refine (head_any ⟨20, s, num, pos, [x]⟩ (some ⟨b, o, none⟩) c 20 false 0 1 _ HL.out (by unfold maxLen; simp only [List.length_cons, List.length_nil]; omega)).mono ?_
        rintro e w1 ⟨rfl, hb1⟩
        have HC1 := hid hb1
        clear hb1
        clear fx0 fx1 fx2 fx3 fx4
        obtain ⟨x0, x1, x2, x3, x4⟩ := nb HAT HC1
        obtain ⟨fx0, fx1, fx2, fx3, fx4⟩ := nb HX_x HC1
        rw [HH.out]
        go_wp2_with fail
        refine (hD x Ax cx _ (HL.out.below HC1.out) (kb HK_x HC1)).mono ?_
        rintro e w2 ⟨rfl, hb2⟩
        have HC2 := hid (bTh HC1.out hb2)
        clear hb2
        clear x0 x1 x2 x3 x4 fx0 fx1 fx2 fx3 fx4
        obtain ⟨x0, x1, x2, x3, x4⟩ := nb HAT HC2
        obtain ⟨fx0, fx1, fx2, fx3, fx4⟩ := nb HX_x HC2
        go_wp2
        go_ret
        exact ⟨rBo (by simp [stmtS_succ, stmtStep, Nd.sub, HH.out]), bTh HBOX.out HC2.out⟩
      ·have b20 : (k == 20) = false := by simpa using k20
       by_cases k22 : k = 22
       ·subst k22
        cases hh : headB ⟨22, s, num, pos, subs⟩ 22 false 0 1 with
        | false =>
         have HAT := hid (bAt w ⟨22, s, num, pos, subs⟩ A c 24)
         have HL := hid (hl.below (bBw w (.cells #[.int .i64 22, .string s, .int .i64 num, .int .i64 pos, .slice A subs.length c] 24)))
         clear hl hk
         have HH := hid hh
         clear hh
         go_enter Tryz.func43, Tryz.ntmps43
         go_wp2_with fail
         generalize hW0 : w.alloc (.cells #[.int .i64 22, .string s, .int .i64 num, .int .i64 pos, .slice A subs.length c] 24) = W0 at *
         have HBOX := hid (show Below w.heap.size w W0 by rw [← hW0]; exact bBw _ _)
         clear hW0
         refine (head_any ⟨22, s, num, pos, subs⟩ A c 22 false 0 1 _ HL.out (by unfold maxLen; simp only [List.length_cons, List.length_nil]; omega)).mono ?_
         rintro e w1 ⟨rfl, hb1⟩
         have HC1 := hid hb1
         clear hb1
         obtain ⟨x0, x1, x2, x3, x4⟩ := nb HAT HC1
         rw [HH.out]
         go_wp2
         go_ret
         exact ⟨rBo (by simp [stmtS_succ, stmtStep, Nd.sub, HH.out]), bTh HBOX.out HC1.out⟩
        | true =>
         obtain ⟨x, rfl⟩ := len1 (headB_len hh (by omega))
         obtain ⟨b, o, Ax, cx, rfl, hx_x, hk_x⟩ := hk.one (x := x) (r := []) rfl
         simp only [List.length_cons, List.length_nil, Nat.zero_add] at hlen
         have HAT := hid (bAt w ⟨22, s, num, pos, [x]⟩ (some ⟨b, o, none⟩) c 24)
         have HL := hid (hl.below (bBw w (.cells #[.int .i64 22, .string s, .int .i64 num, .int .i64 pos, .slice (some ⟨b, o, none⟩) 1 c] 24)))
         have HX_x := hid (hx_x.below (bBw w (.cells #[.int .i64 22, .string s, .int .i64 num, .int .i64 pos, .slice (some ⟨b, o, none⟩) 1 c] 24)))
         have HK_x := hid (hk_x.below (bBw w (.cells #[.int .i64 22, .string s, .int .i64 num, .int .i64 pos, .slice (some ⟨b, o, none⟩) 1 c] 24)))
         clear hx_x hk_x
         clear hl hk
         have HH := hid hh
         clear hh
         obtain ⟨fx0, fx1, fx2, fx3, fx4⟩ := HX_x.out
         go_enter Tryz.func43, Tryz.ntmps43
         go_wp2_with fail
         generalize hW0 : w.alloc (.cells #[.int .i64 22, .string s, .int .i64 num, .int .i64 pos, .slice (some ⟨b, o, none⟩) 1 c] 24) = W0 at *
         have HBOX := hid (show Below w.heap.size w W0 by rw [← hW0]; exact bBw _ _)
         clear hW0
         refine (head_any ⟨22, s, num, pos, [x]⟩ (some ⟨b, o, none⟩) c 22 false 0 1 _ HL.out (by unfold maxLen; simp only [List.length_cons, List.length_nil]; omega)).mono ?_
         rintro e w1 ⟨rfl, hb1⟩
         have HC1 := hid hb1
         clear hb1
         clear fx0 fx1 fx2 fx3 fx4
         obtain ⟨x0, x1, x2, x3, x4⟩ := nb HAT HC1
         obtain ⟨fx0, fx1, fx2, fx3, fx4⟩ := nb HX_x HC1
         rw [HH.out]
         go_wp2_with fail
         refine (hD x Ax cx _ (HL.out.below HC1.out) (kb HK_x HC1)).mono ?_
         rintro e w2 ⟨rfl, hb2⟩
         have HC2 := hid (bTh HC1.out hb2)
         clear hb2
         clear x0 x1 x2 x3 x4 fx0 fx1 fx2 fx3 fx4
         obtain ⟨x0, x1, x2, x3, x4⟩ := nb HAT HC2
         obtain ⟨fx0, fx1, fx2, fx3, fx4⟩ := nb HX_x HC2
         go_wp2
         go_ret
         exact ⟨rBo (by simp [stmtS_succ, stmtStep, Nd.sub, HH.out]), bTh HBOX.out HC2.out⟩
       ·have b22 : (k == 22) = false := by simpa using k22
        by_cases k21 : k = 21
        ·subst k21
         cases hh : headB ⟨21, s, num, pos, subs⟩ 21 false 0 1 with
         | false =>
          have HAT := hid (bAt w ⟨21, s, num, pos, subs⟩ A c 24)
          have HL := hid (hl.below (bBw w (.cells #[.int .i64 21, .string s, .int .i64 num, .int .i64 pos, .slice A subs.length c] 24)))
          clear hl hk
          have HH := hid hh
          clear hh
          go_enter Tryz.func43, Tryz.ntmps43
          go_wp2_with fail
          generalize hW0 : w.alloc (.cells #[.int .i64 21, .string s, .int .i64 num, .int .i64 pos, .slice A subs.length c] 24) = W0 at *
          have HBOX := hid (show Below w.heap.size w W0 by rw [← hW0]; exact bBw _ _)
          clear hW0
          refine (head_any ⟨21, s, num, pos, subs⟩ A c 21 false 0 1 _ HL.out (by unfold maxLen; simp only [List.length_cons, List.length_nil]; omega)).mono ?_
          rintro e w1 ⟨rfl, hb1⟩
          have HC1 := hid hb1
          clear hb1
          obtain ⟨x0, x1, x2, x3, x4⟩ := nb HAT HC1
          rw [HH.out]
          go_wp2
          go_ret
          exact ⟨rBo (by simp [stmtS_succ, stmtStep, Nd.sub, HH.out]), bTh HBOX.out HC1.out⟩
         | true =>
          obtain ⟨x, rfl⟩ := len1 (headB_len hh (by omega))
          obtain ⟨b, o, Ax, cx, rfl, hx_x, hk_x⟩ := hk.one (x := x) (r := []) rfl
          simp only [List.length_cons, List.length_nil, Nat.zero_add] at hlen
          have HAT := hid (bAt w ⟨21, s, num, pos, [x]⟩ (some ⟨b, o, none⟩) c 24)
          have HL := hid (hl.below (bBw w (.cells #[.int .i64 21, .string s, .int .i64 num, .int .i64 pos, .slice (some ⟨b, o, none⟩) 1 c] 24)))
          have HX_x := hid (hx_x.below (bBw w (.cells #[.int .i64 21, .string s, .int .i64 num, .int .i64 pos, .slice (some ⟨b, o, none⟩) 1 c] 24)))
          have HK_x := hid (hk_x.below (bBw w (.cells #[.int .i64 21, .string s, .int .i64 num, .int .i64 pos, .slice (some ⟨b, o, none⟩) 1 c] 24)))
          clear hx_x hk_x
          clear hl hk
          have HH := hid hh
          clear hh
          obtain ⟨fx0, fx1, fx2, fx3, fx4⟩ := HX_x.out
          go_enter Tryz.func43, Tryz.ntmps43
          go_wp2_with fail
          generalize hW0 : w.alloc (.cells #[.int .i64 21, .string s, .int .i64 num, .int .i64 pos, .slice (some ⟨b, o, none⟩) 1 c] 24) = W0 at *
          have HBOX := hid (show Below w.heap.size w W0 by rw [← hW0]; exact bBw _ _)
          clear hW0
          refine (head_any ⟨21, s, num, pos, [x]⟩ (some ⟨b, o, none⟩) c 21 false 0 1 _ HL.out (by unfold maxLen; simp only [List.length_cons, List.length_nil]; omega)).mono ?_
          rintro e w1 ⟨rfl, hb1⟩
          have HC1 := hid hb1
          clear hb1
          clear fx0 fx1 fx2 fx3 fx4
          obtain ⟨x0, x1, x2, x3, x4⟩ := nb HAT HC1
          obtain ⟨fx0, fx1, fx2, fx3, fx4⟩ := nb HX_x HC1
          rw [HH.out]
          go_wp2_with fail
          refine (hE x Ax cx _ (HL.out.below HC1.out) (kb HK_x HC1)).mono ?_
          rintro e w2 ⟨rfl, hb2⟩
          have HC2 := hid (bTh HC1.out hb2)
          clear hb2
          clear x0 x1 x2 x3 x4 fx0 fx1 fx2 fx3 fx4
          obtain ⟨x0, x1, x2, x3, x4⟩ := nb HAT HC2
          obtain ⟨fx0, fx1, fx2, fx3, fx4⟩ := nb HX_x HC2
          go_wp2
          go_ret
          exact ⟨rBo (by simp [stmtS_succ, stmtStep, Nd.sub, HH.out]), bTh HBOX.out HC2.out⟩
        ·have b21 : (k == 21) = false := by simpa using k21
         by_cases k23 : k = 23
         ·subst k23
          cases hh : headB ⟨23, s, num, pos, subs⟩ 23 false 0 1 with
          | false =>
           have HAT := hid (bAt w ⟨23, s, num, pos, subs⟩ A c 24)
           have HL := hid (hl.below (bBw w (.cells #[.int .i64 23, .string s, .int .i64 num, .int .i64 pos, .slice A subs.length c] 24)))
           clear hl hk
           have HH := hid hh
           clear hh
           go_enter Tryz.func43, Tryz.ntmps43
           go_wp2_with fail
           generalize hW0 : w.alloc (.cells #[.int .i64 23, .string s, .int .i64 num, .int .i64 pos, .slice A subs.length c] 24) = W0 at *
           have HBOX := hid (show Below w.heap.size w W0 by rw [← hW0]; exact bBw _ _)
           clear hW0
           refine (head_any ⟨23, s, num, pos, subs⟩ A c 23 false 0 1 _ HL.out (by unfold maxLen; simp only [List.length_cons, List.length_nil]; omega)).mono ?_
           rintro e w1 ⟨rfl, hb1⟩
           have HC1 := hid hb1
           clear hb1
           obtain ⟨x0, x1, x2, x3, x4⟩ := nb HAT HC1
           rw [HH.out]
           go_wp2
           go_ret
           exact ⟨rBo (by simp [stmtS_succ, stmtStep, Nd.sub, HH.out]), bTh HBOX.out HC1.out⟩
          | true =>
           obtain ⟨x, rfl⟩ := len1 (headB_len hh (by omega))
           obtain ⟨b, o, Ax, cx, rfl, hx_x, hk_x⟩ := hk.one (x := x) (r := []) rfl
           simp only [List.length_cons, List.length_nil, Nat.zero_add] at hlen
           have HAT := hid (bAt w ⟨23, s, num, pos, [x]⟩ (some ⟨b, o, none⟩) c 24)
           have HL := hid (hl.below (bBw w (.cells #[.int .i64 23, .string s, .int .i64 num, .int .i64 pos, .slice (some ⟨b, o, none⟩) 1 c] 24)))
           have HX_x := hid (hx_x.below (bBw w (.cells #[.int .i64 23, .string s, .int .i64 num, .int .i64 pos, .slice (some ⟨b, o, none⟩) 1 c] 24)))
           have HK_x := hid (hk_x.below (bBw w (.cells #[.int .i64 23, .string s, .int .i64 num, .int .i64 pos, .slice (some ⟨b, o, none⟩) 1 c] 24)))
           clear hx_x hk_x
           clear hl hk
           have HH := hid hh
           clear hh
           obtain ⟨fx0, fx1, fx2, fx3, fx4⟩ := HX_x.out
           go_enter Tryz.func43, Tryz.ntmps43
           go_wp2_with fail
           generalize hW0 : w.alloc (.cells #[.int .i64 23, .string s, .int .i64 num, .int .i64 pos, .slice (some ⟨b, o, none⟩) 1 c] 24) = W0 at *
           have HBOX := hid (show Below w.heap.size w W0 by rw [← hW0]; exact bBw _ _)
           clear hW0
           refine (head_any ⟨23, s, num, pos, [x]⟩ (some ⟨b, o, none⟩) c 23 false 0 1 _ HL.out (by unfold maxLen; simp only [List.length_cons, List.length_nil]; omega)).mono ?_
           rintro e w1 ⟨rfl, hb1⟩
           have HC1 := hid hb1
           clear hb1
           clear fx0 fx1 fx2 fx3 fx4
           obtain ⟨x0, x1, x2, x3, x4⟩ := nb HAT HC1
           obtain ⟨fx0, fx1, fx2, fx3, fx4⟩ := nb HX_x HC1
           rw [HH.out]
           go_wp2_with fail
           refine (hE x Ax cx _ (HL.out.below HC1.out) (kb HK_x HC1)).mono ?_
           rintro e w2 ⟨rfl, hb2⟩
           have HC2 := hid (bTh HC1.out hb2)
           clear hb2
           clear x0 x1 x2 x3 x4 fx0 fx1 fx2 fx3 fx4
           obtain ⟨x0, x1, x2, x3, x4⟩ := nb HAT HC2
           obtain ⟨fx0, fx1, fx2, fx3, fx4⟩ := nb HX_x HC2
           go_wp2
           go_ret
           exact ⟨rBo (by simp [stmtS_succ, stmtStep, Nd.sub, HH.out]), bTh HBOX.out HC2.out⟩
         ·have b23 : (k == 23) = false := by simpa using k23
          by_cases k16 : k = 16
          ·subst k16
           cases hh : headB ⟨16, s, num, pos, subs⟩ 16 false 1 (-1) with
           | false =>
            have HAT := hid (bAt w ⟨16, s, num, pos, subs⟩ A c 24)
            have HL := hid (hl.below (bBw w (.cells #[.int .i64 16, .string s, .int .i64 num, .int .i64 pos, .slice A subs.length c] 24)))
            clear hl hk
            have HH := hid hh
            clear hh
            go_enter Tryz.func43, Tryz.ntmps43
            go_wp2_with fail
            generalize hW0 : w.alloc (.cells #[.int .i64 16, .string s, .int .i64 num, .int .i64 pos, .slice A subs.length c] 24) = W0 at *
            have HBOX := hid (show Below w.heap.size w W0 by rw [← hW0]; exact bBw _ _)
            clear hW0
            refine (head_any ⟨16, s, num, pos, subs⟩ A c 16 false 1 (-1) _ HL.out (by unfold maxLen; simp only [List.length_cons, List.length_nil]; omega)).mono ?_
            rintro e w1 ⟨rfl, hb1⟩
            have HC1 := hid hb1
            clear hb1
            obtain ⟨x0, x1, x2, x3, x4⟩ := nb HAT HC1
            rw [HH.out]
            go_wp2
            go_ret
            exact ⟨rBo (by simp [stmtS_succ, stmtStep, Nd.sub, HH.out]), bTh HBOX.out HC1.out⟩
           | true =>
            by_cases h2 : 2 ≤ subs.length
            ·have h2b : decide ((subs.length : Int) < 2) = false := decide_eq_false (by omega)
             have h2t : ((subs.length : Int)).tmod 2 = ((subs.length % 2 : Nat) : Int) := rfl
             by_cases h3 : (subs.length : Int) % 2 = num
             ·skip
              have h3n : ((subs.length : Int) % 2 != num) = false := by simp [h3]
              have HAT := hid (bAt w ⟨16, s, num, pos, subs⟩ A c 24)
              have HL := hid (hl.below (bBw w (.cells #[.int .i64 16, .string s, .int .i64 num, .int .i64 pos, .slice A subs.length c] 24)))
              have HKL := hid ((hk.list).below (bBw w (.cells #[.int .i64 16, .string s, .int .i64 num, .int .i64 pos, .slice A subs.length c] 24)))
              clear hl hk
              have HH := hid hh
              clear hh
              have H2 := hid h2
              clear h2
              have H3 := hid h3
              clear h3
              go_enter Tryz.func43, Tryz.ntmps43
              go_wp2_with fail
              generalize hW0 : w.alloc (.cells #[.int .i64 16, .string s, .int .i64 num, .int .i64 pos, .slice A subs.length c] 24) = W0 at *
              have HBOX := hid (show Below w.heap.size w W0 by rw [← hW0]; exact bBw _ _)
              clear hW0
              refine (head_any ⟨16, s, num, pos, subs⟩ A c 16 false 1 (-1) _ HL.out (by unfold maxLen; simp only [List.length_cons, List.length_nil]; omega)).mono ?_
              rintro e w1 ⟨rfl, hb1⟩
              have HC1 := hid hb1
              clear hb1
              obtain ⟨x0, x1, x2, x3, x4⟩ := nb HAT HC1
              rw [HH.out]
              go_wp2
              go_loopw [4] (fun ii wr => ∃ j : Nat, j ≤ subs.length ∧ ii = .int .i64 j ∧ ifAll (exprS d) (stmtsS d) num subs.length subs 0 = ifAll (exprS d) (stmtsS d) num subs.length (subs.drop j) j ∧ Below W0.heap.size W0 wr) (fun ii _ => subs.length - (intOf ii).toNat)
              case atStart => exact ⟨0, Nat.zero_le _, rfl, rfl, HC1.out⟩
              case round =>
               obtain ⟨j, hj, rfl, hall, hbr⟩ := hrel
               have HALL := hid hall
               clear hall
               have HC2 := hid hbr
               clear hbr
               clear x0 x1 x2 x3 x4
               obtain ⟨x0, x1, x2, x3, x4⟩ := nb HAT HC2
               by_cases hlt : j < subs.length
               ·skip
                obtain ⟨y, hy⟩ : ∃ y, subs[j]? = some y := ⟨_, List.getElem?_eq_getElem hlt⟩
                obtain ⟨by_, oy, Ay, cy, hA, hx, hky⟩ := HKL.out.2.2 j y hy
                subst hA
                have HX_y := hid hx
                have HK_y := hid hky
                have HY := hid hy
                clear hx hky hy
                clear x0 x1 x2 x3 x4
                obtain ⟨x0, x1, x2, x3, x4⟩ := nb HAT HC2
                obtain ⟨fy0, fy1, fy2, fy3, fy4⟩ := nb HX_y HC2
                by_cases hodd : j % 2 = 1
                ·skip
                 have hob : ((j : Int) % 2 == 1) = true := by simp only [beq_iff_eq]; omega
                 have COND := hid (show (if j % 2 = 1 ∨ (j + 1 = subs.length ∧ num = 1) then stmtsS d y else exprS d y) = stmtsS d y from by simp [hodd])
                 go_wp2_with fail
                 refine (hL y Ay cy _ (HL.out.below HC2.out) (kb HK_y HC2)).mono ?_
                 rintro e w3 ⟨rfl, hb3⟩
                 have HC3 := hid (bTh HC2.out hb3)
                 clear hb3
                 clear x0 x1 x2 x3 x4 fy0 fy1 fy2 fy3 fy4
                 obtain ⟨x0, x1, x2, x3, x4⟩ := nb HAT HC3
                 obtain ⟨fy0, fy1, fy2, fy3, fy4⟩ := nb HX_y HC3
                 cases hHV : stmtsS d y with
                 | false =>
                  have HV := hid hHV
                  clear hHV
                  have STEP := hid (HALL.out.trans ((ifAll_at (exprS d) (stmtsS d) num subs.length HY.out).trans (by rw [COND.out, HV.out])))
                  go_wp2
                  go_ret
                  exact ⟨rBo (by simp [stmtS_succ, stmtStep, Nd.sub, HH.out, H2.out, H3.out, STEP.out]), bTh HBOX.out HC3.out⟩
                 | true =>
                  have HV := hid hHV
                  clear hHV
                  have STEP := hid (HALL.out.trans ((ifAll_at (exprS d) (stmtsS d) num subs.length HY.out).trans (by rw [COND.out, HV.out])))
                  go_wp2
                  go_roundw
                  case rel => exact ⟨j + 1, by omega, by go_num, STEP.out.trans (Bool.true_and _), HC3.out⟩
                  case measure => simp [intOf]; omega
                ·skip
                 have hob : ((j : Int) % 2 == 1) = false := by simp only [beq_eq_false_iff_ne, ne_eq]; omega
                 by_cases hlast : j + 1 = subs.length
                 ·skip
                  have hlb : ((j : Int) == (subs.length : Int) - 1) = true := by simp only [beq_iff_eq]; omega
                  by_cases hn : num = 1
                  ·skip
                   have hnb : (num == 1) = true := by simpa using hn
                   have HN := hid hn
                   clear hn
                   have COND := hid (show (if j % 2 = 1 ∨ (j + 1 = subs.length ∧ num = 1) then stmtsS d y else exprS d y) = stmtsS d y from by simp [hlast, HN.out])
                   go_wp2_with fail
                   refine (hL y Ay cy _ (HL.out.below HC2.out) (kb HK_y HC2)).mono ?_
                   rintro e w4 ⟨rfl, hb4⟩
                   have HC4 := hid (bTh HC2.out hb4)
                   clear hb4
                   clear x0 x1 x2 x3 x4 fy0 fy1 fy2 fy3 fy4
                   obtain ⟨x0, x1, x2, x3, x4⟩ := nb HAT HC4
                   obtain ⟨fy0, fy1, fy2, fy3, fy4⟩ := nb HX_y HC4
                   cases hHV : stmtsS d y with
                   | false =>
                    have HV := hid hHV
                    clear hHV
                    have STEP := hid (HALL.out.trans ((ifAll_at (exprS d) (stmtsS d) num subs.length HY.out).trans (by rw [COND.out, HV.out])))
                    go_wp2
                    go_ret
                    exact ⟨rBo (by simp [stmtS_succ, stmtStep, Nd.sub, HH.out, H2.out, H3.out, STEP.out]), bTh HBOX.out HC4.out⟩
                   | true =>
                    have HV := hid hHV
                    clear hHV
                    have STEP := hid (HALL.out.trans ((ifAll_at (exprS d) (stmtsS d) num subs.length HY.out).trans (by rw [COND.out, HV.out])))
                    go_wp2
                    go_roundw
                    case rel => exact ⟨j + 1, by omega, by go_num, STEP.out.trans (Bool.true_and _), HC4.out⟩
                    case measure => simp [intOf]; omega
                  ·have hnb : (num == 1) = false := by simpa using hn
                   have COND := hid (show (if j % 2 = 1 ∨ (j + 1 = subs.length ∧ num = 1) then stmtsS d y else exprS d y) = exprS d y from by simp [hodd, hn])
                   go_wp2_with fail
                   refine (hE y Ay cy _ (HL.out.below HC2.out) (kb HK_y HC2)).mono ?_
                   rintro e w5 ⟨rfl, hb5⟩
                   have HC5 := hid (bTh HC2.out hb5)
                   clear hb5
                   clear x0 x1 x2 x3 x4 fy0 fy1 fy2 fy3 fy4
                   obtain ⟨x0, x1, x2, x3, x4⟩ := nb HAT HC5
                   obtain ⟨fy0, fy1, fy2, fy3, fy4⟩ := nb HX_y HC5
                   cases hHV : exprS d y with
                   | false =>
                    have HV := hid hHV
                    clear hHV
                    have STEP := hid (HALL.out.trans ((ifAll_at (exprS d) (stmtsS d) num subs.length HY.out).trans (by rw [COND.out, HV.out])))
                    go_wp2
                    go_ret
                    exact ⟨rBo (by simp [stmtS_succ, stmtStep, Nd.sub, HH.out, H2.out, H3.out, STEP.out]), bTh HBOX.out HC5.out⟩
                   | true =>
                    have HV := hid hHV
                    clear hHV
                    have STEP := hid (HALL.out.trans ((ifAll_at (exprS d) (stmtsS d) num subs.length HY.out).trans (by rw [COND.out, HV.out])))
                    go_wp2
                    go_roundw
                    case rel => exact ⟨j + 1, by omega, by go_num, STEP.out.trans (Bool.true_and _), HC5.out⟩
                    case measure => simp [intOf]; omega
                 ·skip
                  have hlb : ((j : Int) == (subs.length : Int) - 1) = false := by simp only [beq_eq_false_iff_ne, ne_eq]; omega
                  have COND := hid (show (if j % 2 = 1 ∨ (j + 1 = subs.length ∧ num = 1) then stmtsS d y else exprS d y) = exprS d y from by simp [hodd, hlast])
                  go_wp2_with fail
                  refine (hE y Ay cy _ (HL.out.below HC2.out) (kb HK_y HC2)).mono ?_
                  rintro e w6 ⟨rfl, hb6⟩
                  have HC6 := hid (bTh HC2.out hb6)
                  clear hb6
                  clear x0 x1 x2 x3 x4 fy0 fy1 fy2 fy3 fy4
                  obtain ⟨x0, x1, x2, x3, x4⟩ := nb HAT HC6
                  obtain ⟨fy0, fy1, fy2, fy3, fy4⟩ := nb HX_y HC6
                  cases hHV : exprS d y with
                  | false =>
                   have HV := hid hHV
                   clear hHV
                   have STEP := hid (HALL.out.trans ((ifAll_at (exprS d) (stmtsS d) num subs.length HY.out).trans (by rw [COND.out, HV.out])))
                   go_wp2
                   go_ret
                   exact ⟨rBo (by simp [stmtS_succ, stmtStep, Nd.sub, HH.out, H2.out, H3.out, STEP.out]), bTh HBOX.out HC6.out⟩
                  | true =>
                   have HV := hid hHV
                   clear hHV
                   have STEP := hid (HALL.out.trans ((ifAll_at (exprS d) (stmtsS d) num subs.length HY.out).trans (by rw [COND.out, HV.out])))
                   go_wp2
                   go_roundw
                   case rel => exact ⟨j + 1, by omega, by go_num, STEP.out.trans (Bool.true_and _), HC6.out⟩
                   case measure => simp [intOf]; omega
               ·skip
                have FIN := hid (show ifAll (exprS d) (stmtsS d) num subs.length subs 0 = true by rw [HALL.out, List.drop_eq_nil_of_le (by omega)]; rfl)
                go_wp2
                go_ret
                exact ⟨rBo (by simp [stmtS_succ, stmtStep, Nd.sub, HH.out, H2.out, H3.out, FIN.out]), bTh HBOX.out HC2.out⟩
             ·skip
              have HAT := hid (bAt w ⟨16, s, num, pos, subs⟩ A c 24)
              have HL := hid (hl.below (bBw w (.cells #[.int .i64 16, .string s, .int .i64 num, .int .i64 pos, .slice A subs.length c] 24)))
              clear hl hk
              have HH := hid hh
              clear hh
              have H2 := hid h2
              clear h2
              go_enter Tryz.func43, Tryz.ntmps43
              go_wp2_with fail
              generalize hW0 : w.alloc (.cells #[.int .i64 16, .string s, .int .i64 num, .int .i64 pos, .slice A subs.length c] 24) = W0 at *
              have HBOX := hid (show Below w.heap.size w W0 by rw [← hW0]; exact bBw _ _)
              clear hW0
              refine (head_any ⟨16, s, num, pos, subs⟩ A c 16 false 1 (-1) _ HL.out (by unfold maxLen; simp only [List.length_cons, List.length_nil]; omega)).mono ?_
              rintro e w1 ⟨rfl, hb1⟩
              have HC1 := hid hb1
              clear hb1
              obtain ⟨x0, x1, x2, x3, x4⟩ := nb HAT HC1
              rw [HH.out]
              go_wp2
              go_ret
              exact ⟨rBo (by simp [stmtS_succ, stmtStep, Nd.sub, HH.out, H2.out, h3]), bTh HBOX.out HC1.out⟩
            ·have h2b : decide ((subs.length : Int) < 2) = true := decide_eq_true (by omega)
             have HAT := hid (bAt w ⟨16, s, num, pos, subs⟩ A c 24)
             have HL := hid (hl.below (bBw w (.cells #[.int .i64 16, .string s, .int .i64 num, .int .i64 pos, .slice A subs.length c] 24)))
             clear hl hk
             have HH := hid hh
             clear hh
             have H2 := hid h2
             clear h2
             go_enter Tryz.func43, Tryz.ntmps43
             go_wp2_with fail
             generalize hW0 : w.alloc (.cells #[.int .i64 16, .string s, .int .i64 num, .int .i64 pos, .slice A subs.length c] 24) = W0 at *
             have HBOX := hid (show Below w.heap.size w W0 by rw [← hW0]; exact bBw _ _)
             clear hW0
             refine (head_any ⟨16, s, num, pos, subs⟩ A c 16 false 1 (-1) _ HL.out (by unfold maxLen; simp only [List.length_cons, List.length_nil]; omega)).mono ?_
             rintro e w1 ⟨rfl, hb1⟩
             have HC1 := hid hb1
             clear hb1
             obtain ⟨x0, x1, x2, x3, x4⟩ := nb HAT HC1
             rw [HH.out]
             go_wp2
             go_ret
             exact ⟨rBo (by simp [stmtS_succ, stmtStep, Nd.sub, HH.out, H2.out]), bTh HBOX.out HC1.out⟩
          ·have b16 : (k == 16) = false := by simpa using k16
           have HAT := hid (bAt w ⟨k, s, num, pos, subs⟩ A c 24)
           have HL := hid (hl.below (bBw w (.cells #[.int .i64 k, .string s, .int .i64 num, .int .i64 pos, .slice A subs.length c] 24)))
           clear hl hk
           go_enter Tryz.func43, Tryz.ntmps43
           go_wp2
           go_ret
           exact ⟨rBo (by simp [stmtS_succ, stmtStep, k14, k15, k17, k18, k19, k20, k22, k21, k23, k16]), bBw _ _⟩
end Go.Proofs.YtneohanphabneaaGreatDoor
