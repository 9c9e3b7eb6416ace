/-
The program's answer on shapes, the walks: type names, types. Conditions: the tree lies in memory.
-/
import Derived.Test.YtneohanphabneaaGreatDoorShapeP
namespace Go.Proofs.YtneohanphabneaaGreatDoor
set_option linter.unusedSimpArgs false
set_option linter.unusedVariables false
open Go.RowKit
theorem head0 (n : Nd) (k : Int) : headB n k false 0 0 = plainB n k 0 := by
 rw [headB_zero]; simp only [plainB]; simp; cases decide (n.kind = k) <;> cases emptyB n.name <;> cases decide (n.num = 0) <;> simp
theorem head1 (n : Nd) (k : Int) : headB n k false 0 1 = plainB n k 1 := by
 rw [headB_zero]; simp only [plainB]; simp; cases decide (n.kind = k) <;> cases emptyB n.name <;> cases decide (n.num = 0) <;> simp
theorem head2 (n : Nd) (k : Int) : headB n k false 0 2 = plainB n k 2 := by
 rw [headB_zero]; simp only [plainB]; simp; cases decide (n.kind = k) <;> cases emptyB n.name <;> cases decide (n.num = 0) <;> simp
theorem headL (n : Nd) (k : Int) : headB n k false 0 (-1) = plainB n k n.subs.length := by
 rw [headB_zero]; simp only [plainB]; simp; cases decide (n.kind = k) <;> cases emptyB n.name <;> cases decide (n.num = 0) <;> simp
theorem leafName (n : Nd) (k : Int) : (leafB n k && nameB n.name) = headB n k true 0 0 := by
 rw [headB_zero]; simp only [leafB]; cases decide (n.kind = k) <;> cases nameB n.name <;> cases decide (n.num = 0) <;> simp
theorem declVar (n : Nd) (k : Int) (q : Nd → Bool) : declaredB n k q = (headB n k true 1 1 && q (n.sub 0)) := by
 have e : decide ((n.subs.length : Int) = 1) = decide (n.subs.length = 1) := by congr 1; apply propext; omega
 rw [headB_one, e]; simp only [declaredB]; cases decide (n.kind = k) <;> cases nameB n.name <;> cases decide (n.num = 0) <;> cases decide (n.num = 1) <;> simp
theorem plainB_kind {n : Nd} {kind many : Int} (h : plainB n kind many = true) : n.kind = kind := by
 simp only [plainB, Bool.and_eq_true, decide_eq_true_eq] at h
 exact h.1.1.1
theorem enters_fn {f : FuncId} {fn : Func} {c : Code} (hf : Tryz.prog.funcs[f]? = some fn) (hname : (fn.name == "runtime.NumGoroutine") = false) (hb : fn.body = some c) (args : Array Value) (w : World) : (callFunc f args).run Tryz.prog w = .ok (.enter f args) w := by
 have h1 : fn.name ≠ "runtime.NumGoroutine" := by simpa using hname
 simp [callFunc, hf, h1, hb]
set_option maxRecDepth 100000 in
set_option maxHeartbeats 4000000 in
theorem isRef_any (d : Nat) : AskFn 107 d (fun x => headB x 24 true 0 0) := by
 refine ⟨fun args w => enters_fn Tryz.func107 (by kernel_rfl) rfl args w, ?_⟩
 intro n A c w hk
 obtain ⟨k, s, num, pos, subs⟩ := n
 have hlen := hk.len
 have hsz := hk.name_le
 unfold maxLen at hlen hsz
 simp only at hlen hsz
 have HAT := hid (bAt w ⟨k, s, num, pos, subs⟩ A c 24)
 clear hk
 go_enter Tryz.func107, Tryz.ntmps107
 go_wp2_with fail
 generalize hW0 : w.alloc (.cells #[.int .i64 k, .string s, .int .i64 num, .int .i64 pos, .slice A subs.length c] 24) = W0 at *
 have HBOX := hid (show Below w.heap.size w W0 by rw [← hW0]; exact bBw _ _)
 clear hW0
 refine (leaf_any ⟨k, s, num, pos, subs⟩ A c 24 _ (by unfold maxLen; omega)).mono ?_
 rintro e w1 ⟨rfl, hb1⟩
 have HC1 := hid hb1
 clear hb1
 obtain ⟨x0, x1, x2, x3, x4⟩ := nb HAT HC1
 cases g1 : leafB ⟨k, s, num, pos, subs⟩ 24 with
 | false =>
  try rw [g1]
  go_wp2
  go_ret
  exact ⟨rBo (by (try simp only [beq_iff_eq, beq_eq_false_iff_ne, bne_iff_ne, bne_eq_false_iff_eq, ne_eq] at g1); simp [← leafName, g1]), bTh HBOX.out HC1.out⟩
 | true =>
  try rw [g1]
  go_wp2_with fail
  refine (scanName_any s _ (by unfold maxLen; omega)).mono ?_
  rintro e w2 ⟨rfl, hb2⟩
  have HC2 := hid (bTh HC1.out hb2)
  clear hb2
  clear x0 x1 x2 x3 x4
  obtain ⟨x0, x1, x2, x3, x4⟩ := nb HAT HC2
  go_wp2
  go_ret
  exact ⟨rBo (by (try simp only [beq_iff_eq, beq_eq_false_iff_ne, bne_iff_ne, bne_eq_false_iff_eq, ne_eq] at g1); simp [← leafName, g1]), bTh HBOX.out HC2.out⟩
set_option maxRecDepth 100000 in
set_option maxHeartbeats 4000000 in
theorem isTypeName_any (d : Nat) : AskFn 59 d nameS := by
 refine ⟨fun args w => enters_fn Tryz.func59 (by kernel_rfl) rfl args w, ?_⟩
 intro n A c w hk
 obtain ⟨d, rfl⟩ : ∃ d', d = d' + 1 := by cases d with | zero => exact hk.elim | succ d => exact ⟨d, rfl⟩
 obtain ⟨k, s, num, pos, subs⟩ := n
 have hlen := hk.len
 have hsz := hk.name_le
 unfold maxLen at hlen hsz
 simp only at hlen hsz
 cases g1 : (k != 13) with
 | true =>
  have HAT := hid (bAt w ⟨k, s, num, pos, subs⟩ A c 24)
  clear hk
  go_enter Tryz.func59, Tryz.ntmps59
  go_wp2
  go_ret
  exact ⟨rBo (by (try simp only [bne_iff_ne, bne_eq_false_iff_eq, ne_eq] at g1); simp [nameS, headB_zero, Nd.sub, g1]), bBw _ _⟩
 | false =>
  cases g2 : nameB s with
  | false =>
   have HAT := hid (bAt w ⟨k, s, num, pos, subs⟩ A c 24)
   clear hk
   go_enter Tryz.func59, Tryz.ntmps59
   go_wp2_with fail
   generalize hW0 : w.alloc (.cells #[.int .i64 k, .string s, .int .i64 num, .int .i64 pos, .slice A subs.length c] 24) = W0 at *
   have HBOX := hid (show Below w.heap.size w W0 by rw [← hW0]; exact bBw _ _)
   clear hW0
   refine (scanName_any s _ (by unfold maxLen; omega)).mono ?_
   rintro e w1 ⟨rfl, hb1⟩
   have HC1 := hid hb1
   clear hb1
   obtain ⟨x0, x1, x2, x3, x4⟩ := nb HAT HC1
   try rw [g2]
   go_wp2
   go_ret
   exact ⟨rBo (by (try simp only [bne_iff_ne, bne_eq_false_iff_eq, ne_eq] at g1); (try simp only [bne_iff_ne, bne_eq_false_iff_eq, ne_eq] at g2); simp [nameS, headB_zero, Nd.sub, g1, g2]), bTh HBOX.out HC1.out⟩
  | true =>
   cases g3 : (num != 0) with
   | true =>
    have HAT := hid (bAt w ⟨k, s, num, pos, subs⟩ A c 24)
    clear hk
    go_enter Tryz.func59, Tryz.ntmps59
    go_wp2_with fail
    generalize hW0 : w.alloc (.cells #[.int .i64 k, .string s, .int .i64 num, .int .i64 pos, .slice A subs.length c] 24) = W0 at *
    have HBOX := hid (show Below w.heap.size w W0 by rw [← hW0]; exact bBw _ _)
    clear hW0
    refine (scanName_any s _ (by unfold maxLen; omega)).mono ?_
    rintro e w1 ⟨rfl, hb1⟩
    have HC1 := hid hb1
    clear hb1
    obtain ⟨x0, x1, x2, x3, x4⟩ := nb HAT HC1
    try rw [g2]
    go_wp2
    go_ret
    exact ⟨rBo (by (try simp only [bne_iff_ne, bne_eq_false_iff_eq, ne_eq] at g1); (try simp only [bne_iff_ne, bne_eq_false_iff_eq, ne_eq] at g2); (try simp only [bne_iff_ne, bne_eq_false_iff_eq, ne_eq] at g3); simp [nameS, headB_zero, Nd.sub, g1, g2, g3]), bTh HBOX.out HC1.out⟩
   | false =>
    rcases subs with _ | ⟨x, _ | ⟨y, r⟩⟩
    ·skip
     have HAT := hid (bAt w ⟨k, s, num, pos, []⟩ A c 24)
     have HKL := hid ((hk.list).below (bBw w (.cells #[.int .i64 k, .string s, .int .i64 num, .int .i64 pos, .slice A 0 c] 24)))
     clear hk
     go_enter Tryz.func59, Tryz.ntmps59
     go_wp2_with fail
     generalize hW0 : w.alloc (.cells #[.int .i64 k, .string s, .int .i64 num, .int .i64 pos, .slice A 0 c] 24) = W0 at *
     have HBOX := hid (show Below w.heap.size w W0 by rw [← hW0]; exact bBw _ _)
     clear hW0
     refine (scanName_any s _ (by unfold maxLen; omega)).mono ?_
     rintro e w1 ⟨rfl, hb1⟩
     have HC1 := hid hb1
     clear hb1
     obtain ⟨x0, x1, x2, x3, x4⟩ := nb HAT HC1
     try rw [g2]
     go_wp2_with fail
     refine (each_any _ d _ (isRef_any d) [] A c _ (HKL.out.below HC1.out)).mono ?_
     rintro e w2 ⟨rfl, hb2⟩
     have HC2 := hid (bTh HC1.out hb2)
     clear hb2
     clear x0 x1 x2 x3 x4
     obtain ⟨x0, x1, x2, x3, x4⟩ := nb HAT HC2
     go_wp2
     go_ret
     exact ⟨rBo (by (try simp only [bne_iff_ne, bne_eq_false_iff_eq, ne_eq] at g1); (try simp only [bne_iff_ne, bne_eq_false_iff_eq, ne_eq] at g2); (try simp only [bne_iff_ne, bne_eq_false_iff_eq, ne_eq] at g3); simp [nameS, headB_zero, Nd.sub, g1, g2, g3]), bTh HBOX.out HC2.out⟩
    ·skip
     simp only [List.length_cons, List.length_nil, Nat.zero_add] at hlen
     obtain ⟨b, o, Ax, cx, rfl, hx_x, hk_x⟩ := hk.one (x := x) (r := []) rfl
     have HAT := hid (bAt w ⟨k, s, num, pos, [x]⟩ (some ⟨b, o, none⟩) c 24)
     have HX_x := hid (hx_x.below (bBw w (.cells #[.int .i64 k, .string s, .int .i64 num, .int .i64 pos, .slice (some ⟨b, o, none⟩) 1 c] 24)))
     have HK_x := hid (hk_x.below (bBw w (.cells #[.int .i64 k, .string s, .int .i64 num, .int .i64 pos, .slice (some ⟨b, o, none⟩) 1 c] 24)))
     clear hx_x hk_x
     have HKL := hid ((hk.list).below (bBw w (.cells #[.int .i64 k, .string s, .int .i64 num, .int .i64 pos, .slice (some ⟨b, o, none⟩) 1 c] 24)))
     clear hk
     obtain ⟨fx0, fx1, fx2, fx3, fx4⟩ := HX_x.out
     go_enter Tryz.func59, Tryz.ntmps59
     go_wp2_with fail
     generalize hW0 : w.alloc (.cells #[.int .i64 k, .string s, .int .i64 num, .int .i64 pos, .slice (some ⟨b, o, none⟩) 1 c] 24) = W0 at *
     have HBOX := hid (show Below w.heap.size w W0 by rw [← hW0]; exact bBw _ _)
     clear hW0
     refine (scanName_any s _ (by unfold maxLen; omega)).mono ?_
     rintro e w1 ⟨rfl, hb1⟩
     have HC1 := hid hb1
     clear hb1
     clear fx0 fx1 fx2 fx3 fx4
     obtain ⟨x0, x1, x2, x3, x4⟩ := nb HAT HC1
     obtain ⟨fx0, fx1, fx2, fx3, fx4⟩ := nb HX_x HC1
     try rw [g2]
     go_wp2_with fail
     refine (each_any _ d _ (isRef_any d) [x] (some ⟨b, o, none⟩) c _ (HKL.out.below HC1.out)).mono ?_
     rintro e w2 ⟨rfl, hb2⟩
     have HC2 := hid (bTh HC1.out hb2)
     clear hb2
     clear x0 x1 x2 x3 x4 fx0 fx1 fx2 fx3 fx4
     obtain ⟨x0, x1, x2, x3, x4⟩ := nb HAT HC2
     obtain ⟨fx0, fx1, fx2, fx3, fx4⟩ := nb HX_x HC2
     go_wp2
     go_ret
     exact ⟨rBo (by (try simp only [bne_iff_ne, bne_eq_false_iff_eq, ne_eq] at g1); (try simp only [bne_iff_ne, bne_eq_false_iff_eq, ne_eq] at g2); (try simp only [bne_iff_ne, bne_eq_false_iff_eq, ne_eq] at g3); simp [nameS, headB_zero, Nd.sub, g1, g2, g3]), bTh HBOX.out HC2.out⟩
    ·skip
     simp only [List.length_cons] at hlen
     have HAT := hid (bAt w ⟨k, s, num, pos, x :: y :: r⟩ A c 24)
     clear hk
     go_enter Tryz.func59, Tryz.ntmps59
     go_wp2_with fail
     generalize hW0 : w.alloc (.cells #[.int .i64 k, .string s, .int .i64 num, .int .i64 pos, .slice A (r.length + 1 + 1) c] 24) = W0 at *
     have HBOX := hid (show Below w.heap.size w W0 by rw [← hW0]; exact bBw _ _)
     clear hW0
     refine (scanName_any s _ (by unfold maxLen; omega)).mono ?_
     rintro e w1 ⟨rfl, hb1⟩
     have HC1 := hid hb1
     clear hb1
     obtain ⟨x0, x1, x2, x3, x4⟩ := nb HAT HC1
     try rw [g2]
     go_wp2
     go_ret
     exact ⟨rBo (by (try simp only [bne_iff_ne, bne_eq_false_iff_eq, ne_eq] at g1); (try simp only [bne_iff_ne, bne_eq_false_iff_eq, ne_eq] at g2); (try simp only [bne_iff_ne, bne_eq_false_iff_eq, ne_eq] at g3); simp [nameS, headB_zero, Nd.sub, g1, g2, g3]), bTh HBOX.out HC1.out⟩
set_option maxRecDepth 100000 in
set_option maxHeartbeats 4000000 in
theorem perhaps_any (d : Nat) : AskFn 105 d (fun x => headB x 0 false 0 0 || nameS x) := by
 refine ⟨fun args w => enters_fn Tryz.func105 (by kernel_rfl) rfl args w, ?_⟩
 intro n A c w hk
 obtain ⟨k, s, num, pos, subs⟩ := n
 have hlen := hk.len
 have hsz := hk.name_le
 unfold maxLen at hlen hsz
 simp only at hlen hsz
 have HKN := hid (hk.below (bBw w (.cells #[.int .i64 k, .string s, .int .i64 num, .int .i64 pos, .slice A subs.length c] 24)))
 have HAT := hid (bAt w ⟨k, s, num, pos, subs⟩ A c 24)
 clear hk
 go_enter Tryz.func105, Tryz.ntmps105
 go_wp2_with fail
 generalize hW0 : w.alloc (.cells #[.int .i64 k, .string s, .int .i64 num, .int .i64 pos, .slice A subs.length c] 24) = W0 at *
 have HBOX := hid (show Below w.heap.size w W0 by rw [← hW0]; exact bBw _ _)
 clear hW0
 refine (plain_any ⟨k, s, num, pos, subs⟩ A c 0 0 _ (by unfold maxLen; omega)).mono ?_
 rintro e w1 ⟨rfl, hb1⟩
 have HC1 := hid hb1
 clear hb1
 obtain ⟨x0, x1, x2, x3, x4⟩ := nb HAT HC1
 cases g1 : plainB ⟨k, s, num, pos, subs⟩ 0 0 with
 | false =>
  try rw [g1]
  go_wp2_with fail
  refine ((isTypeName_any d).calls ⟨k, s, num, pos, subs⟩ A c _ (HKN.out.below HC1.out)).mono ?_
  rintro e w2 ⟨rfl, hb2⟩
  have HC2 := hid (bTh HC1.out hb2)
  clear hb2
  clear x0 x1 x2 x3 x4
  obtain ⟨x0, x1, x2, x3, x4⟩ := nb HAT HC2
  go_wp2
  go_ret
  exact ⟨rBo (by (try simp only [beq_iff_eq, beq_eq_false_iff_ne, bne_iff_ne, bne_eq_false_iff_eq, ne_eq] at g1); simp [head0, g1]), bTh HBOX.out HC2.out⟩
 | true =>
  try rw [g1]
  go_wp2
  go_ret
  exact ⟨rBo (by (try simp only [beq_iff_eq, beq_eq_false_iff_ne, bne_iff_ne, bne_eq_false_iff_eq, ne_eq] at g1); simp [head0, g1]), bTh HBOX.out HC1.out⟩
set_option maxRecDepth 100000 in
set_option maxHeartbeats 4000000 in
theorem isField_any (d : Nat) : AskFn 106 d (fun x => decide (x.kind = 11) && varS x 11) := by
 refine ⟨fun args w => enters_fn Tryz.func106 (by kernel_rfl) rfl args w, ?_⟩
 intro n A c w hk
 obtain ⟨d, rfl⟩ : ∃ d', d = d' + 1 := by cases d with | zero => exact hk.elim | succ d => exact ⟨d, rfl⟩
 obtain ⟨k, s, num, pos, subs⟩ := n
 have hlen := hk.len
 have hsz := hk.name_le
 unfold maxLen at hlen hsz
 simp only at hlen hsz
 have HKN := hid (hk.below (bBw w (.cells #[.int .i64 k, .string s, .int .i64 num, .int .i64 pos, .slice A subs.length c] 24)))
 have HAT := hid (bAt w ⟨k, s, num, pos, subs⟩ A c 24)
 clear hk
 go_enter Tryz.func106, Tryz.ntmps106
 go_wp2_with fail
 generalize hW0 : w.alloc (.cells #[.int .i64 k, .string s, .int .i64 num, .int .i64 pos, .slice A subs.length c] 24) = W0 at *
 have HBOX := hid (show Below w.heap.size w W0 by rw [← hW0]; exact bBw _ _)
 clear hW0
 refine (declared_any _ d _ (isTypeName_any d) ⟨k, s, num, pos, subs⟩ A c 11 _ HKN.out).mono ?_
 rintro e w1 ⟨rfl, hb1⟩
 have HC1 := hid hb1
 clear hb1
 obtain ⟨x0, x1, x2, x3, x4⟩ := nb HAT HC1
 go_wp2
 go_ret
 exact ⟨rBo (by simp [declVar, varS, headB_one, Nd.sub, ← Bool.and_assoc]), bTh HBOX.out HC1.out⟩
end Go.Proofs.YtneohanphabneaaGreatDoor
