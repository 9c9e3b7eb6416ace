/-
The document's answer on shapes, the walks: types, statements, declarations. Conditions: the tree lies in memory; the variable with the kept words is as it is laid.
-/
import Derived.Test.YtneohanphabneaaGreatDoorShapeR
namespace Go.Proofs.YtneohanphabneaaGreatDoor
set_option linter.unusedSimpArgs false
set_option linter.unusedVariables false
open Go.RowKit
theorem KidsL.nth {w : World} {d : Nat} {l : List Nd} {A : Option Addr} {c b o : Nat} (h : KidsL w d l A c) (hA : A = some ⟨b, o, none⟩) {i : Nat} {x : Nd} (hx : l[i]? = some x) {p : Nat} (hp : p = o + i * 5) : ∃ Ax cx, NdAt w b p x Ax cx ∧ Kids w d x Ax cx := by
 obtain ⟨b', o', Ax, cx, hA', h1, h2⟩ := h.2.2 i x hx
 rw [hA] at hA'
 injection hA' with hA'
 injection hA' with h3 h4
 subst h3; subst h4; subst hp
 exact ⟨Ax, cx, h1, h2⟩
theorem at_lt {l : List Nd} {j : Nat} {y : Nd} (h : l[j]? = some y) : j < l.length := (List.getElem?_eq_some_iff.1 h).1
theorem at_eq {l : List Nd} {j : Nat} {y : Nd} (h : l[j]? = some y) : l[j]'(at_lt h) = y := (List.getElem?_eq_some_iff.1 h).2
theorem bad_at {p : Nd → Bool} {l : List Nd} {j : Nat} {y : Nd} (h : l[j]? = some y) (hp : p y = false) : l.all p = false :=
 all_bad (at_lt h) (by rw [at_eq h]; exact hp)
theorem step_at {p : Nd → Bool} {l : List Nd} {j : Nat} {y : Nd} (h : l[j]? = some y) (h0 : (l.take j).all p = true) (hp : p y = true) : (l.take (j + 1)).all p = true :=
 all_step (at_lt h) h0 (by rw [at_eq h]; exact hp)
theorem tail_bad {p : Nd → Bool} {l : List Nd} {j : Nat} {y : Nd} (h1 : 1 ≤ j) (hy : l[j]? = some y) (hp : p y = false) : (l.drop 1).all p = false := by
 rw [Bool.eq_false_iff]
 intro ha
 have hm : y ∈ l.drop 1 := by
  refine List.mem_of_getElem? (i := j - 1) ?_
  rw [List.getElem?_drop, ← hy]
  congr 1
  omega
 rw [List.all_eq_true.1 ha _ hm] at hp
 cases hp
theorem tail_step {p : Nd → Bool} {l : List Nd} {j : Nat} {y : Nd} (h1 : 1 ≤ j) (hy : l[j]? = some y) (h0 : ((l.take j).drop 1).all p = true) (hp : p y = true) : ((l.take (j + 1)).drop 1).all p = true := by
 rw [List.take_succ_eq_append_getElem (at_lt hy), List.drop_append_of_le_length (by have := at_lt hy; simp; omega), List.all_append, h0, at_eq hy]
 simp [hp]
theorem tail_end {p : Nd → Bool} {l : List Nd} {j : Nat} (h : ¬ j < l.length) (h0 : ((l.take j).drop 1).all p = true) : (l.drop 1).all p = true := by
 rwa [List.take_of_length_le (by omega)] at h0
set_option maxHeartbeats 1000000 in
theorem declVar_any (d : Nat) (n : Nd) (A : Option Addr) (c : Nat) (w : World) (hl : KeptLaid w) (hk : Kids w d n A c) (hkd : n.kind = 6 ∨ n.kind = 8 ∨ n.kind = 11) :
  Calls Tryz.prog 19 #[.agg #[.int .i64 n.kind, .string n.name, .int .i64 n.num, .int .i64 n.pos, .slice A n.subs.length c]] w fun e w' => e = .returned (.bool (varS n n.kind)) ∧ Below w.heap.size w w' := by
 obtain ⟨d, rfl⟩ : ∃ d', d = d' + 1 := by cases d with | zero => exact hk.elim | succ d => exact ⟨d, rfl⟩
 obtain ⟨k, s, num, pos, subs⟩ := n
 have hlen := hk.len
 unfold maxLen at hlen
 simp only at hlen
 rcases hkd with hkd | hkd | hkd
 ·simp only at hkd; subst hkd
  cases hh : headB ⟨6, s, num, pos, subs⟩ 6 true 1 1 with
  | false =>
   have HAT := hid (bAt w ⟨6, s, num, pos, subs⟩ A c 24)
   have HL := hid (hl.below (bBw w (.cells #[.int .i64 6, .string s, .int .i64 num, .int .i64 pos, .slice A subs.length c] 24)))
   clear hl hk
   have HH := hid hh
   clear hh
   go_enter Tryz.func19, Tryz.ntmps19
   go_wp2_with fail
   generalize hW0 : w.alloc (.cells #[.int .i64 6, .string s, .int .i64 num, .int .i64 pos, .slice A subs.length c] 24) = W0 at *
   have HBOX := hid (show Below w.heap.size w W0 by rw [← hW0]; exact bBw _ _)
   clear hW0
   refine (head_any ⟨6, s, num, pos, subs⟩ A c 6 true 1 1 _ HL.out (by unfold maxLen; simp only [List.length_cons, List.length_nil]; omega)).mono ?_
   rintro e w1 ⟨rfl, hb1⟩
   have HC1 := hid hb1
   clear hb1
   obtain ⟨x0, x1, x2, x3, x4⟩ := nb HAT HC1
   rw [HH.out]
   go_wp2
   go_ret
   exact ⟨rBo (by simp [varS, Nd.sub, HH.out]), bTh HBOX.out HC1.out⟩
  | true =>
   obtain ⟨x, rfl⟩ := len1 (headB_len hh (by omega))
   obtain ⟨b, o, Ax, cx, rfl, hx_x, hk_x⟩ := hk.one (x := x) (r := []) rfl
   simp only [List.length_cons, List.length_nil, Nat.zero_add] at hlen
   have HAT := hid (bAt w ⟨6, s, num, pos, [x]⟩ (some ⟨b, o, none⟩) c 24)
   have HL := hid (hl.below (bBw w (.cells #[.int .i64 6, .string s, .int .i64 num, .int .i64 pos, .slice (some ⟨b, o, none⟩) 1 c] 24)))
   have HX_x := hid (hx_x.below (bBw w (.cells #[.int .i64 6, .string s, .int .i64 num, .int .i64 pos, .slice (some ⟨b, o, none⟩) 1 c] 24)))
   have HK_x := hid (hk_x.below (bBw w (.cells #[.int .i64 6, .string s, .int .i64 num, .int .i64 pos, .slice (some ⟨b, o, none⟩) 1 c] 24)))
   clear hx_x hk_x
   clear hl hk
   have HH := hid hh
   clear hh
   obtain ⟨fx0, fx1, fx2, fx3, fx4⟩ := HX_x.out
   go_enter Tryz.func19, Tryz.ntmps19
   go_wp2_with fail
   generalize hW0 : w.alloc (.cells #[.int .i64 6, .string s, .int .i64 num, .int .i64 pos, .slice (some ⟨b, o, none⟩) 1 c] 24) = W0 at *
   have HBOX := hid (show Below w.heap.size w W0 by rw [← hW0]; exact bBw _ _)
   clear hW0
   refine (head_any ⟨6, s, num, pos, [x]⟩ (some ⟨b, o, none⟩) c 6 true 1 1 _ HL.out (by unfold maxLen; simp only [List.length_cons, List.length_nil]; omega)).mono ?_
   rintro e w1 ⟨rfl, hb1⟩
   have HC1 := hid hb1
   clear hb1
   clear fx0 fx1 fx2 fx3 fx4
   obtain ⟨x0, x1, x2, x3, x4⟩ := nb HAT HC1
   obtain ⟨fx0, fx1, fx2, fx3, fx4⟩ := nb HX_x HC1
   rw [HH.out]
   go_wp2_with fail
   refine (nameShaped_any _ x Ax cx _ (HL.out.below HC1.out) (kb HK_x HC1)).mono ?_
   rintro e w2 ⟨rfl, hb2⟩
   have HC2 := hid (bTh HC1.out hb2)
   clear hb2
   clear x0 x1 x2 x3 x4 fx0 fx1 fx2 fx3 fx4
   obtain ⟨x0, x1, x2, x3, x4⟩ := nb HAT HC2
   obtain ⟨fx0, fx1, fx2, fx3, fx4⟩ := nb HX_x HC2
   go_wp2
   go_ret
   exact ⟨rBo (by simp [varS, Nd.sub, HH.out]), bTh HBOX.out HC2.out⟩
 ·simp only at hkd; subst hkd
  cases hh : headB ⟨8, s, num, pos, subs⟩ 8 true 1 1 with
  | false =>
   have HAT := hid (bAt w ⟨8, s, num, pos, subs⟩ A c 24)
   have HL := hid (hl.below (bBw w (.cells #[.int .i64 8, .string s, .int .i64 num, .int .i64 pos, .slice A subs.length c] 24)))
   clear hl hk
   have HH := hid hh
   clear hh
   go_enter Tryz.func19, Tryz.ntmps19
   go_wp2_with fail
   generalize hW0 : w.alloc (.cells #[.int .i64 8, .string s, .int .i64 num, .int .i64 pos, .slice A subs.length c] 24) = W0 at *
   have HBOX := hid (show Below w.heap.size w W0 by rw [← hW0]; exact bBw _ _)
   clear hW0
   refine (head_any ⟨8, s, num, pos, subs⟩ A c 8 true 1 1 _ HL.out (by unfold maxLen; simp only [List.length_cons, List.length_nil]; omega)).mono ?_
   rintro e w1 ⟨rfl, hb1⟩
   have HC1 := hid hb1
   clear hb1
   obtain ⟨x0, x1, x2, x3, x4⟩ := nb HAT HC1
   rw [HH.out]
   go_wp2
   go_ret
   exact ⟨rBo (by simp [varS, Nd.sub, HH.out]), bTh HBOX.out HC1.out⟩
  | true =>
   obtain ⟨x, rfl⟩ := len1 (headB_len hh (by omega))
   obtain ⟨b, o, Ax, cx, rfl, hx_x, hk_x⟩ := hk.one (x := x) (r := []) rfl
   simp only [List.length_cons, List.length_nil, Nat.zero_add] at hlen
   have HAT := hid (bAt w ⟨8, s, num, pos, [x]⟩ (some ⟨b, o, none⟩) c 24)
   have HL := hid (hl.below (bBw w (.cells #[.int .i64 8, .string s, .int .i64 num, .int .i64 pos, .slice (some ⟨b, o, none⟩) 1 c] 24)))
   have HX_x := hid (hx_x.below (bBw w (.cells #[.int .i64 8, .string s, .int .i64 num, .int .i64 pos, .slice (some ⟨b, o, none⟩) 1 c] 24)))
   have HK_x := hid (hk_x.below (bBw w (.cells #[.int .i64 8, .string s, .int .i64 num, .int .i64 pos, .slice (some ⟨b, o, none⟩) 1 c] 24)))
   clear hx_x hk_x
   clear hl hk
   have HH := hid hh
   clear hh
   obtain ⟨fx0, fx1, fx2, fx3, fx4⟩ := HX_x.out
   go_enter Tryz.func19, Tryz.ntmps19
   go_wp2_with fail
   generalize hW0 : w.alloc (.cells #[.int .i64 8, .string s, .int .i64 num, .int .i64 pos, .slice (some ⟨b, o, none⟩) 1 c] 24) = W0 at *
   have HBOX := hid (show Below w.heap.size w W0 by rw [← hW0]; exact bBw _ _)
   clear hW0
   refine (head_any ⟨8, s, num, pos, [x]⟩ (some ⟨b, o, none⟩) c 8 true 1 1 _ HL.out (by unfold maxLen; simp only [List.length_cons, List.length_nil]; omega)).mono ?_
   rintro e w1 ⟨rfl, hb1⟩
   have HC1 := hid hb1
   clear hb1
   clear fx0 fx1 fx2 fx3 fx4
   obtain ⟨x0, x1, x2, x3, x4⟩ := nb HAT HC1
   obtain ⟨fx0, fx1, fx2, fx3, fx4⟩ := nb HX_x HC1
   rw [HH.out]
   go_wp2_with fail
   refine (nameShaped_any _ x Ax cx _ (HL.out.below HC1.out) (kb HK_x HC1)).mono ?_
   rintro e w2 ⟨rfl, hb2⟩
   have HC2 := hid (bTh HC1.out hb2)
   clear hb2
   clear x0 x1 x2 x3 x4 fx0 fx1 fx2 fx3 fx4
   obtain ⟨x0, x1, x2, x3, x4⟩ := nb HAT HC2
   obtain ⟨fx0, fx1, fx2, fx3, fx4⟩ := nb HX_x HC2
   go_wp2
   go_ret
   exact ⟨rBo (by simp [varS, Nd.sub, HH.out]), bTh HBOX.out HC2.out⟩
 ·simp only at hkd; subst hkd
  cases hh : headB ⟨11, s, num, pos, subs⟩ 11 true 1 1 with
  | false =>
   have HAT := hid (bAt w ⟨11, s, num, pos, subs⟩ A c 24)
   have HL := hid (hl.below (bBw w (.cells #[.int .i64 11, .string s, .int .i64 num, .int .i64 pos, .slice A subs.length c] 24)))
   clear hl hk
   have HH := hid hh
   clear hh
   go_enter Tryz.func19, Tryz.ntmps19
   go_wp2_with fail
   generalize hW0 : w.alloc (.cells #[.int .i64 11, .string s, .int .i64 num, .int .i64 pos, .slice A subs.length c] 24) = W0 at *
   have HBOX := hid (show Below w.heap.size w W0 by rw [← hW0]; exact bBw _ _)
   clear hW0
   refine (head_any ⟨11, s, num, pos, subs⟩ A c 11 true 1 1 _ HL.out (by unfold maxLen; simp only [List.length_cons, List.length_nil]; omega)).mono ?_
   rintro e w1 ⟨rfl, hb1⟩
   have HC1 := hid hb1
   clear hb1
   obtain ⟨x0, x1, x2, x3, x4⟩ := nb HAT HC1
   rw [HH.out]
   go_wp2
   go_ret
   exact ⟨rBo (by simp [varS, Nd.sub, HH.out]), bTh HBOX.out HC1.out⟩
  | true =>
   obtain ⟨x, rfl⟩ := len1 (headB_len hh (by omega))
   obtain ⟨b, o, Ax, cx, rfl, hx_x, hk_x⟩ := hk.one (x := x) (r := []) rfl
   simp only [List.length_cons, List.length_nil, Nat.zero_add] at hlen
   have HAT := hid (bAt w ⟨11, s, num, pos, [x]⟩ (some ⟨b, o, none⟩) c 24)
   have HL := hid (hl.below (bBw w (.cells #[.int .i64 11, .string s, .int .i64 num, .int .i64 pos, .slice (some ⟨b, o, none⟩) 1 c] 24)))
   have HX_x := hid (hx_x.below (bBw w (.cells #[.int .i64 11, .string s, .int .i64 num, .int .i64 pos, .slice (some ⟨b, o, none⟩) 1 c] 24)))
   have HK_x := hid (hk_x.below (bBw w (.cells #[.int .i64 11, .string s, .int .i64 num, .int .i64 pos, .slice (some ⟨b, o, none⟩) 1 c] 24)))
   clear hx_x hk_x
   clear hl hk
   have HH := hid hh
   clear hh
   obtain ⟨fx0, fx1, fx2, fx3, fx4⟩ := HX_x.out
   go_enter Tryz.func19, Tryz.ntmps19
   go_wp2_with fail
   generalize hW0 : w.alloc (.cells #[.int .i64 11, .string s, .int .i64 num, .int .i64 pos, .slice (some ⟨b, o, none⟩) 1 c] 24) = W0 at *
   have HBOX := hid (show Below w.heap.size w W0 by rw [← hW0]; exact bBw _ _)
   clear hW0
   refine (head_any ⟨11, s, num, pos, [x]⟩ (some ⟨b, o, none⟩) c 11 true 1 1 _ HL.out (by unfold maxLen; simp only [List.length_cons, List.length_nil]; omega)).mono ?_
   rintro e w1 ⟨rfl, hb1⟩
   have HC1 := hid hb1
   clear hb1
   clear fx0 fx1 fx2 fx3 fx4
   obtain ⟨x0, x1, x2, x3, x4⟩ := nb HAT HC1
   obtain ⟨fx0, fx1, fx2, fx3, fx4⟩ := nb HX_x HC1
   rw [HH.out]
   go_wp2_with fail
   refine (nameShaped_any _ x Ax cx _ (HL.out.below HC1.out) (kb HK_x HC1)).mono ?_
   rintro e w2 ⟨rfl, hb2⟩
   have HC2 := hid (bTh HC1.out hb2)
   clear hb2
   clear x0 x1 x2 x3 x4 fx0 fx1 fx2 fx3 fx4
   obtain ⟨x0, x1, x2, x3, x4⟩ := nb HAT HC2
   obtain ⟨fx0, fx1, fx2, fx3, fx4⟩ := nb HX_x HC2
   go_wp2
   go_ret
   exact ⟨rBo (by simp [varS, Nd.sub, HH.out]), bTh HBOX.out HC2.out⟩
set_option maxRecDepth 100000 in
set_option maxHeartbeats 4000000 in
theorem typeShaped_any (d : Nat) (n : Nd) (A : Option Addr) (c : Nat) (w : World) (hl : KeptLaid w) (hk : Kids w d n A c) :
  Calls Tryz.prog 41 #[.agg #[.int .i64 n.kind, .string n.name, .int .i64 n.num, .int .i64 n.pos, .slice A n.subs.length c]] w fun e w' => e = .returned (.bool (typeS n)) ∧ Below w.heap.size w w' := by
 obtain ⟨d, rfl⟩ : ∃ d', d = d' + 1 := by cases d with | zero => exact hk.elim | succ d => exact ⟨d, rfl⟩
 obtain ⟨k, s, num, pos, subs⟩ := n
 have hlen := hk.len
 unfold maxLen at hlen
 simp only at hlen
 by_cases k9 : k = 9
 ·subst k9
  cases hh : headB ⟨9, s, num, pos, subs⟩ 9 false 2147483647 1 with
  | false =>
   have HAT := hid (bAt w ⟨9, s, num, pos, subs⟩ A c 24)
   have HL := hid (hl.below (bBw w (.cells #[.int .i64 9, .string s, .int .i64 num, .int .i64 pos, .slice A subs.length c] 24)))
   clear hl hk
   have HH := hid hh
   clear hh
   go_enter Tryz.func41, Tryz.ntmps41
   go_wp2_with fail
   generalize hW0 : w.alloc (.cells #[.int .i64 9, .string s, .int .i64 num, .int .i64 pos, .slice A subs.length c] 24) = W0 at *
   have HBOX := hid (show Below w.heap.size w W0 by rw [← hW0]; exact bBw _ _)
   clear hW0
   refine (head_any ⟨9, s, num, pos, subs⟩ A c 9 false 2147483647 1 _ HL.out (by unfold maxLen; simp only [List.length_cons, List.length_nil]; omega)).mono ?_
   rintro e w1 ⟨rfl, hb1⟩
   have HC1 := hid hb1
   clear hb1
   obtain ⟨x0, x1, x2, x3, x4⟩ := nb HAT HC1
   rw [HH.out]
   go_wp2
   go_ret
   exact ⟨rBo (by simp [typeS, Nd.sub, HH.out]), bTh HBOX.out HC1.out⟩
  | true =>
   obtain ⟨x, rfl⟩ := len1 (headB_len hh (by omega))
   obtain ⟨b, o, Ax, cx, rfl, hx_x, hk_x⟩ := hk.one (x := x) (r := []) rfl
   simp only [List.length_cons, List.length_nil, Nat.zero_add] at hlen
   have HAT := hid (bAt w ⟨9, s, num, pos, [x]⟩ (some ⟨b, o, none⟩) c 24)
   have HL := hid (hl.below (bBw w (.cells #[.int .i64 9, .string s, .int .i64 num, .int .i64 pos, .slice (some ⟨b, o, none⟩) 1 c] 24)))
   have HX_x := hid (hx_x.below (bBw w (.cells #[.int .i64 9, .string s, .int .i64 num, .int .i64 pos, .slice (some ⟨b, o, none⟩) 1 c] 24)))
   have HK_x := hid (hk_x.below (bBw w (.cells #[.int .i64 9, .string s, .int .i64 num, .int .i64 pos, .slice (some ⟨b, o, none⟩) 1 c] 24)))
   clear hx_x hk_x
   clear hl hk
   have HH := hid hh
   clear hh
   obtain ⟨fx0, fx1, fx2, fx3, fx4⟩ := HX_x.out
   go_enter Tryz.func41, Tryz.ntmps41
   go_wp2_with fail
   generalize hW0 : w.alloc (.cells #[.int .i64 9, .string s, .int .i64 num, .int .i64 pos, .slice (some ⟨b, o, none⟩) 1 c] 24) = W0 at *
   have HBOX := hid (show Below w.heap.size w W0 by rw [← hW0]; exact bBw _ _)
   clear hW0
   refine (head_any ⟨9, s, num, pos, [x]⟩ (some ⟨b, o, none⟩) c 9 false 2147483647 1 _ HL.out (by unfold maxLen; simp only [List.length_cons, List.length_nil]; omega)).mono ?_
   rintro e w1 ⟨rfl, hb1⟩
   have HC1 := hid hb1
   clear hb1
   clear fx0 fx1 fx2 fx3 fx4
   obtain ⟨x0, x1, x2, x3, x4⟩ := nb HAT HC1
   obtain ⟨fx0, fx1, fx2, fx3, fx4⟩ := nb HX_x HC1
   rw [HH.out]
   go_wp2_with fail
   refine (nameShaped_any _ x Ax cx _ (HL.out.below HC1.out) (kb HK_x HC1)).mono ?_
   rintro e w2 ⟨rfl, hb2⟩
   have HC2 := hid (bTh HC1.out hb2)
   clear hb2
   clear x0 x1 x2 x3 x4 fx0 fx1 fx2 fx3 fx4
   obtain ⟨x0, x1, x2, x3, x4⟩ := nb HAT HC2
   obtain ⟨fx0, fx1, fx2, fx3, fx4⟩ := nb HX_x HC2
   go_wp2
   go_ret
   exact ⟨rBo (by simp [typeS, Nd.sub, HH.out]), bTh HBOX.out HC2.out⟩
 ·have b9 : (k == 9) = false := by simpa using k9
  by_cases k12 : k = 12
  ·subst k12
   cases hh : headB ⟨12, s, num, pos, subs⟩ 12 false 0 1 with
   | false =>
    have HAT := hid (bAt w ⟨12, s, num, pos, subs⟩ A c 24)
    have HL := hid (hl.below (bBw w (.cells #[.int .i64 12, .string s, .int .i64 num, .int .i64 pos, .slice A subs.length c] 24)))
    clear hl hk
    have HH := hid hh
    clear hh
    go_enter Tryz.func41, Tryz.ntmps41
    go_wp2_with fail
    generalize hW0 : w.alloc (.cells #[.int .i64 12, .string s, .int .i64 num, .int .i64 pos, .slice A subs.length c] 24) = W0 at *
    have HBOX := hid (show Below w.heap.size w W0 by rw [← hW0]; exact bBw _ _)
    clear hW0
    refine (head_any ⟨12, s, num, pos, subs⟩ A c 12 false 0 1 _ HL.out (by unfold maxLen; simp only [List.length_cons, List.length_nil]; omega)).mono ?_
    rintro e w1 ⟨rfl, hb1⟩
    have HC1 := hid hb1
    clear hb1
    obtain ⟨x0, x1, x2, x3, x4⟩ := nb HAT HC1
    rw [HH.out]
    go_wp2
    go_ret
    exact ⟨rBo (by simp [typeS, Nd.sub, HH.out]), bTh HBOX.out HC1.out⟩
   | true =>
    obtain ⟨x, rfl⟩ := len1 (headB_len hh (by omega))
    obtain ⟨b, o, Ax, cx, rfl, hx_x, hk_x⟩ := hk.one (x := x) (r := []) rfl
    simp only [List.length_cons, List.length_nil, Nat.zero_add] at hlen
    have HAT := hid (bAt w ⟨12, s, num, pos, [x]⟩ (some ⟨b, o, none⟩) c 24)
    have HL := hid (hl.below (bBw w (.cells #[.int .i64 12, .string s, .int .i64 num, .int .i64 pos, .slice (some ⟨b, o, none⟩) 1 c] 24)))
    have HX_x := hid (hx_x.below (bBw w (.cells #[.int .i64 12, .string s, .int .i64 num, .int .i64 pos, .slice (some ⟨b, o, none⟩) 1 c] 24)))
    have HK_x := hid (hk_x.below (bBw w (.cells #[.int .i64 12, .string s, .int .i64 num, .int .i64 pos, .slice (some ⟨b, o, none⟩) 1 c] 24)))
    clear hx_x hk_x
    clear hl hk
    have HH := hid hh
    clear hh
    obtain ⟨fx0, fx1, fx2, fx3, fx4⟩ := HX_x.out
    go_enter Tryz.func41, Tryz.ntmps41
    go_wp2_with fail
    generalize hW0 : w.alloc (.cells #[.int .i64 12, .string s, .int .i64 num, .int .i64 pos, .slice (some ⟨b, o, none⟩) 1 c] 24) = W0 at *
    have HBOX := hid (show Below w.heap.size w W0 by rw [← hW0]; exact bBw _ _)
    clear hW0
    refine (head_any ⟨12, s, num, pos, [x]⟩ (some ⟨b, o, none⟩) c 12 false 0 1 _ HL.out (by unfold maxLen; simp only [List.length_cons, List.length_nil]; omega)).mono ?_
    rintro e w1 ⟨rfl, hb1⟩
    have HC1 := hid hb1
    clear hb1
    clear fx0 fx1 fx2 fx3 fx4
    obtain ⟨x0, x1, x2, x3, x4⟩ := nb HAT HC1
    obtain ⟨fx0, fx1, fx2, fx3, fx4⟩ := nb HX_x HC1
    rw [HH.out]
    go_wp2_with fail
    refine (nameShaped_any _ x Ax cx _ (HL.out.below HC1.out) (kb HK_x HC1)).mono ?_
    rintro e w2 ⟨rfl, hb2⟩
    have HC2 := hid (bTh HC1.out hb2)
    clear hb2
    clear x0 x1 x2 x3 x4 fx0 fx1 fx2 fx3 fx4
    obtain ⟨x0, x1, x2, x3, x4⟩ := nb HAT HC2
    obtain ⟨fx0, fx1, fx2, fx3, fx4⟩ := nb HX_x HC2
    go_wp2
    go_ret
    exact ⟨rBo (by simp [typeS, Nd.sub, HH.out]), bTh HBOX.out HC2.out⟩
  ·have b12 : (k == 12) = false := by simpa using k12
   cases hh : headB ⟨k, s, num, pos, subs⟩ 10 false 0 (-1) with
   | false =>
    have HAT := hid (bAt w ⟨k, s, num, pos, subs⟩ A c 24)
    have HL := hid (hl.below (bBw w (.cells #[.int .i64 k, .string s, .int .i64 num, .int .i64 pos, .slice A subs.length c] 24)))
    clear hl hk
    have HH := hid hh
    clear hh
    go_enter Tryz.func41, Tryz.ntmps41
    go_wp2_with fail
    generalize hW0 : w.alloc (.cells #[.int .i64 k, .string s, .int .i64 num, .int .i64 pos, .slice A subs.length c] 24) = W0 at *
    have HBOX := hid (show Below w.heap.size w W0 by rw [← hW0]; exact bBw _ _)
    clear hW0
    refine (head_any ⟨k, s, num, pos, subs⟩ A c 10 false 0 (-1) _ HL.out (by unfold maxLen; simp only [List.length_cons, List.length_nil]; omega)).mono ?_
    rintro e w1 ⟨rfl, hb1⟩
    have HC1 := hid hb1
    clear hb1
    obtain ⟨x0, x1, x2, x3, x4⟩ := nb HAT HC1
    rw [HH.out]
    go_wp2
    go_ret
    exact ⟨rBo (by simp [typeS, Nd.sub, HH.out, k9, k12]), bTh HBOX.out HC1.out⟩
   | true =>
    rcases subs with _ | ⟨x, r⟩
    ·skip
     have HAT := hid (bAt w ⟨k, s, num, pos, []⟩ A c 24)
     have HL := hid (hl.below (bBw w (.cells #[.int .i64 k, .string s, .int .i64 num, .int .i64 pos, .slice A 0 c] 24)))
     clear hl hk
     have HH := hid hh
     clear hh
     go_enter Tryz.func41, Tryz.ntmps41
     go_wp2_with fail
     generalize hW0 : w.alloc (.cells #[.int .i64 k, .string s, .int .i64 num, .int .i64 pos, .slice A 0 c] 24) = W0 at *
     have HBOX := hid (show Below w.heap.size w W0 by rw [← hW0]; exact bBw _ _)
     clear hW0
     refine (head_any ⟨k, s, num, pos, []⟩ A c 10 false 0 (-1) _ HL.out (by unfold maxLen; simp only [List.length_cons, List.length_nil]; omega)).mono ?_
     rintro e w1 ⟨rfl, hb1⟩
     have HC1 := hid hb1
     clear hb1
     obtain ⟨x0, x1, x2, x3, x4⟩ := nb HAT HC1
     rw [HH.out]
     go_wp2
     go_ret
     exact ⟨rBo (by simp [typeS, Nd.sub, HH.out, k9, k12]), bTh HBOX.out HC1.out⟩
    ·skip
     simp only [List.length_cons] at hlen
     obtain ⟨b, o, Ax, cx, rfl, hx_x, hk_x⟩ := hk.one (x := x) (r := r) rfl
     have HAT := hid (bAt w ⟨k, s, num, pos, x :: r⟩ (some ⟨b, o, none⟩) c 24)
     have HL := hid (hl.below (bBw w (.cells #[.int .i64 k, .string s, .int .i64 num, .int .i64 pos, .slice (some ⟨b, o, none⟩) (r.length + 1) c] 24)))
     have HX_x := hid (hx_x.below (bBw w (.cells #[.int .i64 k, .string s, .int .i64 num, .int .i64 pos, .slice (some ⟨b, o, none⟩) (r.length + 1) c] 24)))
     have HK_x := hid (hk_x.below (bBw w (.cells #[.int .i64 k, .string s, .int .i64 num, .int .i64 pos, .slice (some ⟨b, o, none⟩) (r.length + 1) c] 24)))
     clear hx_x hk_x
     have HKL := hid ((hk.list).below (bBw w (.cells #[.int .i64 k, .string s, .int .i64 num, .int .i64 pos, .slice (some ⟨b, o, none⟩) (r.length + 1) c] 24)))
     clear hl hk
     have HH := hid hh
     clear hh
     obtain ⟨fx0, fx1, fx2, fx3, fx4⟩ := HX_x.out
     go_enter Tryz.func41, Tryz.ntmps41
     go_wp2_with fail
     generalize hW0 : w.alloc (.cells #[.int .i64 k, .string s, .int .i64 num, .int .i64 pos, .slice (some ⟨b, o, none⟩) (r.length + 1) c] 24) = W0 at *
     have HBOX := hid (show Below w.heap.size w W0 by rw [← hW0]; exact bBw _ _)
     clear hW0
     refine (head_any ⟨k, s, num, pos, x :: r⟩ (some ⟨b, o, none⟩) c 10 false 0 (-1) _ HL.out (by unfold maxLen; simp only [List.length_cons, List.length_nil]; omega)).mono ?_
     rintro e w1 ⟨rfl, hb1⟩
     have HC1 := hid hb1
     clear hb1
     clear fx0 fx1 fx2 fx3 fx4
     obtain ⟨x0, x1, x2, x3, x4⟩ := nb HAT HC1
     obtain ⟨fx0, fx1, fx2, fx3, fx4⟩ := nb HX_x HC1
     rw [HH.out]
     go_wp2_with fail
     refine (head_any x Ax cx 0 false 0 0 _ (HL.out.below HC1.out) (kb HK_x HC1).len).mono ?_
     rintro e w2 ⟨rfl, hb2⟩
     have HC2 := hid (bTh HC1.out hb2)
     clear hb2
     clear x0 x1 x2 x3 x4 fx0 fx1 fx2 fx3 fx4
     obtain ⟨x0, x1, x2, x3, x4⟩ := nb HAT HC2
     obtain ⟨fx0, fx1, fx2, fx3, fx4⟩ := nb HX_x HC2
     cases hH1 : headB x 0 false 0 0 with
     | false =>
      have H1 := hid hH1
      clear hH1
      go_wp2_with fail
      refine (nameShaped_any _ x Ax cx _ (HL.out.below HC2.out) (kb HK_x HC2)).mono ?_
      rintro e w3 ⟨rfl, hb3⟩
      have HC3 := hid (bTh HC2.out hb3)
      clear hb3
      clear x0 x1 x2 x3 x4 fx0 fx1 fx2 fx3 fx4
      obtain ⟨x0, x1, x2, x3, x4⟩ := nb HAT HC3
      obtain ⟨fx0, fx1, fx2, fx3, fx4⟩ := nb HX_x HC3
      cases hH2 : nameS x with
      | false =>
       have H2 := hid hH2
       clear hH2
       go_wp2
       go_ret
       exact ⟨rBo (by simp [typeS, Nd.sub, HH.out, k9, k12, H1.out, H2.out]), bTh HBOX.out HC3.out⟩
      | true =>
       have H2 := hid hH2
       clear hH2
       go_wp2
       go_loopw [3] (fun ii wr => ∃ j : Nat, 1 ≤ j ∧ j ≤ (x :: r).length ∧ ii = .int .i64 j ∧ (((x :: r).take j).drop 1).all (fun x => decide (x.kind = 11) && varS x 11) = true ∧ Below W0.heap.size W0 wr) (fun ii _ => (x :: r).length - (intOf ii).toNat)
       case atStart => exact ⟨1, Nat.le_refl _, by simp, rfl, by simp, HC3.out⟩
       case round =>
        obtain ⟨j, hlo, hj, rfl, hall, hbr⟩ := hrel
        have HC4 := hid hbr
        have HALL := hid hall
        clear hbr hall
        clear x0 x1 x2 x3 x4 fx0 fx1 fx2 fx3 fx4
        obtain ⟨x0, x1, x2, x3, x4⟩ := nb HAT HC4
        obtain ⟨fx0, fx1, fx2, fx3, fx4⟩ := nb HX_x HC4
        by_cases hlt : j < r.length + 1
        ·skip
         obtain ⟨y, hy⟩ : ∃ y, (x :: r)[j]? = some y := ⟨_, List.getElem?_eq_getElem (by simpa using hlt)⟩
         obtain ⟨Ay, cy, hx, hky⟩ := HKL.out.nth rfl (i := j) (x := y) hy rfl
         have HX_y := hid hx
         have HK_y := hid hky
         have HY := hid hy
         clear hx hky hy
         clear x0 x1 x2 x3 x4 fx0 fx1 fx2 fx3 fx4
         obtain ⟨x0, x1, x2, x3, x4⟩ := nb HAT HC4
         obtain ⟨fx0, fx1, fx2, fx3, fx4⟩ := nb HX_x HC4
         obtain ⟨fy0, fy1, fy2, fy3, fy4⟩ := nb HX_y HC4
         obtain ⟨yk, ys, yn, yp, yl⟩ := y
         by_cases hky : yk = 11
         ·subst hky
          go_wp2_with fail
          refine (declVar_any _ ⟨11, ys, yn, yp, yl⟩ Ay cy _ (HL.out.below HC4.out) (kb HK_y HC4) (Or.inr (Or.inr rfl))).mono ?_
          rintro e w5 ⟨rfl, hb5⟩
          have HC5 := hid (bTh HC4.out hb5)
          clear hb5
          clear x0 x1 x2 x3 x4 fx0 fx1 fx2 fx3 fx4 fy0 fy1 fy2 fy3 fy4
          obtain ⟨x0, x1, x2, x3, x4⟩ := nb HAT HC5
          obtain ⟨fx0, fx1, fx2, fx3, fx4⟩ := nb HX_x HC5
          obtain ⟨fy0, fy1, fy2, fy3, fy4⟩ := nb HX_y HC5
          cases hHV : varS ⟨11, ys, yn, yp, yl⟩ 11 with
          | false =>
           have HV := hid hHV
           clear hHV
           have FIN := hid (show r.all (fun x => decide (x.kind = 11) && varS x 11) = false from tail_bad (l := x :: r) (p := fun x => decide (x.kind = 11) && varS x 11) hlo HY.out (by simp [HV.out]))
           go_wp2
           go_ret
           exact ⟨rBo (by simp [typeS, Nd.sub, HH.out, k9, k12, H1.out, H2.out, FIN.out]), bTh HBOX.out HC5.out⟩
          | true =>
           have HV := hid hHV
           clear hHV
           have STEP := hid (tail_step (p := fun x => decide (x.kind = 11) && varS x 11) hlo HY.out HALL.out (by simp [HV.out]))
           go_wp2
           go_roundw
           case rel => (repeat apply Exists.intro); exact ⟨⟨j + 1, by omega, by simp only [List.length_cons]; omega, by go_num, STEP.out, HC5.out⟩, rfl⟩
           case measure => simp [intOf]; omega
         ·have hkb : (yk == 11) = false := by simpa using hky
          have FIN := hid (show r.all (fun x => decide (x.kind = 11) && varS x 11) = false from tail_bad (l := x :: r) (p := fun x => decide (x.kind = 11) && varS x 11) hlo HY.out (by simp [hky]))
          go_wp2
          go_ret
          exact ⟨rBo (by simp [typeS, Nd.sub, HH.out, k9, k12, H1.out, H2.out, FIN.out]), bTh HBOX.out HC4.out⟩
        ·skip
         have FIN := hid (show r.all (fun x => decide (x.kind = 11) && varS x 11) = true from tail_end (l := x :: r) (by simpa using hlt) HALL.out)
         go_wp2
         go_ret
         exact ⟨rBo (by simp [typeS, Nd.sub, HH.out, k9, k12, H1.out, H2.out, FIN.out]), bTh HBOX.out HC4.out⟩
     | true =>
      have H1 := hid hH1
      clear hH1
      go_wp2
      go_loopw [3] (fun ii wr => ∃ j : Nat, 1 ≤ j ∧ j ≤ (x :: r).length ∧ ii = .int .i64 j ∧ (((x :: r).take j).drop 1).all (fun x => decide (x.kind = 11) && varS x 11) = true ∧ Below W0.heap.size W0 wr) (fun ii _ => (x :: r).length - (intOf ii).toNat)
      case atStart => exact ⟨1, Nat.le_refl _, by simp, rfl, by simp, HC2.out⟩
      case round =>
       obtain ⟨j, hlo, hj, rfl, hall, hbr⟩ := hrel
       have HC6 := hid hbr
       have HALL := hid hall
       clear hbr hall
       clear x0 x1 x2 x3 x4 fx0 fx1 fx2 fx3 fx4
       obtain ⟨x0, x1, x2, x3, x4⟩ := nb HAT HC6
       obtain ⟨fx0, fx1, fx2, fx3, fx4⟩ := nb HX_x HC6
       by_cases hlt : j < r.length + 1
       ·skip
        obtain ⟨y, hy⟩ : ∃ y, (x :: r)[j]? = some y := ⟨_, List.getElem?_eq_getElem (by simpa using hlt)⟩
        obtain ⟨Ay, cy, hx, hky⟩ := HKL.out.nth rfl (i := j) (x := y) hy rfl
        have HX_y := hid hx
        have HK_y := hid hky
        have HY := hid hy
        clear hx hky hy
        clear x0 x1 x2 x3 x4 fx0 fx1 fx2 fx3 fx4
        obtain ⟨x0, x1, x2, x3, x4⟩ := nb HAT HC6
        obtain ⟨fx0, fx1, fx2, fx3, fx4⟩ := nb HX_x HC6
        obtain ⟨fy0, fy1, fy2, fy3, fy4⟩ := nb HX_y HC6
        obtain ⟨yk, ys, yn, yp, yl⟩ := y
        by_cases hky : yk = 11
        ·subst hky
         go_wp2_with fail
         refine (declVar_any _ ⟨11, ys, yn, yp, yl⟩ Ay cy _ (HL.out.below HC6.out) (kb HK_y HC6) (Or.inr (Or.inr rfl))).mono ?_
         rintro e w7 ⟨rfl, hb7⟩
         have HC7 := hid (bTh HC6.out hb7)
         clear hb7
         clear x0 x1 x2 x3 x4 fx0 fx1 fx2 fx3 fx4 fy0 fy1 fy2 fy3 fy4
         obtain ⟨x0, x1, x2, x3, x4⟩ := nb HAT HC7
         obtain ⟨fx0, fx1, fx2, fx3, fx4⟩ := nb HX_x HC7
         obtain ⟨fy0, fy1, fy2, fy3, fy4⟩ := nb HX_y HC7
         cases hHV : varS ⟨11, ys, yn, yp, yl⟩ 11 with
         | false =>
          have HV := hid hHV
          clear hHV
          have FIN := hid (show r.all (fun x => decide (x.kind = 11) && varS x 11) = false from tail_bad (l := x :: r) (p := fun x => decide (x.kind = 11) && varS x 11) hlo HY.out (by simp [HV.out]))
          go_wp2
          go_ret
          exact ⟨rBo (by simp [typeS, Nd.sub, HH.out, k9, k12, H1.out, FIN.out]), bTh HBOX.out HC7.out⟩
         | true =>
          have HV := hid hHV
          clear hHV
          have STEP := hid (tail_step (p := fun x => decide (x.kind = 11) && varS x 11) hlo HY.out HALL.out (by simp [HV.out]))
          go_wp2
          go_roundw
          case rel => (repeat apply Exists.intro); exact ⟨⟨j + 1, by omega, by simp only [List.length_cons]; omega, by go_num, STEP.out, HC7.out⟩, rfl⟩
          case measure => simp [intOf]; omega
        ·have hkb : (yk == 11) = false := by simpa using hky
         have FIN := hid (show r.all (fun x => decide (x.kind = 11) && varS x 11) = false from tail_bad (l := x :: r) (p := fun x => decide (x.kind = 11) && varS x 11) hlo HY.out (by simp [hky]))
         go_wp2
         go_ret
         exact ⟨rBo (by simp [typeS, Nd.sub, HH.out, k9, k12, H1.out, FIN.out]), bTh HBOX.out HC6.out⟩
       ·skip
        have FIN := hid (show r.all (fun x => decide (x.kind = 11) && varS x 11) = true from tail_end (l := x :: r) (by simpa using hlt) HALL.out)
        go_wp2
        go_ret
        exact ⟨rBo (by simp [typeS, Nd.sub, HH.out, k9, k12, H1.out, FIN.out]), bTh HBOX.out HC6.out⟩
end Go.Proofs.YtneohanphabneaaGreatDoor
