/-
The document's text of a tree, the walks: one statement. Conditions: the tree lies in memory and is shaped; the text's length is below a bound.
-/
import Derived.Test.YtneohanphabneaaGreatDoorTextB
namespace Go.Proofs.YtneohanphabneaaGreatDoor
set_option linter.unusedSimpArgs false
set_option linter.unusedVariables false
open Go.RowKit Go.BigFrame
theorem ifAllT_at {E L : Nd → Bool} {num : Int} {k : Nat} : ∀ {l : List Nd} {i : Nat}, ifAll E L num k l i = true → ∀ j x, l[j]? = some x → (if (i + j) % 2 = 1 ∨ (i + j + 1 = k ∧ num = 1) then L x else E x) = true
 | [], _, _, j, x, hx => by simp at hx
 | y :: r, i, h, 0, x, hx => by
  simp only [ifAll, Bool.and_eq_true] at h
  simp at hx
  subst hx
  exact h.1
 | y :: r, i, h, j + 1, x, hx => by
  simp only [ifAll, Bool.and_eq_true] at h
  have := ifAllT_at h.2 j x (by simpa using hx)
  rwa [show i + 1 + j = i + (j + 1) by omega] at this
theorem upB_many (f : Nat → ByteArray) (h : ∀ t, 1 ≤ (f t).size) : ∀ k, k ≤ (upB f k).size
 | 0 => Nat.zero_le _
 | k + 1 => by
  have h1 := upB_many f h k
  have h2 := h k
  simp only [upB, ByteArray.size_append]
  omega
theorem ifPiece_one (E : Nd → ByteArray) (L : Nd → ByteArray → ByteArray) (l : List Nd) (pad : ByteArray) (t : Nat) : 1 ≤ (ifPiece E L l pad t).size := by
 simp only [ifPiece, ByteArray.size_append, ba_size, List.size_toArray, List.length_cons, List.length_nil]
 omega
theorem if_shape {d : Nat} {s : ByteArray} {num pos : Int} {subs : List Nd} (hs : stmtS (d + 1) ⟨16, s, num, pos, subs⟩ = true) :
  (num = 0 ∨ num = 1) ∧ 2 ≤ subs.length ∧ ((subs.length % 2 : Nat) : Int) = num ∧ ∀ j x, subs[j]? = some x → (if j % 2 = 1 ∨ (j + 1 = subs.length ∧ num = 1) then stmtsS d x else exprS d x) = true := by
 rw [stmtS_succ] at hs
 simp [stmtStep] at hs
 obtain ⟨⟨⟨h1, h2⟩, h3⟩, h4⟩ := hs
 simp [headB] at h1
 refine ⟨by omega, h2, by omega, fun j x hx => ?_⟩
 have := ifAllT_at h4 j x hx
 simpa only [Nat.zero_add] using this
set_option maxRecDepth 100000 in
set_option maxHeartbeats 1000000 in
theorem stmtText_step (d : Nat) (hL : Says_stmtsText d) : Says_stmtText (d + 1) := by
 intro n A c pad w hk hs hsz hpad
 have hE := exprText_any d
 obtain ⟨k, s, num, pos, subs⟩ := n
 have hlen := hk.len
 unfold maxLen at hlen
 simp only at hlen
 unfold maxT at hpad
 by_cases k14 : k = 14
 ·subst k14
  simp [stmtS_succ, stmtStep] at hs
  obtain ⟨x, y, rfl⟩ := len2 (l := subs) (headB_len hs.1.1 (by omega))
  obtain ⟨b, o, Ax, cx, rfl, hx_x, hk_x⟩ := hk.one (x := x) (r := [y]) rfl
  obtain ⟨Ay, cy, hx_y, hk_y⟩ := hk.nth rfl (i := 1) (x := y) rfl (p := o + 5) (by omega)
  simp only [List.length_cons, List.length_nil, Nat.zero_add] at hlen
  simp only [Nd.sub, List.getD_cons_zero, List.getD_cons_succ] at hs
  have HD_x := hid (desig_expr hs.1.2)
  have HD_y := hid hs.2
  clear hs
  have hTT : stmtT (d + 1) ⟨14, s, num, pos, [x, y]⟩ pad = pad ++ exprT d x ++ ⟨#[32, 58, 61, 32]⟩ ++ exprT d y := by simp [stmtT_succ, stmtTStep, Nd.sub]
  rw [hTT] at hsz
  obtain ⟨Tx, hT_x⟩ : ∃ T, T = exprT d x := ⟨_, rfl⟩
  rw [← hT_x] at hsz hTT
  have HT_x := hid hT_x
  clear hT_x
  obtain ⟨Ty, hT_y⟩ : ∃ T, T = exprT d y := ⟨_, rfl⟩
  rw [← hT_y] at hsz hTT
  have HT_y := hid hT_y
  clear hT_y
  unfold maxT at hsz
  simp only [ByteArray.size_append, ba_size, List.size_toArray, List.length_cons, List.length_nil] at hsz
  have HTT := hid hTT
  clear hTT
  have HAT := hid (bAt w ⟨14, s, num, pos, [x, y]⟩ (some ⟨b, o, none⟩) c 24)
  have HX_x := hid (hx_x.below (bBw w (.cells #[.int .i64 14, .string s, .int .i64 num, .int .i64 pos, .slice (some ⟨b, o, none⟩) 2 c] 24)))
  have HK_x := hid (hk_x.below (bBw w (.cells #[.int .i64 14, .string s, .int .i64 num, .int .i64 pos, .slice (some ⟨b, o, none⟩) 2 c] 24)))
  clear hx_x hk_x
  have HX_y := hid (hx_y.below (bBw w (.cells #[.int .i64 14, .string s, .int .i64 num, .int .i64 pos, .slice (some ⟨b, o, none⟩) 2 c] 24)))
  have HK_y := hid (hk_y.below (bBw w (.cells #[.int .i64 14, .string s, .int .i64 num, .int .i64 pos, .slice (some ⟨b, o, none⟩) 2 c] 24)))
  clear hx_y hk_y
  clear hk
  obtain ⟨fx0, fx1, fx2, fx3, fx4⟩ := HX_x.out
  obtain ⟨fy0, fy1, fy2, fy3, fy4⟩ := HX_y.out
  go_enter Tryz.func48, Tryz.ntmps48
  go_wp2
  generalize hW0 : w.alloc (.cells #[.int .i64 14, .string s, .int .i64 num, .int .i64 pos, .slice (some ⟨b, o, none⟩) 2 c] 24) = W0 at *
  have HBOX := hid (show Below w.heap.size w W0 by rw [← hW0]; exact bBw _ _)
  clear hW0
  obtain ⟨x0, x1, x2, x3, x4⟩ := HAT.out
  obtain ⟨fx0, fx1, fx2, fx3, fx4⟩ := HX_x.out
  obtain ⟨fy0, fy1, fy2, fy3, fy4⟩ := HX_y.out
  have r_0 := cRg x0
  have r_1 := cRg x1
  have r_2 := cRg x2
  have r_3 := cRg x3
  have r_4 := cRg x4
  have r_5 := cRg fx0
  have r_6 := cRg fx1
  have r_7 := cRg fx2
  have r_8 := cRg fx3
  have r_9 := cRg fx4
  have r_10 := cRg fy0
  have r_11 := cRg fy1
  have r_12 := cRg fy2
  have r_13 := cRg fy3
  have r_14 := cRg fy4
  have cP0 : ∀ w', Below W0.heap.size W0 w' → Calls Tryz.prog 45 #[.agg #[.int .i64 x.kind, .string x.name, .int .i64 x.num, .int .i64 x.pos, .slice Ax x.subs.length cx]] w' fun e w'' => e = .returned (.string Tx) ∧ Below w'.heap.size w' w'' := fun w' hb => by rw [HT_x.out]; exact hE x Ax cx _ (HK_x.out.below hb) HD_x.out (by rw [← HT_x.out]; unfold maxT; omega)
  have cQ0 : ∀ dd os, Calls Tryz.prog 45 #[.agg #[.int .i64 x.kind, .string x.name, .int .i64 x.num, .int .i64 x.pos, .slice Ax x.subs.length cx]] (Go.Sort.grow (redrawn W0 dd) os) fun e w'' => e = .returned (.string Tx) ∧ ∃ p : Regrown, w'' = Go.Sort.grow (redrawn W0 p.d) p.os := fun dd os => Calls.regrown_of (cP0 _ (below_regrown _ _ _))
  clear cP0
  have cP1 : ∀ w', Below W0.heap.size W0 w' → Calls Tryz.prog 45 #[.agg #[.int .i64 y.kind, .string y.name, .int .i64 y.num, .int .i64 y.pos, .slice Ay y.subs.length cy]] w' fun e w'' => e = .returned (.string Ty) ∧ Below w'.heap.size w' w'' := fun w' hb => by rw [HT_y.out]; exact hE y Ay cy _ (HK_y.out.below hb) HD_y.out (by rw [← HT_y.out]; unfold maxT; omega)
  have cQ1 : ∀ dd os, Calls Tryz.prog 45 #[.agg #[.int .i64 y.kind, .string y.name, .int .i64 y.num, .int .i64 y.pos, .slice Ay y.subs.length cy]] (Go.Sort.grow (redrawn W0 dd) os) fun e w'' => e = .returned (.string Ty) ∧ ∃ p : Regrown, w'' = Go.Sort.grow (redrawn W0 p.d) p.os := fun dd os => Calls.regrown_of (cP1 _ (below_regrown _ _ _))
  clear cP1
  refine wp_region_quiet_below (by kernel_rfl) (by kernel_rfl) ?_
  repeat (go_big_quiet_step (first | with_reducible exact cQ0 _ _ | with_reducible exact cQ1 _ _))
  refine wpQuiet_nil ?_
  intro _ hw'
  obtain ⟨⟨dq, osq⟩, hw''⟩ := hw'
  subst hw''
  clear cQ0 cQ1 r_0 r_1 r_2 r_3 r_4 r_5 r_6 r_7 r_8 r_9 r_10 r_11 r_12 r_13 r_14
  have HG := hid (below_regrown W0 dq osq)
  generalize hG : Go.Sort.grow (redrawn W0 dq) osq = G at *
  clear hG
  go_wp2
  go_ret
  exact ⟨ret_str HTT.out.symm, bTh HBOX.out HG.out⟩
 ·have b14 : (k == 14) = false := by simpa using k14
  by_cases k15 : k = 15
  ·subst k15
   simp [stmtS_succ, stmtStep] at hs
   rcases subs with _ | ⟨x, _ | ⟨y, r⟩⟩
   ·skip
    simp at hs
   ·skip
    simp only [List.length_cons, List.length_nil, Nat.zero_add] at hlen
    obtain ⟨b, o, Ax, cx, rfl, hx_x, hk_x⟩ := hk.one (x := x) (r := []) rfl
    simp only [Nd.sub, List.getD_cons_zero] at hs
    have HD_x := hid (desig_expr hs.1.2)
    clear hs
    have hTT : stmtT (d + 1) ⟨15, s, num, pos, [x]⟩ pad = pad ++ exprT d x := by simp [stmtT_succ, stmtTStep, Nd.sub]
    rw [hTT] at hsz
    obtain ⟨Tx, hT_x⟩ : ∃ T, T = exprT d x := ⟨_, rfl⟩
    rw [← hT_x] at hsz hTT
    have HT_x := hid hT_x
    clear hT_x
    unfold maxT at hsz
    simp only [ByteArray.size_append, ba_size, List.size_toArray, List.length_cons, List.length_nil] at hsz
    have HTT := hid hTT
    clear hTT
    have HAT := hid (bAt w ⟨15, s, num, pos, [x]⟩ (some ⟨b, o, none⟩) c 24)
    have HX_x := hid (hx_x.below (bBw w (.cells #[.int .i64 15, .string s, .int .i64 num, .int .i64 pos, .slice (some ⟨b, o, none⟩) 1 c] 24)))
    have HK_x := hid (hk_x.below (bBw w (.cells #[.int .i64 15, .string s, .int .i64 num, .int .i64 pos, .slice (some ⟨b, o, none⟩) 1 c] 24)))
    clear hx_x hk_x
    clear hk
    obtain ⟨fx0, fx1, fx2, fx3, fx4⟩ := HX_x.out
    go_enter Tryz.func48, Tryz.ntmps48
    go_wp2_with fail
    generalize hW0 : w.alloc (.cells #[.int .i64 15, .string s, .int .i64 num, .int .i64 pos, .slice (some ⟨b, o, none⟩) 1 c] 24) = W0 at *
    have HBOX := hid (show Below w.heap.size w W0 by rw [← hW0]; exact bBw _ _)
    clear hW0
    have hct := hE x Ax cx _ HK_x.out HD_x.out (by rw [← HT_x.out]; unfold maxT; omega)
    with_reducible refine hct.mono ?_
    clear hct
    rintro e w1 ⟨rfl, hb1⟩
    have HC1 := hid hb1
    clear hb1
    clear fx0 fx1 fx2 fx3 fx4
    obtain ⟨x0, x1, x2, x3, x4⟩ := nb HAT HC1
    obtain ⟨fx0, fx1, fx2, fx3, fx4⟩ := nb HX_x HC1
    rw [← HT_x.out]
    go_wp2
    go_ret
    exact ⟨ret_str HTT.out.symm, bTh HBOX.out HC1.out⟩
   ·skip
    simp only [List.length_cons] at hlen
    obtain ⟨b, o, Ax, cx, rfl, hx_x, hk_x⟩ := hk.one (x := x) (r := y :: r) rfl
    obtain ⟨A', hA', hsl⟩ := slice_tail b o (r.length + 1) c (by have := hk.list.1; simpa using this)
    simp only [Nd.sub, List.getD_cons_zero] at hs
    have HD_x := hid (desig_expr hs.1.2)
    have HD_r := hid (show (y :: r).all (exprS d) = true by have h := hs.2; simpa using h)
    clear hs
    have hTT : stmtT (d + 1) ⟨15, s, num, pos, x :: y :: r⟩ pad = pad ++ exprT d x ++ argsT (exprT d) (y :: r) := by simp [stmtT_succ, stmtTStep, Nd.sub]
    rw [hTT] at hsz
    obtain ⟨Tx, hT_x⟩ : ∃ T, T = exprT d x := ⟨_, rfl⟩
    rw [← hT_x] at hsz hTT
    have HT_x := hid hT_x
    clear hT_x
    obtain ⟨Tr, hT_r⟩ : ∃ T, T = argsT (exprT d) (y :: r) := ⟨_, rfl⟩
    rw [← hT_r] at hsz hTT
    have HT_r := hid hT_r
    clear hT_r
    unfold maxT at hsz
    simp only [ByteArray.size_append, ba_size, List.size_toArray, List.length_cons, List.length_nil] at hsz
    have HTT := hid hTT
    clear hTT
    have HAT := hid (bAt w ⟨15, s, num, pos, x :: y :: r⟩ (some ⟨b, o, none⟩) c 24)
    have HX_x := hid (hx_x.below (bBw w (.cells #[.int .i64 15, .string s, .int .i64 num, .int .i64 pos, .slice (some ⟨b, o, none⟩) (r.length + 1 + 1) c] 24)))
    have HK_x := hid (hk_x.below (bBw w (.cells #[.int .i64 15, .string s, .int .i64 num, .int .i64 pos, .slice (some ⟨b, o, none⟩) (r.length + 1 + 1) c] 24)))
    clear hx_x hk_x
    have HR := hid ((hk.list.tail hA').below (bBw w (.cells #[.int .i64 15, .string s, .int .i64 num, .int .i64 pos, .slice (some ⟨b, o, none⟩) (r.length + 1 + 1) c] 24)))
    clear hk
    clear hA'
    obtain ⟨fx0, fx1, fx2, fx3, fx4⟩ := HX_x.out
    go_enter Tryz.func48, Tryz.ntmps48
    go_wp2_with fail
    generalize hW0 : w.alloc (.cells #[.int .i64 15, .string s, .int .i64 num, .int .i64 pos, .slice (some ⟨b, o, none⟩) (r.length + 1 + 1) c] 24) = W0 at *
    have HBOX := hid (show Below w.heap.size w W0 by rw [← hW0]; exact bBw _ _)
    clear hW0
    have hct := hE x Ax cx _ HK_x.out HD_x.out (by rw [← HT_x.out]; unfold maxT; omega)
    with_reducible refine hct.mono ?_
    clear hct
    rintro e w1 ⟨rfl, hb1⟩
    have HC1 := hid hb1
    clear hb1
    clear fx0 fx1 fx2 fx3 fx4
    obtain ⟨x0, x1, x2, x3, x4⟩ := nb HAT HC1
    obtain ⟨fx0, fx1, fx2, fx3, fx4⟩ := nb HX_x HC1
    rw [← HT_x.out]
    go_wp2_with fail
    refine (argsText_any d hE (y :: r) A' (c - 1) _ (HR.out.below HC1.out) HD_r.out (by rw [← HT_r.out]; unfold maxT; omega)).mono ?_
    rintro e w2 ⟨rfl, hb2⟩
    have HC2 := hid (bTh HC1.out hb2)
    clear hb2
    clear x0 x1 x2 x3 x4 fx0 fx1 fx2 fx3 fx4
    obtain ⟨x0, x1, x2, x3, x4⟩ := nb HAT HC2
    obtain ⟨fx0, fx1, fx2, fx3, fx4⟩ := nb HX_x HC2
    rw [← HT_r.out]
    go_wp2
    go_ret
    exact ⟨ret_str HTT.out.symm, bTh HBOX.out HC2.out⟩
  ·have b15 : (k == 15) = false := by simpa using k15
   by_cases k17 : k = 17
   ·subst k17
    simp [stmtS_succ, stmtStep] at hs
    obtain ⟨x, y, rfl⟩ := len2 (l := subs) (headB_len hs.1.1 (by omega))
    obtain ⟨b, o, Ax, cx, rfl, hx_x, hk_x⟩ := hk.one (x := x) (r := [y]) rfl
    obtain ⟨Ay, cy, hx_y, hk_y⟩ := hk.nth rfl (i := 1) (x := y) rfl (p := o + 5) (by omega)
    simp only [List.length_cons, List.length_nil, Nat.zero_add] at hlen
    simp only [Nd.sub, List.getD_cons_zero, List.getD_cons_succ] at hs
    have HD_x := hid hs.1.2
    have HD_y := hid hs.2
    clear hs
    have hTT : stmtT (d + 1) ⟨17, s, num, pos, [x, y]⟩ pad = pad ++ ⟨#[87, 72, 73, 76, 69, 32]⟩ ++ exprT d x ++ ⟨#[32, 68, 79, 10]⟩ ++ stmtsT d y (pad ++ ⟨#[32, 32]⟩) ++ pad ++ ⟨#[69, 78, 68]⟩ := by simp [stmtT_succ, stmtTStep, Nd.sub]
    rw [hTT] at hsz
    obtain ⟨Tx, hT_x⟩ : ∃ T, T = exprT d x := ⟨_, rfl⟩
    rw [← hT_x] at hsz hTT
    have HT_x := hid hT_x
    clear hT_x
    obtain ⟨Ty, hT_y⟩ : ∃ T, T = stmtsT d y (pad ++ ⟨#[32, 32]⟩) := ⟨_, rfl⟩
    rw [← hT_y] at hsz hTT
    have HT_y := hid hT_y
    clear hT_y
    unfold maxT at hsz
    simp only [ByteArray.size_append, ba_size, List.size_toArray, List.length_cons, List.length_nil] at hsz
    have HTT := hid hTT
    clear hTT
    have PADOK := hid (show (pad ++ ⟨#[32, 32]⟩).size ≤ maxT by simp only [ByteArray.size_append, ba_size, List.size_toArray, List.length_cons, List.length_nil]; unfold maxT; omega)
    have SZ_y := hid (show (stmtsT d y (pad ++ ⟨#[32, 32]⟩)).size ≤ maxT by rw [← HT_y.out]; unfold maxT; omega)
    have HAT := hid (bAt w ⟨17, s, num, pos, [x, y]⟩ (some ⟨b, o, none⟩) c 24)
    have HX_x := hid (hx_x.below (bBw w (.cells #[.int .i64 17, .string s, .int .i64 num, .int .i64 pos, .slice (some ⟨b, o, none⟩) 2 c] 24)))
    have HK_x := hid (hk_x.below (bBw w (.cells #[.int .i64 17, .string s, .int .i64 num, .int .i64 pos, .slice (some ⟨b, o, none⟩) 2 c] 24)))
    clear hx_x hk_x
    have HX_y := hid (hx_y.below (bBw w (.cells #[.int .i64 17, .string s, .int .i64 num, .int .i64 pos, .slice (some ⟨b, o, none⟩) 2 c] 24)))
    have HK_y := hid (hk_y.below (bBw w (.cells #[.int .i64 17, .string s, .int .i64 num, .int .i64 pos, .slice (some ⟨b, o, none⟩) 2 c] 24)))
    clear hx_y hk_y
    clear hk
    obtain ⟨fx0, fx1, fx2, fx3, fx4⟩ := HX_x.out
    obtain ⟨fy0, fy1, fy2, fy3, fy4⟩ := HX_y.out
    go_enter Tryz.func48, Tryz.ntmps48
    go_wp2
    generalize hW0 : w.alloc (.cells #[.int .i64 17, .string s, .int .i64 num, .int .i64 pos, .slice (some ⟨b, o, none⟩) 2 c] 24) = W0 at *
    have HBOX := hid (show Below w.heap.size w W0 by rw [← hW0]; exact bBw _ _)
    clear hW0
    obtain ⟨x0, x1, x2, x3, x4⟩ := HAT.out
    obtain ⟨fx0, fx1, fx2, fx3, fx4⟩ := HX_x.out
    obtain ⟨fy0, fy1, fy2, fy3, fy4⟩ := HX_y.out
    have r_0 := cRg x0
    have r_1 := cRg x1
    have r_2 := cRg x2
    have r_3 := cRg x3
    have r_4 := cRg x4
    have r_5 := cRg fx0
    have r_6 := cRg fx1
    have r_7 := cRg fx2
    have r_8 := cRg fx3
    have r_9 := cRg fx4
    have r_10 := cRg fy0
    have r_11 := cRg fy1
    have r_12 := cRg fy2
    have r_13 := cRg fy3
    have r_14 := cRg fy4
    have cP0 : ∀ w', Below W0.heap.size W0 w' → Calls Tryz.prog 45 #[.agg #[.int .i64 x.kind, .string x.name, .int .i64 x.num, .int .i64 x.pos, .slice Ax x.subs.length cx]] w' fun e w'' => e = .returned (.string Tx) ∧ Below w'.heap.size w' w'' := fun w' hb => by rw [HT_x.out]; exact hE x Ax cx _ (HK_x.out.below hb) HD_x.out (by rw [← HT_x.out]; unfold maxT; omega)
    have cQ0 : ∀ dd os, Calls Tryz.prog 45 #[.agg #[.int .i64 x.kind, .string x.name, .int .i64 x.num, .int .i64 x.pos, .slice Ax x.subs.length cx]] (Go.Sort.grow (redrawn W0 dd) os) fun e w'' => e = .returned (.string Tx) ∧ ∃ p : Regrown, w'' = Go.Sort.grow (redrawn W0 p.d) p.os := fun dd os => Calls.regrown_of (cP0 _ (below_regrown _ _ _))
    clear cP0
    have cP1 : ∀ w', Below W0.heap.size W0 w' → Calls Tryz.prog 23 #[.agg #[.int .i64 y.kind, .string y.name, .int .i64 y.num, .int .i64 y.pos, .slice Ay y.subs.length cy], .string (pad ++ ⟨#[32, 32]⟩)] w' fun e w'' => e = .returned (.string Ty) ∧ Below w'.heap.size w' w'' := fun w' hb => by rw [HT_y.out]; exact hL y Ay cy (pad ++ ⟨#[32, 32]⟩) _ (HK_y.out.below hb) HD_y.out SZ_y.out PADOK.out
    have cQ1 : ∀ dd os, Calls Tryz.prog 23 #[.agg #[.int .i64 y.kind, .string y.name, .int .i64 y.num, .int .i64 y.pos, .slice Ay y.subs.length cy], .string (pad ++ ⟨#[32, 32]⟩)] (Go.Sort.grow (redrawn W0 dd) os) fun e w'' => e = .returned (.string Ty) ∧ ∃ p : Regrown, w'' = Go.Sort.grow (redrawn W0 p.d) p.os := fun dd os => Calls.regrown_of (cP1 _ (below_regrown _ _ _))
    clear cP1
    refine wp_region_quiet_below (by kernel_rfl) (by kernel_rfl) ?_
    repeat (go_big_quiet_step (first | with_reducible exact cQ0 _ _ | with_reducible exact cQ1 _ _))
    refine wpQuiet_nil ?_
    intro _ hw'
    obtain ⟨⟨dq, osq⟩, hw''⟩ := hw'
    subst hw''
    clear cQ0 cQ1 r_0 r_1 r_2 r_3 r_4 r_5 r_6 r_7 r_8 r_9 r_10 r_11 r_12 r_13 r_14
    have HG := hid (below_regrown W0 dq osq)
    generalize hG : Go.Sort.grow (redrawn W0 dq) osq = G at *
    clear hG
    go_wp2
    go_ret
    exact ⟨ret_str HTT.out.symm, bTh HBOX.out HG.out⟩
   ·have b17 : (k == 17) = false := by simpa using k17
    by_cases k18 : k = 18
    ·subst k18
     simp [stmtS_succ, stmtStep] at hs
     obtain ⟨x, y, rfl⟩ := len2 (l := subs) (headB_len hs.1.1 (by omega))
     obtain ⟨b, o, Ax, cx, rfl, hx_x, hk_x⟩ := hk.one (x := x) (r := [y]) rfl
     obtain ⟨Ay, cy, hx_y, hk_y⟩ := hk.nth rfl (i := 1) (x := y) rfl (p := o + 5) (by omega)
     simp only [List.length_cons, List.length_nil, Nat.zero_add] at hlen
     simp only [Nd.sub, List.getD_cons_zero, List.getD_cons_succ] at hs
     have HD_x := hid hs.1.2
     have HD_y := hid hs.2
     clear hs
     have hTT : stmtT (d + 1) ⟨18, s, num, pos, [x, y]⟩ pad = pad ++ ⟨#[82, 69, 80, 69, 65, 84, 10]⟩ ++ stmtsT d x (pad ++ ⟨#[32, 32]⟩) ++ pad ++ ⟨#[85, 78, 84, 73, 76, 32]⟩ ++ exprT d y := by simp [stmtT_succ, stmtTStep, Nd.sub]
     rw [hTT] at hsz
     obtain ⟨Tx, hT_x⟩ : ∃ T, T = stmtsT d x (pad ++ ⟨#[32, 32]⟩) := ⟨_, rfl⟩
     rw [← hT_x] at hsz hTT
     have HT_x := hid hT_x
     clear hT_x
     obtain ⟨Ty, hT_y⟩ : ∃ T, T = exprT d y := ⟨_, rfl⟩
     rw [← hT_y] at hsz hTT
     have HT_y := hid hT_y
     clear hT_y
     unfold maxT at hsz
     simp only [ByteArray.size_append, ba_size, List.size_toArray, List.length_cons, List.length_nil] at hsz
     have HTT := hid hTT
     clear hTT
     have PADOK := hid (show (pad ++ ⟨#[32, 32]⟩).size ≤ maxT by simp only [ByteArray.size_append, ba_size, List.size_toArray, List.length_cons, List.length_nil]; unfold maxT; omega)
     have SZ_x := hid (show (stmtsT d x (pad ++ ⟨#[32, 32]⟩)).size ≤ maxT by rw [← HT_x.out]; unfold maxT; omega)
     have HAT := hid (bAt w ⟨18, s, num, pos, [x, y]⟩ (some ⟨b, o, none⟩) c 24)
     have HX_x := hid (hx_x.below (bBw w (.cells #[.int .i64 18, .string s, .int .i64 num, .int .i64 pos, .slice (some ⟨b, o, none⟩) 2 c] 24)))
     have HK_x := hid (hk_x.below (bBw w (.cells #[.int .i64 18, .string s, .int .i64 num, .int .i64 pos, .slice (some ⟨b, o, none⟩) 2 c] 24)))
     clear hx_x hk_x
     have HX_y := hid (hx_y.below (bBw w (.cells #[.int .i64 18, .string s, .int .i64 num, .int .i64 pos, .slice (some ⟨b, o, none⟩) 2 c] 24)))
     have HK_y := hid (hk_y.below (bBw w (.cells #[.int .i64 18, .string s, .int .i64 num, .int .i64 pos, .slice (some ⟨b, o, none⟩) 2 c] 24)))
     clear hx_y hk_y
     clear hk
     obtain ⟨fx0, fx1, fx2, fx3, fx4⟩ := HX_x.out
     obtain ⟨fy0, fy1, fy2, fy3, fy4⟩ := HX_y.out
     go_enter Tryz.func48, Tryz.ntmps48
     go_wp2
     generalize hW0 : w.alloc (.cells #[.int .i64 18, .string s, .int .i64 num, .int .i64 pos, .slice (some ⟨b, o, none⟩) 2 c] 24) = W0 at *
     have HBOX := hid (show Below w.heap.size w W0 by rw [← hW0]; exact bBw _ _)
     clear hW0
     obtain ⟨x0, x1, x2, x3, x4⟩ := HAT.out
     obtain ⟨fx0, fx1, fx2, fx3, fx4⟩ := HX_x.out
     obtain ⟨fy0, fy1, fy2, fy3, fy4⟩ := HX_y.out
     have r_0 := cRg x0
     have r_1 := cRg x1
     have r_2 := cRg x2
     have r_3 := cRg x3
     have r_4 := cRg x4
     have r_5 := cRg fx0
     have r_6 := cRg fx1
     have r_7 := cRg fx2
     have r_8 := cRg fx3
     have r_9 := cRg fx4
     have r_10 := cRg fy0
     have r_11 := cRg fy1
     have r_12 := cRg fy2
     have r_13 := cRg fy3
     have r_14 := cRg fy4
     have cP0 : ∀ w', Below W0.heap.size W0 w' → Calls Tryz.prog 23 #[.agg #[.int .i64 x.kind, .string x.name, .int .i64 x.num, .int .i64 x.pos, .slice Ax x.subs.length cx], .string (pad ++ ⟨#[32, 32]⟩)] w' fun e w'' => e = .returned (.string Tx) ∧ Below w'.heap.size w' w'' := fun w' hb => by rw [HT_x.out]; exact hL x Ax cx (pad ++ ⟨#[32, 32]⟩) _ (HK_x.out.below hb) HD_x.out SZ_x.out PADOK.out
     have cQ0 : ∀ dd os, Calls Tryz.prog 23 #[.agg #[.int .i64 x.kind, .string x.name, .int .i64 x.num, .int .i64 x.pos, .slice Ax x.subs.length cx], .string (pad ++ ⟨#[32, 32]⟩)] (Go.Sort.grow (redrawn W0 dd) os) fun e w'' => e = .returned (.string Tx) ∧ ∃ p : Regrown, w'' = Go.Sort.grow (redrawn W0 p.d) p.os := fun dd os => Calls.regrown_of (cP0 _ (below_regrown _ _ _))
     clear cP0
     have cP1 : ∀ w', Below W0.heap.size W0 w' → Calls Tryz.prog 45 #[.agg #[.int .i64 y.kind, .string y.name, .int .i64 y.num, .int .i64 y.pos, .slice Ay y.subs.length cy]] w' fun e w'' => e = .returned (.string Ty) ∧ Below w'.heap.size w' w'' := fun w' hb => by rw [HT_y.out]; exact hE y Ay cy _ (HK_y.out.below hb) HD_y.out (by rw [← HT_y.out]; unfold maxT; omega)
     have cQ1 : ∀ dd os, Calls Tryz.prog 45 #[.agg #[.int .i64 y.kind, .string y.name, .int .i64 y.num, .int .i64 y.pos, .slice Ay y.subs.length cy]] (Go.Sort.grow (redrawn W0 dd) os) fun e w'' => e = .returned (.string Ty) ∧ ∃ p : Regrown, w'' = Go.Sort.grow (redrawn W0 p.d) p.os := fun dd os => Calls.regrown_of (cP1 _ (below_regrown _ _ _))
     clear cP1
     refine wp_region_quiet_below (by kernel_rfl) (by kernel_rfl) ?_
     repeat (go_big_quiet_step (first | with_reducible exact cQ0 _ _ | with_reducible exact cQ1 _ _))
     refine wpQuiet_nil ?_
     intro _ hw'
     obtain ⟨⟨dq, osq⟩, hw''⟩ := hw'
     subst hw''
     clear cQ0 cQ1 r_0 r_1 r_2 r_3 r_4 r_5 r_6 r_7 r_8 r_9 r_10 r_11 r_12 r_13 r_14
     have HG := hid (below_regrown W0 dq osq)
     generalize hG : Go.Sort.grow (redrawn W0 dq) osq = G at *
     clear hG
     go_wp2
     go_ret
     exact ⟨ret_str HTT.out.symm, bTh HBOX.out HG.out⟩
    ·have b18 : (k == 18) = false := by simpa using k18
     by_cases k19 : k = 19
     ·subst k19
      simp [stmtS_succ, stmtStep] at hs
      rcases subs with _ | ⟨x, _ | ⟨y, r⟩⟩
      ·skip
       have hTT : stmtT (d + 1) ⟨19, s, num, pos, []⟩ pad = pad ++ ⟨#[82, 69, 84, 85, 82, 78]⟩ := by simp [stmtT_succ, stmtTStep, Nd.sub]
       rw [hTT] at hsz
       unfold maxT at hsz
       simp only [ByteArray.size_append, ba_size, List.size_toArray, List.length_cons, List.length_nil] at hsz
       have HTT := hid hTT
       clear hTT
       have HAT := hid (bAt w ⟨19, s, num, pos, []⟩ A c 24)
       clear hk
       go_enter Tryz.func48, Tryz.ntmps48
       go_wp2
       go_ret
       exact ⟨ret_str HTT.out.symm, bBw _ _⟩
      ·skip
       simp only [List.length_cons, List.length_nil, Nat.zero_add] at hlen
       obtain ⟨b, o, Ax, cx, rfl, hx_x, hk_x⟩ := hk.one (x := x) (r := []) rfl
       have HD_x := hid (show exprS d x = true by have h := hs.2; simpa using h)
       clear hs
       have hTT : stmtT (d + 1) ⟨19, s, num, pos, [x]⟩ pad = pad ++ ⟨#[82, 69, 84, 85, 82, 78, 32]⟩ ++ exprT d x := by simp [stmtT_succ, stmtTStep, Nd.sub]
       rw [hTT] at hsz
       obtain ⟨Tx, hT_x⟩ : ∃ T, T = exprT d x := ⟨_, rfl⟩
       rw [← hT_x] at hsz hTT
       have HT_x := hid hT_x
       clear hT_x
       unfold maxT at hsz
       simp only [ByteArray.size_append, ba_size, List.size_toArray, List.length_cons, List.length_nil] at hsz
       have HTT := hid hTT
       clear hTT
       have HAT := hid (bAt w ⟨19, s, num, pos, [x]⟩ (some ⟨b, o, none⟩) c 24)
       have HX_x := hid (hx_x.below (bBw w (.cells #[.int .i64 19, .string s, .int .i64 num, .int .i64 pos, .slice (some ⟨b, o, none⟩) 1 c] 24)))
       have HK_x := hid (hk_x.below (bBw w (.cells #[.int .i64 19, .string s, .int .i64 num, .int .i64 pos, .slice (some ⟨b, o, none⟩) 1 c] 24)))
       clear hx_x hk_x
       clear hk
       obtain ⟨fx0, fx1, fx2, fx3, fx4⟩ := HX_x.out
       go_enter Tryz.func48, Tryz.ntmps48
       go_wp2_with fail
       generalize hW0 : w.alloc (.cells #[.int .i64 19, .string s, .int .i64 num, .int .i64 pos, .slice (some ⟨b, o, none⟩) 1 c] 24) = W0 at *
       have HBOX := hid (show Below w.heap.size w W0 by rw [← hW0]; exact bBw _ _)
       clear hW0
       have hct := hE x Ax cx _ HK_x.out HD_x.out (by rw [← HT_x.out]; unfold maxT; omega)
       with_reducible refine hct.mono ?_
       clear hct
       rintro e w1 ⟨rfl, hb1⟩
       have HC1 := hid hb1
       clear hb1
       clear fx0 fx1 fx2 fx3 fx4
       obtain ⟨x0, x1, x2, x3, x4⟩ := nb HAT HC1
       obtain ⟨fx0, fx1, fx2, fx3, fx4⟩ := nb HX_x HC1
       rw [← HT_x.out]
       go_wp2
       go_ret
       exact ⟨ret_str HTT.out.symm, bTh HBOX.out HC1.out⟩
      ·skip
       exfalso
       have h := hs.1.2
       simp at h
       try omega
     ·have b19 : (k == 19) = false := by simpa using k19
      by_cases k16 : k = 16
      ·subst k16
       obtain ⟨hnum, h2, hmod, hif⟩ := if_shape hs
       clear hs
       rcases hnum with rfl | rfl
       ·skip
        obtain ⟨f, hf⟩ : ∃ f, f = ifPiece (exprT d) (stmtsT d) subs pad := ⟨_, rfl⟩
        have hTT : stmtT (d + 1) ⟨16, s, 0, pos, subs⟩ pad = upB f (subs.length / 2) ++ pad ++ ⟨#[69, 78, 68]⟩ := by rw [hf]; simp [stmtT_succ, stmtTStep, ba_nil]
        rw [hTT] at hsz
        unfold maxT at hsz
        simp only [ByteArray.size_append, ba_size, List.size_toArray, List.length_cons, List.length_nil] at hsz
        have HTT := hid hTT
        clear hTT
        have hml : subs.length ≤ 2199023255560 := by
         have h1 := upB_many f (fun t => by rw [hf]; exact ifPiece_one _ _ _ _ t) (subs.length / 2)
         omega
        have PADOK := hid (show (pad ++ ⟨#[32, 32]⟩).size ≤ maxT by simp only [ByteArray.size_append, ba_size, List.size_toArray, List.length_cons, List.length_nil]; unfold maxT; omega)
        have HF := hid hf
        have HIF := hid hif
        have HMOD := hid hmod
        clear hf hif hmod
        have HAT := hid (bAt w ⟨16, s, 0, pos, subs⟩ A c 24)
        have HKL := hid ((hk.list).below (bBw w (.cells #[.int .i64 16, .string s, .int .i64 0, .int .i64 pos, .slice A subs.length c] 24)))
        clear hk
        go_enter Tryz.func48, Tryz.ntmps48
        go_wp2
        generalize hW0 : w.alloc (.cells #[.int .i64 16, .string s, .int .i64 0, .int .i64 pos, .slice A subs.length c] 24) = W0 at *
        have HBOX := hid (show Below w.heap.size w W0 by rw [← hW0]; exact bBw _ _)
        clear hW0
        go_loopw [7, 8] (fun ss ii wr => ∃ (j t : Nat) (S : ByteArray), j = t + t ∧ j ≤ subs.length ∧ ii = .int .i64 j ∧ ss = .string S ∧ S = upB f t ∧ Below W0.heap.size W0 wr) (fun _ ii _ => subs.length - (intOf ii).toNat)
        case atStart => exact ⟨0, 0, _, rfl, by omega, rfl, rfl, rfl, Below.refl _ _⟩
        case round =>
         obtain ⟨j, t, S, hjt, hj, rfl, rfl, hS, hbr⟩ := hrel
         have HSS := hid hS
         have HCR := hid hbr
         have HJT := hid hjt
         clear hS hbr hjt
         obtain ⟨x0, x1, x2, x3, x4⟩ := nb HAT HCR
         by_cases hlt : j + 1 < subs.length
         ·skip
          obtain ⟨y, hy⟩ : ∃ y, subs[j]? = some y := ⟨_, List.getElem?_eq_getElem (by omega)⟩
          obtain ⟨z, hz⟩ : ∃ z, subs[j + 1]? = some z := ⟨_, List.getElem?_eq_getElem hlt⟩
          obtain ⟨b, o, Ay, cy, hA, hxy, hky⟩ := HKL.out.2.2 j y hy
          subst hA
          obtain ⟨b', o', Az, cz, hA, hxz, hkz⟩ := HKL.out.2.2 (j + 1) z hz
          injection hA with hA
          injection hA with h3 h4
          subst h3
          subst h4
          have HDY := hid (show exprS d y = true by have := HIF.out _ _ hy; rwa [if_neg (by have := HJT.out; omega)] at this)
          have HDZ := hid (show stmtsS d z = true by have := HIF.out _ _ hz; rwa [if_pos (Or.inl (by have := HJT.out; omega))] at this)
          have htl : t < subs.length / 2 := by have := HJT.out; omega
          have hus := upB_size f htl
          have FT := hid (show f t = pad ++ (if t = 0 then ⟨#[73, 70, 32]⟩ else ⟨#[69, 76, 83, 73, 70, 32]⟩) ++ exprT d y ++ ⟨#[32, 84, 72, 69, 78, 10]⟩ ++ stmtsT d z (pad ++ ⟨#[32, 32]⟩) by rw [HF.out]; have e1 : 2 * t = j := (by have := HJT.out; omega); simp only [ifPiece, e1, getD_at hy, getD_at hz])
          have HX_y := hid hxy
          have HK_y := hid hky
          have HX_z := hid hxz
          have HK_z := hid hkz
          clear hxy hky hxz hkz hy hz htl
          rw [FT.out] at hus
          obtain ⟨Ty, hT_y⟩ : ∃ T, T = exprT d y := ⟨_, rfl⟩
          obtain ⟨Tz, hT_z⟩ : ∃ T, T = stmtsT d z (pad ++ ⟨#[32, 32]⟩) := ⟨_, rfl⟩
          rw [← hT_y, ← hT_z] at hus
          have HT_y := hid hT_y
          have HT_z := hid hT_z
          clear hT_y hT_z
          have hzz : S.size + pad.size + Ty.size + Tz.size + 12 ≤ 1099511627776 := by
           rw [HSS.out]
           simp only [ByteArray.size_append, ba_size, List.size_toArray, List.length_cons, List.length_nil] at hus
           have hh : 3 ≤ (if t = 0 then (⟨#[73, 70, 32]⟩ : ByteArray) else ⟨#[69, 76, 83, 73, 70, 32]⟩).size := by split <;> simp [ba_size]
           omega
          clear hus
          clear x0 x1 x2 x3 x4
          obtain ⟨x0, x1, x2, x3, x4⟩ := nb HAT HCR
          obtain ⟨fy0, fy1, fy2, fy3, fy4⟩ := nb HX_y HCR
          obtain ⟨fz0, fz1, fz2, fz3, fz4⟩ := nb HX_z HCR
          have HY := hid (show exprS d y = true from HDY.out)
          clear HDY
          have HD_y := HY
          have HD_z := HDZ
          have SZ_z := hid (show (stmtsT d z (pad ++ ⟨#[32, 32]⟩)).size ≤ maxT by rw [← HT_z.out]; unfold maxT; omega)
          have a1 : IntKind.i64.wrap ((j : Int) + 1) = (j : Int) + 1 := IntWalk.i64_in _ (by omega)
          have a2 : (0 : Int) ≤ (j : Int) + 1 := by omega
          have a3 : ((j : Int) + 1).toNat = j + 1 := by omega
          have a4 : (j : Int) < subs.length := by omega
          have a5 : (j : Int) + 1 < subs.length := by omega
          by_cases h0 : j = 0
          ·skip
           have h0b : ((j : Int) == 0) = true := by simpa using h0
           have HT0 := hid (show t = 0 by have := HJT.out; omega)
           clear h0
           go_wp2
           have r_0 := cRg x0
           have r_1 := cRg x1
           have r_2 := cRg x2
           have r_3 := cRg x3
           have r_4 := cRg x4
           have r_5 := cRg fy0
           have r_6 := cRg fy1
           have r_7 := cRg fy2
           have r_8 := cRg fy3
           have r_9 := cRg fy4
           have r_10 := cRg fz0
           have r_11 := cRg fz1
           have r_12 := cRg fz2
           have r_13 := cRg fz3
           have r_14 := cRg fz4
           have cP0 : ∀ w', Below wr.heap.size wr w' → Calls Tryz.prog 45 #[.agg #[.int .i64 y.kind, .string y.name, .int .i64 y.num, .int .i64 y.pos, .slice Ay y.subs.length cy]] w' fun e w'' => e = .returned (.string Ty) ∧ Below w'.heap.size w' w'' := fun w' hb => by rw [HT_y.out]; exact hE y Ay cy _ (HK_y.out.below (bTh HCR.out hb)) HD_y.out (by rw [← HT_y.out]; unfold maxT; omega)
           have cQ0 : ∀ dd os, Calls Tryz.prog 45 #[.agg #[.int .i64 y.kind, .string y.name, .int .i64 y.num, .int .i64 y.pos, .slice Ay y.subs.length cy]] (Go.Sort.grow (redrawn wr dd) os) fun e w'' => e = .returned (.string Ty) ∧ ∃ p : Regrown, w'' = Go.Sort.grow (redrawn wr p.d) p.os := fun dd os => Calls.regrown_of (cP0 _ (below_regrown _ _ _))
           clear cP0
           have cP1 : ∀ w', Below wr.heap.size wr w' → Calls Tryz.prog 23 #[.agg #[.int .i64 z.kind, .string z.name, .int .i64 z.num, .int .i64 z.pos, .slice Az z.subs.length cz], .string (pad ++ ⟨#[32, 32]⟩)] w' fun e w'' => e = .returned (.string Tz) ∧ Below w'.heap.size w' w'' := fun w' hb => by rw [HT_z.out]; exact hL z Az cz (pad ++ ⟨#[32, 32]⟩) _ (HK_z.out.below (bTh HCR.out hb)) HD_z.out SZ_z.out PADOK.out
           have cQ1 : ∀ dd os, Calls Tryz.prog 23 #[.agg #[.int .i64 z.kind, .string z.name, .int .i64 z.num, .int .i64 z.pos, .slice Az z.subs.length cz], .string (pad ++ ⟨#[32, 32]⟩)] (Go.Sort.grow (redrawn wr dd) os) fun e w'' => e = .returned (.string Tz) ∧ ∃ p : Regrown, w'' = Go.Sort.grow (redrawn wr p.d) p.os := fun dd os => Calls.regrown_of (cP1 _ (below_regrown _ _ _))
           clear cP1
           refine wp_region_quiet_below (by kernel_rfl) (by kernel_rfl) ?_
           repeat (go_big_quiet_step (first | with_reducible exact cQ0 _ _ | with_reducible exact cQ1 _ _))
           refine wpQuiet_nil ?_
           intro _ hw'
           obtain ⟨⟨dq, osq⟩, hw''⟩ := hw'
           subst hw''
           clear cQ0 cQ1 r_0 r_1 r_2 r_3 r_4 r_5 r_6 r_7 r_8 r_9 r_10 r_11 r_12 r_13 r_14
           have HG := hid (bTh HCR.out (below_regrown wr dq osq))
           generalize hG : Go.Sort.grow (redrawn wr dq) osq = G at *
           clear hG
           go_wp2
           go_roundw
           case rel => exact ⟨j + 2, t + 1, _, by have := HJT.out; omega, by omega, by go_num, rfl, by rw [upB, FT.out, HSS.out, ← HT_y.out, ← HT_z.out, if_pos HT0.out]; simp only [ba_assoc], HG.out⟩
           case measure => simp [intOf]; omega
          ·skip
           have h0b : ((j : Int) == 0) = false := by simpa using h0
           have HT0 := hid (show ¬ t = 0 by have := HJT.out; omega)
           clear h0
           go_wp2
           have r_0 := cRg x0
           have r_1 := cRg x1
           have r_2 := cRg x2
           have r_3 := cRg x3
           have r_4 := cRg x4
           have r_5 := cRg fy0
           have r_6 := cRg fy1
           have r_7 := cRg fy2
           have r_8 := cRg fy3
           have r_9 := cRg fy4
           have r_10 := cRg fz0
           have r_11 := cRg fz1
           have r_12 := cRg fz2
           have r_13 := cRg fz3
           have r_14 := cRg fz4
           have cP0 : ∀ w', Below wr.heap.size wr w' → Calls Tryz.prog 45 #[.agg #[.int .i64 y.kind, .string y.name, .int .i64 y.num, .int .i64 y.pos, .slice Ay y.subs.length cy]] w' fun e w'' => e = .returned (.string Ty) ∧ Below w'.heap.size w' w'' := fun w' hb => by rw [HT_y.out]; exact hE y Ay cy _ (HK_y.out.below (bTh HCR.out hb)) HD_y.out (by rw [← HT_y.out]; unfold maxT; omega)
           have cQ0 : ∀ dd os, Calls Tryz.prog 45 #[.agg #[.int .i64 y.kind, .string y.name, .int .i64 y.num, .int .i64 y.pos, .slice Ay y.subs.length cy]] (Go.Sort.grow (redrawn wr dd) os) fun e w'' => e = .returned (.string Ty) ∧ ∃ p : Regrown, w'' = Go.Sort.grow (redrawn wr p.d) p.os := fun dd os => Calls.regrown_of (cP0 _ (below_regrown _ _ _))
           clear cP0
           have cP1 : ∀ w', Below wr.heap.size wr w' → Calls Tryz.prog 23 #[.agg #[.int .i64 z.kind, .string z.name, .int .i64 z.num, .int .i64 z.pos, .slice Az z.subs.length cz], .string (pad ++ ⟨#[32, 32]⟩)] w' fun e w'' => e = .returned (.string Tz) ∧ Below w'.heap.size w' w'' := fun w' hb => by rw [HT_z.out]; exact hL z Az cz (pad ++ ⟨#[32, 32]⟩) _ (HK_z.out.below (bTh HCR.out hb)) HD_z.out SZ_z.out PADOK.out
           have cQ1 : ∀ dd os, Calls Tryz.prog 23 #[.agg #[.int .i64 z.kind, .string z.name, .int .i64 z.num, .int .i64 z.pos, .slice Az z.subs.length cz], .string (pad ++ ⟨#[32, 32]⟩)] (Go.Sort.grow (redrawn wr dd) os) fun e w'' => e = .returned (.string Tz) ∧ ∃ p : Regrown, w'' = Go.Sort.grow (redrawn wr p.d) p.os := fun dd os => Calls.regrown_of (cP1 _ (below_regrown _ _ _))
           clear cP1
           refine wp_region_quiet_below (by kernel_rfl) (by kernel_rfl) ?_
           repeat (go_big_quiet_step (first | with_reducible exact cQ0 _ _ | with_reducible exact cQ1 _ _))
           refine wpQuiet_nil ?_
           intro _ hw'
           obtain ⟨⟨dq, osq⟩, hw''⟩ := hw'
           subst hw''
           clear cQ0 cQ1 r_0 r_1 r_2 r_3 r_4 r_5 r_6 r_7 r_8 r_9 r_10 r_11 r_12 r_13 r_14
           have HG := hid (bTh HCR.out (below_regrown wr dq osq))
           generalize hG : Go.Sort.grow (redrawn wr dq) osq = G at *
           clear hG
           go_wp2
           go_roundw
           case rel => exact ⟨j + 2, t + 1, _, by have := HJT.out; omega, by omega, by go_num, rfl, by rw [upB, FT.out, HSS.out, ← HT_y.out, ← HT_z.out, if_neg HT0.out]; simp only [ba_assoc], HG.out⟩
           case measure => simp [intOf]; omega
         ·skip
          have HJE := hid (show t = subs.length / 2 by have := HJT.out; omega)
          have hz : S.size + pad.size + 3 ≤ 1099511627776 := by rw [HSS.out, HJE.out]; omega
          go_wp2
          go_ret
          exact ⟨ret_str (by rw [HTT.out, HSS.out, HJE.out]), bTh HBOX.out HCR.out⟩
       ·skip
        obtain ⟨f, hf⟩ : ∃ f, f = ifPiece (exprT d) (stmtsT d) subs pad := ⟨_, rfl⟩
        obtain ⟨u, hu⟩ : ∃ u, subs[subs.length - 1]? = some u := ⟨_, List.getElem?_eq_getElem (by omega)⟩
        have hTT : stmtT (d + 1) ⟨16, s, 1, pos, subs⟩ pad = upB f (subs.length / 2) ++ (pad ++ ⟨#[69, 76, 83, 69, 10]⟩ ++ stmtsT d u (pad ++ ⟨#[32, 32]⟩)) ++ pad ++ ⟨#[69, 78, 68]⟩ := by rw [hf]; simp only [stmtT_succ, stmtTStep]; simp [hu]
        have HDU := hid (show stmtsS d u = true by have := hif _ _ hu; rwa [if_pos (Or.inr ⟨by omega, rfl⟩)] at this)
        have HU := hid hu
        clear hu
        obtain ⟨Tu, hT_u⟩ : ∃ T, T = stmtsT d u (pad ++ ⟨#[32, 32]⟩) := ⟨_, rfl⟩
        rw [← hT_u] at hTT
        have HT_u := hid hT_u
        clear hT_u
        rw [hTT] at hsz
        unfold maxT at hsz
        simp only [ByteArray.size_append, ba_size, List.size_toArray, List.length_cons, List.length_nil] at hsz
        have HTT := hid hTT
        clear hTT
        have hml : subs.length ≤ 2199023255560 := by
         have h1 := upB_many f (fun t => by rw [hf]; exact ifPiece_one _ _ _ _ t) (subs.length / 2)
         omega
        have PADOK := hid (show (pad ++ ⟨#[32, 32]⟩).size ≤ maxT by simp only [ByteArray.size_append, ba_size, List.size_toArray, List.length_cons, List.length_nil]; unfold maxT; omega)
        have HF := hid hf
        have HIF := hid hif
        have HMOD := hid hmod
        clear hf hif hmod
        have HAT := hid (bAt w ⟨16, s, 1, pos, subs⟩ A c 24)
        have HKL := hid ((hk.list).below (bBw w (.cells #[.int .i64 16, .string s, .int .i64 1, .int .i64 pos, .slice A subs.length c] 24)))
        clear hk
        go_enter Tryz.func48, Tryz.ntmps48
        go_wp2
        generalize hW0 : w.alloc (.cells #[.int .i64 16, .string s, .int .i64 1, .int .i64 pos, .slice A subs.length c] 24) = W0 at *
        have HBOX := hid (show Below w.heap.size w W0 by rw [← hW0]; exact bBw _ _)
        clear hW0
        go_loopw [7, 8] (fun ss ii wr => ∃ (j t : Nat) (S : ByteArray), j = t + t ∧ j ≤ subs.length ∧ ii = .int .i64 j ∧ ss = .string S ∧ S = upB f t ∧ Below W0.heap.size W0 wr) (fun _ ii _ => subs.length - (intOf ii).toNat)
        case atStart => exact ⟨0, 0, _, rfl, by omega, rfl, rfl, rfl, Below.refl _ _⟩
        case round =>
         obtain ⟨j, t, S, hjt, hj, rfl, rfl, hS, hbr⟩ := hrel
         have HSS := hid hS
         have HCR := hid hbr
         have HJT := hid hjt
         clear hS hbr hjt
         obtain ⟨x0, x1, x2, x3, x4⟩ := nb HAT HCR
         by_cases hlt : j + 1 < subs.length
         ·skip
          obtain ⟨y, hy⟩ : ∃ y, subs[j]? = some y := ⟨_, List.getElem?_eq_getElem (by omega)⟩
          obtain ⟨z, hz⟩ : ∃ z, subs[j + 1]? = some z := ⟨_, List.getElem?_eq_getElem hlt⟩
          obtain ⟨b, o, Ay, cy, hA, hxy, hky⟩ := HKL.out.2.2 j y hy
          subst hA
          obtain ⟨b', o', Az, cz, hA, hxz, hkz⟩ := HKL.out.2.2 (j + 1) z hz
          injection hA with hA
          injection hA with h3 h4
          subst h3
          subst h4
          have HDY := hid (show exprS d y = true by have := HIF.out _ _ hy; rwa [if_neg (by have := HJT.out; omega)] at this)
          have HDZ := hid (show stmtsS d z = true by have := HIF.out _ _ hz; rwa [if_pos (Or.inl (by have := HJT.out; omega))] at this)
          have htl : t < subs.length / 2 := by have := HJT.out; omega
          have hus := upB_size f htl
          have FT := hid (show f t = pad ++ (if t = 0 then ⟨#[73, 70, 32]⟩ else ⟨#[69, 76, 83, 73, 70, 32]⟩) ++ exprT d y ++ ⟨#[32, 84, 72, 69, 78, 10]⟩ ++ stmtsT d z (pad ++ ⟨#[32, 32]⟩) by rw [HF.out]; have e1 : 2 * t = j := (by have := HJT.out; omega); simp only [ifPiece, e1, getD_at hy, getD_at hz])
          have HX_y := hid hxy
          have HK_y := hid hky
          have HX_z := hid hxz
          have HK_z := hid hkz
          clear hxy hky hxz hkz hy hz htl
          rw [FT.out] at hus
          obtain ⟨Ty, hT_y⟩ : ∃ T, T = exprT d y := ⟨_, rfl⟩
          obtain ⟨Tz, hT_z⟩ : ∃ T, T = stmtsT d z (pad ++ ⟨#[32, 32]⟩) := ⟨_, rfl⟩
          rw [← hT_y, ← hT_z] at hus
          have HT_y := hid hT_y
          have HT_z := hid hT_z
          clear hT_y hT_z
          have hzz : S.size + pad.size + Ty.size + Tz.size + 12 ≤ 1099511627776 := by
           rw [HSS.out]
           simp only [ByteArray.size_append, ba_size, List.size_toArray, List.length_cons, List.length_nil] at hus
           have hh : 3 ≤ (if t = 0 then (⟨#[73, 70, 32]⟩ : ByteArray) else ⟨#[69, 76, 83, 73, 70, 32]⟩).size := by split <;> simp [ba_size]
           omega
          clear hus
          clear x0 x1 x2 x3 x4
          obtain ⟨x0, x1, x2, x3, x4⟩ := nb HAT HCR
          obtain ⟨fy0, fy1, fy2, fy3, fy4⟩ := nb HX_y HCR
          obtain ⟨fz0, fz1, fz2, fz3, fz4⟩ := nb HX_z HCR
          have HY := hid (show exprS d y = true from HDY.out)
          clear HDY
          have HD_y := HY
          have HD_z := HDZ
          have SZ_z := hid (show (stmtsT d z (pad ++ ⟨#[32, 32]⟩)).size ≤ maxT by rw [← HT_z.out]; unfold maxT; omega)
          have a1 : IntKind.i64.wrap ((j : Int) + 1) = (j : Int) + 1 := IntWalk.i64_in _ (by omega)
          have a2 : (0 : Int) ≤ (j : Int) + 1 := by omega
          have a3 : ((j : Int) + 1).toNat = j + 1 := by omega
          have a4 : (j : Int) < subs.length := by omega
          have a5 : (j : Int) + 1 < subs.length := by omega
          by_cases h0 : j = 0
          ·skip
           have h0b : ((j : Int) == 0) = true := by simpa using h0
           have HT0 := hid (show t = 0 by have := HJT.out; omega)
           clear h0
           go_wp2
           have r_0 := cRg x0
           have r_1 := cRg x1
           have r_2 := cRg x2
           have r_3 := cRg x3
           have r_4 := cRg x4
           have r_5 := cRg fy0
           have r_6 := cRg fy1
           have r_7 := cRg fy2
           have r_8 := cRg fy3
           have r_9 := cRg fy4
           have r_10 := cRg fz0
           have r_11 := cRg fz1
           have r_12 := cRg fz2
           have r_13 := cRg fz3
           have r_14 := cRg fz4
           have cP0 : ∀ w', Below wr.heap.size wr w' → Calls Tryz.prog 45 #[.agg #[.int .i64 y.kind, .string y.name, .int .i64 y.num, .int .i64 y.pos, .slice Ay y.subs.length cy]] w' fun e w'' => e = .returned (.string Ty) ∧ Below w'.heap.size w' w'' := fun w' hb => by rw [HT_y.out]; exact hE y Ay cy _ (HK_y.out.below (bTh HCR.out hb)) HD_y.out (by rw [← HT_y.out]; unfold maxT; omega)
           have cQ0 : ∀ dd os, Calls Tryz.prog 45 #[.agg #[.int .i64 y.kind, .string y.name, .int .i64 y.num, .int .i64 y.pos, .slice Ay y.subs.length cy]] (Go.Sort.grow (redrawn wr dd) os) fun e w'' => e = .returned (.string Ty) ∧ ∃ p : Regrown, w'' = Go.Sort.grow (redrawn wr p.d) p.os := fun dd os => Calls.regrown_of (cP0 _ (below_regrown _ _ _))
           clear cP0
           have cP1 : ∀ w', Below wr.heap.size wr w' → Calls Tryz.prog 23 #[.agg #[.int .i64 z.kind, .string z.name, .int .i64 z.num, .int .i64 z.pos, .slice Az z.subs.length cz], .string (pad ++ ⟨#[32, 32]⟩)] w' fun e w'' => e = .returned (.string Tz) ∧ Below w'.heap.size w' w'' := fun w' hb => by rw [HT_z.out]; exact hL z Az cz (pad ++ ⟨#[32, 32]⟩) _ (HK_z.out.below (bTh HCR.out hb)) HD_z.out SZ_z.out PADOK.out
           have cQ1 : ∀ dd os, Calls Tryz.prog 23 #[.agg #[.int .i64 z.kind, .string z.name, .int .i64 z.num, .int .i64 z.pos, .slice Az z.subs.length cz], .string (pad ++ ⟨#[32, 32]⟩)] (Go.Sort.grow (redrawn wr dd) os) fun e w'' => e = .returned (.string Tz) ∧ ∃ p : Regrown, w'' = Go.Sort.grow (redrawn wr p.d) p.os := fun dd os => Calls.regrown_of (cP1 _ (below_regrown _ _ _))
           clear cP1
           refine wp_region_quiet_below (by kernel_rfl) (by kernel_rfl) ?_
           repeat (go_big_quiet_step (first | with_reducible exact cQ0 _ _ | with_reducible exact cQ1 _ _))
           refine wpQuiet_nil ?_
           intro _ hw'
           obtain ⟨⟨dq, osq⟩, hw''⟩ := hw'
           subst hw''
           clear cQ0 cQ1 r_0 r_1 r_2 r_3 r_4 r_5 r_6 r_7 r_8 r_9 r_10 r_11 r_12 r_13 r_14
           have HG := hid (bTh HCR.out (below_regrown wr dq osq))
           generalize hG : Go.Sort.grow (redrawn wr dq) osq = G at *
           clear hG
           go_wp2
           go_roundw
           case rel => exact ⟨j + 2, t + 1, _, by have := HJT.out; omega, by omega, by go_num, rfl, by rw [upB, FT.out, HSS.out, ← HT_y.out, ← HT_z.out, if_pos HT0.out]; simp only [ba_assoc], HG.out⟩
           case measure => simp [intOf]; omega
          ·skip
           have h0b : ((j : Int) == 0) = false := by simpa using h0
           have HT0 := hid (show ¬ t = 0 by have := HJT.out; omega)
           clear h0
           go_wp2
           have r_0 := cRg x0
           have r_1 := cRg x1
           have r_2 := cRg x2
           have r_3 := cRg x3
           have r_4 := cRg x4
           have r_5 := cRg fy0
           have r_6 := cRg fy1
           have r_7 := cRg fy2
           have r_8 := cRg fy3
           have r_9 := cRg fy4
           have r_10 := cRg fz0
           have r_11 := cRg fz1
           have r_12 := cRg fz2
           have r_13 := cRg fz3
           have r_14 := cRg fz4
           have cP0 : ∀ w', Below wr.heap.size wr w' → Calls Tryz.prog 45 #[.agg #[.int .i64 y.kind, .string y.name, .int .i64 y.num, .int .i64 y.pos, .slice Ay y.subs.length cy]] w' fun e w'' => e = .returned (.string Ty) ∧ Below w'.heap.size w' w'' := fun w' hb => by rw [HT_y.out]; exact hE y Ay cy _ (HK_y.out.below (bTh HCR.out hb)) HD_y.out (by rw [← HT_y.out]; unfold maxT; omega)
           have cQ0 : ∀ dd os, Calls Tryz.prog 45 #[.agg #[.int .i64 y.kind, .string y.name, .int .i64 y.num, .int .i64 y.pos, .slice Ay y.subs.length cy]] (Go.Sort.grow (redrawn wr dd) os) fun e w'' => e = .returned (.string Ty) ∧ ∃ p : Regrown, w'' = Go.Sort.grow (redrawn wr p.d) p.os := fun dd os => Calls.regrown_of (cP0 _ (below_regrown _ _ _))
           clear cP0
           have cP1 : ∀ w', Below wr.heap.size wr w' → Calls Tryz.prog 23 #[.agg #[.int .i64 z.kind, .string z.name, .int .i64 z.num, .int .i64 z.pos, .slice Az z.subs.length cz], .string (pad ++ ⟨#[32, 32]⟩)] w' fun e w'' => e = .returned (.string Tz) ∧ Below w'.heap.size w' w'' := fun w' hb => by rw [HT_z.out]; exact hL z Az cz (pad ++ ⟨#[32, 32]⟩) _ (HK_z.out.below (bTh HCR.out hb)) HD_z.out SZ_z.out PADOK.out
           have cQ1 : ∀ dd os, Calls Tryz.prog 23 #[.agg #[.int .i64 z.kind, .string z.name, .int .i64 z.num, .int .i64 z.pos, .slice Az z.subs.length cz], .string (pad ++ ⟨#[32, 32]⟩)] (Go.Sort.grow (redrawn wr dd) os) fun e w'' => e = .returned (.string Tz) ∧ ∃ p : Regrown, w'' = Go.Sort.grow (redrawn wr p.d) p.os := fun dd os => Calls.regrown_of (cP1 _ (below_regrown _ _ _))
           clear cP1
           refine wp_region_quiet_below (by kernel_rfl) (by kernel_rfl) ?_
           repeat (go_big_quiet_step (first | with_reducible exact cQ0 _ _ | with_reducible exact cQ1 _ _))
           refine wpQuiet_nil ?_
           intro _ hw'
           obtain ⟨⟨dq, osq⟩, hw''⟩ := hw'
           subst hw''
           clear cQ0 cQ1 r_0 r_1 r_2 r_3 r_4 r_5 r_6 r_7 r_8 r_9 r_10 r_11 r_12 r_13 r_14
           have HG := hid (bTh HCR.out (below_regrown wr dq osq))
           generalize hG : Go.Sort.grow (redrawn wr dq) osq = G at *
           clear hG
           go_wp2
           go_roundw
           case rel => exact ⟨j + 2, t + 1, _, by have := HJT.out; omega, by omega, by go_num, rfl, by rw [upB, FT.out, HSS.out, ← HT_y.out, ← HT_z.out, if_neg HT0.out]; simp only [ba_assoc], HG.out⟩
           case measure => simp [intOf]; omega
         ·skip
          have HJE := hid (show t = subs.length / 2 by have := HJT.out; omega)
          have hz : S.size + pad.size + pad.size + Tu.size + 8 ≤ 1099511627776 := by rw [HSS.out, HJE.out]; omega
          obtain ⟨b, o, Au, cu, hA, hxu, hku⟩ := HKL.out.2.2 (subs.length - 1) u HU.out
          subst hA
          have HX_u := hid hxu
          have HK_u := hid hku
          clear hxu hku
          have HD_u := HDU
          have SZ_u := hid (show (stmtsT d u (pad ++ ⟨#[32, 32]⟩)).size ≤ maxT by rw [← HT_u.out]; unfold maxT; omega)
          have a1 : IntKind.i64.wrap ((subs.length : Int) - 1) = (subs.length : Int) - 1 := IntWalk.i64_in _ (by omega)
          have a2 : (0 : Int) ≤ (subs.length : Int) - 1 := by omega
          have a3 : ((subs.length : Int) - 1).toNat = subs.length - 1 := by omega
          clear x0 x1 x2 x3 x4
          obtain ⟨x0, x1, x2, x3, x4⟩ := nb HAT HCR
          obtain ⟨fu0, fu1, fu2, fu3, fu4⟩ := nb HX_u HCR
          go_wp2_with fail
          have hct := hL u Au cu (pad ++ ⟨#[32, 32]⟩) _ (kb HK_u HCR) HD_u.out SZ_u.out PADOK.out
          with_reducible refine hct.mono ?_
          clear hct
          rintro e w1 ⟨rfl, hb1⟩
          have HC1 := hid (bTh HCR.out hb1)
          clear hb1
          clear x0 x1 x2 x3 x4 fu0 fu1 fu2 fu3 fu4
          obtain ⟨x0, x1, x2, x3, x4⟩ := nb HAT HC1
          obtain ⟨fu0, fu1, fu2, fu3, fu4⟩ := nb HX_u HC1
          rw [← HT_u.out]
          go_wp2
          go_ret
          exact ⟨ret_str (by rw [HTT.out, HSS.out, HJE.out]; simp only [ba_assoc]), bTh HBOX.out HC1.out⟩
      ·have b16 : (k == 16) = false := by simpa using k16
       by_cases k20 : k = 20
       ·subst k20
        simp [stmtS_succ, stmtStep] at hs
        obtain ⟨x, rfl⟩ := len1 (l := subs) (headB_len hs.1 (by omega))
        obtain ⟨b, o, Ax, cx, rfl, hx_x, hk_x⟩ := hk.one (x := x) (r := []) rfl
        simp only [List.length_cons, List.length_nil, Nat.zero_add] at hlen
        simp only [Nd.sub, List.getD_cons_zero] at hs
        have hTT : stmtT (d + 1) ⟨20, s, num, pos, [x]⟩ pad = pad ++ builtT 20 ++ ⟨#[40]⟩ ++ exprT d x ++ ⟨#[41]⟩ := by simp [stmtT_succ, stmtTStep, Nd.sub]
        rw [hTT] at hsz ⊢
        exact built_text d 20 (by omega) s num pos x b o c pad w hk (desig_expr hs.2) hsz
       ·have b20 : (k == 20) = false := by simpa using k20
        by_cases k22 : k = 22
        ·subst k22
         simp [stmtS_succ, stmtStep] at hs
         obtain ⟨x, rfl⟩ := len1 (l := subs) (headB_len hs.1 (by omega))
         obtain ⟨b, o, Ax, cx, rfl, hx_x, hk_x⟩ := hk.one (x := x) (r := []) rfl
         simp only [List.length_cons, List.length_nil, Nat.zero_add] at hlen
         simp only [Nd.sub, List.getD_cons_zero] at hs
         have hTT : stmtT (d + 1) ⟨22, s, num, pos, [x]⟩ pad = pad ++ builtT 22 ++ ⟨#[40]⟩ ++ exprT d x ++ ⟨#[41]⟩ := by simp [stmtT_succ, stmtTStep, Nd.sub]
         rw [hTT] at hsz ⊢
         exact built_text d 22 (by omega) s num pos x b o c pad w hk (desig_expr hs.2) hsz
        ·have b22 : (k == 22) = false := by simpa using k22
         by_cases k21 : k = 21
         ·subst k21
          simp [stmtS_succ, stmtStep] at hs
          obtain ⟨x, rfl⟩ := len1 (l := subs) (headB_len hs.1 (by omega))
          obtain ⟨b, o, Ax, cx, rfl, hx_x, hk_x⟩ := hk.one (x := x) (r := []) rfl
          simp only [List.length_cons, List.length_nil, Nat.zero_add] at hlen
          simp only [Nd.sub, List.getD_cons_zero] at hs
          have hTT : stmtT (d + 1) ⟨21, s, num, pos, [x]⟩ pad = pad ++ builtT 21 ++ ⟨#[40]⟩ ++ exprT d x ++ ⟨#[41]⟩ := by simp [stmtT_succ, stmtTStep, Nd.sub]
          rw [hTT] at hsz ⊢
          exact built_text d 21 (by omega) s num pos x b o c pad w hk (hs.2) hsz
         ·have b21 : (k == 21) = false := by simpa using k21
          by_cases k23 : k = 23
          ·subst k23
           simp [stmtS_succ, stmtStep] at hs
           obtain ⟨x, rfl⟩ := len1 (l := subs) (headB_len hs.1 (by omega))
           obtain ⟨b, o, Ax, cx, rfl, hx_x, hk_x⟩ := hk.one (x := x) (r := []) rfl
           simp only [List.length_cons, List.length_nil, Nat.zero_add] at hlen
           simp only [Nd.sub, List.getD_cons_zero] at hs
           have hTT : stmtT (d + 1) ⟨23, s, num, pos, [x]⟩ pad = pad ++ builtT 23 ++ ⟨#[40]⟩ ++ exprT d x ++ ⟨#[41]⟩ := by simp [stmtT_succ, stmtTStep, Nd.sub]
           rw [hTT] at hsz ⊢
           exact built_text d 23 (by omega) s num pos x b o c pad w hk (hs.2) hsz
          ·have b23 : (k == 23) = false := by simpa using k23
           exfalso
           simp [stmtS_succ, stmtStep, k14, k15, k17, k18, k19, k20, k22, k21, k23, k16] at hs
end Go.Proofs.YtneohanphabneaaGreatDoor
