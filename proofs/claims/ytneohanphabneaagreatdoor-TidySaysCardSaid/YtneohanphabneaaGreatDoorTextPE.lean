/-
The program's text of a tree, the walks: expressions, arguments. Conditions: the tree lies in memory and is shaped; the text's length is below a bound.
-/
import Derived.Test.YtneohanphabneaaGreatDoorTextPJ
import Derived.Test.YtneohanphabneaaGreatDoorBase
namespace Go.Proofs.YtneohanphabneaaGreatDoor
set_option linter.unusedSimpArgs false
set_option linter.unusedVariables false
open Go.RowKit Go.BigFrame
theorem rank_desig {d : Nat} {n : Nd} (h : desigS d n = true) : rankN n = 3 := by
 cases d with
 | zero => simp [desigS, edS] at h
 | succ d =>
  rw [desigS_succ] at h
  unfold rankN
  by_cases k1 : n.kind = 36
  ·simp [desigStep, k1] at h
  by_cases k2 : n.kind = 37
  ·simp [desigStep, k2] at h
  by_cases k3 : n.kind = 35
  ·simp [desigStep, k3] at h
  simp [k1, k2, k3]
theorem rank_expr {d : Nat} {n : Nd} (h : exprS d n = true) : 0 ≤ rankN n := by
 cases d with
 | zero => simp [exprS, edS] at h
 | succ d =>
  rw [exprS_succ] at h
  unfold rankN
  by_cases k1 : n.kind = 36
  ·simp [exprStep, k1] at h
   simp [k1, h.1.1.1]
  by_cases k2 : n.kind = 37
  ·simp [k2]
  by_cases k3 : n.kind = 35
  ·simp [k3]
  simp [k1, k2, k3]
theorem atL3 {d e : Nat} {n : Nd} (h : desigS d n = true) : atL (exprT e) n 3 = exprT e n := by unfold atL; rw [rank_desig h, if_neg (by omega)]
theorem atL0 {d e : Nat} {n : Nd} (h : exprS d n = true) : atL (exprT e) n 0 = exprT e n := by
 have := rank_expr h
 unfold atL
 rw [if_neg (by omega)]
theorem atL_le (E : Nd → ByteArray) (n : Nd) (r : Int) : (E n).size ≤ (atL E n r).size := by
 unfold atL
 split
 ·simp only [ByteArray.size_append]; omega
 ·exact Nat.le_refl _
/-- What is claimed of one expression of the program's text, d levels deep. -/
def Says_expr (d : Nat) : Prop := ∀ (n : Nd) (A : Option Addr) (c : Nat) (r : Int) (w : World), PowLaid w → Kids w d n A c → exprS d n = true → (atL (exprT d) n r).size ≤ maxT →
  Calls Tryz.prog 68 #[.agg #[.int .i64 n.kind, .string n.name, .int .i64 n.num, .int .i64 n.pos, .slice A n.subs.length c], .int .i64 r] w fun e w' => e = .returned (.string (atL (exprT d) n r)) ∧ Below w.heap.size w w'
theorem sayArg_any (d : Nat) (hX : Says_expr d) : SayFn 141 d (exprS d) (exprT d) := by
 refine ⟨fun args w => enters_f Tryz.func141 (by kernel_rfl) rfl args w, ?_⟩
 intro n A c w hl hk hs hsz
 have HS := hid hs
 obtain ⟨T, hT⟩ : ∃ T, T = exprT d n := ⟨_, rfl⟩
 rw [← hT] at hsz ⊢
 have HT := hid hT
 have HA := hid (show atL (exprT d) n 0 = T by rw [atL0 hs, hT])
 obtain ⟨k, s, num, pos, subs⟩ := n
 have HKN := hid (hk.below (bBw w (.cells #[.int .i64 k, .string s, .int .i64 num, .int .i64 pos, .slice A subs.length c] 24)))
 clear hs hT
 have HAT := hid (bAt w ⟨k, s, num, pos, subs⟩ A c 24)
 have HL := hid (hl.below (bBw w (.cells #[.int .i64 k, .string s, .int .i64 num, .int .i64 pos, .slice A subs.length c] 24)))
 clear hl hk
 go_enter Tryz.func141, Tryz.ntmps141
 go_wp2_with fail
 generalize hW0 : w.alloc (.cells #[.int .i64 k, .string s, .int .i64 num, .int .i64 pos, .slice A subs.length c] 24) = W0 at *
 have HBOX := hid (show Below w.heap.size w W0 by rw [← hW0]; exact bBw _ _)
 clear hW0
 refine (hX ⟨k, s, num, pos, subs⟩ A c 0 _ HL.out HKN.out HS.out (by rw [HA.out]; exact hsz)).mono ?_
 rintro e w1 ⟨rfl, hb1⟩
 have HC1 := hid hb1
 clear hb1
 obtain ⟨x0, x1, x2, x3, x4⟩ := nb HAT HC1
 rw [HA.out]
 go_wp2
 go_ret
 exact ⟨rfl, bTh HBOX.out HC1.out⟩
set_option maxRecDepth 100000 in
set_option maxHeartbeats 1000000 in
theorem sayArgs_any (d : Nat) (hX : Says_expr d) (l : List Nd) (A : Option Addr) (c : Nat) (w : World) (hl : PowLaid w) (hk : KidsL w d l A c) (hs : l.all (exprS d) = true) (hsz : (argsT (exprT d) l).size ≤ maxT) :
  Calls Tryz.prog 116 #[.slice A l.length c] w fun e w' => e = .returned (.string (argsT (exprT d) l)) ∧ Below w.heap.size w w' := by
 unfold argsT at hsz ⊢
 obtain ⟨T, hT⟩ : ∃ T, T = joinB ⟨#[44, 32]⟩ (l.map (exprT d)) := ⟨_, rfl⟩
 rw [← hT] at hsz ⊢
 have HT := hid hT
 have HL := hid hl
 have HK := hid hk
 have HS := hid hs
 clear hT hl hk hs
 unfold maxT at hsz
 simp only [ByteArray.size_append, ba_size, List.size_toArray, List.length_cons, List.length_nil] at hsz
 go_enter Tryz.func116, Tryz.ntmps116
 go_wp2_with fail
 refine (join_any _ d (exprS d) (exprT d) (sayArg_any d hX) l A c ⟨#[44, 32]⟩ _ HL.out HK.out HS.out (by rw [← HT.out]; unfold maxT; omega) (by simp [ba_size])).mono ?_
 rintro e w2 ⟨rfl, hb2⟩
 rw [← HT.out]
 have HB2 := hid hb2
 clear hb2
 go_wp2
 go_ret
 exact ⟨rfl, HB2.out⟩
set_option maxRecDepth 100000 in
set_option maxHeartbeats 16000000 in
theorem sayE_step (d : Nat) (hX : Says_expr d) : Says_expr (d + 1) := by
 intro n A c r w hl hk hs hsz0
 have hsz := Nat.le_trans (atL_le (exprT (d + 1)) n r) hsz0
 clear hsz0
 obtain ⟨k, s, num, pos, subs⟩ := n
 have hlen := hk.len
 unfold maxLen at hlen
 simp only at hlen
 by_cases k24 : k = 24
 ·subst k24
  have hTT : exprT (d + 1) ⟨24, s, num, pos, subs⟩ = s := by simp [exprT_succ, exprTStep, Nd.sub]
  have hRK : rankN ⟨24, s, num, pos, subs⟩ = 3 := by simp [rankN]
  rw [hTT] at hsz
  unfold maxT at hsz
  try simp only [ByteArray.size_append, ba_size, List.size_toArray, List.length_cons, List.length_nil] at hsz
  have ATP := hid (show (3 : Int) < r → atL (exprT (d + 1)) ⟨24, s, num, pos, subs⟩ r = ⟨#[40]⟩ ++ (s) ++ ⟨#[41]⟩ from fun h => by unfold atL; rw [hRK, hTT, if_pos h])
  have ATN := hid (show ¬ (3 : Int) < r → atL (exprT (d + 1)) ⟨24, s, num, pos, subs⟩ r = s from fun h => by unfold atL; rw [hRK, hTT, if_neg h])
  clear hTT hRK
  have HAT := hid (bAt w ⟨24, s, num, pos, subs⟩ A c 24)
  have HL := hid (hl.below (bBw w (.cells #[.int .i64 24, .string s, .int .i64 num, .int .i64 pos, .slice A subs.length c] 24)))
  clear hl hk
  go_enter Tryz.func68, Tryz.ntmps68
  go_wp2
  all_goals go_ret
  all_goals (refine ⟨ret_str ?_, bBw _ _⟩; first | (rw [ATP.out (by assumption)]; done) | (rw [ATN.out (by omega)]; done) | (rw [ATP.out (by omega)]; done))
 ·have b24 : (k == 24) = false := by simpa using k24
  by_cases k25 : k = 25
  ·subst k25
   simp [exprS_succ, exprStep, desigStep] at hs
   obtain ⟨x, rfl⟩ := len1 (l := subs) (headB_len hs.1 (by omega))
   obtain ⟨b, o, Ax, cx, rfl, hx_x, hk_x⟩ := hk.one (x := x) (r := []) rfl
   simp only [List.length_cons, List.length_nil, Nat.zero_add] at hlen
   simp only [Nd.sub, List.getD_cons_zero, List.getD_cons_succ] at hs
   have hd := hs.2
   have HD_x := hid (desig_expr hs.2)
   clear hs
   have hTT : exprT (d + 1) ⟨25, s, num, pos, [x]⟩ = atL (exprT d) x 3 ++ ⟨#[46]⟩ ++ s := by simp [exprT_succ, exprTStep, Nd.sub, atL3 hd]
   have hRK : rankN ⟨25, s, num, pos, [x]⟩ = 3 := by simp [rankN]
   rw [hTT] at hsz
   obtain ⟨Tx, hT_x⟩ : ∃ T, T = atL (exprT d) x 3 := ⟨_, rfl⟩
   rw [← hT_x] at hsz hTT
   have HT_x := hid hT_x
   clear hT_x
   unfold maxT at hsz
   try simp only [ByteArray.size_append, ba_size, List.size_toArray, List.length_cons, List.length_nil] at hsz
   have ATP := hid (show (3 : Int) < r → atL (exprT (d + 1)) ⟨25, s, num, pos, [x]⟩ r = ⟨#[40]⟩ ++ (Tx ++ ⟨#[46]⟩ ++ s) ++ ⟨#[41]⟩ from fun h => by unfold atL; rw [hRK, hTT, if_pos h])
   have ATN := hid (show ¬ (3 : Int) < r → atL (exprT (d + 1)) ⟨25, s, num, pos, [x]⟩ r = Tx ++ ⟨#[46]⟩ ++ s from fun h => by unfold atL; rw [hRK, hTT, if_neg h])
   clear hTT hRK
   clear hd
   have HAT := hid (bAt w ⟨25, s, num, pos, [x]⟩ (some ⟨b, o, none⟩) c 24)
   have HL := hid (hl.below (bBw w (.cells #[.int .i64 25, .string s, .int .i64 num, .int .i64 pos, .slice (some ⟨b, o, none⟩) 1 c] 24)))
   have HX_x := hid (hx_x.below (bBw w (.cells #[.int .i64 25, .string s, .int .i64 num, .int .i64 pos, .slice (some ⟨b, o, none⟩) 1 c] 24)))
   have HK_x := hid (hk_x.below (bBw w (.cells #[.int .i64 25, .string s, .int .i64 num, .int .i64 pos, .slice (some ⟨b, o, none⟩) 1 c] 24)))
   clear hx_x hk_x
   clear hl hk
   obtain ⟨fx0, fx1, fx2, fx3, fx4⟩ := HX_x.out
   go_enter Tryz.func68, Tryz.ntmps68
   go_wp2_with fail
   generalize hW0 : w.alloc (.cells #[.int .i64 25, .string s, .int .i64 num, .int .i64 pos, .slice (some ⟨b, o, none⟩) 1 c] 24) = W0 at *
   have HBOX := hid (show Below w.heap.size w W0 by rw [← hW0]; exact bBw _ _)
   clear hW0
   obtain ⟨x0, x1, x2, x3, x4⟩ := HAT.out
   obtain ⟨fx0, fx1, fx2, fx3, fx4⟩ := HX_x.out
   have r_0 := cRg x0
   have r_1 := cRg x1
   have r_2 := cRg x2
   have r_3 := cRg x3
   have r_4 := cRg x4
   have r_5 := cRg fx0
   have r_6 := cRg fx1
   have r_7 := cRg fx2
   have r_8 := cRg fx3
   have r_9 := cRg fx4
   have cQ0 : ∀ dd os, Calls Tryz.prog 68 #[.agg #[.int .i64 x.kind, .string x.name, .int .i64 x.num, .int .i64 x.pos, .slice Ax x.subs.length cx], .int .i64 3] (Go.Sort.grow (redrawn W0 dd) os) fun e w'' => e = .returned (.string Tx) ∧ ∃ p : Regrown, w'' = Go.Sort.grow (redrawn W0 p.d) p.os := fun dd os => by rw [HT_x.out]; exact Calls.regrown_of (hX x Ax cx 3 _ (HL.out.below (below_regrown _ _ _)) (HK_x.out.below (below_regrown _ _ _)) HD_x.out (by rw [← HT_x.out]; unfold maxT; omega))
   refine wp_region_quiet_below (by kernel_rfl) (by kernel_rfl) ?_
   repeat (go_big_quiet_step (first | with_reducible exact cQ0 _ _))
   refine wpQuiet_nil ?_
   intro _ hw'
   obtain ⟨⟨dq, osq⟩, hw''⟩ := hw'
   subst hw''
   clear cQ0 r_0 r_1 r_2 r_3 r_4 r_5 r_6 r_7 r_8 r_9
   have HG := hid (below_regrown W0 dq osq)
   generalize hG : Go.Sort.grow (redrawn W0 dq) osq = G at *
   clear hG
   go_wp2
   all_goals go_ret
   all_goals (refine ⟨ret_str ?_, bTh HBOX.out HG.out⟩; first | (rw [ATP.out (by assumption)]; done) | (rw [ATN.out (by omega)]; done) | (rw [ATP.out (by omega)]; done))
  ·have b25 : (k == 25) = false := by simpa using k25
   by_cases k26 : k = 26
   ·subst k26
    simp [exprS_succ, exprStep, desigStep] at hs
    obtain ⟨x, y, rfl⟩ := len2 (l := subs) (headB_len hs.1.1 (by omega))
    obtain ⟨b, o, Ax, cx, rfl, hx_x, hk_x⟩ := hk.one (x := x) (r := [y]) rfl
    obtain ⟨Ay, cy, hx_y, hk_y⟩ := hk.nth rfl (i := 1) (x := y) rfl (p := o + 5) (by omega)
    simp only [List.length_cons, List.length_nil, Nat.zero_add] at hlen
    simp only [Nd.sub, List.getD_cons_zero, List.getD_cons_succ] at hs
    have hd := hs.1.2
    have HD_x := hid (desig_expr hs.1.2)
    have hdy := hs.2
    have HD_y := hid hs.2
    clear hs
    have hTT : exprT (d + 1) ⟨26, s, num, pos, [x, y]⟩ = atL (exprT d) x 3 ++ ⟨#[91]⟩ ++ atL (exprT d) y 0 ++ ⟨#[93]⟩ := by simp [exprT_succ, exprTStep, Nd.sub, atL3 hd, atL0 hdy]
    have hRK : rankN ⟨26, s, num, pos, [x, y]⟩ = 3 := by simp [rankN]
    rw [hTT] at hsz
    obtain ⟨Tx, hT_x⟩ : ∃ T, T = atL (exprT d) x 3 := ⟨_, rfl⟩
    rw [← hT_x] at hsz hTT
    have HT_x := hid hT_x
    clear hT_x
    obtain ⟨Ty, hT_y⟩ : ∃ T, T = atL (exprT d) y 0 := ⟨_, rfl⟩
    rw [← hT_y] at hsz hTT
    have HT_y := hid hT_y
    clear hT_y
    unfold maxT at hsz
    try simp only [ByteArray.size_append, ba_size, List.size_toArray, List.length_cons, List.length_nil] at hsz
    have ATP := hid (show (3 : Int) < r → atL (exprT (d + 1)) ⟨26, s, num, pos, [x, y]⟩ r = ⟨#[40]⟩ ++ (Tx ++ ⟨#[91]⟩ ++ Ty ++ ⟨#[93]⟩) ++ ⟨#[41]⟩ from fun h => by unfold atL; rw [hRK, hTT, if_pos h])
    have ATN := hid (show ¬ (3 : Int) < r → atL (exprT (d + 1)) ⟨26, s, num, pos, [x, y]⟩ r = Tx ++ ⟨#[91]⟩ ++ Ty ++ ⟨#[93]⟩ from fun h => by unfold atL; rw [hRK, hTT, if_neg h])
    clear hTT hRK
    clear hd hdy
    have HAT := hid (bAt w ⟨26, s, num, pos, [x, y]⟩ (some ⟨b, o, none⟩) c 24)
    have HL := hid (hl.below (bBw w (.cells #[.int .i64 26, .string s, .int .i64 num, .int .i64 pos, .slice (some ⟨b, o, none⟩) 2 c] 24)))
    have HX_x := hid (hx_x.below (bBw w (.cells #[.int .i64 26, .string s, .int .i64 num, .int .i64 pos, .slice (some ⟨b, o, none⟩) 2 c] 24)))
    have HK_x := hid (hk_x.below (bBw w (.cells #[.int .i64 26, .string s, .int .i64 num, .int .i64 pos, .slice (some ⟨b, o, none⟩) 2 c] 24)))
    clear hx_x hk_x
    have HX_y := hid (hx_y.below (bBw w (.cells #[.int .i64 26, .string s, .int .i64 num, .int .i64 pos, .slice (some ⟨b, o, none⟩) 2 c] 24)))
    have HK_y := hid (hk_y.below (bBw w (.cells #[.int .i64 26, .string s, .int .i64 num, .int .i64 pos, .slice (some ⟨b, o, none⟩) 2 c] 24)))
    clear hx_y hk_y
    clear hl hk
    obtain ⟨fx0, fx1, fx2, fx3, fx4⟩ := HX_x.out
    obtain ⟨fy0, fy1, fy2, fy3, fy4⟩ := HX_y.out
    go_enter Tryz.func68, Tryz.ntmps68
    go_wp2_with fail
    generalize hW0 : w.alloc (.cells #[.int .i64 26, .string s, .int .i64 num, .int .i64 pos, .slice (some ⟨b, o, none⟩) 2 c] 24) = W0 at *
    have HBOX := hid (show Below w.heap.size w W0 by rw [← hW0]; exact bBw _ _)
    clear hW0
    obtain ⟨x0, x1, x2, x3, x4⟩ := HAT.out
    obtain ⟨fx0, fx1, fx2, fx3, fx4⟩ := HX_x.out
    obtain ⟨fy0, fy1, fy2, fy3, fy4⟩ := HX_y.out
    have r_0 := cRg x0
    have r_1 := cRg x1
    have r_2 := cRg x2
    have r_3 := cRg x3
    have r_4 := cRg x4
    have r_5 := cRg fx0
    have r_6 := cRg fx1
    have r_7 := cRg fx2
    have r_8 := cRg fx3
    have r_9 := cRg fx4
    have r_10 := cRg fy0
    have r_11 := cRg fy1
    have r_12 := cRg fy2
    have r_13 := cRg fy3
    have r_14 := cRg fy4
    have cQ0 : ∀ dd os, Calls Tryz.prog 68 #[.agg #[.int .i64 x.kind, .string x.name, .int .i64 x.num, .int .i64 x.pos, .slice Ax x.subs.length cx], .int .i64 3] (Go.Sort.grow (redrawn W0 dd) os) fun e w'' => e = .returned (.string Tx) ∧ ∃ p : Regrown, w'' = Go.Sort.grow (redrawn W0 p.d) p.os := fun dd os => by rw [HT_x.out]; exact Calls.regrown_of (hX x Ax cx 3 _ (HL.out.below (below_regrown _ _ _)) (HK_x.out.below (below_regrown _ _ _)) HD_x.out (by rw [← HT_x.out]; unfold maxT; omega))
    have cQ1 : ∀ dd os, Calls Tryz.prog 68 #[.agg #[.int .i64 y.kind, .string y.name, .int .i64 y.num, .int .i64 y.pos, .slice Ay y.subs.length cy], .int .i64 0] (Go.Sort.grow (redrawn W0 dd) os) fun e w'' => e = .returned (.string Ty) ∧ ∃ p : Regrown, w'' = Go.Sort.grow (redrawn W0 p.d) p.os := fun dd os => by rw [HT_y.out]; exact Calls.regrown_of (hX y Ay cy 0 _ (HL.out.below (below_regrown _ _ _)) (HK_y.out.below (below_regrown _ _ _)) HD_y.out (by rw [← HT_y.out]; unfold maxT; omega))
    refine wp_region_quiet_below (by kernel_rfl) (by kernel_rfl) ?_
    repeat (go_big_quiet_step (first | with_reducible exact cQ0 _ _ | with_reducible exact cQ1 _ _))
    refine wpQuiet_nil ?_
    intro _ hw'
    obtain ⟨⟨dq, osq⟩, hw''⟩ := hw'
    subst hw''
    clear cQ0 cQ1 r_0 r_1 r_2 r_3 r_4 r_5 r_6 r_7 r_8 r_9 r_10 r_11 r_12 r_13 r_14
    have HG := hid (below_regrown W0 dq osq)
    generalize hG : Go.Sort.grow (redrawn W0 dq) osq = G at *
    clear hG
    go_wp2
    all_goals go_ret
    all_goals (refine ⟨ret_str ?_, bTh HBOX.out HG.out⟩; first | (rw [ATP.out (by assumption)]; done) | (rw [ATN.out (by omega)]; done) | (rw [ATP.out (by omega)]; done))
   ·have b26 : (k == 26) = false := by simpa using k26
    by_cases k27 : k = 27
    ·subst k27
     simp [exprS_succ, exprStep, desigStep] at hs
     obtain ⟨x, rfl⟩ := len1 (l := subs) (headB_len hs.1 (by omega))
     obtain ⟨b, o, Ax, cx, rfl, hx_x, hk_x⟩ := hk.one (x := x) (r := []) rfl
     simp only [List.length_cons, List.length_nil, Nat.zero_add] at hlen
     simp only [Nd.sub, List.getD_cons_zero, List.getD_cons_succ] at hs
     have hd := hs.2
     have HD_x := hid (desig_expr hs.2)
     clear hs
     have hTT : exprT (d + 1) ⟨27, s, num, pos, [x]⟩ = atL (exprT d) x 3 ++ ⟨#[94]⟩ := by simp [exprT_succ, exprTStep, Nd.sub, atL3 hd]
     have hRK : rankN ⟨27, s, num, pos, [x]⟩ = 3 := by simp [rankN]
     rw [hTT] at hsz
     obtain ⟨Tx, hT_x⟩ : ∃ T, T = atL (exprT d) x 3 := ⟨_, rfl⟩
     rw [← hT_x] at hsz hTT
     have HT_x := hid hT_x
     clear hT_x
     unfold maxT at hsz
     try simp only [ByteArray.size_append, ba_size, List.size_toArray, List.length_cons, List.length_nil] at hsz
     have ATP := hid (show (3 : Int) < r → atL (exprT (d + 1)) ⟨27, s, num, pos, [x]⟩ r = ⟨#[40]⟩ ++ (Tx ++ ⟨#[94]⟩) ++ ⟨#[41]⟩ from fun h => by unfold atL; rw [hRK, hTT, if_pos h])
     have ATN := hid (show ¬ (3 : Int) < r → atL (exprT (d + 1)) ⟨27, s, num, pos, [x]⟩ r = Tx ++ ⟨#[94]⟩ from fun h => by unfold atL; rw [hRK, hTT, if_neg h])
     clear hTT hRK
     clear hd
     have HAT := hid (bAt w ⟨27, s, num, pos, [x]⟩ (some ⟨b, o, none⟩) c 24)
     have HL := hid (hl.below (bBw w (.cells #[.int .i64 27, .string s, .int .i64 num, .int .i64 pos, .slice (some ⟨b, o, none⟩) 1 c] 24)))
     have HX_x := hid (hx_x.below (bBw w (.cells #[.int .i64 27, .string s, .int .i64 num, .int .i64 pos, .slice (some ⟨b, o, none⟩) 1 c] 24)))
     have HK_x := hid (hk_x.below (bBw w (.cells #[.int .i64 27, .string s, .int .i64 num, .int .i64 pos, .slice (some ⟨b, o, none⟩) 1 c] 24)))
     clear hx_x hk_x
     clear hl hk
     obtain ⟨fx0, fx1, fx2, fx3, fx4⟩ := HX_x.out
     go_enter Tryz.func68, Tryz.ntmps68
     go_wp2_with fail
     generalize hW0 : w.alloc (.cells #[.int .i64 27, .string s, .int .i64 num, .int .i64 pos, .slice (some ⟨b, o, none⟩) 1 c] 24) = W0 at *
     have HBOX := hid (show Below w.heap.size w W0 by rw [← hW0]; exact bBw _ _)
     clear hW0
     refine (hX x Ax cx 3 _ HL.out HK_x.out HD_x.out (by rw [← HT_x.out]; unfold maxT; omega)).mono ?_
     rintro e w1 ⟨rfl, hb1⟩
     have HC1 := hid hb1
     clear hb1
     clear fx0 fx1 fx2 fx3 fx4
     obtain ⟨x0, x1, x2, x3, x4⟩ := nb HAT HC1
     obtain ⟨fx0, fx1, fx2, fx3, fx4⟩ := nb HX_x HC1
     rw [← HT_x.out]
     go_wp2
     all_goals go_ret
     all_goals (refine ⟨ret_str ?_, bTh HBOX.out HC1.out⟩; first | (rw [ATP.out (by assumption)]; done) | (rw [ATN.out (by omega)]; done) | (rw [ATP.out (by omega)]; done))
    ·have b27 : (k == 27) = false := by simpa using k27
     by_cases k28 : k = 28
     ·subst k28
      simp [exprS_succ, exprStep, desigStep] at hs
      obtain ⟨x, y, rfl⟩ := len2 (l := subs) (headB_len hs.1.1 (by omega))
      obtain ⟨b, o, Ax, cx, rfl, hx_x, hk_x⟩ := hk.one (x := x) (r := [y]) rfl
      obtain ⟨Ay, cy, hx_y, hk_y⟩ := hk.nth rfl (i := 1) (x := y) rfl (p := o + 5) (by omega)
      simp only [List.length_cons, List.length_nil, Nat.zero_add] at hlen
      simp only [Nd.sub, List.getD_cons_zero, List.getD_cons_succ] at hs
      have hd := hs.1.2
      have HD_x := hid (desig_expr hs.1.2)
      have hdy := hs.2
      have HD_y := hid hs.2
      clear hs
      have hTT : exprT (d + 1) ⟨28, s, num, pos, [x, y]⟩ = atL (exprT d) x 3 ++ ⟨#[123]⟩ ++ nameT y ++ ⟨#[125]⟩ := by simp [exprT_succ, exprTStep, Nd.sub, atL3 hd]
      have hRK : rankN ⟨28, s, num, pos, [x, y]⟩ = 3 := by simp [rankN]
      rw [hTT] at hsz
      obtain ⟨Tx, hT_x⟩ : ∃ T, T = atL (exprT d) x 3 := ⟨_, rfl⟩
      rw [← hT_x] at hsz hTT
      have HT_x := hid hT_x
      clear hT_x
      obtain ⟨Ty, hT_y⟩ : ∃ T, T = nameT y := ⟨_, rfl⟩
      rw [← hT_y] at hsz hTT
      have HT_y := hid hT_y
      clear hT_y
      unfold maxT at hsz
      try simp only [ByteArray.size_append, ba_size, List.size_toArray, List.length_cons, List.length_nil] at hsz
      have ATP := hid (show (3 : Int) < r → atL (exprT (d + 1)) ⟨28, s, num, pos, [x, y]⟩ r = ⟨#[40]⟩ ++ (Tx ++ ⟨#[123]⟩ ++ Ty ++ ⟨#[125]⟩) ++ ⟨#[41]⟩ from fun h => by unfold atL; rw [hRK, hTT, if_pos h])
      have ATN := hid (show ¬ (3 : Int) < r → atL (exprT (d + 1)) ⟨28, s, num, pos, [x, y]⟩ r = Tx ++ ⟨#[123]⟩ ++ Ty ++ ⟨#[125]⟩ from fun h => by unfold atL; rw [hRK, hTT, if_neg h])
      clear hTT hRK
      clear hd hdy
      have HAT := hid (bAt w ⟨28, s, num, pos, [x, y]⟩ (some ⟨b, o, none⟩) c 24)
      have HL := hid (hl.below (bBw w (.cells #[.int .i64 28, .string s, .int .i64 num, .int .i64 pos, .slice (some ⟨b, o, none⟩) 2 c] 24)))
      have HX_x := hid (hx_x.below (bBw w (.cells #[.int .i64 28, .string s, .int .i64 num, .int .i64 pos, .slice (some ⟨b, o, none⟩) 2 c] 24)))
      have HK_x := hid (hk_x.below (bBw w (.cells #[.int .i64 28, .string s, .int .i64 num, .int .i64 pos, .slice (some ⟨b, o, none⟩) 2 c] 24)))
      clear hx_x hk_x
      have HX_y := hid (hx_y.below (bBw w (.cells #[.int .i64 28, .string s, .int .i64 num, .int .i64 pos, .slice (some ⟨b, o, none⟩) 2 c] 24)))
      have HK_y := hid (hk_y.below (bBw w (.cells #[.int .i64 28, .string s, .int .i64 num, .int .i64 pos, .slice (some ⟨b, o, none⟩) 2 c] 24)))
      clear hx_y hk_y
      clear hl hk
      obtain ⟨fx0, fx1, fx2, fx3, fx4⟩ := HX_x.out
      obtain ⟨fy0, fy1, fy2, fy3, fy4⟩ := HX_y.out
      go_enter Tryz.func68, Tryz.ntmps68
      go_wp2_with fail
      generalize hW0 : w.alloc (.cells #[.int .i64 28, .string s, .int .i64 num, .int .i64 pos, .slice (some ⟨b, o, none⟩) 2 c] 24) = W0 at *
      have HBOX := hid (show Below w.heap.size w W0 by rw [← hW0]; exact bBw _ _)
      clear hW0
      obtain ⟨x0, x1, x2, x3, x4⟩ := HAT.out
      obtain ⟨fx0, fx1, fx2, fx3, fx4⟩ := HX_x.out
      obtain ⟨fy0, fy1, fy2, fy3, fy4⟩ := HX_y.out
      have r_0 := cRg x0
      have r_1 := cRg x1
      have r_2 := cRg x2
      have r_3 := cRg x3
      have r_4 := cRg x4
      have r_5 := cRg fx0
      have r_6 := cRg fx1
      have r_7 := cRg fx2
      have r_8 := cRg fx3
      have r_9 := cRg fx4
      have r_10 := cRg fy0
      have r_11 := cRg fy1
      have r_12 := cRg fy2
      have r_13 := cRg fy3
      have r_14 := cRg fy4
      have cQ0 : ∀ dd os, Calls Tryz.prog 68 #[.agg #[.int .i64 x.kind, .string x.name, .int .i64 x.num, .int .i64 x.pos, .slice Ax x.subs.length cx], .int .i64 3] (Go.Sort.grow (redrawn W0 dd) os) fun e w'' => e = .returned (.string Tx) ∧ ∃ p : Regrown, w'' = Go.Sort.grow (redrawn W0 p.d) p.os := fun dd os => by rw [HT_x.out]; exact Calls.regrown_of (hX x Ax cx 3 _ (HL.out.below (below_regrown _ _ _)) (HK_x.out.below (below_regrown _ _ _)) HD_x.out (by rw [← HT_x.out]; unfold maxT; omega))
      have cQ1 : ∀ dd os, Calls Tryz.prog 114 #[.agg #[.int .i64 y.kind, .string y.name, .int .i64 y.num, .int .i64 y.pos, .slice Ay y.subs.length cy]] (Go.Sort.grow (redrawn W0 dd) os) fun e w'' => e = .returned (.string Ty) ∧ ∃ p : Regrown, w'' = Go.Sort.grow (redrawn W0 p.d) p.os := fun dd os => by rw [HT_y.out]; exact Calls.regrown_of (typeName_any _ y Ay cy _ (HK_y.out.below (below_regrown _ _ _)) HD_y.out (by rw [← HT_y.out]; unfold maxT; omega))
      refine wp_region_quiet_below (by kernel_rfl) (by kernel_rfl) ?_
      repeat (go_big_quiet_step (first | with_reducible exact cQ0 _ _ | with_reducible exact cQ1 _ _))
      refine wpQuiet_nil ?_
      intro _ hw'
      obtain ⟨⟨dq, osq⟩, hw''⟩ := hw'
      subst hw''
      clear cQ0 cQ1 r_0 r_1 r_2 r_3 r_4 r_5 r_6 r_7 r_8 r_9 r_10 r_11 r_12 r_13 r_14
      have HG := hid (below_regrown W0 dq osq)
      generalize hG : Go.Sort.grow (redrawn W0 dq) osq = G at *
      clear hG
      go_wp2
      all_goals go_ret
      all_goals (refine ⟨ret_str ?_, bTh HBOX.out HG.out⟩; first | (rw [ATP.out (by assumption)]; done) | (rw [ATN.out (by omega)]; done) | (rw [ATP.out (by omega)]; done))
     ·have b28 : (k == 28) = false := by simpa using k28
      by_cases k29 : k = 29
      ·subst k29
       have hTT : exprT (d + 1) ⟨29, s, num, pos, subs⟩ = decT num := by simp [exprT_succ, exprTStep, Nd.sub]
       have hRK : rankN ⟨29, s, num, pos, subs⟩ = 3 := by simp [rankN]
       rw [hTT] at hsz
       obtain ⟨Tu, hT_u⟩ : ∃ T, T = decT num := ⟨_, rfl⟩
       rw [← hT_u] at hsz hTT
       have HT_u := hid hT_u
       clear hT_u
       unfold maxT at hsz
       try simp only [ByteArray.size_append, ba_size, List.size_toArray, List.length_cons, List.length_nil] at hsz
       have ATP := hid (show (3 : Int) < r → atL (exprT (d + 1)) ⟨29, s, num, pos, subs⟩ r = ⟨#[40]⟩ ++ (Tu) ++ ⟨#[41]⟩ from fun h => by unfold atL; rw [hRK, hTT, if_pos h])
       have ATN := hid (show ¬ (3 : Int) < r → atL (exprT (d + 1)) ⟨29, s, num, pos, subs⟩ r = Tu from fun h => by unfold atL; rw [hRK, hTT, if_neg h])
       clear hTT hRK
       simp [exprS_succ, exprStep, headB] at hs
       have HN := hid (show 0 ≤ num ∧ num ≤ 2147483647 by omega)
       clear hs
       have HAT := hid (bAt w ⟨29, s, num, pos, subs⟩ A c 24)
       have HL := hid (hl.below (bBw w (.cells #[.int .i64 29, .string s, .int .i64 num, .int .i64 pos, .slice A subs.length c] 24)))
       clear hl hk
       go_enter Tryz.func68, Tryz.ntmps68
       go_wp2_with fail
       generalize hW0 : w.alloc (.cells #[.int .i64 29, .string s, .int .i64 num, .int .i64 pos, .slice A subs.length c] 24) = W0 at *
       have HBOX := hid (show Below w.heap.size w W0 by rw [← hW0]; exact bBw _ _)
       clear hW0
       refine (Itoa_any num _ HL.out HN.out.1 HN.out.2).mono ?_
       rintro e w1 ⟨rfl, hb1⟩
       have HC1 := hid hb1
       clear hb1
       obtain ⟨x0, x1, x2, x3, x4⟩ := nb HAT HC1
       rw [← HT_u.out]
       go_wp2
       all_goals go_ret
       all_goals (refine ⟨ret_str ?_, bTh HBOX.out HC1.out⟩; first | (rw [ATP.out (by assumption)]; done) | (rw [ATN.out (by omega)]; done) | (rw [ATP.out (by omega)]; done))
      ·have b29 : (k == 29) = false := by simpa using k29
       by_cases k30 : k = 30
       ·subst k30
        have hTT : exprT (d + 1) ⟨30, s, num, pos, subs⟩ = ⟨#[84, 82, 85, 69]⟩ := by simp [exprT_succ, exprTStep, Nd.sub]
        have hRK : rankN ⟨30, s, num, pos, subs⟩ = 3 := by simp [rankN]
        rw [hTT] at hsz
        unfold maxT at hsz
        try simp only [ByteArray.size_append, ba_size, List.size_toArray, List.length_cons, List.length_nil] at hsz
        have ATP := hid (show (3 : Int) < r → atL (exprT (d + 1)) ⟨30, s, num, pos, subs⟩ r = ⟨#[40]⟩ ++ (⟨#[84, 82, 85, 69]⟩) ++ ⟨#[41]⟩ from fun h => by unfold atL; rw [hRK, hTT, if_pos h])
        have ATN := hid (show ¬ (3 : Int) < r → atL (exprT (d + 1)) ⟨30, s, num, pos, subs⟩ r = ⟨#[84, 82, 85, 69]⟩ from fun h => by unfold atL; rw [hRK, hTT, if_neg h])
        clear hTT hRK
        have HAT := hid (bAt w ⟨30, s, num, pos, subs⟩ A c 24)
        have HL := hid (hl.below (bBw w (.cells #[.int .i64 30, .string s, .int .i64 num, .int .i64 pos, .slice A subs.length c] 24)))
        clear hl hk
        go_enter Tryz.func68, Tryz.ntmps68
        go_wp2
        all_goals go_ret
        all_goals (refine ⟨ret_str ?_, bBw _ _⟩; first | (rw [ATP.out (by assumption)]; done) | (rw [ATN.out (by omega)]; done) | (rw [ATP.out (by omega)]; done))
       ·have b30 : (k == 30) = false := by simpa using k30
        by_cases k31 : k = 31
        ·subst k31
         have hTT : exprT (d + 1) ⟨31, s, num, pos, subs⟩ = ⟨#[70, 65, 76, 83, 69]⟩ := by simp [exprT_succ, exprTStep, Nd.sub]
         have hRK : rankN ⟨31, s, num, pos, subs⟩ = 3 := by simp [rankN]
         rw [hTT] at hsz
         unfold maxT at hsz
         try simp only [ByteArray.size_append, ba_size, List.size_toArray, List.length_cons, List.length_nil] at hsz
         have ATP := hid (show (3 : Int) < r → atL (exprT (d + 1)) ⟨31, s, num, pos, subs⟩ r = ⟨#[40]⟩ ++ (⟨#[70, 65, 76, 83, 69]⟩) ++ ⟨#[41]⟩ from fun h => by unfold atL; rw [hRK, hTT, if_pos h])
         have ATN := hid (show ¬ (3 : Int) < r → atL (exprT (d + 1)) ⟨31, s, num, pos, subs⟩ r = ⟨#[70, 65, 76, 83, 69]⟩ from fun h => by unfold atL; rw [hRK, hTT, if_neg h])
         clear hTT hRK
         have HAT := hid (bAt w ⟨31, s, num, pos, subs⟩ A c 24)
         have HL := hid (hl.below (bBw w (.cells #[.int .i64 31, .string s, .int .i64 num, .int .i64 pos, .slice A subs.length c] 24)))
         clear hl hk
         go_enter Tryz.func68, Tryz.ntmps68
         go_wp2
         all_goals go_ret
         all_goals (refine ⟨ret_str ?_, bBw _ _⟩; first | (rw [ATP.out (by assumption)]; done) | (rw [ATN.out (by omega)]; done) | (rw [ATP.out (by omega)]; done))
        ·have b31 : (k == 31) = false := by simpa using k31
         by_cases k32 : k = 32
         ·subst k32
          have hTT : exprT (d + 1) ⟨32, s, num, pos, subs⟩ = ⟨#[78, 73, 76]⟩ := by simp [exprT_succ, exprTStep, Nd.sub]
          have hRK : rankN ⟨32, s, num, pos, subs⟩ = 3 := by simp [rankN]
          rw [hTT] at hsz
          unfold maxT at hsz
          try simp only [ByteArray.size_append, ba_size, List.size_toArray, List.length_cons, List.length_nil] at hsz
          have ATP := hid (show (3 : Int) < r → atL (exprT (d + 1)) ⟨32, s, num, pos, subs⟩ r = ⟨#[40]⟩ ++ (⟨#[78, 73, 76]⟩) ++ ⟨#[41]⟩ from fun h => by unfold atL; rw [hRK, hTT, if_pos h])
          have ATN := hid (show ¬ (3 : Int) < r → atL (exprT (d + 1)) ⟨32, s, num, pos, subs⟩ r = ⟨#[78, 73, 76]⟩ from fun h => by unfold atL; rw [hRK, hTT, if_neg h])
          clear hTT hRK
          have HAT := hid (bAt w ⟨32, s, num, pos, subs⟩ A c 24)
          have HL := hid (hl.below (bBw w (.cells #[.int .i64 32, .string s, .int .i64 num, .int .i64 pos, .slice A subs.length c] 24)))
          clear hl hk
          go_enter Tryz.func68, Tryz.ntmps68
          go_wp2
          all_goals go_ret
          all_goals (refine ⟨ret_str ?_, bBw _ _⟩; first | (rw [ATP.out (by assumption)]; done) | (rw [ATN.out (by omega)]; done) | (rw [ATP.out (by omega)]; done))
         ·have b32 : (k == 32) = false := by simpa using k32
          by_cases k33 : k = 33
          ·subst k33
           simp [exprS_succ, exprStep, desigStep] at hs
           rcases subs with _ | ⟨x, r'⟩
           ·skip
            simp at hs
           ·skip
            simp only [List.length_cons] at hlen
            obtain ⟨b, o, Ax, cx, rfl, hx_x, hk_x⟩ := hk.one (x := x) (r := r') rfl
            obtain ⟨A', hA', hsl⟩ := slice_tail b o r'.length c (by have := hk.list.1; simpa using this)
            simp only [Nd.sub, List.getD_cons_zero] at hs
            have hd := hs.1.2
            have HD_x := hid (desig_expr hs.1.2)
            have HD_r := hid (show r'.all (exprS d) = true by have h := hs.2; simpa using h)
            clear hs
            have hTT : exprT (d + 1) ⟨33, s, num, pos, x :: r'⟩ = atL (exprT d) x 3 ++ argsT (exprT d) r' := by simp [exprT_succ, exprTStep, Nd.sub, atL3 hd]
            have hRK : rankN ⟨33, s, num, pos, x :: r'⟩ = 3 := by simp [rankN]
            rw [hTT] at hsz
            obtain ⟨Tx, hT_x⟩ : ∃ T, T = atL (exprT d) x 3 := ⟨_, rfl⟩
            rw [← hT_x] at hsz hTT
            have HT_x := hid hT_x
            clear hT_x
            obtain ⟨Tr, hT_r⟩ : ∃ T, T = argsT (exprT d) r' := ⟨_, rfl⟩
            rw [← hT_r] at hsz hTT
            have HT_r := hid hT_r
            clear hT_r
            unfold maxT at hsz
            try simp only [ByteArray.size_append, ba_size, List.size_toArray, List.length_cons, List.length_nil] at hsz
            have ATP := hid (show (3 : Int) < r → atL (exprT (d + 1)) ⟨33, s, num, pos, x :: r'⟩ r = ⟨#[40]⟩ ++ (Tx ++ Tr) ++ ⟨#[41]⟩ from fun h => by unfold atL; rw [hRK, hTT, if_pos h])
            have ATN := hid (show ¬ (3 : Int) < r → atL (exprT (d + 1)) ⟨33, s, num, pos, x :: r'⟩ r = Tx ++ Tr from fun h => by unfold atL; rw [hRK, hTT, if_neg h])
            clear hTT hRK
            clear hd
            have HAT := hid (bAt w ⟨33, s, num, pos, x :: r'⟩ (some ⟨b, o, none⟩) c 24)
            have HL := hid (hl.below (bBw w (.cells #[.int .i64 33, .string s, .int .i64 num, .int .i64 pos, .slice (some ⟨b, o, none⟩) (r'.length + 1) c] 24)))
            have HX_x := hid (hx_x.below (bBw w (.cells #[.int .i64 33, .string s, .int .i64 num, .int .i64 pos, .slice (some ⟨b, o, none⟩) (r'.length + 1) c] 24)))
            have HK_x := hid (hk_x.below (bBw w (.cells #[.int .i64 33, .string s, .int .i64 num, .int .i64 pos, .slice (some ⟨b, o, none⟩) (r'.length + 1) c] 24)))
            clear hx_x hk_x
            have HR := hid ((hk.list.tail hA').below (bBw w (.cells #[.int .i64 33, .string s, .int .i64 num, .int .i64 pos, .slice (some ⟨b, o, none⟩) (r'.length + 1) c] 24)))
            clear hl hk
            clear hA'
            obtain ⟨fx0, fx1, fx2, fx3, fx4⟩ := HX_x.out
            go_enter Tryz.func68, Tryz.ntmps68
            go_wp2_with fail
            generalize hW0 : w.alloc (.cells #[.int .i64 33, .string s, .int .i64 num, .int .i64 pos, .slice (some ⟨b, o, none⟩) (r'.length + 1) c] 24) = W0 at *
            have HBOX := hid (show Below w.heap.size w W0 by rw [← hW0]; exact bBw _ _)
            clear hW0
            obtain ⟨x0, x1, x2, x3, x4⟩ := HAT.out
            obtain ⟨fx0, fx1, fx2, fx3, fx4⟩ := HX_x.out
            have r_0 := cRg x0
            have r_1 := cRg x1
            have r_2 := cRg x2
            have r_3 := cRg x3
            have r_4 := cRg x4
            have r_5 := cRg fx0
            have r_6 := cRg fx1
            have r_7 := cRg fx2
            have r_8 := cRg fx3
            have r_9 := cRg fx4
            have cQ0 : ∀ dd os, Calls Tryz.prog 68 #[.agg #[.int .i64 x.kind, .string x.name, .int .i64 x.num, .int .i64 x.pos, .slice Ax x.subs.length cx], .int .i64 3] (Go.Sort.grow (redrawn W0 dd) os) fun e w'' => e = .returned (.string Tx) ∧ ∃ p : Regrown, w'' = Go.Sort.grow (redrawn W0 p.d) p.os := fun dd os => by rw [HT_x.out]; exact Calls.regrown_of (hX x Ax cx 3 _ (HL.out.below (below_regrown _ _ _)) (HK_x.out.below (below_regrown _ _ _)) HD_x.out (by rw [← HT_x.out]; unfold maxT; omega))
            have cQ1 : ∀ dd os, Calls Tryz.prog 116 #[.slice A' r'.length (c - 1)] (Go.Sort.grow (redrawn W0 dd) os) fun e w'' => e = .returned (.string Tr) ∧ ∃ p : Regrown, w'' = Go.Sort.grow (redrawn W0 p.d) p.os := fun dd os => by rw [HT_r.out]; exact Calls.regrown_of (sayArgs_any d hX r' A' (c - 1) _ (HL.out.below (below_regrown _ _ _)) (HR.out.below (below_regrown _ _ _)) HD_r.out (by rw [← HT_r.out]; unfold maxT; omega))
            refine wp_region_quiet_below (by kernel_rfl) (by kernel_rfl) ?_
            repeat (go_big_quiet_step (first | with_reducible exact cQ0 _ _ | with_reducible exact cQ1 _ _))
            refine wpQuiet_nil ?_
            intro _ hw'
            obtain ⟨⟨dq, osq⟩, hw''⟩ := hw'
            subst hw''
            clear cQ0 cQ1 r_0 r_1 r_2 r_3 r_4 r_5 r_6 r_7 r_8 r_9
            have HG := hid (below_regrown W0 dq osq)
            generalize hG : Go.Sort.grow (redrawn W0 dq) osq = G at *
            clear hG
            go_wp2
            all_goals go_ret
            all_goals (refine ⟨ret_str ?_, bTh HBOX.out HG.out⟩; first | (rw [ATP.out (by assumption)]; done) | (rw [ATN.out (by omega)]; done) | (rw [ATP.out (by omega)]; done))
          ·have b33 : (k == 33) = false := by simpa using k33
           by_cases k34 : k = 34
           ·subst k34
            simp [exprS_succ, exprStep, desigStep] at hs
            obtain ⟨x, rfl⟩ := len1 (l := subs) (headB_len hs.1 (by omega))
            obtain ⟨b, o, Ax, cx, rfl, hx_x, hk_x⟩ := hk.one (x := x) (r := []) rfl
            simp only [List.length_cons, List.length_nil, Nat.zero_add] at hlen
            simp only [Nd.sub, List.getD_cons_zero, List.getD_cons_succ] at hs
            have HD_x := hid hs.2
            clear hs
            have hTT : exprT (d + 1) ⟨34, s, num, pos, [x]⟩ = ⟨#[126]⟩ ++ atL (exprT d) x 3 := by simp [exprT_succ, exprTStep, Nd.sub]
            have hRK : rankN ⟨34, s, num, pos, [x]⟩ = 3 := by simp [rankN]
            rw [hTT] at hsz
            obtain ⟨Tx, hT_x⟩ : ∃ T, T = atL (exprT d) x 3 := ⟨_, rfl⟩
            rw [← hT_x] at hsz hTT
            have HT_x := hid hT_x
            clear hT_x
            unfold maxT at hsz
            try simp only [ByteArray.size_append, ba_size, List.size_toArray, List.length_cons, List.length_nil] at hsz
            have ATP := hid (show (3 : Int) < r → atL (exprT (d + 1)) ⟨34, s, num, pos, [x]⟩ r = ⟨#[40]⟩ ++ (⟨#[126]⟩ ++ Tx) ++ ⟨#[41]⟩ from fun h => by unfold atL; rw [hRK, hTT, if_pos h])
            have ATN := hid (show ¬ (3 : Int) < r → atL (exprT (d + 1)) ⟨34, s, num, pos, [x]⟩ r = ⟨#[126]⟩ ++ Tx from fun h => by unfold atL; rw [hRK, hTT, if_neg h])
            clear hTT hRK
            have HAT := hid (bAt w ⟨34, s, num, pos, [x]⟩ (some ⟨b, o, none⟩) c 24)
            have HL := hid (hl.below (bBw w (.cells #[.int .i64 34, .string s, .int .i64 num, .int .i64 pos, .slice (some ⟨b, o, none⟩) 1 c] 24)))
            have HX_x := hid (hx_x.below (bBw w (.cells #[.int .i64 34, .string s, .int .i64 num, .int .i64 pos, .slice (some ⟨b, o, none⟩) 1 c] 24)))
            have HK_x := hid (hk_x.below (bBw w (.cells #[.int .i64 34, .string s, .int .i64 num, .int .i64 pos, .slice (some ⟨b, o, none⟩) 1 c] 24)))
            clear hx_x hk_x
            clear hl hk
            obtain ⟨fx0, fx1, fx2, fx3, fx4⟩ := HX_x.out
            go_enter Tryz.func68, Tryz.ntmps68
            go_wp2_with fail
            generalize hW0 : w.alloc (.cells #[.int .i64 34, .string s, .int .i64 num, .int .i64 pos, .slice (some ⟨b, o, none⟩) 1 c] 24) = W0 at *
            have HBOX := hid (show Below w.heap.size w W0 by rw [← hW0]; exact bBw _ _)
            clear hW0
            refine (hX x Ax cx 3 _ HL.out HK_x.out HD_x.out (by rw [← HT_x.out]; unfold maxT; omega)).mono ?_
            rintro e w1 ⟨rfl, hb1⟩
            have HC1 := hid hb1
            clear hb1
            clear fx0 fx1 fx2 fx3 fx4
            obtain ⟨x0, x1, x2, x3, x4⟩ := nb HAT HC1
            obtain ⟨fx0, fx1, fx2, fx3, fx4⟩ := nb HX_x HC1
            rw [← HT_x.out]
            go_wp2
            all_goals go_ret
            all_goals (refine ⟨ret_str ?_, bTh HBOX.out HC1.out⟩; first | (rw [ATP.out (by assumption)]; done) | (rw [ATN.out (by omega)]; done) | (rw [ATP.out (by omega)]; done))
           ·have b34 : (k == 34) = false := by simpa using k34
            by_cases k35 : k = 35
            ·subst k35
             simp [exprS_succ, exprStep, desigStep] at hs
             obtain ⟨x, rfl⟩ := len1 (l := subs) (headB_len hs.1 (by omega))
             obtain ⟨b, o, Ax, cx, rfl, hx_x, hk_x⟩ := hk.one (x := x) (r := []) rfl
             simp only [List.length_cons, List.length_nil, Nat.zero_add] at hlen
             simp only [Nd.sub, List.getD_cons_zero, List.getD_cons_succ] at hs
             have HD_x := hid hs.2
             clear hs
             have hTT : exprT (d + 1) ⟨35, s, num, pos, [x]⟩ = ⟨#[45]⟩ ++ atL (exprT d) x 2 := by simp [exprT_succ, exprTStep, Nd.sub]
             have hRK : rankN ⟨35, s, num, pos, [x]⟩ = 1 := by simp [rankN]
             rw [hTT] at hsz
             obtain ⟨Tx, hT_x⟩ : ∃ T, T = atL (exprT d) x 2 := ⟨_, rfl⟩
             rw [← hT_x] at hsz hTT
             have HT_x := hid hT_x
             clear hT_x
             unfold maxT at hsz
             try simp only [ByteArray.size_append, ba_size, List.size_toArray, List.length_cons, List.length_nil] at hsz
             have ATP := hid (show (1 : Int) < r → atL (exprT (d + 1)) ⟨35, s, num, pos, [x]⟩ r = ⟨#[40]⟩ ++ (⟨#[45]⟩ ++ Tx) ++ ⟨#[41]⟩ from fun h => by unfold atL; rw [hRK, hTT, if_pos h])
             have ATN := hid (show ¬ (1 : Int) < r → atL (exprT (d + 1)) ⟨35, s, num, pos, [x]⟩ r = ⟨#[45]⟩ ++ Tx from fun h => by unfold atL; rw [hRK, hTT, if_neg h])
             clear hTT hRK
             have HAT := hid (bAt w ⟨35, s, num, pos, [x]⟩ (some ⟨b, o, none⟩) c 24)
             have HL := hid (hl.below (bBw w (.cells #[.int .i64 35, .string s, .int .i64 num, .int .i64 pos, .slice (some ⟨b, o, none⟩) 1 c] 24)))
             have HX_x := hid (hx_x.below (bBw w (.cells #[.int .i64 35, .string s, .int .i64 num, .int .i64 pos, .slice (some ⟨b, o, none⟩) 1 c] 24)))
             have HK_x := hid (hk_x.below (bBw w (.cells #[.int .i64 35, .string s, .int .i64 num, .int .i64 pos, .slice (some ⟨b, o, none⟩) 1 c] 24)))
             clear hx_x hk_x
             clear hl hk
             obtain ⟨fx0, fx1, fx2, fx3, fx4⟩ := HX_x.out
             go_enter Tryz.func68, Tryz.ntmps68
             go_wp2_with fail
             generalize hW0 : w.alloc (.cells #[.int .i64 35, .string s, .int .i64 num, .int .i64 pos, .slice (some ⟨b, o, none⟩) 1 c] 24) = W0 at *
             have HBOX := hid (show Below w.heap.size w W0 by rw [← hW0]; exact bBw _ _)
             clear hW0
             refine (hX x Ax cx 2 _ HL.out HK_x.out HD_x.out (by rw [← HT_x.out]; unfold maxT; omega)).mono ?_
             rintro e w1 ⟨rfl, hb1⟩
             have HC1 := hid hb1
             clear hb1
             clear fx0 fx1 fx2 fx3 fx4
             obtain ⟨x0, x1, x2, x3, x4⟩ := nb HAT HC1
             obtain ⟨fx0, fx1, fx2, fx3, fx4⟩ := nb HX_x HC1
             rw [← HT_x.out]
             go_wp2
             all_goals go_ret
             all_goals (refine ⟨ret_str ?_, bTh HBOX.out HC1.out⟩; first | (rw [ATP.out (by assumption)]; done) | (rw [ATN.out (by omega)]; done) | (rw [ATP.out (by omega)]; done))
            ·have b35 : (k == 35) = false := by simpa using k35
             by_cases k37 : k = 37
             ·subst k37
              simp [exprS_succ, exprStep, desigStep] at hs
              obtain ⟨x, y, rfl⟩ := len2 (l := subs) (headB_len hs.1.1 (by omega))
              obtain ⟨b, o, Ax, cx, rfl, hx_x, hk_x⟩ := hk.one (x := x) (r := [y]) rfl
              obtain ⟨Ay, cy, hx_y, hk_y⟩ := hk.nth rfl (i := 1) (x := y) rfl (p := o + 5) (by omega)
              simp only [List.length_cons, List.length_nil, Nat.zero_add] at hlen
              simp only [Nd.sub, List.getD_cons_zero, List.getD_cons_succ] at hs
              have HD_x := hid hs.1.2
              have HD_y := hid hs.2
              clear hs
              have hTT : exprT (d + 1) ⟨37, s, num, pos, [x, y]⟩ = atL (exprT d) x 1 ++ ⟨#[32, 73, 83, 32]⟩ ++ nameT y := by simp [exprT_succ, exprTStep, Nd.sub]
              have hRK : rankN ⟨37, s, num, pos, [x, y]⟩ = 0 := by simp [rankN]
              rw [hTT] at hsz
              obtain ⟨Tx, hT_x⟩ : ∃ T, T = atL (exprT d) x 1 := ⟨_, rfl⟩
              rw [← hT_x] at hsz hTT
              have HT_x := hid hT_x
              clear hT_x
              obtain ⟨Ty, hT_y⟩ : ∃ T, T = nameT y := ⟨_, rfl⟩
              rw [← hT_y] at hsz hTT
              have HT_y := hid hT_y
              clear hT_y
              unfold maxT at hsz
              try simp only [ByteArray.size_append, ba_size, List.size_toArray, List.length_cons, List.length_nil] at hsz
              have ATP := hid (show (0 : Int) < r → atL (exprT (d + 1)) ⟨37, s, num, pos, [x, y]⟩ r = ⟨#[40]⟩ ++ (Tx ++ ⟨#[32, 73, 83, 32]⟩ ++ Ty) ++ ⟨#[41]⟩ from fun h => by unfold atL; rw [hRK, hTT, if_pos h])
              have ATN := hid (show ¬ (0 : Int) < r → atL (exprT (d + 1)) ⟨37, s, num, pos, [x, y]⟩ r = Tx ++ ⟨#[32, 73, 83, 32]⟩ ++ Ty from fun h => by unfold atL; rw [hRK, hTT, if_neg h])
              clear hTT hRK
              have HAT := hid (bAt w ⟨37, s, num, pos, [x, y]⟩ (some ⟨b, o, none⟩) c 24)
              have HL := hid (hl.below (bBw w (.cells #[.int .i64 37, .string s, .int .i64 num, .int .i64 pos, .slice (some ⟨b, o, none⟩) 2 c] 24)))
              have HX_x := hid (hx_x.below (bBw w (.cells #[.int .i64 37, .string s, .int .i64 num, .int .i64 pos, .slice (some ⟨b, o, none⟩) 2 c] 24)))
              have HK_x := hid (hk_x.below (bBw w (.cells #[.int .i64 37, .string s, .int .i64 num, .int .i64 pos, .slice (some ⟨b, o, none⟩) 2 c] 24)))
              clear hx_x hk_x
              have HX_y := hid (hx_y.below (bBw w (.cells #[.int .i64 37, .string s, .int .i64 num, .int .i64 pos, .slice (some ⟨b, o, none⟩) 2 c] 24)))
              have HK_y := hid (hk_y.below (bBw w (.cells #[.int .i64 37, .string s, .int .i64 num, .int .i64 pos, .slice (some ⟨b, o, none⟩) 2 c] 24)))
              clear hx_y hk_y
              clear hl hk
              obtain ⟨fx0, fx1, fx2, fx3, fx4⟩ := HX_x.out
              obtain ⟨fy0, fy1, fy2, fy3, fy4⟩ := HX_y.out
              go_enter Tryz.func68, Tryz.ntmps68
              go_wp2_with fail
              generalize hW0 : w.alloc (.cells #[.int .i64 37, .string s, .int .i64 num, .int .i64 pos, .slice (some ⟨b, o, none⟩) 2 c] 24) = W0 at *
              have HBOX := hid (show Below w.heap.size w W0 by rw [← hW0]; exact bBw _ _)
              clear hW0
              obtain ⟨x0, x1, x2, x3, x4⟩ := HAT.out
              obtain ⟨fx0, fx1, fx2, fx3, fx4⟩ := HX_x.out
              obtain ⟨fy0, fy1, fy2, fy3, fy4⟩ := HX_y.out
              have r_0 := cRg x0
              have r_1 := cRg x1
              have r_2 := cRg x2
              have r_3 := cRg x3
              have r_4 := cRg x4
              have r_5 := cRg fx0
              have r_6 := cRg fx1
              have r_7 := cRg fx2
              have r_8 := cRg fx3
              have r_9 := cRg fx4
              have r_10 := cRg fy0
              have r_11 := cRg fy1
              have r_12 := cRg fy2
              have r_13 := cRg fy3
              have r_14 := cRg fy4
              have cQ0 : ∀ dd os, Calls Tryz.prog 68 #[.agg #[.int .i64 x.kind, .string x.name, .int .i64 x.num, .int .i64 x.pos, .slice Ax x.subs.length cx], .int .i64 1] (Go.Sort.grow (redrawn W0 dd) os) fun e w'' => e = .returned (.string Tx) ∧ ∃ p : Regrown, w'' = Go.Sort.grow (redrawn W0 p.d) p.os := fun dd os => by rw [HT_x.out]; exact Calls.regrown_of (hX x Ax cx 1 _ (HL.out.below (below_regrown _ _ _)) (HK_x.out.below (below_regrown _ _ _)) HD_x.out (by rw [← HT_x.out]; unfold maxT; omega))
              have cQ1 : ∀ dd os, Calls Tryz.prog 114 #[.agg #[.int .i64 y.kind, .string y.name, .int .i64 y.num, .int .i64 y.pos, .slice Ay y.subs.length cy]] (Go.Sort.grow (redrawn W0 dd) os) fun e w'' => e = .returned (.string Ty) ∧ ∃ p : Regrown, w'' = Go.Sort.grow (redrawn W0 p.d) p.os := fun dd os => by rw [HT_y.out]; exact Calls.regrown_of (typeName_any _ y Ay cy _ (HK_y.out.below (below_regrown _ _ _)) HD_y.out (by rw [← HT_y.out]; unfold maxT; omega))
              refine wp_region_quiet_below (by kernel_rfl) (by kernel_rfl) ?_
              repeat (go_big_quiet_step (first | with_reducible exact cQ0 _ _ | with_reducible exact cQ1 _ _))
              refine wpQuiet_nil ?_
              intro _ hw'
              obtain ⟨⟨dq, osq⟩, hw''⟩ := hw'
              subst hw''
              clear cQ0 cQ1 r_0 r_1 r_2 r_3 r_4 r_5 r_6 r_7 r_8 r_9 r_10 r_11 r_12 r_13 r_14
              have HG := hid (below_regrown W0 dq osq)
              generalize hG : Go.Sort.grow (redrawn W0 dq) osq = G at *
              clear hG
              go_wp2
              all_goals go_ret
              all_goals (refine ⟨ret_str ?_, bTh HBOX.out HG.out⟩; first | (rw [ATP.out (by assumption)]; done) | (rw [ATN.out (by omega)]; done) | (rw [ATP.out (by omega)]; done))
             ·have b37 : (k == 37) = false := by simpa using k37
              by_cases k36 : k = 36
              ·subst k36
               simp [exprS_succ, exprStep, desigStep] at hs
               have hlv : levelN s = 0 ∨ levelN s = 1 ∨ levelN s = 2 := by
                have h := hs.1
                unfold levelN at h ⊢
                split <;> simp_all <;> split <;> simp_all <;> split <;> simp_all
               obtain ⟨x, y, rfl⟩ := len2 (l := subs) (by have h := hs.1.2; omega)
               obtain ⟨b, o, Ax, cx, rfl, hx_x, hk_x⟩ := hk.one (x := x) (r := [y]) rfl
               obtain ⟨Ay, cy, hx_y, hk_y⟩ := hk.nth rfl (i := 1) (x := y) rfl (p := o + 5) (by omega)
               simp only [List.length_cons, List.length_nil, Nat.zero_add] at hlen
               have HD_x := hid (show exprS d x = true by have h := hs.2; simp at h; exact h.1)
               have HD_y := hid (show exprS d y = true by have h := hs.2; simp at h; exact h.2)
               clear hs
               rcases hlv with hlv | hlv | hlv
               ·skip
                have hTT : exprT (d + 1) ⟨36, s, num, pos, [x, y]⟩ = atL (exprT d) x 1 ++ ⟨#[32]⟩ ++ s ++ ⟨#[32]⟩ ++ atL (exprT d) y 1 := by simp [exprT_succ, exprTStep, Nd.sub, hlv]
                have hRK : rankN ⟨36, s, num, pos, [x, y]⟩ = 0 := by simp [rankN, hlv]
                rw [hTT] at hsz
                obtain ⟨Tx, hT_x⟩ : ∃ T, T = atL (exprT d) x 1 := ⟨_, rfl⟩
                rw [← hT_x] at hsz hTT
                have HT_x := hid hT_x
                clear hT_x
                obtain ⟨Ty, hT_y⟩ : ∃ T, T = atL (exprT d) y 1 := ⟨_, rfl⟩
                rw [← hT_y] at hsz hTT
                have HT_y := hid hT_y
                clear hT_y
                unfold maxT at hsz
                try simp only [ByteArray.size_append, ba_size, List.size_toArray, List.length_cons, List.length_nil] at hsz
                have ATP := hid (show (0 : Int) < r → atL (exprT (d + 1)) ⟨36, s, num, pos, [x, y]⟩ r = ⟨#[40]⟩ ++ (Tx ++ ⟨#[32]⟩ ++ s ++ ⟨#[32]⟩ ++ Ty) ++ ⟨#[41]⟩ from fun h => by unfold atL; rw [hRK, hTT, if_pos h])
                have ATN := hid (show ¬ (0 : Int) < r → atL (exprT (d + 1)) ⟨36, s, num, pos, [x, y]⟩ r = Tx ++ ⟨#[32]⟩ ++ s ++ ⟨#[32]⟩ ++ Ty from fun h => by unfold atL; rw [hRK, hTT, if_neg h])
                clear hTT hRK
                have HLV := hid (show levelP s = 0 by rw [levelP_eq (by omega), hlv])
                clear hlv
                have HAT := hid (bAt w ⟨36, s, num, pos, [x, y]⟩ (some ⟨b, o, none⟩) c 24)
                have HL := hid (hl.below (bBw w (.cells #[.int .i64 36, .string s, .int .i64 num, .int .i64 pos, .slice (some ⟨b, o, none⟩) 2 c] 24)))
                have HX_x := hid (hx_x.below (bBw w (.cells #[.int .i64 36, .string s, .int .i64 num, .int .i64 pos, .slice (some ⟨b, o, none⟩) 2 c] 24)))
                have HK_x := hid (hk_x.below (bBw w (.cells #[.int .i64 36, .string s, .int .i64 num, .int .i64 pos, .slice (some ⟨b, o, none⟩) 2 c] 24)))
                clear hx_x hk_x
                have HX_y := hid (hx_y.below (bBw w (.cells #[.int .i64 36, .string s, .int .i64 num, .int .i64 pos, .slice (some ⟨b, o, none⟩) 2 c] 24)))
                have HK_y := hid (hk_y.below (bBw w (.cells #[.int .i64 36, .string s, .int .i64 num, .int .i64 pos, .slice (some ⟨b, o, none⟩) 2 c] 24)))
                clear hx_y hk_y
                clear hl hk
                obtain ⟨fx0, fx1, fx2, fx3, fx4⟩ := HX_x.out
                obtain ⟨fy0, fy1, fy2, fy3, fy4⟩ := HX_y.out
                go_enter Tryz.func68, Tryz.ntmps68
                go_wp2_with fail
                generalize hW0 : w.alloc (.cells #[.int .i64 36, .string s, .int .i64 num, .int .i64 pos, .slice (some ⟨b, o, none⟩) 2 c] 24) = W0 at *
                have HBOX := hid (show Below w.heap.size w W0 by rw [← hW0]; exact bBw _ _)
                clear hW0
                obtain ⟨x0, x1, x2, x3, x4⟩ := HAT.out
                obtain ⟨fx0, fx1, fx2, fx3, fx4⟩ := HX_x.out
                obtain ⟨fy0, fy1, fy2, fy3, fy4⟩ := HX_y.out
                refine (level_any s _).mono ?_
                rintro e w1 ⟨rfl, rfl⟩
                rw [HLV.out]
                go_wp2_with fail
                have r_0 := cRg x0
                have r_1 := cRg x1
                have r_2 := cRg x2
                have r_3 := cRg x3
                have r_4 := cRg x4
                have r_5 := cRg fx0
                have r_6 := cRg fx1
                have r_7 := cRg fx2
                have r_8 := cRg fx3
                have r_9 := cRg fx4
                have r_10 := cRg fy0
                have r_11 := cRg fy1
                have r_12 := cRg fy2
                have r_13 := cRg fy3
                have r_14 := cRg fy4
                have cQ0 : ∀ dd os, Calls Tryz.prog 68 #[.agg #[.int .i64 x.kind, .string x.name, .int .i64 x.num, .int .i64 x.pos, .slice Ax x.subs.length cx], .int .i64 1] (Go.Sort.grow (redrawn W0 dd) os) fun e w'' => e = .returned (.string Tx) ∧ ∃ p : Regrown, w'' = Go.Sort.grow (redrawn W0 p.d) p.os := fun dd os => by rw [HT_x.out]; exact Calls.regrown_of (hX x Ax cx 1 _ (HL.out.below (below_regrown _ _ _)) (HK_x.out.below (below_regrown _ _ _)) HD_x.out (by rw [← HT_x.out]; unfold maxT; omega))
                have cQ1 : ∀ dd os, Calls Tryz.prog 68 #[.agg #[.int .i64 y.kind, .string y.name, .int .i64 y.num, .int .i64 y.pos, .slice Ay y.subs.length cy], .int .i64 1] (Go.Sort.grow (redrawn W0 dd) os) fun e w'' => e = .returned (.string Ty) ∧ ∃ p : Regrown, w'' = Go.Sort.grow (redrawn W0 p.d) p.os := fun dd os => by rw [HT_y.out]; exact Calls.regrown_of (hX y Ay cy 1 _ (HL.out.below (below_regrown _ _ _)) (HK_y.out.below (below_regrown _ _ _)) HD_y.out (by rw [← HT_y.out]; unfold maxT; omega))
                refine wp_region_quiet_below (by kernel_rfl) (by kernel_rfl) ?_
                repeat (go_big_quiet_step (first | with_reducible exact cQ0 _ _ | with_reducible exact cQ1 _ _))
                refine wpQuiet_nil ?_
                intro _ hw'
                obtain ⟨⟨dq, osq⟩, hw''⟩ := hw'
                subst hw''
                clear cQ0 cQ1 r_0 r_1 r_2 r_3 r_4 r_5 r_6 r_7 r_8 r_9 r_10 r_11 r_12 r_13 r_14
                have HG := hid (below_regrown W0 dq osq)
                generalize hG : Go.Sort.grow (redrawn W0 dq) osq = G at *
                clear hG
                go_wp2
                all_goals go_ret
                all_goals (refine ⟨ret_str ?_, bTh HBOX.out HG.out⟩; first | (rw [ATP.out (by assumption)]; done) | (rw [ATN.out (by omega)]; done) | (rw [ATP.out (by omega)]; done))
               ·skip
                have hTT : exprT (d + 1) ⟨36, s, num, pos, [x, y]⟩ = atL (exprT d) x 1 ++ ⟨#[32]⟩ ++ s ++ ⟨#[32]⟩ ++ atL (exprT d) y 2 := by simp [exprT_succ, exprTStep, Nd.sub, hlv]
                have hRK : rankN ⟨36, s, num, pos, [x, y]⟩ = 1 := by simp [rankN, hlv]
                rw [hTT] at hsz
                obtain ⟨Tx, hT_x⟩ : ∃ T, T = atL (exprT d) x 1 := ⟨_, rfl⟩
                rw [← hT_x] at hsz hTT
                have HT_x := hid hT_x
                clear hT_x
                obtain ⟨Ty, hT_y⟩ : ∃ T, T = atL (exprT d) y 2 := ⟨_, rfl⟩
                rw [← hT_y] at hsz hTT
                have HT_y := hid hT_y
                clear hT_y
                unfold maxT at hsz
                try simp only [ByteArray.size_append, ba_size, List.size_toArray, List.length_cons, List.length_nil] at hsz
                have ATP := hid (show (1 : Int) < r → atL (exprT (d + 1)) ⟨36, s, num, pos, [x, y]⟩ r = ⟨#[40]⟩ ++ (Tx ++ ⟨#[32]⟩ ++ s ++ ⟨#[32]⟩ ++ Ty) ++ ⟨#[41]⟩ from fun h => by unfold atL; rw [hRK, hTT, if_pos h])
                have ATN := hid (show ¬ (1 : Int) < r → atL (exprT (d + 1)) ⟨36, s, num, pos, [x, y]⟩ r = Tx ++ ⟨#[32]⟩ ++ s ++ ⟨#[32]⟩ ++ Ty from fun h => by unfold atL; rw [hRK, hTT, if_neg h])
                clear hTT hRK
                have HLV := hid (show levelP s = 1 by rw [levelP_eq (by omega), hlv])
                clear hlv
                have HAT := hid (bAt w ⟨36, s, num, pos, [x, y]⟩ (some ⟨b, o, none⟩) c 24)
                have HL := hid (hl.below (bBw w (.cells #[.int .i64 36, .string s, .int .i64 num, .int .i64 pos, .slice (some ⟨b, o, none⟩) 2 c] 24)))
                have HX_x := hid (hx_x.below (bBw w (.cells #[.int .i64 36, .string s, .int .i64 num, .int .i64 pos, .slice (some ⟨b, o, none⟩) 2 c] 24)))
                have HK_x := hid (hk_x.below (bBw w (.cells #[.int .i64 36, .string s, .int .i64 num, .int .i64 pos, .slice (some ⟨b, o, none⟩) 2 c] 24)))
                clear hx_x hk_x
                have HX_y := hid (hx_y.below (bBw w (.cells #[.int .i64 36, .string s, .int .i64 num, .int .i64 pos, .slice (some ⟨b, o, none⟩) 2 c] 24)))
                have HK_y := hid (hk_y.below (bBw w (.cells #[.int .i64 36, .string s, .int .i64 num, .int .i64 pos, .slice (some ⟨b, o, none⟩) 2 c] 24)))
                clear hx_y hk_y
                clear hl hk
                obtain ⟨fx0, fx1, fx2, fx3, fx4⟩ := HX_x.out
                obtain ⟨fy0, fy1, fy2, fy3, fy4⟩ := HX_y.out
                go_enter Tryz.func68, Tryz.ntmps68
                go_wp2_with fail
                generalize hW0 : w.alloc (.cells #[.int .i64 36, .string s, .int .i64 num, .int .i64 pos, .slice (some ⟨b, o, none⟩) 2 c] 24) = W0 at *
                have HBOX := hid (show Below w.heap.size w W0 by rw [← hW0]; exact bBw _ _)
                clear hW0
                obtain ⟨x0, x1, x2, x3, x4⟩ := HAT.out
                obtain ⟨fx0, fx1, fx2, fx3, fx4⟩ := HX_x.out
                obtain ⟨fy0, fy1, fy2, fy3, fy4⟩ := HX_y.out
                refine (level_any s _).mono ?_
                rintro e w1 ⟨rfl, rfl⟩
                rw [HLV.out]
                go_wp2_with fail
                have r_0 := cRg x0
                have r_1 := cRg x1
                have r_2 := cRg x2
                have r_3 := cRg x3
                have r_4 := cRg x4
                have r_5 := cRg fx0
                have r_6 := cRg fx1
                have r_7 := cRg fx2
                have r_8 := cRg fx3
                have r_9 := cRg fx4
                have r_10 := cRg fy0
                have r_11 := cRg fy1
                have r_12 := cRg fy2
                have r_13 := cRg fy3
                have r_14 := cRg fy4
                have cQ0 : ∀ dd os, Calls Tryz.prog 68 #[.agg #[.int .i64 x.kind, .string x.name, .int .i64 x.num, .int .i64 x.pos, .slice Ax x.subs.length cx], .int .i64 1] (Go.Sort.grow (redrawn W0 dd) os) fun e w'' => e = .returned (.string Tx) ∧ ∃ p : Regrown, w'' = Go.Sort.grow (redrawn W0 p.d) p.os := fun dd os => by rw [HT_x.out]; exact Calls.regrown_of (hX x Ax cx 1 _ (HL.out.below (below_regrown _ _ _)) (HK_x.out.below (below_regrown _ _ _)) HD_x.out (by rw [← HT_x.out]; unfold maxT; omega))
                have cQ1 : ∀ dd os, Calls Tryz.prog 68 #[.agg #[.int .i64 y.kind, .string y.name, .int .i64 y.num, .int .i64 y.pos, .slice Ay y.subs.length cy], .int .i64 2] (Go.Sort.grow (redrawn W0 dd) os) fun e w'' => e = .returned (.string Ty) ∧ ∃ p : Regrown, w'' = Go.Sort.grow (redrawn W0 p.d) p.os := fun dd os => by rw [HT_y.out]; exact Calls.regrown_of (hX y Ay cy 2 _ (HL.out.below (below_regrown _ _ _)) (HK_y.out.below (below_regrown _ _ _)) HD_y.out (by rw [← HT_y.out]; unfold maxT; omega))
                refine wp_region_quiet_below (by kernel_rfl) (by kernel_rfl) ?_
                repeat (go_big_quiet_step (first | with_reducible exact cQ0 _ _ | with_reducible exact cQ1 _ _))
                refine wpQuiet_nil ?_
                intro _ hw'
                obtain ⟨⟨dq, osq⟩, hw''⟩ := hw'
                subst hw''
                clear cQ0 cQ1 r_0 r_1 r_2 r_3 r_4 r_5 r_6 r_7 r_8 r_9 r_10 r_11 r_12 r_13 r_14
                have HG := hid (below_regrown W0 dq osq)
                generalize hG : Go.Sort.grow (redrawn W0 dq) osq = G at *
                clear hG
                go_wp2
                all_goals go_ret
                all_goals (refine ⟨ret_str ?_, bTh HBOX.out HG.out⟩; first | (rw [ATP.out (by assumption)]; done) | (rw [ATN.out (by omega)]; done) | (rw [ATP.out (by omega)]; done))
               ·skip
                have hTT : exprT (d + 1) ⟨36, s, num, pos, [x, y]⟩ = atL (exprT d) x 2 ++ ⟨#[32]⟩ ++ s ++ ⟨#[32]⟩ ++ atL (exprT d) y 3 := by simp [exprT_succ, exprTStep, Nd.sub, hlv]
                have hRK : rankN ⟨36, s, num, pos, [x, y]⟩ = 2 := by simp [rankN, hlv]
                rw [hTT] at hsz
                obtain ⟨Tx, hT_x⟩ : ∃ T, T = atL (exprT d) x 2 := ⟨_, rfl⟩
                rw [← hT_x] at hsz hTT
                have HT_x := hid hT_x
                clear hT_x
                obtain ⟨Ty, hT_y⟩ : ∃ T, T = atL (exprT d) y 3 := ⟨_, rfl⟩
                rw [← hT_y] at hsz hTT
                have HT_y := hid hT_y
                clear hT_y
                unfold maxT at hsz
                try simp only [ByteArray.size_append, ba_size, List.size_toArray, List.length_cons, List.length_nil] at hsz
                have ATP := hid (show (2 : Int) < r → atL (exprT (d + 1)) ⟨36, s, num, pos, [x, y]⟩ r = ⟨#[40]⟩ ++ (Tx ++ ⟨#[32]⟩ ++ s ++ ⟨#[32]⟩ ++ Ty) ++ ⟨#[41]⟩ from fun h => by unfold atL; rw [hRK, hTT, if_pos h])
                have ATN := hid (show ¬ (2 : Int) < r → atL (exprT (d + 1)) ⟨36, s, num, pos, [x, y]⟩ r = Tx ++ ⟨#[32]⟩ ++ s ++ ⟨#[32]⟩ ++ Ty from fun h => by unfold atL; rw [hRK, hTT, if_neg h])
                clear hTT hRK
                have HLV := hid (show levelP s = 2 by rw [levelP_eq (by omega), hlv])
                clear hlv
                have HAT := hid (bAt w ⟨36, s, num, pos, [x, y]⟩ (some ⟨b, o, none⟩) c 24)
                have HL := hid (hl.below (bBw w (.cells #[.int .i64 36, .string s, .int .i64 num, .int .i64 pos, .slice (some ⟨b, o, none⟩) 2 c] 24)))
                have HX_x := hid (hx_x.below (bBw w (.cells #[.int .i64 36, .string s, .int .i64 num, .int .i64 pos, .slice (some ⟨b, o, none⟩) 2 c] 24)))
                have HK_x := hid (hk_x.below (bBw w (.cells #[.int .i64 36, .string s, .int .i64 num, .int .i64 pos, .slice (some ⟨b, o, none⟩) 2 c] 24)))
                clear hx_x hk_x
                have HX_y := hid (hx_y.below (bBw w (.cells #[.int .i64 36, .string s, .int .i64 num, .int .i64 pos, .slice (some ⟨b, o, none⟩) 2 c] 24)))
                have HK_y := hid (hk_y.below (bBw w (.cells #[.int .i64 36, .string s, .int .i64 num, .int .i64 pos, .slice (some ⟨b, o, none⟩) 2 c] 24)))
                clear hx_y hk_y
                clear hl hk
                obtain ⟨fx0, fx1, fx2, fx3, fx4⟩ := HX_x.out
                obtain ⟨fy0, fy1, fy2, fy3, fy4⟩ := HX_y.out
                go_enter Tryz.func68, Tryz.ntmps68
                go_wp2_with fail
                generalize hW0 : w.alloc (.cells #[.int .i64 36, .string s, .int .i64 num, .int .i64 pos, .slice (some ⟨b, o, none⟩) 2 c] 24) = W0 at *
                have HBOX := hid (show Below w.heap.size w W0 by rw [← hW0]; exact bBw _ _)
                clear hW0
                obtain ⟨x0, x1, x2, x3, x4⟩ := HAT.out
                obtain ⟨fx0, fx1, fx2, fx3, fx4⟩ := HX_x.out
                obtain ⟨fy0, fy1, fy2, fy3, fy4⟩ := HX_y.out
                refine (level_any s _).mono ?_
                rintro e w1 ⟨rfl, rfl⟩
                rw [HLV.out]
                go_wp2_with fail
                have r_0 := cRg x0
                have r_1 := cRg x1
                have r_2 := cRg x2
                have r_3 := cRg x3
                have r_4 := cRg x4
                have r_5 := cRg fx0
                have r_6 := cRg fx1
                have r_7 := cRg fx2
                have r_8 := cRg fx3
                have r_9 := cRg fx4
                have r_10 := cRg fy0
                have r_11 := cRg fy1
                have r_12 := cRg fy2
                have r_13 := cRg fy3
                have r_14 := cRg fy4
                have cQ0 : ∀ dd os, Calls Tryz.prog 68 #[.agg #[.int .i64 x.kind, .string x.name, .int .i64 x.num, .int .i64 x.pos, .slice Ax x.subs.length cx], .int .i64 2] (Go.Sort.grow (redrawn W0 dd) os) fun e w'' => e = .returned (.string Tx) ∧ ∃ p : Regrown, w'' = Go.Sort.grow (redrawn W0 p.d) p.os := fun dd os => by rw [HT_x.out]; exact Calls.regrown_of (hX x Ax cx 2 _ (HL.out.below (below_regrown _ _ _)) (HK_x.out.below (below_regrown _ _ _)) HD_x.out (by rw [← HT_x.out]; unfold maxT; omega))
                have cQ1 : ∀ dd os, Calls Tryz.prog 68 #[.agg #[.int .i64 y.kind, .string y.name, .int .i64 y.num, .int .i64 y.pos, .slice Ay y.subs.length cy], .int .i64 3] (Go.Sort.grow (redrawn W0 dd) os) fun e w'' => e = .returned (.string Ty) ∧ ∃ p : Regrown, w'' = Go.Sort.grow (redrawn W0 p.d) p.os := fun dd os => by rw [HT_y.out]; exact Calls.regrown_of (hX y Ay cy 3 _ (HL.out.below (below_regrown _ _ _)) (HK_y.out.below (below_regrown _ _ _)) HD_y.out (by rw [← HT_y.out]; unfold maxT; omega))
                refine wp_region_quiet_below (by kernel_rfl) (by kernel_rfl) ?_
                repeat (go_big_quiet_step (first | with_reducible exact cQ0 _ _ | with_reducible exact cQ1 _ _))
                refine wpQuiet_nil ?_
                intro _ hw'
                obtain ⟨⟨dq, osq⟩, hw''⟩ := hw'
                subst hw''
                clear cQ0 cQ1 r_0 r_1 r_2 r_3 r_4 r_5 r_6 r_7 r_8 r_9 r_10 r_11 r_12 r_13 r_14
                have HG := hid (below_regrown W0 dq osq)
                generalize hG : Go.Sort.grow (redrawn W0 dq) osq = G at *
                clear hG
                go_wp2
                all_goals go_ret
                all_goals (refine ⟨ret_str ?_, bTh HBOX.out HG.out⟩; first | (rw [ATP.out (by assumption)]; done) | (rw [ATN.out (by omega)]; done) | (rw [ATP.out (by omega)]; done))
              ·have b36 : (k == 36) = false := by simpa using k36
               exfalso
               simp [exprS_succ, exprStep, desigStep, k24, k25, k26, k27, k28, k29, k30, k31, k32, k33, k34, k35, k36, k37] at hs
theorem sayE_any : ∀ d : Nat, Says_expr d
 | 0 => fun _ _ _ _ _ _ hk => hk.elim
 | d + 1 => sayE_step d (sayE_any d)
end Go.Proofs.YtneohanphabneaaGreatDoor
