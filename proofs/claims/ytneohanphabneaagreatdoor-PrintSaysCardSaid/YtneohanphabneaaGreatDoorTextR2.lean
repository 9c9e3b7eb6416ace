/-
The document's text of a tree, the walks: expressions. Conditions: the tree lies in memory and is shaped; the text's length is below a bound.
-/
import Derived.Test.YtneohanphabneaaGreatDoorTextR
namespace Go.Proofs.YtneohanphabneaaGreatDoor
set_option linter.unusedSimpArgs false
set_option linter.unusedVariables false
open Go.RowKit Go.BigFrame
theorem desig_expr {d : Nat} {n : Nd} (h : desigS d n = true) : exprS d n = true := by
 cases d with
 | zero => simp [desigS, edS] at h
 | succ d =>
  rw [desigS_succ] at h
  rw [exprS_succ]
  have hk : n.kind = 24 ∨ n.kind = 25 ∨ n.kind = 26 ∨ n.kind = 27 ∨ n.kind = 28 := by
   by_cases k1 : n.kind = 24
   ·exact .inl k1
   by_cases k2 : n.kind = 25
   ·exact .inr (.inl k2)
   by_cases k3 : n.kind = 26
   ·exact .inr (.inr (.inl k3))
   by_cases k4 : n.kind = 27
   ·exact .inr (.inr (.inr (.inl k4)))
   by_cases k5 : n.kind = 28
   ·exact .inr (.inr (.inr (.inr k5)))
   simp [desigStep, k1, k2, k3, k4, k5] at h
  unfold exprStep
  rcases hk with k | k | k | k | k <;> simp [k, h]
theorem joinB_take_le (sep : ByteArray) : ∀ (l : List ByteArray) (j : Nat), (joinB sep (l.take j)).size ≤ (joinB sep l).size
 | [], j => by simp [joinB]
 | [x], 0 => by simp [joinB, ba_size]
 | [x], j + 1 => by simp
 | x :: y :: r, 0 => by simp [joinB, ba_size]
 | x :: y :: r, 1 => by simp [joinB, ByteArray.size_append]; omega
 | x :: y :: r, j + 2 => by
  have ih := joinB_take_le sep (y :: r) (j + 1)
  simp only [List.take_succ_cons, joinB, ByteArray.size_append] at ih ⊢
  omega
theorem joinB_step (sep : ByteArray) (E : Nd → ByteArray) {l : List Nd} {j : Nat} {y : Nd} (hy : l[j]? = some y) : joinB sep ((l.take (j + 1)).map E) = if j = 0 then E y else joinB sep ((l.take j).map E) ++ sep ++ E y := by
 have hlt := at_lt hy
 rw [List.take_succ_eq_append_getElem hlt, at_eq hy, List.map_append, List.map_cons, List.map_nil]
 by_cases h : j = 0
 ·subst h; simp [joinB]
 ·rw [if_neg h, joinB_snoc]
  intro h0
  have := congrArg List.length h0
  simp only [List.length_map, List.length_take, List.length_nil] at this
  omega
theorem join_le (sep : ByteArray) (E : Nd → ByteArray) (l : List Nd) (j : Nat) : (joinB sep ((l.take j).map E)).size ≤ (joinB sep (l.map E)).size := by
 rw [List.map_take]; exact joinB_take_le _ _ _
theorem all_at {p : Nd → Bool} {l : List Nd} {j : Nat} {y : Nd} (h : l.all p = true) (hy : l[j]? = some y) : p y = true := List.all_eq_true.1 h y (List.mem_of_getElem? hy)
/-- What is claimed of the text of one expression, d levels deep. -/
def Says_exprText (d : Nat) : Prop := ∀ (n : Nd) (A : Option Addr) (c : Nat) (w : World), Kids w d n A c → exprS d n = true → (exprT d n).size ≤ maxT →
  Calls Tryz.prog 45 #[.agg #[.int .i64 n.kind, .string n.name, .int .i64 n.num, .int .i64 n.pos, .slice A n.subs.length c]] w fun e w' => e = .returned (.string (exprT d n)) ∧ Below w.heap.size w w'
set_option maxHeartbeats 1000000 in
theorem atLeast_any (d : Nat) (hX : Says_exprText d) (n : Nd) (A : Option Addr) (c : Nat) (r : Int) (w : World) (hk : Kids w d n A c) (hs : exprS d n = true) (hsz : (atL (exprT d) n r).size ≤ maxT) :
  Calls Tryz.prog 97 #[.agg #[.int .i64 n.kind, .string n.name, .int .i64 n.num, .int .i64 n.pos, .slice A n.subs.length c], .int .i64 r] w fun e w' => e = .returned (.string (atL (exprT d) n r)) ∧ Below w.heap.size w w' := by
 obtain ⟨k, s, num, pos, subs⟩ := n
 have HS := hid hs
 clear hs
 have HKN := hid (hk.below (bBw w (.cells #[.int .i64 k, .string s, .int .i64 num, .int .i64 pos, .slice A subs.length c] 24)))
 obtain ⟨RK, hRK⟩ : ∃ RK, RK = rankN ⟨k, s, num, pos, subs⟩ := ⟨_, rfl⟩
 obtain ⟨T, hT⟩ : ∃ T, T = exprT d ⟨k, s, num, pos, subs⟩ := ⟨_, rfl⟩
 have HT := hid hT
 have HRK := hid hRK
 unfold atL at hsz
 rw [← hRK, ← hT] at hsz
 clear hRK hT
 unfold maxT at hsz
 by_cases h1 : RK < r
 ·skip
  rw [if_pos h1] at hsz
  have hz : T.size + 2 ≤ 1099511627776 := by simp [ByteArray.size_append, ba_size] at hsz; omega
  clear hsz
  have H1 := hid h1
  have HAT := hid (bAt w ⟨k, s, num, pos, subs⟩ A c 24)
  clear hk
  go_enter Tryz.func97, Tryz.ntmps97
  go_wp2_with fail
  generalize hW0 : w.alloc (.cells #[.int .i64 k, .string s, .int .i64 num, .int .i64 pos, .slice A subs.length c] 24) = W0 at *
  have HBOX := hid (show Below w.heap.size w W0 by rw [← hW0]; exact bBw _ _)
  clear hW0
  refine (rank_any ⟨k, s, num, pos, subs⟩ A c _).mono ?_
  rintro e w1 ⟨rfl, hb1⟩
  have HC1 := hid hb1
  clear hb1
  obtain ⟨x0, x1, x2, x3, x4⟩ := nb HAT HC1
  rw [← HRK.out]
  go_wp2_with fail
  refine (hX ⟨k, s, num, pos, subs⟩ A c _ (HKN.out.below HC1.out) HS.out (by rw [← HT.out]; unfold maxT; omega)).mono ?_
  rintro e w2 ⟨rfl, hb2⟩
  have HC2 := hid (bTh HC1.out hb2)
  clear hb2
  clear x0 x1 x2 x3 x4
  obtain ⟨x0, x1, x2, x3, x4⟩ := nb HAT HC2
  rw [← HT.out]
  go_wp2
  go_ret
  exact ⟨ret_str (by unfold atL; rw [← HRK.out, ← HT.out, if_pos (by have h9 := H1.out; omega)]), bTh HBOX.out HC2.out⟩
 ·skip
  rw [if_neg h1] at hsz
  have hz : T.size ≤ 1099511627776 := by exact hsz
  clear hsz
  have H1 := hid h1
  have HAT := hid (bAt w ⟨k, s, num, pos, subs⟩ A c 24)
  clear hk
  go_enter Tryz.func97, Tryz.ntmps97
  go_wp2_with fail
  generalize hW0 : w.alloc (.cells #[.int .i64 k, .string s, .int .i64 num, .int .i64 pos, .slice A subs.length c] 24) = W0 at *
  have HBOX := hid (show Below w.heap.size w W0 by rw [← hW0]; exact bBw _ _)
  clear hW0
  refine (rank_any ⟨k, s, num, pos, subs⟩ A c _).mono ?_
  rintro e w1 ⟨rfl, hb1⟩
  have HC1 := hid hb1
  clear hb1
  obtain ⟨x0, x1, x2, x3, x4⟩ := nb HAT HC1
  rw [← HRK.out]
  go_wp2_with fail
  refine (hX ⟨k, s, num, pos, subs⟩ A c _ (HKN.out.below HC1.out) HS.out (by rw [← HT.out]; unfold maxT; omega)).mono ?_
  rintro e w2 ⟨rfl, hb2⟩
  have HC2 := hid (bTh HC1.out hb2)
  clear hb2
  clear x0 x1 x2 x3 x4
  obtain ⟨x0, x1, x2, x3, x4⟩ := nb HAT HC2
  rw [← HT.out]
  go_wp2
  go_ret
  exact ⟨ret_str (by unfold atL; rw [← HRK.out, ← HT.out, if_neg (by have h9 := H1.out; omega)]), bTh HBOX.out HC2.out⟩
set_option maxRecDepth 100000 in
set_option maxHeartbeats 1000000 in
theorem argsText_any (d : Nat) (hX : Says_exprText d) (l : List Nd) (A : Option Addr) (c : Nat) (w : World) (hk : KidsL w d l A c) (hs : l.all (exprS d) = true) (hsz : (argsT (exprT d) l).size ≤ maxT) :
  Calls Tryz.prog 96 #[.slice A l.length c] w fun e w' => e = .returned (.string (argsT (exprT d) l)) ∧ Below w.heap.size w w' := by
 have hlen := hk.len
 unfold maxLen at hlen
 have HK := hid hk
 have HS := hid hs
 clear hk hs
 unfold argsT maxT at hsz
 simp only [ByteArray.size_append, ba_size, List.size_toArray, List.length_cons, List.length_nil] at hsz
 have HSZ := hid hsz
 clear hsz
 go_enter Tryz.func96, Tryz.ntmps96
 go_wp2
 go_loopw [3, 4] (fun ss ii wr => ∃ (j : Nat) (S : ByteArray), j ≤ l.length ∧ ii = .int .i64 j ∧ ss = .string S ∧ S = ⟨#[40]⟩ ++ joinB ⟨#[44, 32]⟩ ((l.take j).map (exprT d)) ∧ Below w.heap.size w wr) (fun _ ii _ => l.length - (intOf ii).toNat)
 case atStart => exact ⟨0, ⟨#[40]⟩, Nat.zero_le _, rfl, rfl, rfl, Below.refl _ _⟩
 case round =>
  obtain ⟨j, S, hj, rfl, rfl, hS, hbr⟩ := hrel
  have HBR := hid hbr
  have hSz : S.size ≤ 1099511627777 := by
   have h1 := join_le ⟨#[44, 32]⟩ (exprT d) l j
   have h2 := HSZ.out
   rw [hS]
   simp only [ByteArray.size_append, ba_size, List.size_toArray, List.length_cons, List.length_nil]
   omega
  have HSS := hid hS
  clear hbr hS
  by_cases hlt : j < l.length
  ·obtain ⟨y, hy⟩ : ∃ y, l[j]? = some y := ⟨_, List.getElem?_eq_getElem hlt⟩
   obtain ⟨b, o, Ax, cx, hA, hx, hkx⟩ := HK.out.2.2 j y hy
   subst hA
   have STEP := hid (joinB_step ⟨#[44, 32]⟩ (exprT d) hy)
   have hle := join_le ⟨#[44, 32]⟩ (exprT d) l (j + 1)
   rw [STEP.out] at hle
   have HKX := hid hkx
   have HX := hid hx
   have HSY := hid (all_at HS.out hy)
   clear hkx hx hy
   obtain ⟨T, hT⟩ : ∃ T, T = exprT d y := ⟨_, rfl⟩
   have HT := hid hT
   rw [← hT] at hle
   clear hT
   have hTz : T.size ≤ 1099511627776 := by
    have h2 := HSZ.out
    split at hle
    ·omega
    ·simp only [ByteArray.size_append, ba_size, List.size_toArray, List.length_cons, List.length_nil] at hle
     omega
   clear hle
   obtain ⟨x0, x1, x2, x3, x4⟩ := HX.out.below HBR.out
   by_cases h0 : j = 0
   ·skip
    have h0c : decide (0 < j) = false := decide_eq_false (by omega)
    have h0b : decide (0 < (j : Int)) = false := decide_eq_false (by omega)
    have H0 := hid h0
    clear h0
    go_wp2_with fail
    refine (hX y Ax cx wr (HKX.out.below HBR.out) HSY.out (by rw [← HT.out]; exact hTz)).mono ?_
    rintro e w2 ⟨rfl, hb2⟩
    rw [← HT.out]
    have HB2 := hid (bTh HBR.out hb2)
    clear hb2
    go_wp2
    go_roundw
    case rel => exact ⟨j + 1, _, by omega, by go_num, rfl, by rw [STEP.out, if_pos H0.out, HSS.out, H0.out, HT.out]; simp [joinB, ba_nil], HB2.out⟩
    case measure => simp [intOf]; omega
   ·skip
    have h0c : decide (0 < j) = true := decide_eq_true (by omega)
    have h0b : decide (0 < (j : Int)) = true := decide_eq_true (by omega)
    have H0 := hid h0
    clear h0
    go_wp2_with fail
    refine (hX y Ax cx wr (HKX.out.below HBR.out) HSY.out (by rw [← HT.out]; exact hTz)).mono ?_
    rintro e w2 ⟨rfl, hb2⟩
    rw [← HT.out]
    have HB2 := hid (bTh HBR.out hb2)
    clear hb2
    go_wp2
    go_roundw
    case rel => exact ⟨j + 1, _, by omega, by go_num, rfl, by rw [STEP.out, if_neg H0.out, HSS.out, HT.out]; simp only [ba_assoc], HB2.out⟩
    case measure => simp [intOf]; omega
  ·go_wp2
   go_ret
   exact ⟨ret_str (by rw [HSS.out, List.take_of_length_le (by omega)]; rfl), HBR.out⟩
set_option maxRecDepth 100000 in
set_option maxHeartbeats 16000000 in
theorem exprText_step (d : Nat) (hX : Says_exprText d) : Says_exprText (d + 1) := by
 intro n A c w hk hs hsz
 obtain ⟨k, s, num, pos, subs⟩ := n
 have hlen := hk.len
 unfold maxLen at hlen
 simp only at hlen
 by_cases k24 : k = 24
 ·subst k24
  have hTT : exprT (d + 1) ⟨24, s, num, pos, subs⟩ = s := by simp [exprT_succ, exprTStep, Nd.sub]
  rw [hTT] at hsz
  have HTT := hid hTT
  clear hTT
  have HAT := hid (bAt w ⟨24, s, num, pos, subs⟩ A c 24)
  clear hk
  go_enter Tryz.func45, Tryz.ntmps45
  go_wp2
  go_ret
  exact ⟨ret_str HTT.out.symm, bBw _ _⟩
 ·have b24 : (k == 24) = false := by simpa using k24
  by_cases k25 : k = 25
  ·subst k25
   simp [exprS_succ, exprStep, desigStep] at hs
   obtain ⟨x, rfl⟩ := len1 (l := subs) (headB_len hs.1 (by omega))
   obtain ⟨b, o, Ax, cx, rfl, hx_x, hk_x⟩ := hk.one (x := x) (r := []) rfl
   simp only [List.length_cons, List.length_nil, Nat.zero_add] at hlen
   simp only [Nd.sub, List.getD_cons_zero, List.getD_cons_succ] at hs
   have HD_x := hid (desig_expr hs.2)
   clear hs
   have hTT : exprT (d + 1) ⟨25, s, num, pos, [x]⟩ = exprT d x ++ ⟨#[46]⟩ ++ s := by simp [exprT_succ, exprTStep, Nd.sub]
   rw [hTT] at hsz
   obtain ⟨Tx, hT_x⟩ : ∃ T, T = exprT d x := ⟨_, rfl⟩
   rw [← hT_x] at hsz hTT
   have HT_x := hid hT_x
   clear hT_x
   unfold maxT at hsz
   simp only [ByteArray.size_append, ba_size, List.size_toArray, List.length_cons, List.length_nil] at hsz
   have HTT := hid hTT
   clear hTT
   have HAT := hid (bAt w ⟨25, s, num, pos, [x]⟩ (some ⟨b, o, none⟩) c 24)
   have HX_x := hid (hx_x.below (bBw w (.cells #[.int .i64 25, .string s, .int .i64 num, .int .i64 pos, .slice (some ⟨b, o, none⟩) 1 c] 24)))
   have HK_x := hid (hk_x.below (bBw w (.cells #[.int .i64 25, .string s, .int .i64 num, .int .i64 pos, .slice (some ⟨b, o, none⟩) 1 c] 24)))
   clear hx_x hk_x
   clear hk
   obtain ⟨fx0, fx1, fx2, fx3, fx4⟩ := HX_x.out
   go_enter Tryz.func45, Tryz.ntmps45
   go_wp2
   generalize hW0 : w.alloc (.cells #[.int .i64 25, .string s, .int .i64 num, .int .i64 pos, .slice (some ⟨b, o, none⟩) 1 c] 24) = W0 at *
   have HBOX := hid (show Below w.heap.size w W0 by rw [← hW0]; exact bBw _ _)
   clear hW0
   obtain ⟨x0, x1, x2, x3, x4⟩ := HAT.out
   obtain ⟨fx0, fx1, fx2, fx3, fx4⟩ := HX_x.out
   have r_0 := cRg x0
   have r_1 := cRg x1
   have r_2 := cRg x2
   have r_3 := cRg x3
   have r_4 := cRg x4
   have r_5 := cRg fx0
   have r_6 := cRg fx1
   have r_7 := cRg fx2
   have r_8 := cRg fx3
   have r_9 := cRg fx4
   have cQ0 : ∀ dd os, Calls Tryz.prog 45 #[.agg #[.int .i64 x.kind, .string x.name, .int .i64 x.num, .int .i64 x.pos, .slice Ax x.subs.length cx]] (Go.Sort.grow (redrawn W0 dd) os) fun e w'' => e = .returned (.string Tx) ∧ ∃ p : Regrown, w'' = Go.Sort.grow (redrawn W0 p.d) p.os := fun dd os => by rw [HT_x.out]; exact Calls.regrown_of (hX x Ax cx _ (HK_x.out.below (below_regrown _ _ _)) HD_x.out (by rw [← HT_x.out]; unfold maxT; omega))
   refine wp_region_quiet_below (by kernel_rfl) (by kernel_rfl) ?_
   repeat (go_big_quiet_step (first | with_reducible exact cQ0 _ _))
   refine wpQuiet_nil ?_
   intro _ hw'
   obtain ⟨⟨dq, osq⟩, hw''⟩ := hw'
   subst hw''
   have HG := hid (below_regrown W0 dq osq)
   generalize hG : Go.Sort.grow (redrawn W0 dq) osq = G at *
   clear hG
   go_wp2
   go_ret
   exact ⟨ret_str HTT.out.symm, bTh HBOX.out HG.out⟩
  ·have b25 : (k == 25) = false := by simpa using k25
   by_cases k26 : k = 26
   ·subst k26
    simp [exprS_succ, exprStep, desigStep] at hs
    obtain ⟨x, y, rfl⟩ := len2 (l := subs) (headB_len hs.1.1 (by omega))
    obtain ⟨b, o, Ax, cx, rfl, hx_x, hk_x⟩ := hk.one (x := x) (r := [y]) rfl
    obtain ⟨Ay, cy, hx_y, hk_y⟩ := hk.nth rfl (i := 1) (x := y) rfl (p := o + 5) (by omega)
    simp only [List.length_cons, List.length_nil, Nat.zero_add] at hlen
    simp only [Nd.sub, List.getD_cons_zero, List.getD_cons_succ] at hs
    have HD_x := hid (desig_expr hs.1.2)
    have HD_y := hid hs.2
    clear hs
    have hTT : exprT (d + 1) ⟨26, s, num, pos, [x, y]⟩ = exprT d x ++ ⟨#[91]⟩ ++ exprT d y ++ ⟨#[93]⟩ := by simp [exprT_succ, exprTStep, Nd.sub]
    rw [hTT] at hsz
    obtain ⟨Tx, hT_x⟩ : ∃ T, T = exprT d x := ⟨_, rfl⟩
    rw [← hT_x] at hsz hTT
    have HT_x := hid hT_x
    clear hT_x
    obtain ⟨Ty, hT_y⟩ : ∃ T, T = exprT d y := ⟨_, rfl⟩
    rw [← hT_y] at hsz hTT
    have HT_y := hid hT_y
    clear hT_y
    unfold maxT at hsz
    simp only [ByteArray.size_append, ba_size, List.size_toArray, List.length_cons, List.length_nil] at hsz
    have HTT := hid hTT
    clear hTT
    have HAT := hid (bAt w ⟨26, s, num, pos, [x, y]⟩ (some ⟨b, o, none⟩) c 24)
    have HX_x := hid (hx_x.below (bBw w (.cells #[.int .i64 26, .string s, .int .i64 num, .int .i64 pos, .slice (some ⟨b, o, none⟩) 2 c] 24)))
    have HK_x := hid (hk_x.below (bBw w (.cells #[.int .i64 26, .string s, .int .i64 num, .int .i64 pos, .slice (some ⟨b, o, none⟩) 2 c] 24)))
    clear hx_x hk_x
    have HX_y := hid (hx_y.below (bBw w (.cells #[.int .i64 26, .string s, .int .i64 num, .int .i64 pos, .slice (some ⟨b, o, none⟩) 2 c] 24)))
    have HK_y := hid (hk_y.below (bBw w (.cells #[.int .i64 26, .string s, .int .i64 num, .int .i64 pos, .slice (some ⟨b, o, none⟩) 2 c] 24)))
    clear hx_y hk_y
    clear hk
    obtain ⟨fx0, fx1, fx2, fx3, fx4⟩ := HX_x.out
    obtain ⟨fy0, fy1, fy2, fy3, fy4⟩ := HX_y.out
    go_enter Tryz.func45, Tryz.ntmps45
    go_wp2
    generalize hW0 : w.alloc (.cells #[.int .i64 26, .string s, .int .i64 num, .int .i64 pos, .slice (some ⟨b, o, none⟩) 2 c] 24) = W0 at *
    have HBOX := hid (show Below w.heap.size w W0 by rw [← hW0]; exact bBw _ _)
    clear hW0
    obtain ⟨x0, x1, x2, x3, x4⟩ := HAT.out
    obtain ⟨fx0, fx1, fx2, fx3, fx4⟩ := HX_x.out
    obtain ⟨fy0, fy1, fy2, fy3, fy4⟩ := HX_y.out
    have r_0 := cRg x0
    have r_1 := cRg x1
    have r_2 := cRg x2
    have r_3 := cRg x3
    have r_4 := cRg x4
    have r_5 := cRg fx0
    have r_6 := cRg fx1
    have r_7 := cRg fx2
    have r_8 := cRg fx3
    have r_9 := cRg fx4
    have r_10 := cRg fy0
    have r_11 := cRg fy1
    have r_12 := cRg fy2
    have r_13 := cRg fy3
    have r_14 := cRg fy4
    have cQ0 : ∀ dd os, Calls Tryz.prog 45 #[.agg #[.int .i64 x.kind, .string x.name, .int .i64 x.num, .int .i64 x.pos, .slice Ax x.subs.length cx]] (Go.Sort.grow (redrawn W0 dd) os) fun e w'' => e = .returned (.string Tx) ∧ ∃ p : Regrown, w'' = Go.Sort.grow (redrawn W0 p.d) p.os := fun dd os => by rw [HT_x.out]; exact Calls.regrown_of (hX x Ax cx _ (HK_x.out.below (below_regrown _ _ _)) HD_x.out (by rw [← HT_x.out]; unfold maxT; omega))
    have cQ1 : ∀ dd os, Calls Tryz.prog 45 #[.agg #[.int .i64 y.kind, .string y.name, .int .i64 y.num, .int .i64 y.pos, .slice Ay y.subs.length cy]] (Go.Sort.grow (redrawn W0 dd) os) fun e w'' => e = .returned (.string Ty) ∧ ∃ p : Regrown, w'' = Go.Sort.grow (redrawn W0 p.d) p.os := fun dd os => by rw [HT_y.out]; exact Calls.regrown_of (hX y Ay cy _ (HK_y.out.below (below_regrown _ _ _)) HD_y.out (by rw [← HT_y.out]; unfold maxT; omega))
    refine wp_region_quiet_below (by kernel_rfl) (by kernel_rfl) ?_
    repeat (go_big_quiet_step (first | with_reducible exact cQ0 _ _ | with_reducible exact cQ1 _ _))
    refine wpQuiet_nil ?_
    intro _ hw'
    obtain ⟨⟨dq, osq⟩, hw''⟩ := hw'
    subst hw''
    have HG := hid (below_regrown W0 dq osq)
    generalize hG : Go.Sort.grow (redrawn W0 dq) osq = G at *
    clear hG
    go_wp2
    go_ret
    exact ⟨ret_str HTT.out.symm, bTh HBOX.out HG.out⟩
   ·have b26 : (k == 26) = false := by simpa using k26
    by_cases k27 : k = 27
    ·subst k27
     simp [exprS_succ, exprStep, desigStep] at hs
     obtain ⟨x, rfl⟩ := len1 (l := subs) (headB_len hs.1 (by omega))
     obtain ⟨b, o, Ax, cx, rfl, hx_x, hk_x⟩ := hk.one (x := x) (r := []) rfl
     simp only [List.length_cons, List.length_nil, Nat.zero_add] at hlen
     simp only [Nd.sub, List.getD_cons_zero, List.getD_cons_succ] at hs
     have HD_x := hid (desig_expr hs.2)
     clear hs
     have hTT : exprT (d + 1) ⟨27, s, num, pos, [x]⟩ = exprT d x ++ ⟨#[94]⟩ := by simp [exprT_succ, exprTStep, Nd.sub]
     rw [hTT] at hsz
     obtain ⟨Tx, hT_x⟩ : ∃ T, T = exprT d x := ⟨_, rfl⟩
     rw [← hT_x] at hsz hTT
     have HT_x := hid hT_x
     clear hT_x
     unfold maxT at hsz
     simp only [ByteArray.size_append, ba_size, List.size_toArray, List.length_cons, List.length_nil] at hsz
     have HTT := hid hTT
     clear hTT
     have HAT := hid (bAt w ⟨27, s, num, pos, [x]⟩ (some ⟨b, o, none⟩) c 24)
     have HX_x := hid (hx_x.below (bBw w (.cells #[.int .i64 27, .string s, .int .i64 num, .int .i64 pos, .slice (some ⟨b, o, none⟩) 1 c] 24)))
     have HK_x := hid (hk_x.below (bBw w (.cells #[.int .i64 27, .string s, .int .i64 num, .int .i64 pos, .slice (some ⟨b, o, none⟩) 1 c] 24)))
     clear hx_x hk_x
     clear hk
     obtain ⟨fx0, fx1, fx2, fx3, fx4⟩ := HX_x.out
     go_enter Tryz.func45, Tryz.ntmps45
     go_wp2_with fail
     generalize hW0 : w.alloc (.cells #[.int .i64 27, .string s, .int .i64 num, .int .i64 pos, .slice (some ⟨b, o, none⟩) 1 c] 24) = W0 at *
     have HBOX := hid (show Below w.heap.size w W0 by rw [← hW0]; exact bBw _ _)
     clear hW0
     refine (hX x Ax cx _ HK_x.out HD_x.out (by rw [← HT_x.out]; unfold maxT; omega)).mono ?_
     rintro e w1 ⟨rfl, hb1⟩
     have HC1 := hid hb1
     clear hb1
     clear fx0 fx1 fx2 fx3 fx4
     obtain ⟨x0, x1, x2, x3, x4⟩ := nb HAT HC1
     obtain ⟨fx0, fx1, fx2, fx3, fx4⟩ := nb HX_x HC1
     rw [← HT_x.out]
     go_wp2
     go_ret
     exact ⟨ret_str HTT.out.symm, bTh HBOX.out HC1.out⟩
    ·have b27 : (k == 27) = false := by simpa using k27
     by_cases k28 : k = 28
     ·subst k28
      simp [exprS_succ, exprStep, desigStep] at hs
      obtain ⟨x, y, rfl⟩ := len2 (l := subs) (headB_len hs.1.1 (by omega))
      obtain ⟨b, o, Ax, cx, rfl, hx_x, hk_x⟩ := hk.one (x := x) (r := [y]) rfl
      obtain ⟨Ay, cy, hx_y, hk_y⟩ := hk.nth rfl (i := 1) (x := y) rfl (p := o + 5) (by omega)
      simp only [List.length_cons, List.length_nil, Nat.zero_add] at hlen
      simp only [Nd.sub, List.getD_cons_zero, List.getD_cons_succ] at hs
      have HD_x := hid (desig_expr hs.1.2)
      clear hs
      have hTT : exprT (d + 1) ⟨28, s, num, pos, [x, y]⟩ = exprT d x ++ ⟨#[123]⟩ ++ nameT y ++ ⟨#[125]⟩ := by simp [exprT_succ, exprTStep, Nd.sub]
      rw [hTT] at hsz
      obtain ⟨Tx, hT_x⟩ : ∃ T, T = exprT d x := ⟨_, rfl⟩
      rw [← hT_x] at hsz hTT
      have HT_x := hid hT_x
      clear hT_x
      obtain ⟨Ty, hT_y⟩ : ∃ T, T = nameT y := ⟨_, rfl⟩
      rw [← hT_y] at hsz hTT
      have HT_y := hid hT_y
      clear hT_y
      unfold maxT at hsz
      simp only [ByteArray.size_append, ba_size, List.size_toArray, List.length_cons, List.length_nil] at hsz
      have HTT := hid hTT
      clear hTT
      have HAT := hid (bAt w ⟨28, s, num, pos, [x, y]⟩ (some ⟨b, o, none⟩) c 24)
      have HX_x := hid (hx_x.below (bBw w (.cells #[.int .i64 28, .string s, .int .i64 num, .int .i64 pos, .slice (some ⟨b, o, none⟩) 2 c] 24)))
      have HK_x := hid (hk_x.below (bBw w (.cells #[.int .i64 28, .string s, .int .i64 num, .int .i64 pos, .slice (some ⟨b, o, none⟩) 2 c] 24)))
      clear hx_x hk_x
      have HX_y := hid (hx_y.below (bBw w (.cells #[.int .i64 28, .string s, .int .i64 num, .int .i64 pos, .slice (some ⟨b, o, none⟩) 2 c] 24)))
      have HK_y := hid (hk_y.below (bBw w (.cells #[.int .i64 28, .string s, .int .i64 num, .int .i64 pos, .slice (some ⟨b, o, none⟩) 2 c] 24)))
      clear hx_y hk_y
      clear hk
      obtain ⟨fx0, fx1, fx2, fx3, fx4⟩ := HX_x.out
      obtain ⟨fy0, fy1, fy2, fy3, fy4⟩ := HX_y.out
      go_enter Tryz.func45, Tryz.ntmps45
      go_wp2
      generalize hW0 : w.alloc (.cells #[.int .i64 28, .string s, .int .i64 num, .int .i64 pos, .slice (some ⟨b, o, none⟩) 2 c] 24) = W0 at *
      have HBOX := hid (show Below w.heap.size w W0 by rw [← hW0]; exact bBw _ _)
      clear hW0
      obtain ⟨x0, x1, x2, x3, x4⟩ := HAT.out
      obtain ⟨fx0, fx1, fx2, fx3, fx4⟩ := HX_x.out
      obtain ⟨fy0, fy1, fy2, fy3, fy4⟩ := HX_y.out
      have r_0 := cRg x0
      have r_1 := cRg x1
      have r_2 := cRg x2
      have r_3 := cRg x3
      have r_4 := cRg x4
      have r_5 := cRg fx0
      have r_6 := cRg fx1
      have r_7 := cRg fx2
      have r_8 := cRg fx3
      have r_9 := cRg fx4
      have r_10 := cRg fy0
      have r_11 := cRg fy1
      have r_12 := cRg fy2
      have r_13 := cRg fy3
      have r_14 := cRg fy4
      have cQ0 : ∀ dd os, Calls Tryz.prog 45 #[.agg #[.int .i64 x.kind, .string x.name, .int .i64 x.num, .int .i64 x.pos, .slice Ax x.subs.length cx]] (Go.Sort.grow (redrawn W0 dd) os) fun e w'' => e = .returned (.string Tx) ∧ ∃ p : Regrown, w'' = Go.Sort.grow (redrawn W0 p.d) p.os := fun dd os => by rw [HT_x.out]; exact Calls.regrown_of (hX x Ax cx _ (HK_x.out.below (below_regrown _ _ _)) HD_x.out (by rw [← HT_x.out]; unfold maxT; omega))
      have cQ1 : ∀ dd os, Calls Tryz.prog 47 #[.agg #[.int .i64 y.kind, .string y.name, .int .i64 y.num, .int .i64 y.pos, .slice Ay y.subs.length cy]] (Go.Sort.grow (redrawn W0 dd) os) fun e w'' => e = .returned (.string Ty) ∧ ∃ p : Regrown, w'' = Go.Sort.grow (redrawn W0 p.d) p.os := fun dd os => by rw [HT_y.out]; exact Calls.regrown_of (nameText_any _ y Ay cy _ (HK_y.out.below (below_regrown _ _ _)) (by rw [← HT_y.out]; unfold maxT; omega))
      refine wp_region_quiet_below (by kernel_rfl) (by kernel_rfl) ?_
      repeat (go_big_quiet_step (first | with_reducible exact cQ0 _ _ | with_reducible exact cQ1 _ _))
      refine wpQuiet_nil ?_
      intro _ hw'
      obtain ⟨⟨dq, osq⟩, hw''⟩ := hw'
      subst hw''
      have HG := hid (below_regrown W0 dq osq)
      generalize hG : Go.Sort.grow (redrawn W0 dq) osq = G at *
      clear hG
      go_wp2
      go_ret
      exact ⟨ret_str HTT.out.symm, bTh HBOX.out HG.out⟩
     ·have b28 : (k == 28) = false := by simpa using k28
      by_cases k29 : k = 29
      ·subst k29
       have hTT : exprT (d + 1) ⟨29, s, num, pos, subs⟩ = decT num := by simp [exprT_succ, exprTStep, Nd.sub]
       rw [hTT] at hsz
       have HTT := hid hTT
       clear hTT
       simp [exprS_succ, exprStep, headB] at hs
       obtain ⟨u, rfl⟩ : ∃ u : Nat, num = u := ⟨num.toNat, by omega⟩
       have hu : u ≤ 2147483647 := by omega
       clear hs
       have HAT := hid (bAt w ⟨29, s, u, pos, subs⟩ A c 24)
       clear hk
       go_enter Tryz.func45, Tryz.ntmps45
       go_wp2_with fail
       generalize hW0 : w.alloc (.cells #[.int .i64 29, .string s, .int .i64 u, .int .i64 pos, .slice A subs.length c] 24) = W0 at *
       have HBOX := hid (show Below w.heap.size w W0 by rw [← hW0]; exact bBw _ _)
       clear hW0
       refine (Dec_any u hu _).mono ?_
       rintro e w1 ⟨rfl, hb1⟩
       have HC1 := hid hb1
       clear hb1
       obtain ⟨x0, x1, x2, x3, x4⟩ := nb HAT HC1
       go_wp2
       go_ret
       exact ⟨ret_str HTT.out.symm, bTh HBOX.out HC1.out⟩
      ·have b29 : (k == 29) = false := by simpa using k29
       by_cases k30 : k = 30
       ·subst k30
        have hTT : exprT (d + 1) ⟨30, s, num, pos, subs⟩ = ⟨#[84, 82, 85, 69]⟩ := by simp [exprT_succ, exprTStep, Nd.sub]
        rw [hTT] at hsz
        have HTT := hid hTT
        clear hTT
        have HAT := hid (bAt w ⟨30, s, num, pos, subs⟩ A c 24)
        clear hk
        go_enter Tryz.func45, Tryz.ntmps45
        go_wp2
        go_ret
        exact ⟨ret_str HTT.out.symm, bBw _ _⟩
       ·have b30 : (k == 30) = false := by simpa using k30
        by_cases k31 : k = 31
        ·subst k31
         have hTT : exprT (d + 1) ⟨31, s, num, pos, subs⟩ = ⟨#[70, 65, 76, 83, 69]⟩ := by simp [exprT_succ, exprTStep, Nd.sub]
         rw [hTT] at hsz
         have HTT := hid hTT
         clear hTT
         have HAT := hid (bAt w ⟨31, s, num, pos, subs⟩ A c 24)
         clear hk
         go_enter Tryz.func45, Tryz.ntmps45
         go_wp2
         go_ret
         exact ⟨ret_str HTT.out.symm, bBw _ _⟩
        ·have b31 : (k == 31) = false := by simpa using k31
         by_cases k32 : k = 32
         ·subst k32
          have hTT : exprT (d + 1) ⟨32, s, num, pos, subs⟩ = ⟨#[78, 73, 76]⟩ := by simp [exprT_succ, exprTStep, Nd.sub]
          rw [hTT] at hsz
          have HTT := hid hTT
          clear hTT
          have HAT := hid (bAt w ⟨32, s, num, pos, subs⟩ A c 24)
          clear hk
          go_enter Tryz.func45, Tryz.ntmps45
          go_wp2
          go_ret
          exact ⟨ret_str HTT.out.symm, bBw _ _⟩
         ·have b32 : (k == 32) = false := by simpa using k32
          by_cases k33 : k = 33
          ·subst k33
           simp [exprS_succ, exprStep, desigStep] at hs
           rcases subs with _ | ⟨x, r⟩
           ·skip
            simp at hs
           ·skip
            simp only [List.length_cons] at hlen
            obtain ⟨b, o, Ax, cx, rfl, hx_x, hk_x⟩ := hk.one (x := x) (r := r) rfl
            obtain ⟨A', hA', hsl⟩ := slice_tail b o r.length c (by have := hk.list.1; simpa using this)
            simp only [Nd.sub, List.getD_cons_zero] at hs
            have HD_x := hid (desig_expr hs.1.2)
            have HD_r := hid (show r.all (exprS d) = true by have h := hs.2; simpa using h)
            clear hs
            have hTT : exprT (d + 1) ⟨33, s, num, pos, x :: r⟩ = exprT d x ++ argsT (exprT d) r := by simp [exprT_succ, exprTStep, Nd.sub]
            rw [hTT] at hsz
            obtain ⟨Tx, hT_x⟩ : ∃ T, T = exprT d x := ⟨_, rfl⟩
            rw [← hT_x] at hsz hTT
            have HT_x := hid hT_x
            clear hT_x
            obtain ⟨Tr, hT_r⟩ : ∃ T, T = argsT (exprT d) r := ⟨_, rfl⟩
            rw [← hT_r] at hsz hTT
            have HT_r := hid hT_r
            clear hT_r
            unfold maxT at hsz
            simp only [ByteArray.size_append, ba_size, List.size_toArray, List.length_cons, List.length_nil] at hsz
            have HTT := hid hTT
            clear hTT
            have HAT := hid (bAt w ⟨33, s, num, pos, x :: r⟩ (some ⟨b, o, none⟩) c 24)
            have HX_x := hid (hx_x.below (bBw w (.cells #[.int .i64 33, .string s, .int .i64 num, .int .i64 pos, .slice (some ⟨b, o, none⟩) (r.length + 1) c] 24)))
            have HK_x := hid (hk_x.below (bBw w (.cells #[.int .i64 33, .string s, .int .i64 num, .int .i64 pos, .slice (some ⟨b, o, none⟩) (r.length + 1) c] 24)))
            clear hx_x hk_x
            have HR := hid ((hk.list.tail hA').below (bBw w (.cells #[.int .i64 33, .string s, .int .i64 num, .int .i64 pos, .slice (some ⟨b, o, none⟩) (r.length + 1) c] 24)))
            clear hk
            clear hA'
            obtain ⟨fx0, fx1, fx2, fx3, fx4⟩ := HX_x.out
            go_enter Tryz.func45, Tryz.ntmps45
            go_wp2
            generalize hW0 : w.alloc (.cells #[.int .i64 33, .string s, .int .i64 num, .int .i64 pos, .slice (some ⟨b, o, none⟩) (r.length + 1) c] 24) = W0 at *
            have HBOX := hid (show Below w.heap.size w W0 by rw [← hW0]; exact bBw _ _)
            clear hW0
            obtain ⟨x0, x1, x2, x3, x4⟩ := HAT.out
            obtain ⟨fx0, fx1, fx2, fx3, fx4⟩ := HX_x.out
            have r_0 := cRg x0
            have r_1 := cRg x1
            have r_2 := cRg x2
            have r_3 := cRg x3
            have r_4 := cRg x4
            have r_5 := cRg fx0
            have r_6 := cRg fx1
            have r_7 := cRg fx2
            have r_8 := cRg fx3
            have r_9 := cRg fx4
            have cQ0 : ∀ dd os, Calls Tryz.prog 45 #[.agg #[.int .i64 x.kind, .string x.name, .int .i64 x.num, .int .i64 x.pos, .slice Ax x.subs.length cx]] (Go.Sort.grow (redrawn W0 dd) os) fun e w'' => e = .returned (.string Tx) ∧ ∃ p : Regrown, w'' = Go.Sort.grow (redrawn W0 p.d) p.os := fun dd os => by rw [HT_x.out]; exact Calls.regrown_of (hX x Ax cx _ (HK_x.out.below (below_regrown _ _ _)) HD_x.out (by rw [← HT_x.out]; unfold maxT; omega))
            have cQ1 : ∀ dd os, Calls Tryz.prog 96 #[.slice A' r.length (c - 1)] (Go.Sort.grow (redrawn W0 dd) os) fun e w'' => e = .returned (.string Tr) ∧ ∃ p : Regrown, w'' = Go.Sort.grow (redrawn W0 p.d) p.os := fun dd os => by rw [HT_r.out]; exact Calls.regrown_of (argsText_any d hX r A' (c - 1) _ (HR.out.below (below_regrown _ _ _)) HD_r.out (by rw [← HT_r.out]; unfold maxT; omega))
            refine wp_region_quiet_below (by kernel_rfl) (by kernel_rfl) ?_
            repeat (go_big_quiet_step (first | with_reducible exact cQ0 _ _ | with_reducible exact cQ1 _ _))
            refine wpQuiet_nil ?_
            intro _ hw'
            obtain ⟨⟨dq, osq⟩, hw''⟩ := hw'
            subst hw''
            have HG := hid (below_regrown W0 dq osq)
            generalize hG : Go.Sort.grow (redrawn W0 dq) osq = G at *
            clear hG
            go_wp2
            go_ret
            exact ⟨ret_str HTT.out.symm, bTh HBOX.out HG.out⟩
          ·have b33 : (k == 33) = false := by simpa using k33
           by_cases k34 : k = 34
           ·subst k34
            simp [exprS_succ, exprStep, desigStep] at hs
            obtain ⟨x, rfl⟩ := len1 (l := subs) (headB_len hs.1 (by omega))
            obtain ⟨b, o, Ax, cx, rfl, hx_x, hk_x⟩ := hk.one (x := x) (r := []) rfl
            simp only [List.length_cons, List.length_nil, Nat.zero_add] at hlen
            simp only [Nd.sub, List.getD_cons_zero, List.getD_cons_succ] at hs
            have HD_x := hid hs.2
            clear hs
            have hTT : exprT (d + 1) ⟨34, s, num, pos, [x]⟩ = ⟨#[126]⟩ ++ atL (exprT d) x 3 := by simp [exprT_succ, exprTStep, Nd.sub]
            rw [hTT] at hsz
            obtain ⟨Tx, hT_x⟩ : ∃ T, T = atL (exprT d) x 3 := ⟨_, rfl⟩
            rw [← hT_x] at hsz hTT
            have HT_x := hid hT_x
            clear hT_x
            unfold maxT at hsz
            simp only [ByteArray.size_append, ba_size, List.size_toArray, List.length_cons, List.length_nil] at hsz
            have HTT := hid hTT
            clear hTT
            have HAT := hid (bAt w ⟨34, s, num, pos, [x]⟩ (some ⟨b, o, none⟩) c 24)
            have HX_x := hid (hx_x.below (bBw w (.cells #[.int .i64 34, .string s, .int .i64 num, .int .i64 pos, .slice (some ⟨b, o, none⟩) 1 c] 24)))
            have HK_x := hid (hk_x.below (bBw w (.cells #[.int .i64 34, .string s, .int .i64 num, .int .i64 pos, .slice (some ⟨b, o, none⟩) 1 c] 24)))
            clear hx_x hk_x
            clear hk
            obtain ⟨fx0, fx1, fx2, fx3, fx4⟩ := HX_x.out
            go_enter Tryz.func45, Tryz.ntmps45
            go_wp2_with fail
            generalize hW0 : w.alloc (.cells #[.int .i64 34, .string s, .int .i64 num, .int .i64 pos, .slice (some ⟨b, o, none⟩) 1 c] 24) = W0 at *
            have HBOX := hid (show Below w.heap.size w W0 by rw [← hW0]; exact bBw _ _)
            clear hW0
            refine (atLeast_any d hX x Ax cx 3 _ HK_x.out HD_x.out (by rw [← HT_x.out]; unfold maxT; omega)).mono ?_
            rintro e w1 ⟨rfl, hb1⟩
            have HC1 := hid hb1
            clear hb1
            clear fx0 fx1 fx2 fx3 fx4
            obtain ⟨x0, x1, x2, x3, x4⟩ := nb HAT HC1
            obtain ⟨fx0, fx1, fx2, fx3, fx4⟩ := nb HX_x HC1
            rw [← HT_x.out]
            go_wp2
            go_ret
            exact ⟨ret_str HTT.out.symm, bTh HBOX.out HC1.out⟩
           ·have b34 : (k == 34) = false := by simpa using k34
            by_cases k35 : k = 35
            ·subst k35
             simp [exprS_succ, exprStep, desigStep] at hs
             obtain ⟨x, rfl⟩ := len1 (l := subs) (headB_len hs.1 (by omega))
             obtain ⟨b, o, Ax, cx, rfl, hx_x, hk_x⟩ := hk.one (x := x) (r := []) rfl
             simp only [List.length_cons, List.length_nil, Nat.zero_add] at hlen
             simp only [Nd.sub, List.getD_cons_zero, List.getD_cons_succ] at hs
             have HD_x := hid hs.2
             clear hs
             have hTT : exprT (d + 1) ⟨35, s, num, pos, [x]⟩ = ⟨#[45]⟩ ++ atL (exprT d) x 2 := by simp [exprT_succ, exprTStep, Nd.sub]
             rw [hTT] at hsz
             obtain ⟨Tx, hT_x⟩ : ∃ T, T = atL (exprT d) x 2 := ⟨_, rfl⟩
             rw [← hT_x] at hsz hTT
             have HT_x := hid hT_x
             clear hT_x
             unfold maxT at hsz
             simp only [ByteArray.size_append, ba_size, List.size_toArray, List.length_cons, List.length_nil] at hsz
             have HTT := hid hTT
             clear hTT
             have HAT := hid (bAt w ⟨35, s, num, pos, [x]⟩ (some ⟨b, o, none⟩) c 24)
             have HX_x := hid (hx_x.below (bBw w (.cells #[.int .i64 35, .string s, .int .i64 num, .int .i64 pos, .slice (some ⟨b, o, none⟩) 1 c] 24)))
             have HK_x := hid (hk_x.below (bBw w (.cells #[.int .i64 35, .string s, .int .i64 num, .int .i64 pos, .slice (some ⟨b, o, none⟩) 1 c] 24)))
             clear hx_x hk_x
             clear hk
             obtain ⟨fx0, fx1, fx2, fx3, fx4⟩ := HX_x.out
             go_enter Tryz.func45, Tryz.ntmps45
             go_wp2_with fail
             generalize hW0 : w.alloc (.cells #[.int .i64 35, .string s, .int .i64 num, .int .i64 pos, .slice (some ⟨b, o, none⟩) 1 c] 24) = W0 at *
             have HBOX := hid (show Below w.heap.size w W0 by rw [← hW0]; exact bBw _ _)
             clear hW0
             refine (atLeast_any d hX x Ax cx 2 _ HK_x.out HD_x.out (by rw [← HT_x.out]; unfold maxT; omega)).mono ?_
             rintro e w1 ⟨rfl, hb1⟩
             have HC1 := hid hb1
             clear hb1
             clear fx0 fx1 fx2 fx3 fx4
             obtain ⟨x0, x1, x2, x3, x4⟩ := nb HAT HC1
             obtain ⟨fx0, fx1, fx2, fx3, fx4⟩ := nb HX_x HC1
             rw [← HT_x.out]
             go_wp2
             go_ret
             exact ⟨ret_str HTT.out.symm, bTh HBOX.out HC1.out⟩
            ·have b35 : (k == 35) = false := by simpa using k35
             by_cases k37 : k = 37
             ·subst k37
              simp [exprS_succ, exprStep, desigStep] at hs
              obtain ⟨x, y, rfl⟩ := len2 (l := subs) (headB_len hs.1.1 (by omega))
              obtain ⟨b, o, Ax, cx, rfl, hx_x, hk_x⟩ := hk.one (x := x) (r := [y]) rfl
              obtain ⟨Ay, cy, hx_y, hk_y⟩ := hk.nth rfl (i := 1) (x := y) rfl (p := o + 5) (by omega)
              simp only [List.length_cons, List.length_nil, Nat.zero_add] at hlen
              simp only [Nd.sub, List.getD_cons_zero, List.getD_cons_succ] at hs
              have HD_x := hid hs.1.2
              clear hs
              have hTT : exprT (d + 1) ⟨37, s, num, pos, [x, y]⟩ = atL (exprT d) x 1 ++ ⟨#[32, 73, 83, 32]⟩ ++ nameT y := by simp [exprT_succ, exprTStep, Nd.sub]
              rw [hTT] at hsz
              obtain ⟨Tx, hT_x⟩ : ∃ T, T = atL (exprT d) x 1 := ⟨_, rfl⟩
              rw [← hT_x] at hsz hTT
              have HT_x := hid hT_x
              clear hT_x
              obtain ⟨Ty, hT_y⟩ : ∃ T, T = nameT y := ⟨_, rfl⟩
              rw [← hT_y] at hsz hTT
              have HT_y := hid hT_y
              clear hT_y
              unfold maxT at hsz
              simp only [ByteArray.size_append, ba_size, List.size_toArray, List.length_cons, List.length_nil] at hsz
              have HTT := hid hTT
              clear hTT
              have HAT := hid (bAt w ⟨37, s, num, pos, [x, y]⟩ (some ⟨b, o, none⟩) c 24)
              have HX_x := hid (hx_x.below (bBw w (.cells #[.int .i64 37, .string s, .int .i64 num, .int .i64 pos, .slice (some ⟨b, o, none⟩) 2 c] 24)))
              have HK_x := hid (hk_x.below (bBw w (.cells #[.int .i64 37, .string s, .int .i64 num, .int .i64 pos, .slice (some ⟨b, o, none⟩) 2 c] 24)))
              clear hx_x hk_x
              have HX_y := hid (hx_y.below (bBw w (.cells #[.int .i64 37, .string s, .int .i64 num, .int .i64 pos, .slice (some ⟨b, o, none⟩) 2 c] 24)))
              have HK_y := hid (hk_y.below (bBw w (.cells #[.int .i64 37, .string s, .int .i64 num, .int .i64 pos, .slice (some ⟨b, o, none⟩) 2 c] 24)))
              clear hx_y hk_y
              clear hk
              obtain ⟨fx0, fx1, fx2, fx3, fx4⟩ := HX_x.out
              obtain ⟨fy0, fy1, fy2, fy3, fy4⟩ := HX_y.out
              go_enter Tryz.func45, Tryz.ntmps45
              go_wp2
              generalize hW0 : w.alloc (.cells #[.int .i64 37, .string s, .int .i64 num, .int .i64 pos, .slice (some ⟨b, o, none⟩) 2 c] 24) = W0 at *
              have HBOX := hid (show Below w.heap.size w W0 by rw [← hW0]; exact bBw _ _)
              clear hW0
              obtain ⟨x0, x1, x2, x3, x4⟩ := HAT.out
              obtain ⟨fx0, fx1, fx2, fx3, fx4⟩ := HX_x.out
              obtain ⟨fy0, fy1, fy2, fy3, fy4⟩ := HX_y.out
              have r_0 := cRg x0
              have r_1 := cRg x1
              have r_2 := cRg x2
              have r_3 := cRg x3
              have r_4 := cRg x4
              have r_5 := cRg fx0
              have r_6 := cRg fx1
              have r_7 := cRg fx2
              have r_8 := cRg fx3
              have r_9 := cRg fx4
              have r_10 := cRg fy0
              have r_11 := cRg fy1
              have r_12 := cRg fy2
              have r_13 := cRg fy3
              have r_14 := cRg fy4
              have cQ0 : ∀ dd os, Calls Tryz.prog 97 #[.agg #[.int .i64 x.kind, .string x.name, .int .i64 x.num, .int .i64 x.pos, .slice Ax x.subs.length cx], .int .i64 1] (Go.Sort.grow (redrawn W0 dd) os) fun e w'' => e = .returned (.string Tx) ∧ ∃ p : Regrown, w'' = Go.Sort.grow (redrawn W0 p.d) p.os := fun dd os => by rw [HT_x.out]; exact Calls.regrown_of (atLeast_any d hX x Ax cx 1 _ (HK_x.out.below (below_regrown _ _ _)) HD_x.out (by rw [← HT_x.out]; unfold maxT; omega))
              have cQ1 : ∀ dd os, Calls Tryz.prog 47 #[.agg #[.int .i64 y.kind, .string y.name, .int .i64 y.num, .int .i64 y.pos, .slice Ay y.subs.length cy]] (Go.Sort.grow (redrawn W0 dd) os) fun e w'' => e = .returned (.string Ty) ∧ ∃ p : Regrown, w'' = Go.Sort.grow (redrawn W0 p.d) p.os := fun dd os => by rw [HT_y.out]; exact Calls.regrown_of (nameText_any _ y Ay cy _ (HK_y.out.below (below_regrown _ _ _)) (by rw [← HT_y.out]; unfold maxT; omega))
              refine wp_region_quiet_below (by kernel_rfl) (by kernel_rfl) ?_
              repeat (go_big_quiet_step (first | with_reducible exact cQ0 _ _ | with_reducible exact cQ1 _ _))
              refine wpQuiet_nil ?_
              intro _ hw'
              obtain ⟨⟨dq, osq⟩, hw''⟩ := hw'
              subst hw''
              have HG := hid (below_regrown W0 dq osq)
              generalize hG : Go.Sort.grow (redrawn W0 dq) osq = G at *
              clear hG
              go_wp2
              go_ret
              exact ⟨ret_str HTT.out.symm, bTh HBOX.out HG.out⟩
             ·have b37 : (k == 37) = false := by simpa using k37
              by_cases k36 : k = 36
              ·subst k36
               simp [exprS_succ, exprStep, desigStep] at hs
               have hlv : levelN s = 0 ∨ levelN s = 1 ∨ levelN s = 2 := by
                have h := hs.1
                unfold levelN at h ⊢
                split <;> simp_all <;> split <;> simp_all <;> split <;> simp_all
               obtain ⟨x, y, rfl⟩ := len2 (l := subs) (by have h := hs.1.2; omega)
               obtain ⟨b, o, Ax, cx, rfl, hx_x, hk_x⟩ := hk.one (x := x) (r := [y]) rfl
               obtain ⟨Ay, cy, hx_y, hk_y⟩ := hk.nth rfl (i := 1) (x := y) rfl (p := o + 5) (by omega)
               simp only [List.length_cons, List.length_nil, Nat.zero_add] at hlen
               have HD_x := hid (show exprS d x = true by have h := hs.2; simp at h; exact h.1)
               have HD_y := hid (show exprS d y = true by have h := hs.2; simp at h; exact h.2)
               clear hs
               rcases hlv with hlv | hlv | hlv
               ·skip
                have hTT : exprT (d + 1) ⟨36, s, num, pos, [x, y]⟩ = atL (exprT d) x 1 ++ ⟨#[32]⟩ ++ s ++ ⟨#[32]⟩ ++ atL (exprT d) y 1 := by simp [exprT_succ, exprTStep, Nd.sub, hlv]
                rw [hTT] at hsz
                obtain ⟨Tx, hT_x⟩ : ∃ T, T = atL (exprT d) x 1 := ⟨_, rfl⟩
                rw [← hT_x] at hsz hTT
                have HT_x := hid hT_x
                clear hT_x
                obtain ⟨Ty, hT_y⟩ : ∃ T, T = atL (exprT d) y 1 := ⟨_, rfl⟩
                rw [← hT_y] at hsz hTT
                have HT_y := hid hT_y
                clear hT_y
                unfold maxT at hsz
                simp only [ByteArray.size_append, ba_size, List.size_toArray, List.length_cons, List.length_nil] at hsz
                have HTT := hid hTT
                clear hTT
                have HLV := hid hlv
                clear hlv
                have HAT := hid (bAt w ⟨36, s, num, pos, [x, y]⟩ (some ⟨b, o, none⟩) c 24)
                have HX_x := hid (hx_x.below (bBw w (.cells #[.int .i64 36, .string s, .int .i64 num, .int .i64 pos, .slice (some ⟨b, o, none⟩) 2 c] 24)))
                have HK_x := hid (hk_x.below (bBw w (.cells #[.int .i64 36, .string s, .int .i64 num, .int .i64 pos, .slice (some ⟨b, o, none⟩) 2 c] 24)))
                clear hx_x hk_x
                have HX_y := hid (hx_y.below (bBw w (.cells #[.int .i64 36, .string s, .int .i64 num, .int .i64 pos, .slice (some ⟨b, o, none⟩) 2 c] 24)))
                have HK_y := hid (hk_y.below (bBw w (.cells #[.int .i64 36, .string s, .int .i64 num, .int .i64 pos, .slice (some ⟨b, o, none⟩) 2 c] 24)))
                clear hx_y hk_y
                clear hk
                obtain ⟨fx0, fx1, fx2, fx3, fx4⟩ := HX_x.out
                obtain ⟨fy0, fy1, fy2, fy3, fy4⟩ := HX_y.out
                go_enter Tryz.func45, Tryz.ntmps45
                go_wp2_with fail
                generalize hW0 : w.alloc (.cells #[.int .i64 36, .string s, .int .i64 num, .int .i64 pos, .slice (some ⟨b, o, none⟩) 2 c] 24) = W0 at *
                have HBOX := hid (show Below w.heap.size w W0 by rw [← hW0]; exact bBw _ _)
                clear hW0
                refine (levelOf_any s _).mono ?_
                rintro e w1 ⟨rfl, hb1⟩
                have HC1 := hid hb1
                clear hb1
                clear fx0 fx1 fx2 fx3 fx4 fy0 fy1 fy2 fy3 fy4
                obtain ⟨x0, x1, x2, x3, x4⟩ := nb HAT HC1
                obtain ⟨fx0, fx1, fx2, fx3, fx4⟩ := nb HX_x HC1
                obtain ⟨fy0, fy1, fy2, fy3, fy4⟩ := nb HX_y HC1
                rw [HLV.out]
                go_wp2
                have r_0 := cRg x0
                have r_1 := cRg x1
                have r_2 := cRg x2
                have r_3 := cRg x3
                have r_4 := cRg x4
                have r_5 := cRg fx0
                have r_6 := cRg fx1
                have r_7 := cRg fx2
                have r_8 := cRg fx3
                have r_9 := cRg fx4
                have r_10 := cRg fy0
                have r_11 := cRg fy1
                have r_12 := cRg fy2
                have r_13 := cRg fy3
                have r_14 := cRg fy4
                have cQ0 : ∀ dd os, Calls Tryz.prog 97 #[.agg #[.int .i64 x.kind, .string x.name, .int .i64 x.num, .int .i64 x.pos, .slice Ax x.subs.length cx], .int .i64 1] (Go.Sort.grow (redrawn w1 dd) os) fun e w'' => e = .returned (.string Tx) ∧ ∃ p : Regrown, w'' = Go.Sort.grow (redrawn w1 p.d) p.os := fun dd os => by rw [HT_x.out]; exact Calls.regrown_of (atLeast_any d hX x Ax cx 1 _ (HK_x.out.below (bTh HC1.out (below_regrown _ _ _))) HD_x.out (by rw [← HT_x.out]; unfold maxT; omega))
                have cQ1 : ∀ dd os, Calls Tryz.prog 97 #[.agg #[.int .i64 y.kind, .string y.name, .int .i64 y.num, .int .i64 y.pos, .slice Ay y.subs.length cy], .int .i64 1] (Go.Sort.grow (redrawn w1 dd) os) fun e w'' => e = .returned (.string Ty) ∧ ∃ p : Regrown, w'' = Go.Sort.grow (redrawn w1 p.d) p.os := fun dd os => by rw [HT_y.out]; exact Calls.regrown_of (atLeast_any d hX y Ay cy 1 _ (HK_y.out.below (bTh HC1.out (below_regrown _ _ _))) HD_y.out (by rw [← HT_y.out]; unfold maxT; omega))
                refine wp_region_quiet_below (by kernel_rfl) (by kernel_rfl) ?_
                repeat (go_big_quiet_step (first | with_reducible exact cQ0 _ _ | with_reducible exact cQ1 _ _))
                refine wpQuiet_nil ?_
                intro _ hw'
                obtain ⟨⟨dq, osq⟩, hw''⟩ := hw'
                subst hw''
                have HG := hid (bTh HC1.out (below_regrown w1 dq osq))
                generalize hG : Go.Sort.grow (redrawn w1 dq) osq = G at *
                clear hG
                go_wp2
                go_ret
                exact ⟨ret_str HTT.out.symm, bTh HBOX.out HG.out⟩
               ·skip
                have hTT : exprT (d + 1) ⟨36, s, num, pos, [x, y]⟩ = atL (exprT d) x 1 ++ ⟨#[32]⟩ ++ s ++ ⟨#[32]⟩ ++ atL (exprT d) y 2 := by simp [exprT_succ, exprTStep, Nd.sub, hlv]
                rw [hTT] at hsz
                obtain ⟨Tx, hT_x⟩ : ∃ T, T = atL (exprT d) x 1 := ⟨_, rfl⟩
                rw [← hT_x] at hsz hTT
                have HT_x := hid hT_x
                clear hT_x
                obtain ⟨Ty, hT_y⟩ : ∃ T, T = atL (exprT d) y 2 := ⟨_, rfl⟩
                rw [← hT_y] at hsz hTT
                have HT_y := hid hT_y
                clear hT_y
                unfold maxT at hsz
                simp only [ByteArray.size_append, ba_size, List.size_toArray, List.length_cons, List.length_nil] at hsz
                have HTT := hid hTT
                clear hTT
                have HLV := hid hlv
                clear hlv
                have HAT := hid (bAt w ⟨36, s, num, pos, [x, y]⟩ (some ⟨b, o, none⟩) c 24)
                have HX_x := hid (hx_x.below (bBw w (.cells #[.int .i64 36, .string s, .int .i64 num, .int .i64 pos, .slice (some ⟨b, o, none⟩) 2 c] 24)))
                have HK_x := hid (hk_x.below (bBw w (.cells #[.int .i64 36, .string s, .int .i64 num, .int .i64 pos, .slice (some ⟨b, o, none⟩) 2 c] 24)))
                clear hx_x hk_x
                have HX_y := hid (hx_y.below (bBw w (.cells #[.int .i64 36, .string s, .int .i64 num, .int .i64 pos, .slice (some ⟨b, o, none⟩) 2 c] 24)))
                have HK_y := hid (hk_y.below (bBw w (.cells #[.int .i64 36, .string s, .int .i64 num, .int .i64 pos, .slice (some ⟨b, o, none⟩) 2 c] 24)))
                clear hx_y hk_y
                clear hk
                obtain ⟨fx0, fx1, fx2, fx3, fx4⟩ := HX_x.out
                obtain ⟨fy0, fy1, fy2, fy3, fy4⟩ := HX_y.out
                go_enter Tryz.func45, Tryz.ntmps45
                go_wp2_with fail
                generalize hW0 : w.alloc (.cells #[.int .i64 36, .string s, .int .i64 num, .int .i64 pos, .slice (some ⟨b, o, none⟩) 2 c] 24) = W0 at *
                have HBOX := hid (show Below w.heap.size w W0 by rw [← hW0]; exact bBw _ _)
                clear hW0
                refine (levelOf_any s _).mono ?_
                rintro e w1 ⟨rfl, hb1⟩
                have HC1 := hid hb1
                clear hb1
                clear fx0 fx1 fx2 fx3 fx4 fy0 fy1 fy2 fy3 fy4
                obtain ⟨x0, x1, x2, x3, x4⟩ := nb HAT HC1
                obtain ⟨fx0, fx1, fx2, fx3, fx4⟩ := nb HX_x HC1
                obtain ⟨fy0, fy1, fy2, fy3, fy4⟩ := nb HX_y HC1
                rw [HLV.out]
                go_wp2
                have r_0 := cRg x0
                have r_1 := cRg x1
                have r_2 := cRg x2
                have r_3 := cRg x3
                have r_4 := cRg x4
                have r_5 := cRg fx0
                have r_6 := cRg fx1
                have r_7 := cRg fx2
                have r_8 := cRg fx3
                have r_9 := cRg fx4
                have r_10 := cRg fy0
                have r_11 := cRg fy1
                have r_12 := cRg fy2
                have r_13 := cRg fy3
                have r_14 := cRg fy4
                have cQ0 : ∀ dd os, Calls Tryz.prog 97 #[.agg #[.int .i64 x.kind, .string x.name, .int .i64 x.num, .int .i64 x.pos, .slice Ax x.subs.length cx], .int .i64 1] (Go.Sort.grow (redrawn w1 dd) os) fun e w'' => e = .returned (.string Tx) ∧ ∃ p : Regrown, w'' = Go.Sort.grow (redrawn w1 p.d) p.os := fun dd os => by rw [HT_x.out]; exact Calls.regrown_of (atLeast_any d hX x Ax cx 1 _ (HK_x.out.below (bTh HC1.out (below_regrown _ _ _))) HD_x.out (by rw [← HT_x.out]; unfold maxT; omega))
                have cQ1 : ∀ dd os, Calls Tryz.prog 97 #[.agg #[.int .i64 y.kind, .string y.name, .int .i64 y.num, .int .i64 y.pos, .slice Ay y.subs.length cy], .int .i64 2] (Go.Sort.grow (redrawn w1 dd) os) fun e w'' => e = .returned (.string Ty) ∧ ∃ p : Regrown, w'' = Go.Sort.grow (redrawn w1 p.d) p.os := fun dd os => by rw [HT_y.out]; exact Calls.regrown_of (atLeast_any d hX y Ay cy 2 _ (HK_y.out.below (bTh HC1.out (below_regrown _ _ _))) HD_y.out (by rw [← HT_y.out]; unfold maxT; omega))
                refine wp_region_quiet_below (by kernel_rfl) (by kernel_rfl) ?_
                repeat (go_big_quiet_step (first | with_reducible exact cQ0 _ _ | with_reducible exact cQ1 _ _))
                refine wpQuiet_nil ?_
                intro _ hw'
                obtain ⟨⟨dq, osq⟩, hw''⟩ := hw'
                subst hw''
                have HG := hid (bTh HC1.out (below_regrown w1 dq osq))
                generalize hG : Go.Sort.grow (redrawn w1 dq) osq = G at *
                clear hG
                go_wp2
                go_ret
                exact ⟨ret_str HTT.out.symm, bTh HBOX.out HG.out⟩
               ·skip
                have hTT : exprT (d + 1) ⟨36, s, num, pos, [x, y]⟩ = atL (exprT d) x 2 ++ ⟨#[32]⟩ ++ s ++ ⟨#[32]⟩ ++ atL (exprT d) y 3 := by simp [exprT_succ, exprTStep, Nd.sub, hlv]
                rw [hTT] at hsz
                obtain ⟨Tx, hT_x⟩ : ∃ T, T = atL (exprT d) x 2 := ⟨_, rfl⟩
                rw [← hT_x] at hsz hTT
                have HT_x := hid hT_x
                clear hT_x
                obtain ⟨Ty, hT_y⟩ : ∃ T, T = atL (exprT d) y 3 := ⟨_, rfl⟩
                rw [← hT_y] at hsz hTT
                have HT_y := hid hT_y
                clear hT_y
                unfold maxT at hsz
                simp only [ByteArray.size_append, ba_size, List.size_toArray, List.length_cons, List.length_nil] at hsz
                have HTT := hid hTT
                clear hTT
                have HLV := hid hlv
                clear hlv
                have HAT := hid (bAt w ⟨36, s, num, pos, [x, y]⟩ (some ⟨b, o, none⟩) c 24)
                have HX_x := hid (hx_x.below (bBw w (.cells #[.int .i64 36, .string s, .int .i64 num, .int .i64 pos, .slice (some ⟨b, o, none⟩) 2 c] 24)))
                have HK_x := hid (hk_x.below (bBw w (.cells #[.int .i64 36, .string s, .int .i64 num, .int .i64 pos, .slice (some ⟨b, o, none⟩) 2 c] 24)))
                clear hx_x hk_x
                have HX_y := hid (hx_y.below (bBw w (.cells #[.int .i64 36, .string s, .int .i64 num, .int .i64 pos, .slice (some ⟨b, o, none⟩) 2 c] 24)))
                have HK_y := hid (hk_y.below (bBw w (.cells #[.int .i64 36, .string s, .int .i64 num, .int .i64 pos, .slice (some ⟨b, o, none⟩) 2 c] 24)))
                clear hx_y hk_y
                clear hk
                obtain ⟨fx0, fx1, fx2, fx3, fx4⟩ := HX_x.out
                obtain ⟨fy0, fy1, fy2, fy3, fy4⟩ := HX_y.out
                go_enter Tryz.func45, Tryz.ntmps45
                go_wp2_with fail
                generalize hW0 : w.alloc (.cells #[.int .i64 36, .string s, .int .i64 num, .int .i64 pos, .slice (some ⟨b, o, none⟩) 2 c] 24) = W0 at *
                have HBOX := hid (show Below w.heap.size w W0 by rw [← hW0]; exact bBw _ _)
                clear hW0
                refine (levelOf_any s _).mono ?_
                rintro e w1 ⟨rfl, hb1⟩
                have HC1 := hid hb1
                clear hb1
                clear fx0 fx1 fx2 fx3 fx4 fy0 fy1 fy2 fy3 fy4
                obtain ⟨x0, x1, x2, x3, x4⟩ := nb HAT HC1
                obtain ⟨fx0, fx1, fx2, fx3, fx4⟩ := nb HX_x HC1
                obtain ⟨fy0, fy1, fy2, fy3, fy4⟩ := nb HX_y HC1
                rw [HLV.out]
                go_wp2
                have r_0 := cRg x0
                have r_1 := cRg x1
                have r_2 := cRg x2
                have r_3 := cRg x3
                have r_4 := cRg x4
                have r_5 := cRg fx0
                have r_6 := cRg fx1
                have r_7 := cRg fx2
                have r_8 := cRg fx3
                have r_9 := cRg fx4
                have r_10 := cRg fy0
                have r_11 := cRg fy1
                have r_12 := cRg fy2
                have r_13 := cRg fy3
                have r_14 := cRg fy4
                have cQ0 : ∀ dd os, Calls Tryz.prog 97 #[.agg #[.int .i64 x.kind, .string x.name, .int .i64 x.num, .int .i64 x.pos, .slice Ax x.subs.length cx], .int .i64 2] (Go.Sort.grow (redrawn w1 dd) os) fun e w'' => e = .returned (.string Tx) ∧ ∃ p : Regrown, w'' = Go.Sort.grow (redrawn w1 p.d) p.os := fun dd os => by rw [HT_x.out]; exact Calls.regrown_of (atLeast_any d hX x Ax cx 2 _ (HK_x.out.below (bTh HC1.out (below_regrown _ _ _))) HD_x.out (by rw [← HT_x.out]; unfold maxT; omega))
                have cQ1 : ∀ dd os, Calls Tryz.prog 97 #[.agg #[.int .i64 y.kind, .string y.name, .int .i64 y.num, .int .i64 y.pos, .slice Ay y.subs.length cy], .int .i64 3] (Go.Sort.grow (redrawn w1 dd) os) fun e w'' => e = .returned (.string Ty) ∧ ∃ p : Regrown, w'' = Go.Sort.grow (redrawn w1 p.d) p.os := fun dd os => by rw [HT_y.out]; exact Calls.regrown_of (atLeast_any d hX y Ay cy 3 _ (HK_y.out.below (bTh HC1.out (below_regrown _ _ _))) HD_y.out (by rw [← HT_y.out]; unfold maxT; omega))
                refine wp_region_quiet_below (by kernel_rfl) (by kernel_rfl) ?_
                repeat (go_big_quiet_step (first | with_reducible exact cQ0 _ _ | with_reducible exact cQ1 _ _))
                refine wpQuiet_nil ?_
                intro _ hw'
                obtain ⟨⟨dq, osq⟩, hw''⟩ := hw'
                subst hw''
                have HG := hid (bTh HC1.out (below_regrown w1 dq osq))
                generalize hG : Go.Sort.grow (redrawn w1 dq) osq = G at *
                clear hG
                go_wp2
                go_ret
                exact ⟨ret_str HTT.out.symm, bTh HBOX.out HG.out⟩
              ·have b36 : (k == 36) = false := by simpa using k36
               exfalso
               simp [exprS_succ, exprStep, desigStep, k24, k25, k26, k27, k28, k29, k30, k31, k32, k33, k34, k35, k36, k37] at hs
theorem exprText_any : ∀ d : Nat, Says_exprText d
 | 0 => fun _ _ _ _ hk => hk.elim
 | d + 1 => exprText_step d (exprText_any d)
end Go.Proofs.YtneohanphabneaaGreatDoor
