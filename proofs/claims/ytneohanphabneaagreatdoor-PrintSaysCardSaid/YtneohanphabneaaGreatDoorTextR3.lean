/-
The document's text of a tree, the walks: types. Conditions: the tree lies in memory and is shaped; the text's length is below a bound.
-/
import Derived.Test.YtneohanphabneaaGreatDoorTextR2
namespace Go.Proofs.YtneohanphabneaaGreatDoor
set_option linter.unusedSimpArgs false
set_option linter.unusedVariables false
open Go.RowKit Go.BigFrame
theorem catB_app : ∀ a b : List ByteArray, catB (a ++ b) = catB a ++ catB b
 | [], b => by simp only [List.nil_append, catB, nil_ba]
 | x :: r, b => by simp only [List.cons_append, catB, catB_app r b, ba_assoc]
theorem cat_step {f : Nd → ByteArray} {l : List Nd} {j : Nat} {y : Nd} (hy : l[j]? = some y) : catB ((l.take (j + 1)).map f) = catB ((l.take j).map f) ++ f y := by
 rw [List.take_succ_eq_append_getElem (at_lt hy), at_eq hy, List.map_append, catB_app]
 simp only [List.map_cons, List.map_nil, catB, ba_nil]
theorem cat_size {f : Nd → ByteArray} {l : List Nd} {j : Nat} {y : Nd} (hy : l[j]? = some y) : (catB ((l.take j).map f)).size + (f y).size ≤ (catB (l.map f)).size := by
 have h : l = l.take (j + 1) ++ l.drop (j + 1) := (List.take_append_drop _ _).symm
 have e : (catB (l.map f)).size = (catB ((l.take (j + 1)).map f)).size + (catB ((l.drop (j + 1)).map f)).size := by
  conv => lhs; rw [h]
  rw [List.map_append, catB_app, ByteArray.size_append]
 rw [e, cat_step hy, ByteArray.size_append]
 omega
set_option maxRecDepth 100000 in
set_option maxHeartbeats 16000000 in
theorem typeText_any (d : Nat) (n : Nd) (A : Option Addr) (c : Nat) (w : World) (hk : Kids w d n A c) (hs : typeS n = true) (hsz : (typeT n).size ≤ maxT) :
  Calls Tryz.prog 46 #[.agg #[.int .i64 n.kind, .string n.name, .int .i64 n.num, .int .i64 n.pos, .slice A n.subs.length c]] w fun e w' => e = .returned (.string (typeT n)) ∧ Below w.heap.size w w' := by
 obtain ⟨d, rfl⟩ : ∃ d', d = d' + 1 := by cases d with | zero => exact hk.elim | succ d => exact ⟨d, rfl⟩
 obtain ⟨k, s, num, pos, subs⟩ := n
 have hlen := hk.len
 unfold maxLen at hlen
 simp only at hlen
 by_cases k9 : k = 9
 ·subst k9
  have h1 := hs
  simp [typeS] at h1
  obtain ⟨x, rfl⟩ := len1 (l := subs) (headB_len h1.1 (by omega))
  obtain ⟨b, o, Ax, cx, rfl, hx_x, hk_x⟩ := hk.one (x := x) (r := []) rfl
  simp only [List.length_cons, List.length_nil, Nat.zero_add] at hlen
  have hnum : 0 ≤ num ∧ num ≤ 2147483647 := by have h := h1.1; simp [headB] at h; omega
  obtain ⟨u, rfl⟩ : ∃ u : Nat, num = u := ⟨num.toNat, by omega⟩
  have HU := hid (show u ≤ 2147483647 by omega)
  clear hs h1 hnum
  have hTT : typeT ⟨9, s, u, pos, [x]⟩ = ⟨#[65, 82, 82, 65, 89, 32]⟩ ++ decT u ++ ⟨#[32, 79, 70, 32]⟩ ++ nameT x := by simp [typeT, Nd.sub]
  rw [hTT] at hsz
  obtain ⟨Tx, hT_x⟩ : ∃ T, T = nameT x := ⟨_, rfl⟩
  rw [← hT_x] at hsz hTT
  have HT_x := hid hT_x
  clear hT_x
  obtain ⟨Tu, hT_u⟩ : ∃ T, T = decT (u : Int) := ⟨_, rfl⟩
  rw [← hT_u] at hsz hTT
  have HT_u := hid hT_u
  clear hT_u
  unfold maxT at hsz
  simp only [ByteArray.size_append, ba_size, List.size_toArray, List.length_cons, List.length_nil] at hsz
  have HTT := hid hTT
  clear hTT
  have HAT := hid (bAt w ⟨9, s, u, pos, [x]⟩ (some ⟨b, o, none⟩) c 24)
  have HX_x := hid (hx_x.below (bBw w (.cells #[.int .i64 9, .string s, .int .i64 u, .int .i64 pos, .slice (some ⟨b, o, none⟩) 1 c] 24)))
  have HK_x := hid (hk_x.below (bBw w (.cells #[.int .i64 9, .string s, .int .i64 u, .int .i64 pos, .slice (some ⟨b, o, none⟩) 1 c] 24)))
  clear hx_x hk_x
  clear hk
  obtain ⟨fx0, fx1, fx2, fx3, fx4⟩ := HX_x.out
  go_enter Tryz.func46, Tryz.ntmps46
  go_wp2
  generalize hW0 : w.alloc (.cells #[.int .i64 9, .string s, .int .i64 u, .int .i64 pos, .slice (some ⟨b, o, none⟩) 1 c] 24) = W0 at *
  have HBOX := hid (show Below w.heap.size w W0 by rw [← hW0]; exact bBw _ _)
  clear hW0
  obtain ⟨x0, x1, x2, x3, x4⟩ := HAT.out
  obtain ⟨fx0, fx1, fx2, fx3, fx4⟩ := HX_x.out
  have r_0 := cRg x0
  have r_1 := cRg x1
  have r_2 := cRg x2
  have r_3 := cRg x3
  have r_4 := cRg x4
  have r_5 := cRg fx0
  have r_6 := cRg fx1
  have r_7 := cRg fx2
  have r_8 := cRg fx3
  have r_9 := cRg fx4
  have cQ0 : ∀ dd os, Calls Tryz.prog 95 #[.int .i64 u] (Go.Sort.grow (redrawn W0 dd) os) fun e w'' => e = .returned (.string Tu) ∧ ∃ p : Regrown, w'' = Go.Sort.grow (redrawn W0 p.d) p.os := fun dd os => by rw [HT_u.out]; exact Calls.regrown_of (Dec_any u HU.out _)
  have cQ1 : ∀ dd os, Calls Tryz.prog 47 #[.agg #[.int .i64 x.kind, .string x.name, .int .i64 x.num, .int .i64 x.pos, .slice Ax x.subs.length cx]] (Go.Sort.grow (redrawn W0 dd) os) fun e w'' => e = .returned (.string Tx) ∧ ∃ p : Regrown, w'' = Go.Sort.grow (redrawn W0 p.d) p.os := fun dd os => by rw [HT_x.out]; exact Calls.regrown_of (nameText_any _ x Ax cx _ (HK_x.out.below (below_regrown _ _ _)) (by rw [← HT_x.out]; unfold maxT; omega))
  refine wp_region_quiet_below (by kernel_rfl) (by kernel_rfl) ?_
  repeat (go_big_quiet_step (first | with_reducible exact cQ0 _ _ | with_reducible exact cQ1 _ _))
  refine wpQuiet_nil ?_
  intro _ hw'
  obtain ⟨⟨dq, osq⟩, hw''⟩ := hw'
  subst hw''
  clear cQ0 cQ1 r_0 r_1 r_2 r_3 r_4 r_5 r_6 r_7 r_8 r_9
  have HG := hid (below_regrown W0 dq osq)
  generalize hG : Go.Sort.grow (redrawn W0 dq) osq = G at *
  clear hG
  go_wp2
  go_ret
  exact ⟨ret_str HTT.out.symm, bTh HBOX.out HG.out⟩
 ·have b9 : (k == 9) = false := by simpa using k9
  by_cases k12 : k = 12
  ·subst k12
   have h1 := hs
   simp [typeS] at h1
   obtain ⟨x, rfl⟩ := len1 (l := subs) (headB_len h1.1 (by omega))
   obtain ⟨b, o, Ax, cx, rfl, hx_x, hk_x⟩ := hk.one (x := x) (r := []) rfl
   simp only [List.length_cons, List.length_nil, Nat.zero_add] at hlen
   clear hs h1
   have hTT : typeT ⟨12, s, num, pos, [x]⟩ = ⟨#[80, 79, 73, 78, 84, 69, 82, 32, 84, 79, 32]⟩ ++ nameT x := by simp [typeT, Nd.sub]
   rw [hTT] at hsz
   obtain ⟨Tx, hT_x⟩ : ∃ T, T = nameT x := ⟨_, rfl⟩
   rw [← hT_x] at hsz hTT
   have HT_x := hid hT_x
   clear hT_x
   unfold maxT at hsz
   simp only [ByteArray.size_append, ba_size, List.size_toArray, List.length_cons, List.length_nil] at hsz
   have HTT := hid hTT
   clear hTT
   have HAT := hid (bAt w ⟨12, s, num, pos, [x]⟩ (some ⟨b, o, none⟩) c 24)
   have HX_x := hid (hx_x.below (bBw w (.cells #[.int .i64 12, .string s, .int .i64 num, .int .i64 pos, .slice (some ⟨b, o, none⟩) 1 c] 24)))
   have HK_x := hid (hk_x.below (bBw w (.cells #[.int .i64 12, .string s, .int .i64 num, .int .i64 pos, .slice (some ⟨b, o, none⟩) 1 c] 24)))
   clear hx_x hk_x
   clear hk
   obtain ⟨fx0, fx1, fx2, fx3, fx4⟩ := HX_x.out
   go_enter Tryz.func46, Tryz.ntmps46
   go_wp2_with fail
   generalize hW0 : w.alloc (.cells #[.int .i64 12, .string s, .int .i64 num, .int .i64 pos, .slice (some ⟨b, o, none⟩) 1 c] 24) = W0 at *
   have HBOX := hid (show Below w.heap.size w W0 by rw [← hW0]; exact bBw _ _)
   clear hW0
   refine (nameText_any _ x Ax cx _ HK_x.out (by rw [← HT_x.out]; unfold maxT; omega)).mono ?_
   rintro e w1 ⟨rfl, hb1⟩
   have HC1 := hid hb1
   clear hb1
   clear fx0 fx1 fx2 fx3 fx4
   obtain ⟨x0, x1, x2, x3, x4⟩ := nb HAT HC1
   obtain ⟨fx0, fx1, fx2, fx3, fx4⟩ := nb HX_x HC1
   rw [← HT_x.out]
   go_wp2
   go_ret
   exact ⟨ret_str HTT.out.symm, bTh HBOX.out HC1.out⟩
  ·have b12 : (k == 12) = false := by simpa using k12
   have h1 := hs
   simp [typeS, k9, k12] at h1
   rcases subs with _ | ⟨x, r⟩
   ·skip
    simp at h1
   ·skip
    have HAL := hid (show (r.all fun x => decide (x.kind = 11) && varS x 11) = true by have h := h1.2; simpa using h)
    simp only [List.length_cons] at hlen
    obtain ⟨b, o, Ax, cx, rfl, hx_x, hk_x⟩ := hk.one (x := x) (r := r) rfl
    obtain ⟨A', hA', hsl⟩ := slice_tail b o r.length c (by have := hk.list.1; simpa using this)
    clear h1 hs hsl hA'
    have hTT : typeT ⟨k, s, num, pos, x :: r⟩ = (⟨#[82, 69, 67, 79, 82, 68, 32]⟩ ++ (if x.kind = 0 then ⟨#[]⟩ else ⟨#[40]⟩ ++ nameT x ++ ⟨#[41, 32]⟩)) ++ catB (r.map fieldT) ++ ⟨#[69, 78, 68]⟩ := by simp [typeT, Nd.sub, k9, k12]
    rw [hTT] at hsz
    unfold maxT at hsz
    simp only [ByteArray.size_append, ba_size, List.size_toArray, List.length_cons, List.length_nil] at hsz
    have HTT := hid hTT
    clear hTT
    have HSZ := hid hsz
    clear hsz
    by_cases hx0 : x.kind = 0
    ·skip
     have hxb : (x.kind != 0) = false := by simp [hx0]
     have HX0 := hid hx0
     clear hx0
     have HAT := hid (bAt w ⟨k, s, num, pos, x :: r⟩ (some ⟨b, o, none⟩) c 24)
     have HX_x := hid (hx_x.below (bBw w (.cells #[.int .i64 k, .string s, .int .i64 num, .int .i64 pos, .slice (some ⟨b, o, none⟩) (r.length + 1) c] 24)))
     have HK_x := hid (hk_x.below (bBw w (.cells #[.int .i64 k, .string s, .int .i64 num, .int .i64 pos, .slice (some ⟨b, o, none⟩) (r.length + 1) c] 24)))
     clear hx_x hk_x
     have HKL := hid ((hk.list).below (bBw w (.cells #[.int .i64 k, .string s, .int .i64 num, .int .i64 pos, .slice (some ⟨b, o, none⟩) (r.length + 1) c] 24)))
     clear hk
     obtain ⟨fx0, fx1, fx2, fx3, fx4⟩ := HX_x.out
     go_enter Tryz.func46, Tryz.ntmps46
     go_wp2
     generalize hW0 : w.alloc (.cells #[.int .i64 k, .string s, .int .i64 num, .int .i64 pos, .slice (some ⟨b, o, none⟩) (r.length + 1) c] 24) = W0 at *
     have HBOX := hid (show Below w.heap.size w W0 by rw [← hW0]; exact bBw _ _)
     clear hW0
     obtain ⟨x0, x1, x2, x3, x4⟩ := HAT.out
     obtain ⟨fx0, fx1, fx2, fx3, fx4⟩ := HX_x.out
     obtain ⟨PR, hPR⟩ : ∃ PR : ByteArray, PR = ⟨#[82, 69, 67, 79, 82, 68, 32]⟩ := ⟨_, rfl⟩
     have HPR := hid hPR
     have hPz : PR.size + (catB (r.map fieldT)).size + 3 ≤ 1099511627776 := by have h := HSZ.out; rw [hPR]; simp only [if_pos HX0.out, ByteArray.size_append, ba_size, List.size_toArray, List.length_cons, List.length_nil] at h ⊢; omega
     have HPZ := hid hPz
     clear hPz
     go_loopw [3, 4] (fun ss ii wr => ∃ (i : Nat) (S : ByteArray), 1 ≤ i ∧ i ≤ r.length + 1 ∧ ii = .int .i64 i ∧ ss = .string S ∧ S = PR ++ catB ((r.take (i - 1)).map fieldT) ∧ Below W0.heap.size W0 wr) (fun _ ii _ => r.length + 1 - (intOf ii).toNat)
     case atStart => exact ⟨1, _, Nat.le_refl _, by omega, rfl, rfl, by rw [HPR.out]; simp [catB, ba_nil, ← ba_assoc, if_pos HX0.out], Below.refl _ _⟩
     case round =>
      obtain ⟨i, S, hi1, hi, rfl, rfl, hS, hbr⟩ := hrel
      have HSS := hid hS
      have HCR := hid hbr
      clear hS hbr
      clear x0 x1 x2 x3 x4 fx0 fx1 fx2 fx3 fx4
      obtain ⟨x0, x1, x2, x3, x4⟩ := nb HAT HCR
      obtain ⟨fx0, fx1, fx2, fx3, fx4⟩ := nb HX_x HCR
      by_cases hlt : i < r.length + 1
      ·skip
       obtain ⟨y, hy⟩ : ∃ y, r[i - 1]? = some y := ⟨_, List.getElem?_eq_getElem (by omega)⟩
       have hy' : (x :: r)[i]? = some y := by rw [← hy]; cases i with | zero => omega | succ i => simp
       obtain ⟨Ay, cy, hx, hky⟩ := HKL.out.nth rfl (i := i) (x := y) hy' rfl
       have hvar := all_at HAL.out hy
       simp only [Bool.and_eq_true, varS] at hvar
       have hcs := cat_size (f := fieldT) hy
       have STEP := hid (cat_step (f := fieldT) hy)
       clear hy hy'
       obtain ⟨yk, ys, yn, yp, yl⟩ := y
       obtain ⟨z, rfl⟩ := len1 (headB_len hvar.2.1 (by omega))
       clear hvar
       obtain ⟨d, rfl⟩ : ∃ d', d = d' + 1 := by cases d with | zero => exact hky.elim | succ d => exact ⟨d, rfl⟩
       obtain ⟨b2, o2, Az, cz, rfl, hx_z, hk_z⟩ := hky.one (x := z) (r := []) rfl
       have HX_y := hid hx
       have HX_z := hid hx_z
       have HK_z := hid hk_z
       clear hx hx_z hky hk_z
       have FY := hid (show fieldT ⟨yk, ys, yn, yp, [z]⟩ = starT ⟨yk, ys, yn, yp, [z]⟩ ++ ⟨#[58, 32]⟩ ++ nameT z ++ ⟨#[59, 32]⟩ from rfl)
       rw [FY.out] at hcs
       have hns : ys.size ≤ (starT ⟨yk, ys, yn, yp, [z]⟩).size := by unfold starT; split <;> simp [ByteArray.size_append]
       obtain ⟨Ty, hT_y⟩ : ∃ T, T = starT ⟨yk, ys, yn, yp, [z]⟩ := ⟨_, rfl⟩
       rw [← hT_y] at hcs hns
       have HT_y := hid hT_y
       clear hT_y
       obtain ⟨Tz, hT_z⟩ : ∃ T, T = nameT z := ⟨_, rfl⟩
       rw [← hT_z] at hcs
       have HT_z := hid hT_z
       clear hT_z
       have hz : S.size + Ty.size + Tz.size + 4 ≤ 1099511627776 := by
        have h := HPZ.out
        rw [HSS.out]
        simp only [ByteArray.size_append, ba_size, List.size_toArray, List.length_cons, List.length_nil] at hcs ⊢
        omega
       clear hcs
       clear x0 x1 x2 x3 x4 fx0 fx1 fx2 fx3 fx4
       obtain ⟨x0, x1, x2, x3, x4⟩ := nb HAT HCR
       obtain ⟨fx0, fx1, fx2, fx3, fx4⟩ := nb HX_x HCR
       obtain ⟨fy0, fy1, fy2, fy3, fy4⟩ := nb HX_y HCR
       obtain ⟨fz0, fz1, fz2, fz3, fz4⟩ := nb HX_z HCR
       have hib : decide ((i : Int) < (r.length : Int) + 1) = true := decide_eq_true (by omega)
       go_wp2
       have r_0 := cRg x0
       have r_1 := cRg x1
       have r_2 := cRg x2
       have r_3 := cRg x3
       have r_4 := cRg x4
       have r_5 := cRg fx0
       have r_6 := cRg fx1
       have r_7 := cRg fx2
       have r_8 := cRg fx3
       have r_9 := cRg fx4
       have r_10 := cRg fy0
       have r_11 := cRg fy1
       have r_12 := cRg fy2
       have r_13 := cRg fy3
       have r_14 := cRg fy4
       have r_15 := cRg fz0
       have r_16 := cRg fz1
       have r_17 := cRg fz2
       have r_18 := cRg fz3
       have r_19 := cRg fz4
       have cQ0 : ∀ dd os, Calls Tryz.prog 44 #[.agg #[.int .i64 yk, .string ys, .int .i64 yn, .int .i64 yp, .slice (some ⟨b2, o2, none⟩) 1 cy]] (Go.Sort.grow (redrawn wr dd) os) fun e w'' => e = .returned (.string Ty) ∧ ∃ p : Regrown, w'' = Go.Sort.grow (redrawn wr p.d) p.os := fun dd os => by rw [HT_y.out]; exact Calls.regrown_of (starred_any ⟨yk, ys, yn, yp, [z]⟩ (some ⟨b2, o2, none⟩) cy _ (by unfold maxT; simp only; omega))
       have cQ1 : ∀ dd os, Calls Tryz.prog 47 #[.agg #[.int .i64 z.kind, .string z.name, .int .i64 z.num, .int .i64 z.pos, .slice Az z.subs.length cz]] (Go.Sort.grow (redrawn wr dd) os) fun e w'' => e = .returned (.string Tz) ∧ ∃ p : Regrown, w'' = Go.Sort.grow (redrawn wr p.d) p.os := fun dd os => by rw [HT_z.out]; exact Calls.regrown_of (nameText_any _ z Az cz _ (HK_z.out.below (bTh HCR.out (below_regrown _ _ _))) (by rw [← HT_z.out]; unfold maxT; omega))
       refine wp_region_quiet_below (by kernel_rfl) (by kernel_rfl) ?_
       repeat (go_big_quiet_step (first | with_reducible exact cQ0 _ _ | with_reducible exact cQ1 _ _))
       refine wpQuiet_nil ?_
       intro _ hw'
       obtain ⟨⟨dq, osq⟩, hw''⟩ := hw'
       subst hw''
       clear cQ0 cQ1 r_0 r_1 r_2 r_3 r_4 r_5 r_6 r_7 r_8 r_9 r_10 r_11 r_12 r_13 r_14 r_15 r_16 r_17 r_18 r_19
       have HG := hid (bTh HCR.out (below_regrown wr dq osq))
       generalize hG : Go.Sort.grow (redrawn wr dq) osq = G at *
       clear hG
       go_wp2
       go_roundw
       case rel => exact ⟨i + 1, _, by omega, by omega, by go_num, rfl, by rw [show i + 1 - 1 = (i - 1) + 1 by omega, STEP.out, FY.out, HSS.out, ← HT_y.out, ← HT_z.out]; simp only [ba_assoc], HG.out⟩
       case measure => simp [intOf]; omega
      ·skip
       have hib : decide ((i : Int) < (r.length : Int) + 1) = false := decide_eq_false (by omega)
       have hz : S.size + 3 ≤ 1099511627776 := by
        have h := HPZ.out
        rw [HSS.out, List.take_of_length_le (by omega)]
        simp only [ByteArray.size_append, ba_size, List.size_toArray, List.length_cons, List.length_nil]
        omega
       go_wp2
       go_ret
       exact ⟨ret_str (by rw [HTT.out, HSS.out, List.take_of_length_le (by omega), HPR.out, if_pos HX0.out]; simp only [ba_nil]), bTh HBOX.out HCR.out⟩
    ·skip
     have hxb : (x.kind != 0) = true := by simp [hx0]
     have HX0 := hid hx0
     clear hx0
     have HAT := hid (bAt w ⟨k, s, num, pos, x :: r⟩ (some ⟨b, o, none⟩) c 24)
     have HX_x := hid (hx_x.below (bBw w (.cells #[.int .i64 k, .string s, .int .i64 num, .int .i64 pos, .slice (some ⟨b, o, none⟩) (r.length + 1) c] 24)))
     have HK_x := hid (hk_x.below (bBw w (.cells #[.int .i64 k, .string s, .int .i64 num, .int .i64 pos, .slice (some ⟨b, o, none⟩) (r.length + 1) c] 24)))
     clear hx_x hk_x
     have HKL := hid ((hk.list).below (bBw w (.cells #[.int .i64 k, .string s, .int .i64 num, .int .i64 pos, .slice (some ⟨b, o, none⟩) (r.length + 1) c] 24)))
     clear hk
     obtain ⟨fx0, fx1, fx2, fx3, fx4⟩ := HX_x.out
     go_enter Tryz.func46, Tryz.ntmps46
     obtain ⟨Tx, hT_x⟩ : ∃ T, T = nameT x := ⟨_, rfl⟩
     have HT_x := hid hT_x
     clear hT_x
     have hTz : Tx.size + 10 ≤ 1099511627776 := by have h := HSZ.out; rw [if_neg HX0.out, ← HT_x.out] at h; simp only [ByteArray.size_append, ba_size, List.size_toArray, List.length_cons, List.length_nil] at h; omega
     go_wp2_with fail
     generalize hW0 : w.alloc (.cells #[.int .i64 k, .string s, .int .i64 num, .int .i64 pos, .slice (some ⟨b, o, none⟩) (r.length + 1) c] 24) = W0 at *
     have HBOX := hid (show Below w.heap.size w W0 by rw [← hW0]; exact bBw _ _)
     clear hW0
     refine (nameText_any _ x Ax cx _ HK_x.out (by rw [← HT_x.out]; unfold maxT; omega)).mono ?_
     rintro e w1 ⟨rfl, hb1⟩
     have HC1 := hid hb1
     clear hb1
     clear fx0 fx1 fx2 fx3 fx4
     obtain ⟨x0, x1, x2, x3, x4⟩ := nb HAT HC1
     obtain ⟨fx0, fx1, fx2, fx3, fx4⟩ := nb HX_x HC1
     rw [← HT_x.out]
     go_wp2
     obtain ⟨PR, hPR⟩ : ∃ PR : ByteArray, PR = ⟨#[82, 69, 67, 79, 82, 68, 32]⟩ ++ (⟨#[40]⟩ ++ Tx ++ ⟨#[41, 32]⟩) := ⟨_, rfl⟩
     have HPR := hid hPR
     have hPz : PR.size + (catB (r.map fieldT)).size + 3 ≤ 1099511627776 := by have h := HSZ.out; rw [hPR]; simp only [if_neg HX0.out, ← HT_x.out, ByteArray.size_append, ba_size, List.size_toArray, List.length_cons, List.length_nil] at h ⊢; omega
     have HPZ := hid hPz
     clear hPz
     go_loopw [3, 4] (fun ss ii wr => ∃ (i : Nat) (S : ByteArray), 1 ≤ i ∧ i ≤ r.length + 1 ∧ ii = .int .i64 i ∧ ss = .string S ∧ S = PR ++ catB ((r.take (i - 1)).map fieldT) ∧ Below W0.heap.size W0 wr) (fun _ ii _ => r.length + 1 - (intOf ii).toNat)
     case atStart => exact ⟨1, _, Nat.le_refl _, by omega, rfl, rfl, by rw [HPR.out]; simp [catB, ba_nil, ← ba_assoc, if_neg HX0.out, ← HT_x.out], HC1.out⟩
     case round =>
      obtain ⟨i, S, hi1, hi, rfl, rfl, hS, hbr⟩ := hrel
      have HSS := hid hS
      have HCR := hid hbr
      clear hS hbr
      clear x0 x1 x2 x3 x4 fx0 fx1 fx2 fx3 fx4
      obtain ⟨x0, x1, x2, x3, x4⟩ := nb HAT HCR
      obtain ⟨fx0, fx1, fx2, fx3, fx4⟩ := nb HX_x HCR
      by_cases hlt : i < r.length + 1
      ·skip
       obtain ⟨y, hy⟩ : ∃ y, r[i - 1]? = some y := ⟨_, List.getElem?_eq_getElem (by omega)⟩
       have hy' : (x :: r)[i]? = some y := by rw [← hy]; cases i with | zero => omega | succ i => simp
       obtain ⟨Ay, cy, hx, hky⟩ := HKL.out.nth rfl (i := i) (x := y) hy' rfl
       have hvar := all_at HAL.out hy
       simp only [Bool.and_eq_true, varS] at hvar
       have hcs := cat_size (f := fieldT) hy
       have STEP := hid (cat_step (f := fieldT) hy)
       clear hy hy'
       obtain ⟨yk, ys, yn, yp, yl⟩ := y
       obtain ⟨z, rfl⟩ := len1 (headB_len hvar.2.1 (by omega))
       clear hvar
       obtain ⟨d, rfl⟩ : ∃ d', d = d' + 1 := by cases d with | zero => exact hky.elim | succ d => exact ⟨d, rfl⟩
       obtain ⟨b2, o2, Az, cz, rfl, hx_z, hk_z⟩ := hky.one (x := z) (r := []) rfl
       have HX_y := hid hx
       have HX_z := hid hx_z
       have HK_z := hid hk_z
       clear hx hx_z hky hk_z
       have FY := hid (show fieldT ⟨yk, ys, yn, yp, [z]⟩ = starT ⟨yk, ys, yn, yp, [z]⟩ ++ ⟨#[58, 32]⟩ ++ nameT z ++ ⟨#[59, 32]⟩ from rfl)
       rw [FY.out] at hcs
       have hns : ys.size ≤ (starT ⟨yk, ys, yn, yp, [z]⟩).size := by unfold starT; split <;> simp [ByteArray.size_append]
       obtain ⟨Ty, hT_y⟩ : ∃ T, T = starT ⟨yk, ys, yn, yp, [z]⟩ := ⟨_, rfl⟩
       rw [← hT_y] at hcs hns
       have HT_y := hid hT_y
       clear hT_y
       obtain ⟨Tz, hT_z⟩ : ∃ T, T = nameT z := ⟨_, rfl⟩
       rw [← hT_z] at hcs
       have HT_z := hid hT_z
       clear hT_z
       have hz : S.size + Ty.size + Tz.size + 4 ≤ 1099511627776 := by
        have h := HPZ.out
        rw [HSS.out]
        simp only [ByteArray.size_append, ba_size, List.size_toArray, List.length_cons, List.length_nil] at hcs ⊢
        omega
       clear hcs
       clear x0 x1 x2 x3 x4 fx0 fx1 fx2 fx3 fx4
       obtain ⟨x0, x1, x2, x3, x4⟩ := nb HAT HCR
       obtain ⟨fx0, fx1, fx2, fx3, fx4⟩ := nb HX_x HCR
       obtain ⟨fy0, fy1, fy2, fy3, fy4⟩ := nb HX_y HCR
       obtain ⟨fz0, fz1, fz2, fz3, fz4⟩ := nb HX_z HCR
       have hib : decide ((i : Int) < (r.length : Int) + 1) = true := decide_eq_true (by omega)
       go_wp2
       have r_0 := cRg x0
       have r_1 := cRg x1
       have r_2 := cRg x2
       have r_3 := cRg x3
       have r_4 := cRg x4
       have r_5 := cRg fx0
       have r_6 := cRg fx1
       have r_7 := cRg fx2
       have r_8 := cRg fx3
       have r_9 := cRg fx4
       have r_10 := cRg fy0
       have r_11 := cRg fy1
       have r_12 := cRg fy2
       have r_13 := cRg fy3
       have r_14 := cRg fy4
       have r_15 := cRg fz0
       have r_16 := cRg fz1
       have r_17 := cRg fz2
       have r_18 := cRg fz3
       have r_19 := cRg fz4
       have cQ0 : ∀ dd os, Calls Tryz.prog 44 #[.agg #[.int .i64 yk, .string ys, .int .i64 yn, .int .i64 yp, .slice (some ⟨b2, o2, none⟩) 1 cy]] (Go.Sort.grow (redrawn wr dd) os) fun e w'' => e = .returned (.string Ty) ∧ ∃ p : Regrown, w'' = Go.Sort.grow (redrawn wr p.d) p.os := fun dd os => by rw [HT_y.out]; exact Calls.regrown_of (starred_any ⟨yk, ys, yn, yp, [z]⟩ (some ⟨b2, o2, none⟩) cy _ (by unfold maxT; simp only; omega))
       have cQ1 : ∀ dd os, Calls Tryz.prog 47 #[.agg #[.int .i64 z.kind, .string z.name, .int .i64 z.num, .int .i64 z.pos, .slice Az z.subs.length cz]] (Go.Sort.grow (redrawn wr dd) os) fun e w'' => e = .returned (.string Tz) ∧ ∃ p : Regrown, w'' = Go.Sort.grow (redrawn wr p.d) p.os := fun dd os => by rw [HT_z.out]; exact Calls.regrown_of (nameText_any _ z Az cz _ (HK_z.out.below (bTh HCR.out (below_regrown _ _ _))) (by rw [← HT_z.out]; unfold maxT; omega))
       refine wp_region_quiet_below (by kernel_rfl) (by kernel_rfl) ?_
       repeat (go_big_quiet_step (first | with_reducible exact cQ0 _ _ | with_reducible exact cQ1 _ _))
       refine wpQuiet_nil ?_
       intro _ hw'
       obtain ⟨⟨dq, osq⟩, hw''⟩ := hw'
       subst hw''
       clear cQ0 cQ1 r_0 r_1 r_2 r_3 r_4 r_5 r_6 r_7 r_8 r_9 r_10 r_11 r_12 r_13 r_14 r_15 r_16 r_17 r_18 r_19
       have HG := hid (bTh HCR.out (below_regrown wr dq osq))
       generalize hG : Go.Sort.grow (redrawn wr dq) osq = G at *
       clear hG
       go_wp2
       go_roundw
       case rel => exact ⟨i + 1, _, by omega, by omega, by go_num, rfl, by rw [show i + 1 - 1 = (i - 1) + 1 by omega, STEP.out, FY.out, HSS.out, ← HT_y.out, ← HT_z.out]; simp only [ba_assoc], HG.out⟩
       case measure => simp [intOf]; omega
      ·skip
       have hib : decide ((i : Int) < (r.length : Int) + 1) = false := decide_eq_false (by omega)
       have hz : S.size + 3 ≤ 1099511627776 := by
        have h := HPZ.out
        rw [HSS.out, List.take_of_length_le (by omega)]
        simp only [ByteArray.size_append, ba_size, List.size_toArray, List.length_cons, List.length_nil]
        omega
       go_wp2
       go_ret
       exact ⟨ret_str (by rw [HTT.out, HSS.out, List.take_of_length_le (by omega), HPR.out, if_neg HX0.out, ← HT_x.out]), bTh HBOX.out HCR.out⟩
end Go.Proofs.YtneohanphabneaaGreatDoor
