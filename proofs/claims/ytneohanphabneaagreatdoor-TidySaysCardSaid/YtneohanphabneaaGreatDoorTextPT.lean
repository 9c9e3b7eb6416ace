/-
The program's text of a tree, the walks: types; what is written of each declaration. Conditions: the tree lies in memory and is shaped; the text's length is below a bound.
-/
import Derived.Test.YtneohanphabneaaGreatDoorTextPE
import Derived.Test.YtneohanphabneaaGreatDoorTextR4
namespace Go.Proofs.YtneohanphabneaaGreatDoor
set_option linter.unusedSimpArgs false
set_option linter.unusedVariables false
open Go.RowKit Go.BigFrame
/-- A field, as the program writes it: its blank stands ahead. -/
def fieldP (x : Nd) : ByteArray := ⟨#[32]⟩ ++ varT x ++ ⟨#[59]⟩
theorem fieldP_T (x : Nd) : fieldP x ++ ⟨#[32]⟩ = ⟨#[32]⟩ ++ fieldT x := by unfold fieldP fieldT varT; simp only [ba_assoc]; rfl
theorem cat_blank : ∀ l : List Nd, catB (l.map fieldP) ++ (⟨#[32]⟩ : ByteArray) = ⟨#[32]⟩ ++ catB (l.map fieldT)
 | [] => by simp only [List.map, catB, nil_ba, ba_nil]
 | x :: r => by
  simp only [List.map, catB]
  rw [ba_assoc, cat_blank r, ← ba_assoc, fieldP_T, ba_assoc]
theorem varS_one {x : Nd} {k : Int} (h : varS x k = true) : x.subs.length = 1 ∧ nameS (x.sub 0) = true := by
 simp only [varS, Bool.and_eq_true] at h
 have := headB_len h.1 (by omega)
 exact ⟨by omega, h.2⟩
set_option maxRecDepth 100000 in
set_option maxHeartbeats 16000000 in
theorem typ_any (d : Nat) (n : Nd) (A : Option Addr) (c : Nat) (w : World) (hl : PowLaid w) (hk : Kids w (d + 1) n A c) (hs : typeS n = true) (hsz : (typeT n).size ≤ maxT) :
  Calls Tryz.prog 70 #[.agg #[.int .i64 n.kind, .string n.name, .int .i64 n.num, .int .i64 n.pos, .slice A n.subs.length c]] w fun e w' => e = .returned (.string (typeT n)) ∧ Below w.heap.size w w' := by
 obtain ⟨k, s, num, pos, subs⟩ := n
 have hlen := hk.len
 unfold maxLen at hlen
 simp only at hlen
 by_cases k9 : k = 9
 ·subst k9
  have h1 := hs
  simp [typeS] at h1
  obtain ⟨x, rfl⟩ := len1 (l := subs) (headB_len h1.1 (by omega))
  obtain ⟨b, o, Ax, cx, rfl, hx_x, hk_x⟩ := hk.one (x := x) (r := []) rfl
  simp only [List.length_cons, List.length_nil, Nat.zero_add] at hlen
  simp only [Nd.sub, List.getD_cons_zero] at h1
  have HD_x := hid h1.2
  have HN := hid (show 0 ≤ num ∧ num ≤ 2147483647 by have h := h1.1; simp [headB] at h; omega)
  clear hs h1
  have hTT : typeT ⟨9, s, num, pos, [x]⟩ = ⟨#[65, 82, 82, 65, 89, 32]⟩ ++ decT num ++ ⟨#[32, 79, 70, 32]⟩ ++ nameT x := by simp [typeT, Nd.sub]
  rw [hTT] at hsz ⊢
  clear hTT
  obtain ⟨Tu, hT_u⟩ : ∃ T, T = decT num := ⟨_, rfl⟩
  rw [← hT_u] at hsz ⊢
  have HT_u := hid hT_u
  clear hT_u
  obtain ⟨Tx, hT_x⟩ : ∃ T, T = nameT x := ⟨_, rfl⟩
  rw [← hT_x] at hsz ⊢
  have HT_x := hid hT_x
  clear hT_x
  unfold maxT at hsz
  simp only [ByteArray.size_append, ba_size, List.size_toArray, List.length_cons, List.length_nil] at hsz
  have HAT := hid (bAt w ⟨9, s, num, pos, [x]⟩ (some ⟨b, o, none⟩) c 24)
  have HL := hid (hl.below (bBw w (.cells #[.int .i64 9, .string s, .int .i64 num, .int .i64 pos, .slice (some ⟨b, o, none⟩) 1 c] 24)))
  have HX_x := hid (hx_x.below (bBw w (.cells #[.int .i64 9, .string s, .int .i64 num, .int .i64 pos, .slice (some ⟨b, o, none⟩) 1 c] 24)))
  have HK_x := hid (hk_x.below (bBw w (.cells #[.int .i64 9, .string s, .int .i64 num, .int .i64 pos, .slice (some ⟨b, o, none⟩) 1 c] 24)))
  clear hx_x hk_x
  clear hl hk
  obtain ⟨fx0, fx1, fx2, fx3, fx4⟩ := HX_x.out
  go_enter Tryz.func70, Tryz.ntmps70
  go_wp2
  generalize hW0 : w.alloc (.cells #[.int .i64 9, .string s, .int .i64 num, .int .i64 pos, .slice (some ⟨b, o, none⟩) 1 c] 24) = W0 at *
  have HBOX := hid (show Below w.heap.size w W0 by rw [← hW0]; exact bBw _ _)
  clear hW0
  obtain ⟨x0, x1, x2, x3, x4⟩ := HAT.out
  obtain ⟨fx0, fx1, fx2, fx3, fx4⟩ := HX_x.out
  have r_0 := cRg x0
  have r_1 := cRg x1
  have r_2 := cRg x2
  have r_3 := cRg x3
  have r_4 := cRg x4
  have r_5 := cRg fx0
  have r_6 := cRg fx1
  have r_7 := cRg fx2
  have r_8 := cRg fx3
  have r_9 := cRg fx4
  have cQ0 : ∀ dd os, Calls Tryz.prog 115 #[.int .i64 num] (Go.Sort.grow (redrawn W0 dd) os) fun e w'' => e = .returned (.string Tu) ∧ ∃ p : Regrown, w'' = Go.Sort.grow (redrawn W0 p.d) p.os := fun dd os => by rw [HT_u.out]; exact Calls.regrown_of (Itoa_any num _ (HL.out.below (below_regrown _ _ _)) HN.out.1 HN.out.2)
  have cQ1 : ∀ dd os, Calls Tryz.prog 114 #[.agg #[.int .i64 x.kind, .string x.name, .int .i64 x.num, .int .i64 x.pos, .slice Ax x.subs.length cx]] (Go.Sort.grow (redrawn W0 dd) os) fun e w'' => e = .returned (.string Tx) ∧ ∃ p : Regrown, w'' = Go.Sort.grow (redrawn W0 p.d) p.os := fun dd os => by rw [HT_x.out]; exact Calls.regrown_of (typeName_any _ x Ax cx _ (HK_x.out.below (below_regrown _ _ _)) HD_x.out (by rw [← HT_x.out]; unfold maxT; omega))
  refine wp_region_quiet_below (by kernel_rfl) (by kernel_rfl) ?_
  repeat (go_big_quiet_step (first | with_reducible exact cQ0 _ _ | with_reducible exact cQ1 _ _))
  refine wpQuiet_nil ?_
  intro _ hw'
  obtain ⟨⟨dq, osq⟩, hw''⟩ := hw'
  subst hw''
  clear cQ0 cQ1 r_0 r_1 r_2 r_3 r_4 r_5 r_6 r_7 r_8 r_9
  have HG := hid (below_regrown W0 dq osq)
  generalize hG : Go.Sort.grow (redrawn W0 dq) osq = G at *
  clear hG
  go_wp2
  go_ret
  exact ⟨rfl, bTh HBOX.out HG.out⟩
 ·have b9 : (k == 9) = false := by simpa using k9
  by_cases k12 : k = 12
  ·subst k12
   have h1 := hs
   simp [typeS] at h1
   obtain ⟨x, rfl⟩ := len1 (l := subs) (headB_len h1.1 (by omega))
   obtain ⟨b, o, Ax, cx, rfl, hx_x, hk_x⟩ := hk.one (x := x) (r := []) rfl
   simp only [List.length_cons, List.length_nil, Nat.zero_add] at hlen
   simp only [Nd.sub, List.getD_cons_zero] at h1
   have HD_x := hid h1.2
   clear hs h1
   have hTT : typeT ⟨12, s, num, pos, [x]⟩ = ⟨#[80, 79, 73, 78, 84, 69, 82, 32, 84, 79, 32]⟩ ++ nameT x := by simp [typeT, Nd.sub]
   rw [hTT] at hsz ⊢
   clear hTT
   obtain ⟨Tx, hT_x⟩ : ∃ T, T = nameT x := ⟨_, rfl⟩
   rw [← hT_x] at hsz ⊢
   have HT_x := hid hT_x
   clear hT_x
   unfold maxT at hsz
   simp only [ByteArray.size_append, ba_size, List.size_toArray, List.length_cons, List.length_nil] at hsz
   have HAT := hid (bAt w ⟨12, s, num, pos, [x]⟩ (some ⟨b, o, none⟩) c 24)
   have HL := hid (hl.below (bBw w (.cells #[.int .i64 12, .string s, .int .i64 num, .int .i64 pos, .slice (some ⟨b, o, none⟩) 1 c] 24)))
   have HX_x := hid (hx_x.below (bBw w (.cells #[.int .i64 12, .string s, .int .i64 num, .int .i64 pos, .slice (some ⟨b, o, none⟩) 1 c] 24)))
   have HK_x := hid (hk_x.below (bBw w (.cells #[.int .i64 12, .string s, .int .i64 num, .int .i64 pos, .slice (some ⟨b, o, none⟩) 1 c] 24)))
   clear hx_x hk_x
   clear hl hk
   obtain ⟨fx0, fx1, fx2, fx3, fx4⟩ := HX_x.out
   go_enter Tryz.func70, Tryz.ntmps70
   go_wp2_with fail
   generalize hW0 : w.alloc (.cells #[.int .i64 12, .string s, .int .i64 num, .int .i64 pos, .slice (some ⟨b, o, none⟩) 1 c] 24) = W0 at *
   have HBOX := hid (show Below w.heap.size w W0 by rw [← hW0]; exact bBw _ _)
   clear hW0
   refine (typeName_any _ x Ax cx _ HK_x.out HD_x.out (by rw [← HT_x.out]; unfold maxT; omega)).mono ?_
   rintro e w1 ⟨rfl, hb1⟩
   have HC1 := hid hb1
   clear hb1
   clear fx0 fx1 fx2 fx3 fx4
   obtain ⟨x0, x1, x2, x3, x4⟩ := nb HAT HC1
   obtain ⟨fx0, fx1, fx2, fx3, fx4⟩ := nb HX_x HC1
   rw [← HT_x.out]
   go_wp2
   go_ret
   exact ⟨rfl, bTh HBOX.out HC1.out⟩
  ·have b12 : (k == 12) = false := by simpa using k12
   have h1 := hs
   simp [typeS, k9, k12] at h1
   rcases subs with _ | ⟨x, r⟩
   ·skip
    simp at h1
   ·skip
    have HAL := hid (show (r.all fun x => decide (x.kind = 11) && varS x 11) = true by have h := h1.2; simpa using h)
    have HB0 := hid (show x.kind ≠ 0 → nameS x = true from fun h0 => by
     have h := h1.1.2
     simp only [Nd.sub, List.getD_cons_zero] at h
     rcases h with h | h
     ·simp [headB] at h; exact absurd h.1.1.1.1 h0
     ·exact h)
    simp only [List.length_cons] at hlen
    obtain ⟨b, o, Ax, cx, rfl, hx_x, hk_x⟩ := hk.one (x := x) (r := r) rfl
    obtain ⟨A', hA', hsl⟩ := slice_tail b o r.length c (by have := hk.list.1; simpa using this)
    clear h1 hs
    have hTT : typeT ⟨k, s, num, pos, x :: r⟩ = (⟨#[82, 69, 67, 79, 82, 68, 32]⟩ ++ (if x.kind = 0 then ⟨#[]⟩ else ⟨#[40]⟩ ++ nameT x ++ ⟨#[41, 32]⟩)) ++ catB (r.map fieldT) ++ ⟨#[69, 78, 68]⟩ := by simp [typeT, Nd.sub, k9, k12]
    rw [hTT] at hsz
    unfold maxT at hsz
    simp only [ByteArray.size_append, ba_size, List.size_toArray, List.length_cons, List.length_nil] at hsz
    have HTT := hid hTT
    clear hTT
    have hcb := congrArg ByteArray.size (cat_blank r)
    simp only [ByteArray.size_append, ba_size, List.size_toArray, List.length_cons, List.length_nil] at hcb
    have HCB := hid (show (catB (r.map fieldP)).size = (catB (r.map fieldT)).size by omega)
    clear hcb
    have HSZ := hid hsz
    clear hsz
    by_cases hx0 : x.kind = 0
    ·skip
     have hxb : (x.kind != 0) = false := by simp [hx0]
     have HX0 := hid hx0
     clear hx0
     have HAT := hid (bAt w ⟨k, s, num, pos, x :: r⟩ (some ⟨b, o, none⟩) c 24)
     have HL := hid (hl.below (bBw w (.cells #[.int .i64 k, .string s, .int .i64 num, .int .i64 pos, .slice (some ⟨b, o, none⟩) (r.length + 1) c] 24)))
     have HX_x := hid (hx_x.below (bBw w (.cells #[.int .i64 k, .string s, .int .i64 num, .int .i64 pos, .slice (some ⟨b, o, none⟩) (r.length + 1) c] 24)))
     have HK_x := hid (hk_x.below (bBw w (.cells #[.int .i64 k, .string s, .int .i64 num, .int .i64 pos, .slice (some ⟨b, o, none⟩) (r.length + 1) c] 24)))
     clear hx_x hk_x
     have HR := hid ((hk.list.tail hA').below (bBw w (.cells #[.int .i64 k, .string s, .int .i64 num, .int .i64 pos, .slice (some ⟨b, o, none⟩) (r.length + 1) c] 24)))
     clear hl hk
     clear hA'
     obtain ⟨fx0, fx1, fx2, fx3, fx4⟩ := HX_x.out
     go_enter Tryz.func70, Tryz.ntmps70
     go_wp2_with fail
     generalize hW0 : w.alloc (.cells #[.int .i64 k, .string s, .int .i64 num, .int .i64 pos, .slice (some ⟨b, o, none⟩) (r.length + 1) c] 24) = W0 at *
     have HBOX := hid (show Below w.heap.size w W0 by rw [← hW0]; exact bBw _ _)
     clear hW0
     generalize hV : W0.alloc (.cells #[.int .i64 x.kind, .string x.name, .int .i64 x.num, .int .i64 x.pos, .slice Ax x.subs.length cx] 24) = V at *
     have HCV := hid (show Below W0.heap.size W0 V by rw [← hV]; exact bBw _ _)
     clear hV
     clear fx0 fx1 fx2 fx3 fx4
     obtain ⟨x0, x1, x2, x3, x4⟩ := nb HAT HCV
     obtain ⟨fx0, fx1, fx2, fx3, fx4⟩ := nb HX_x HCV
     obtain ⟨PR, hPR⟩ : ∃ PR : ByteArray, PR = ⟨#[82, 69, 67, 79, 82, 68]⟩ := ⟨_, rfl⟩
     have HPR := hid hPR
     have HDOC := hid (show PR ++ ⟨#[32]⟩ = ⟨#[82, 69, 67, 79, 82, 68, 32]⟩ ++ (⟨#[]⟩ : ByteArray) by rw [hPR]; exact ba_ext (by simp))
     have hPz : PR.size + (catB (r.map fieldP)).size + 3 ≤ 1099511627776 := by have h := HSZ.out; have h2 := HCB.out; rw [hPR]; simp only [if_pos HX0.out, ByteArray.size_append, ba_size, List.size_toArray, List.length_cons, List.length_nil] at h ⊢; omega
     have HPZ := hid hPz
     clear hPz hPR
     go_loopw [3, 47] (fun ss ii wr => ∃ (i : Nat) (S : ByteArray), i ≤ r.length ∧ ii = .int .i64 i ∧ ss = .string S ∧ S = PR ++ catB ((r.take i).map fieldP) ∧ Below W0.heap.size W0 wr) (fun _ ii _ => r.length - (intOf ii).toNat)
     case atStart => exact ⟨0, _, by omega, rfl, rfl, by rw [HPR.out]; simp [catB, ba_nil], HCV.out⟩
     case round =>
      obtain ⟨i, S, hi, rfl, rfl, hS, hbr⟩ := hrel
      have HSS := hid hS
      have HCR := hid hbr
      clear hS hbr
      clear x0 x1 x2 x3 x4 fx0 fx1 fx2 fx3 fx4
      obtain ⟨x0, x1, x2, x3, x4⟩ := nb HAT HCR
      obtain ⟨fx0, fx1, fx2, fx3, fx4⟩ := nb HX_x HCR
      by_cases hlt : i < r.length
      ·skip
       obtain ⟨y, hy⟩ : ∃ y, r[i]? = some y := ⟨_, List.getElem?_eq_getElem hlt⟩
       obtain ⟨b1, o1, Ay, cy, hA1, hx, hky⟩ := HR.out.2.2 i y hy
       subst hA1
       have hvar := all_at HAL.out hy
       simp only [Bool.and_eq_true] at hvar
       have HVS := hid (varS_one hvar.2)
       have hcs := cat_size (f := fieldP) hy
       have STEP := hid (cat_step (f := fieldP) hy)
       clear hy hvar
       obtain ⟨d, rfl⟩ : ∃ d', d = d' + 1 := by cases d with | zero => exact hky.elim | succ d => exact ⟨d, rfl⟩
       have HX_y := hid hx
       have HK_y := hid hky
       clear hx hky
       have FY := hid (show fieldP y = ⟨#[32]⟩ ++ varT y ++ ⟨#[59]⟩ from rfl)
       rw [FY.out] at hcs
       obtain ⟨Ty, hT_y⟩ : ∃ T, T = varT y := ⟨_, rfl⟩
       rw [← hT_y] at hcs
       have HT_y := hid hT_y
       clear hT_y
       have hz : S.size + Ty.size + 4 ≤ 1099511627778 := by
        have h := HPZ.out
        rw [HSS.out]
        simp only [ByteArray.size_append, ba_size, List.size_toArray, List.length_cons, List.length_nil] at hcs ⊢
        omega
       clear hcs
       clear x0 x1 x2 x3 x4 fx0 fx1 fx2 fx3 fx4
       obtain ⟨x0, x1, x2, x3, x4⟩ := nb HAT HCR
       obtain ⟨fx0, fx1, fx2, fx3, fx4⟩ := nb HX_x HCR
       obtain ⟨fy0, fy1, fy2, fy3, fy4⟩ := nb HX_y HCR
       go_wp2_with fail
       generalize hV : wr.alloc (.cells #[.int .i64 y.kind, .string y.name, .int .i64 y.num, .int .i64 y.pos, .slice Ay y.subs.length cy] 24) = V2 at *
       have HCV2 := hid (show Below W0.heap.size W0 V2 by rw [← hV]; exact bTh HCR.out (bBw _ _))
       clear hV
       clear x0 x1 x2 x3 x4 fx0 fx1 fx2 fx3 fx4 fy0 fy1 fy2 fy3 fy4
       obtain ⟨x0, x1, x2, x3, x4⟩ := nb HAT HCV2
       obtain ⟨fx0, fx1, fx2, fx3, fx4⟩ := nb HX_x HCV2
       obtain ⟨fy0, fy1, fy2, fy3, fy4⟩ := nb HX_y HCV2
       refine (variable_any d y Ay cy _ (kb HK_y HCV2) HVS.out.1 HVS.out.2 (by rw [← HT_y.out]; unfold maxT; omega)).mono ?_
       rintro e w1 ⟨rfl, hb1⟩
       have HC1 := hid (bTh HCV2.out hb1)
       clear hb1
       clear x0 x1 x2 x3 x4 fx0 fx1 fx2 fx3 fx4 fy0 fy1 fy2 fy3 fy4
       obtain ⟨x0, x1, x2, x3, x4⟩ := nb HAT HC1
       obtain ⟨fx0, fx1, fx2, fx3, fx4⟩ := nb HX_x HC1
       obtain ⟨fy0, fy1, fy2, fy3, fy4⟩ := nb HX_y HC1
       rw [← HT_y.out]
       go_wp2
       go_roundw
       case rel => exact ⟨i + 1, _, by omega, by go_num, rfl, by rw [STEP.out, FY.out, HSS.out, ← HT_y.out]; simp only [ba_assoc], HC1.out⟩
       case measure => simp [intOf]; omega
      ·skip
       have hz : S.size + 4 ≤ 1099511627778 := by
        have h := HPZ.out
        rw [HSS.out, List.take_of_length_le (by omega)]
        simp only [ByteArray.size_append, ba_size, List.size_toArray, List.length_cons, List.length_nil]
        omega
       have FIN := hid (show S ++ ⟨#[32, 69, 78, 68]⟩ = typeT ⟨k, s, num, pos, x :: r⟩ by
        rw [HTT.out, HSS.out, List.take_of_length_le (by omega), if_pos HX0.out, ← HDOC.out]
        rw [show (⟨#[32, 69, 78, 68]⟩ : ByteArray) = ⟨#[32]⟩ ++ ⟨#[69, 78, 68]⟩ from rfl]
        rw [← ba_assoc, ba_assoc PR, cat_blank, ← ba_assoc])
       go_wp2
       go_ret
       exact ⟨ret_str FIN.out, bTh HBOX.out HCR.out⟩
    ·skip
     have hxb : (x.kind != 0) = true := by simp [hx0]
     have HD_x := hid (HB0.out hx0)
     have HX0 := hid hx0
     clear hx0
     have HAT := hid (bAt w ⟨k, s, num, pos, x :: r⟩ (some ⟨b, o, none⟩) c 24)
     have HL := hid (hl.below (bBw w (.cells #[.int .i64 k, .string s, .int .i64 num, .int .i64 pos, .slice (some ⟨b, o, none⟩) (r.length + 1) c] 24)))
     have HX_x := hid (hx_x.below (bBw w (.cells #[.int .i64 k, .string s, .int .i64 num, .int .i64 pos, .slice (some ⟨b, o, none⟩) (r.length + 1) c] 24)))
     have HK_x := hid (hk_x.below (bBw w (.cells #[.int .i64 k, .string s, .int .i64 num, .int .i64 pos, .slice (some ⟨b, o, none⟩) (r.length + 1) c] 24)))
     clear hx_x hk_x
     have HR := hid ((hk.list.tail hA').below (bBw w (.cells #[.int .i64 k, .string s, .int .i64 num, .int .i64 pos, .slice (some ⟨b, o, none⟩) (r.length + 1) c] 24)))
     clear hl hk
     clear hA'
     obtain ⟨fx0, fx1, fx2, fx3, fx4⟩ := HX_x.out
     go_enter Tryz.func70, Tryz.ntmps70
     obtain ⟨Tx, hT_x⟩ : ∃ T, T = nameT x := ⟨_, rfl⟩
     have HT_x := hid hT_x
     clear hT_x
     have hTz : Tx.size + 20 ≤ 1099511627787 := by have h := HSZ.out; rw [if_neg HX0.out, ← HT_x.out] at h; simp only [ByteArray.size_append, ba_size, List.size_toArray, List.length_cons, List.length_nil] at h; omega
     go_wp2_with fail
     generalize hW0 : w.alloc (.cells #[.int .i64 k, .string s, .int .i64 num, .int .i64 pos, .slice (some ⟨b, o, none⟩) (r.length + 1) c] 24) = W0 at *
     have HBOX := hid (show Below w.heap.size w W0 by rw [← hW0]; exact bBw _ _)
     clear hW0
     generalize hV : W0.alloc (.cells #[.int .i64 x.kind, .string x.name, .int .i64 x.num, .int .i64 x.pos, .slice Ax x.subs.length cx] 24) = V at *
     have HCV := hid (show Below W0.heap.size W0 V by rw [← hV]; exact bBw _ _)
     clear hV
     clear fx0 fx1 fx2 fx3 fx4
     obtain ⟨x0, x1, x2, x3, x4⟩ := nb HAT HCV
     obtain ⟨fx0, fx1, fx2, fx3, fx4⟩ := nb HX_x HCV
     refine (typeName_any _ x Ax cx _ (kb HK_x HCV) HD_x.out (by rw [← HT_x.out]; unfold maxT; omega)).mono ?_
     rintro e w1 ⟨rfl, hb1⟩
     have HC1 := hid (bTh HCV.out hb1)
     clear hb1
     clear x0 x1 x2 x3 x4 fx0 fx1 fx2 fx3 fx4
     obtain ⟨x0, x1, x2, x3, x4⟩ := nb HAT HC1
     obtain ⟨fx0, fx1, fx2, fx3, fx4⟩ := nb HX_x HC1
     rw [← HT_x.out]
     go_wp2_with fail
     obtain ⟨PR, hPR⟩ : ∃ PR : ByteArray, PR = ⟨#[82, 69, 67, 79, 82, 68]⟩ ++ (⟨#[32, 40]⟩ ++ Tx ++ ⟨#[41]⟩) := ⟨_, rfl⟩
     try rw [← hPR]
     have HPR := hid hPR
     have HDOC := hid (show PR ++ ⟨#[32]⟩ = ⟨#[82, 69, 67, 79, 82, 68, 32]⟩ ++ (⟨#[40]⟩ ++ Tx ++ ⟨#[41, 32]⟩) by rw [hPR]; exact ba_ext (by simp))
     have hPz : PR.size + (catB (r.map fieldP)).size + 3 ≤ 1099511627776 := by have h := HSZ.out; have h2 := HCB.out; rw [hPR]; simp only [if_neg HX0.out, ← HT_x.out, ByteArray.size_append, ba_size, List.size_toArray, List.length_cons, List.length_nil] at h ⊢; omega
     have HPZ := hid hPz
     clear hPz hPR
     go_loopw [3, 47] (fun ss ii wr => ∃ (i : Nat) (S : ByteArray), i ≤ r.length ∧ ii = .int .i64 i ∧ ss = .string S ∧ S = PR ++ catB ((r.take i).map fieldP) ∧ Below W0.heap.size W0 wr) (fun _ ii _ => r.length - (intOf ii).toNat)
     case atStart => exact ⟨0, _, by omega, rfl, rfl, by rw [HPR.out]; simp [catB, ba_nil], HC1.out⟩
     case round =>
      obtain ⟨i, S, hi, rfl, rfl, hS, hbr⟩ := hrel
      have HSS := hid hS
      have HCR := hid hbr
      clear hS hbr
      clear x0 x1 x2 x3 x4 fx0 fx1 fx2 fx3 fx4
      obtain ⟨x0, x1, x2, x3, x4⟩ := nb HAT HCR
      obtain ⟨fx0, fx1, fx2, fx3, fx4⟩ := nb HX_x HCR
      by_cases hlt : i < r.length
      ·skip
       obtain ⟨y, hy⟩ : ∃ y, r[i]? = some y := ⟨_, List.getElem?_eq_getElem hlt⟩
       obtain ⟨b1, o1, Ay, cy, hA1, hx, hky⟩ := HR.out.2.2 i y hy
       subst hA1
       have hvar := all_at HAL.out hy
       simp only [Bool.and_eq_true] at hvar
       have HVS := hid (varS_one hvar.2)
       have hcs := cat_size (f := fieldP) hy
       have STEP := hid (cat_step (f := fieldP) hy)
       clear hy hvar
       obtain ⟨d, rfl⟩ : ∃ d', d = d' + 1 := by cases d with | zero => exact hky.elim | succ d => exact ⟨d, rfl⟩
       have HX_y := hid hx
       have HK_y := hid hky
       clear hx hky
       have FY := hid (show fieldP y = ⟨#[32]⟩ ++ varT y ++ ⟨#[59]⟩ from rfl)
       rw [FY.out] at hcs
       obtain ⟨Ty, hT_y⟩ : ∃ T, T = varT y := ⟨_, rfl⟩
       rw [← hT_y] at hcs
       have HT_y := hid hT_y
       clear hT_y
       have hz : S.size + Ty.size + 4 ≤ 1099511627778 := by
        have h := HPZ.out
        rw [HSS.out]
        simp only [ByteArray.size_append, ba_size, List.size_toArray, List.length_cons, List.length_nil] at hcs ⊢
        omega
       clear hcs
       clear x0 x1 x2 x3 x4 fx0 fx1 fx2 fx3 fx4
       obtain ⟨x0, x1, x2, x3, x4⟩ := nb HAT HCR
       obtain ⟨fx0, fx1, fx2, fx3, fx4⟩ := nb HX_x HCR
       obtain ⟨fy0, fy1, fy2, fy3, fy4⟩ := nb HX_y HCR
       go_wp2_with fail
       generalize hV : wr.alloc (.cells #[.int .i64 y.kind, .string y.name, .int .i64 y.num, .int .i64 y.pos, .slice Ay y.subs.length cy] 24) = V2 at *
       have HCV2 := hid (show Below W0.heap.size W0 V2 by rw [← hV]; exact bTh HCR.out (bBw _ _))
       clear hV
       clear x0 x1 x2 x3 x4 fx0 fx1 fx2 fx3 fx4 fy0 fy1 fy2 fy3 fy4
       obtain ⟨x0, x1, x2, x3, x4⟩ := nb HAT HCV2
       obtain ⟨fx0, fx1, fx2, fx3, fx4⟩ := nb HX_x HCV2
       obtain ⟨fy0, fy1, fy2, fy3, fy4⟩ := nb HX_y HCV2
       refine (variable_any d y Ay cy _ (kb HK_y HCV2) HVS.out.1 HVS.out.2 (by rw [← HT_y.out]; unfold maxT; omega)).mono ?_
       rintro e w2 ⟨rfl, hb2⟩
       have HC2 := hid (bTh HCV2.out hb2)
       clear hb2
       clear x0 x1 x2 x3 x4 fx0 fx1 fx2 fx3 fx4 fy0 fy1 fy2 fy3 fy4
       obtain ⟨x0, x1, x2, x3, x4⟩ := nb HAT HC2
       obtain ⟨fx0, fx1, fx2, fx3, fx4⟩ := nb HX_x HC2
       obtain ⟨fy0, fy1, fy2, fy3, fy4⟩ := nb HX_y HC2
       rw [← HT_y.out]
       go_wp2
       go_roundw
       case rel => exact ⟨i + 1, _, by omega, by go_num, rfl, by rw [STEP.out, FY.out, HSS.out, ← HT_y.out]; simp only [ba_assoc], HC2.out⟩
       case measure => simp [intOf]; omega
      ·skip
       have hz : S.size + 4 ≤ 1099511627778 := by
        have h := HPZ.out
        rw [HSS.out, List.take_of_length_le (by omega)]
        simp only [ByteArray.size_append, ba_size, List.size_toArray, List.length_cons, List.length_nil]
        omega
       have FIN := hid (show S ++ ⟨#[32, 69, 78, 68]⟩ = typeT ⟨k, s, num, pos, x :: r⟩ by
        rw [HTT.out, HSS.out, List.take_of_length_le (by omega), if_neg HX0.out, ← HT_x.out, ← HDOC.out]
        rw [show (⟨#[32, 69, 78, 68]⟩ : ByteArray) = ⟨#[32]⟩ ++ ⟨#[69, 78, 68]⟩ from rfl]
        rw [← ba_assoc, ba_assoc PR, cat_blank, ← ba_assoc])
       go_wp2
       go_ret
       exact ⟨ret_str FIN.out, bTh HBOX.out HCR.out⟩
/-- What is written of a constant, of a type, of a parameter. -/
def constT (d : Nat) (n : Nd) : ByteArray := starT n ++ ⟨#[32, 61, 32]⟩ ++ exprT d (n.sub 0)
def namedT (n : Nd) : ByteArray := starT n ++ ⟨#[32, 61, 32]⟩ ++ typeT (n.sub 0)
def paramT (n : Nd) : ByteArray := (if n.num = 1 then ⟨#[86, 65, 82, 32]⟩ else ⟨#[]⟩) ++ n.name ++ ⟨#[58, 32]⟩ ++ nameT (n.sub 0)
theorem expr0_any (d : Nat) (n : Nd) (A : Option Addr) (c : Nat) (w : World) (hl : PowLaid w) (hk : Kids w d n A c) (hs : exprS d n = true) (hsz : (exprT d n).size ≤ maxT) :
  Calls Tryz.prog 68 #[.agg #[.int .i64 n.kind, .string n.name, .int .i64 n.num, .int .i64 n.pos, .slice A n.subs.length c], .int .i64 0] w fun e w' => e = .returned (.string (exprT d n)) ∧ Below w.heap.size w w' := by
 have h := sayE_any d n A c 0 w hl hk hs (by rw [atL0 hs]; exact hsz)
 rwa [atL0 hs] at h
set_option maxRecDepth 100000 in
set_option maxHeartbeats 1000000 in
theorem sayConst_any (d : Nat) (n : Nd) (A : Option Addr) (c : Nat) (w : World) (hl : PowLaid w) (hk : Kids w (d + 1) n A c) (h1 : n.subs.length = 1) (hs : exprS d (n.sub 0) = true) (hsz : (constT d n).size ≤ maxT) :
  Calls Tryz.prog 66 #[.agg #[.int .i64 n.kind, .string n.name, .int .i64 n.num, .int .i64 n.pos, .slice A n.subs.length c]] w fun e w' => e = .returned (.string (constT d n)) ∧ Below w.heap.size w w' := by
 obtain ⟨k, s, num, pos, subs⟩ := n
 obtain ⟨x, rfl⟩ : ∃ x, subs = [x] := List.length_eq_one_iff.1 h1
 clear h1
 have hlen : 1 ≤ c := hk.list.1
 obtain ⟨b, o, Ax, cx, rfl, hx_x, hk_x⟩ := hk.one (x := x) (r := []) rfl
 have HD_x := hid (show exprS d x = true from hs)
 clear hs
 have hTT : constT d ⟨k, s, num, pos, [x]⟩ = s ++ starP ⟨k, s, num, pos, [x]⟩ ++ ⟨#[32, 61, 32]⟩ ++ exprT d x := by rw [show s ++ starP ⟨k, s, num, pos, [x]⟩ = starT ⟨k, s, num, pos, [x]⟩ from star_app ⟨k, s, num, pos, [x]⟩]; rfl
 rw [hTT] at hsz ⊢
 clear hTT
 unfold maxT at hsz
 simp only [ByteArray.size_append, ba_size, List.size_toArray, List.length_cons, List.length_nil] at hsz
 obtain ⟨Tx, hT_x⟩ : ∃ T, T = exprT d x := ⟨_, rfl⟩
 obtain ⟨Ts, hT_s⟩ : ∃ T, T = starP ⟨k, s, num, pos, [x]⟩ := ⟨_, rfl⟩
 rw [← hT_x, ← hT_s] at hsz ⊢
 have HT_x := hid hT_x
 have HT_s := hid hT_s
 clear hT_x hT_s
 have HAT := hid (bAt w ⟨k, s, num, pos, [x]⟩ (some ⟨b, o, none⟩) c 24)
 have HL := hid (hl.below (bBw w (.cells #[.int .i64 k, .string s, .int .i64 num, .int .i64 pos, .slice (some ⟨b, o, none⟩) 1 c] 24)))
 have HX_x := hid (hx_x.below (bBw w (.cells #[.int .i64 k, .string s, .int .i64 num, .int .i64 pos, .slice (some ⟨b, o, none⟩) 1 c] 24)))
 have HK_x := hid (hk_x.below (bBw w (.cells #[.int .i64 k, .string s, .int .i64 num, .int .i64 pos, .slice (some ⟨b, o, none⟩) 1 c] 24)))
 clear hx_x hk_x
 clear hl hk
 obtain ⟨fx0, fx1, fx2, fx3, fx4⟩ := HX_x.out
 go_enter Tryz.func66, Tryz.ntmps66
 go_wp2
 generalize hW0 : w.alloc (.cells #[.int .i64 k, .string s, .int .i64 num, .int .i64 pos, .slice (some ⟨b, o, none⟩) 1 c] 24) = W0 at *
 have HBOX := hid (show Below w.heap.size w W0 by rw [← hW0]; exact bBw _ _)
 clear hW0
 clear fx0 fx1 fx2 fx3 fx4
 obtain ⟨x0, x1, x2, x3, x4⟩ := HAT.out
 obtain ⟨fx0, fx1, fx2, fx3, fx4⟩ := HX_x.out
 have r_0 := cRg x0
 have r_1 := cRg x1
 have r_2 := cRg x2
 have r_3 := cRg x3
 have r_4 := cRg x4
 have r_5 := cRg fx0
 have r_6 := cRg fx1
 have r_7 := cRg fx2
 have r_8 := cRg fx3
 have r_9 := cRg fx4
 have cQ0 : ∀ dd os, Calls Tryz.prog 67 #[.agg #[.int .i64 k, .string s, .int .i64 num, .int .i64 pos, .slice (some ⟨b, o, none⟩) 1 c]] (Go.Sort.grow (redrawn W0 dd) os) fun e w'' => e = .returned (.string Ts) ∧ ∃ p : Regrown, w'' = Go.Sort.grow (redrawn W0 p.d) p.os := fun dd os => by rw [HT_s.out]; exact Calls.regrown_of (star_any ⟨k, s, num, pos, [x]⟩ (some ⟨b, o, none⟩) c _)
 have cQ1 : ∀ dd os, Calls Tryz.prog 68 #[.agg #[.int .i64 x.kind, .string x.name, .int .i64 x.num, .int .i64 x.pos, .slice Ax x.subs.length cx], .int .i64 0] (Go.Sort.grow (redrawn W0 dd) os) fun e w'' => e = .returned (.string Tx) ∧ ∃ p : Regrown, w'' = Go.Sort.grow (redrawn W0 p.d) p.os := fun dd os => by rw [HT_x.out]; exact Calls.regrown_of (expr0_any d x Ax cx _ (HL.out.below (below_regrown _ _ _)) (HK_x.out.below (below_regrown _ _ _)) HD_x.out (by rw [← HT_x.out]; unfold maxT; omega))
 refine wp_region_quiet_below (by kernel_rfl) (by kernel_rfl) ?_
 repeat (go_big_quiet_step (first | with_reducible exact cQ0 _ _ | with_reducible exact cQ1 _ _))
 refine wpQuiet_nil ?_
 intro _ hw'
 obtain ⟨⟨dq, osq⟩, hw''⟩ := hw'
 subst hw''
 clear cQ0 cQ1 r_0 r_1 r_2 r_3 r_4 r_5 r_6 r_7 r_8 r_9
 have HG := hid (below_regrown W0 dq osq)
 generalize hG : Go.Sort.grow (redrawn W0 dq) osq = G at *
 clear hG
 go_wp2
 go_ret
 exact ⟨rfl, bTh HBOX.out HG.out⟩
set_option maxRecDepth 100000 in
set_option maxHeartbeats 1000000 in
theorem named_any0 (d : Nat) (n : Nd) (A : Option Addr) (c : Nat) (w : World) (hl : PowLaid w) (d' : Nat) (hd : d = d' + 1) (hk : Kids w (d + 1) n A c) (h1 : n.subs.length = 1) (hs : typeS (n.sub 0) = true) (hsz : (namedT n).size ≤ maxT) :
  Calls Tryz.prog 69 #[.agg #[.int .i64 n.kind, .string n.name, .int .i64 n.num, .int .i64 n.pos, .slice A n.subs.length c]] w fun e w' => e = .returned (.string (namedT n)) ∧ Below w.heap.size w w' := by
 obtain ⟨k, s, num, pos, subs⟩ := n
 obtain ⟨x, rfl⟩ : ∃ x, subs = [x] := List.length_eq_one_iff.1 h1
 clear h1
 have HD' := hid hd
 clear hd
 have hlen : 1 ≤ c := hk.list.1
 obtain ⟨b, o, Ax, cx, rfl, hx_x, hk_x⟩ := hk.one (x := x) (r := []) rfl
 have HD_x := hid (show typeS x = true from hs)
 clear hs
 have hTT : namedT ⟨k, s, num, pos, [x]⟩ = s ++ starP ⟨k, s, num, pos, [x]⟩ ++ ⟨#[32, 61, 32]⟩ ++ typeT x := by rw [show s ++ starP ⟨k, s, num, pos, [x]⟩ = starT ⟨k, s, num, pos, [x]⟩ from star_app ⟨k, s, num, pos, [x]⟩]; rfl
 rw [hTT] at hsz ⊢
 clear hTT
 unfold maxT at hsz
 simp only [ByteArray.size_append, ba_size, List.size_toArray, List.length_cons, List.length_nil] at hsz
 obtain ⟨Tx, hT_x⟩ : ∃ T, T = typeT x := ⟨_, rfl⟩
 obtain ⟨Ts, hT_s⟩ : ∃ T, T = starP ⟨k, s, num, pos, [x]⟩ := ⟨_, rfl⟩
 rw [← hT_x, ← hT_s] at hsz ⊢
 have HT_x := hid hT_x
 have HT_s := hid hT_s
 clear hT_x hT_s
 have HAT := hid (bAt w ⟨k, s, num, pos, [x]⟩ (some ⟨b, o, none⟩) c 24)
 have HL := hid (hl.below (bBw w (.cells #[.int .i64 k, .string s, .int .i64 num, .int .i64 pos, .slice (some ⟨b, o, none⟩) 1 c] 24)))
 have HX_x := hid (hx_x.below (bBw w (.cells #[.int .i64 k, .string s, .int .i64 num, .int .i64 pos, .slice (some ⟨b, o, none⟩) 1 c] 24)))
 have HK_x := hid (hk_x.below (bBw w (.cells #[.int .i64 k, .string s, .int .i64 num, .int .i64 pos, .slice (some ⟨b, o, none⟩) 1 c] 24)))
 clear hx_x hk_x
 clear hl hk
 obtain ⟨fx0, fx1, fx2, fx3, fx4⟩ := HX_x.out
 go_enter Tryz.func69, Tryz.ntmps69
 go_wp2
 generalize hW0 : w.alloc (.cells #[.int .i64 k, .string s, .int .i64 num, .int .i64 pos, .slice (some ⟨b, o, none⟩) 1 c] 24) = W0 at *
 have HBOX := hid (show Below w.heap.size w W0 by rw [← hW0]; exact bBw _ _)
 clear hW0
 clear fx0 fx1 fx2 fx3 fx4
 obtain ⟨x0, x1, x2, x3, x4⟩ := HAT.out
 obtain ⟨fx0, fx1, fx2, fx3, fx4⟩ := HX_x.out
 have r_0 := cRg x0
 have r_1 := cRg x1
 have r_2 := cRg x2
 have r_3 := cRg x3
 have r_4 := cRg x4
 have r_5 := cRg fx0
 have r_6 := cRg fx1
 have r_7 := cRg fx2
 have r_8 := cRg fx3
 have r_9 := cRg fx4
 have cQ0 : ∀ dd os, Calls Tryz.prog 67 #[.agg #[.int .i64 k, .string s, .int .i64 num, .int .i64 pos, .slice (some ⟨b, o, none⟩) 1 c]] (Go.Sort.grow (redrawn W0 dd) os) fun e w'' => e = .returned (.string Ts) ∧ ∃ p : Regrown, w'' = Go.Sort.grow (redrawn W0 p.d) p.os := fun dd os => by rw [HT_s.out]; exact Calls.regrown_of (star_any ⟨k, s, num, pos, [x]⟩ (some ⟨b, o, none⟩) c _)
 have cQ1 : ∀ dd os, Calls Tryz.prog 70 #[.agg #[.int .i64 x.kind, .string x.name, .int .i64 x.num, .int .i64 x.pos, .slice Ax x.subs.length cx]] (Go.Sort.grow (redrawn W0 dd) os) fun e w'' => e = .returned (.string Tx) ∧ ∃ p : Regrown, w'' = Go.Sort.grow (redrawn W0 p.d) p.os := fun dd os => by rw [HT_x.out]; exact Calls.regrown_of (typ_any d' x Ax cx _ (HL.out.below (below_regrown _ _ _)) (HD'.out ▸ (HK_x.out.below (below_regrown _ _ _))) HD_x.out (by rw [← HT_x.out]; unfold maxT; omega))
 refine wp_region_quiet_below (by kernel_rfl) (by kernel_rfl) ?_
 repeat (go_big_quiet_step (first | with_reducible exact cQ0 _ _ | with_reducible exact cQ1 _ _))
 refine wpQuiet_nil ?_
 intro _ hw'
 obtain ⟨⟨dq, osq⟩, hw''⟩ := hw'
 subst hw''
 clear cQ0 cQ1 r_0 r_1 r_2 r_3 r_4 r_5 r_6 r_7 r_8 r_9
 have HG := hid (below_regrown W0 dq osq)
 generalize hG : Go.Sort.grow (redrawn W0 dq) osq = G at *
 clear hG
 go_wp2
 go_ret
 exact ⟨rfl, bTh HBOX.out HG.out⟩
set_option maxRecDepth 100000 in
set_option maxHeartbeats 1000000 in
theorem sayParam_any (d : Nat) (n : Nd) (A : Option Addr) (c : Nat) (w : World) (hk : Kids w (d + 1) n A c) (h1 : n.subs.length = 1) (hs : nameS (n.sub 0) = true) (hsz : (paramT n).size ≤ maxT) :
  Calls Tryz.prog 118 #[.agg #[.int .i64 n.kind, .string n.name, .int .i64 n.num, .int .i64 n.pos, .slice A n.subs.length c]] w fun e w' => e = .returned (.string (paramT n)) ∧ Below w.heap.size w w' := by
 obtain ⟨k, s, num, pos, subs⟩ := n
 obtain ⟨x, rfl⟩ : ∃ x, subs = [x] := List.length_eq_one_iff.1 h1
 clear h1
 have hlen : 1 ≤ c := hk.list.1
 obtain ⟨b, o, Ax, cx, rfl, hx_x, hk_x⟩ := hk.one (x := x) (r := []) rfl
 have HD_x := hid (show nameS x = true from hs)
 clear hs
 cases h1 : (num == 1) with
 | true =>
  have hTT : paramT ⟨k, s, num, pos, [x]⟩ = ⟨#[86, 65, 82, 32]⟩ ++ s ++ ⟨#[58, 32]⟩ ++ nameT x := by simp only [beq_iff_eq, beq_eq_false_iff_ne, ne_eq] at h1; simp [paramT, Nd.sub, h1, nil_ba]
  rw [hTT] at hsz ⊢
  clear hTT
  unfold maxT at hsz
  simp only [ByteArray.size_append, ba_size, List.size_toArray, List.length_cons, List.length_nil] at hsz
  obtain ⟨Tx, hT_x⟩ : ∃ T, T = nameT x := ⟨_, rfl⟩
  rw [← hT_x] at hsz ⊢
  have HT_x := hid hT_x
  clear hT_x
  have HAT := hid (bAt w ⟨k, s, num, pos, [x]⟩ (some ⟨b, o, none⟩) c 24)
  have HX_x := hid (hx_x.below (bBw w (.cells #[.int .i64 k, .string s, .int .i64 num, .int .i64 pos, .slice (some ⟨b, o, none⟩) 1 c] 24)))
  have HK_x := hid (hk_x.below (bBw w (.cells #[.int .i64 k, .string s, .int .i64 num, .int .i64 pos, .slice (some ⟨b, o, none⟩) 1 c] 24)))
  clear hx_x hk_x
  clear hk
  obtain ⟨fx0, fx1, fx2, fx3, fx4⟩ := HX_x.out
  go_enter Tryz.func118, Tryz.ntmps118
  go_wp2
  generalize hW0 : w.alloc (.cells #[.int .i64 k, .string s, .int .i64 num, .int .i64 pos, .slice (some ⟨b, o, none⟩) 1 c] 24) = W0 at *
  have HBOX := hid (show Below w.heap.size w W0 by rw [← hW0]; exact bBw _ _)
  clear hW0
  clear fx0 fx1 fx2 fx3 fx4
  obtain ⟨x0, x1, x2, x3, x4⟩ := HAT.out
  obtain ⟨fx0, fx1, fx2, fx3, fx4⟩ := HX_x.out
  have r_0 := cRg x0
  have r_1 := cRg x1
  have r_2 := cRg x2
  have r_3 := cRg x3
  have r_4 := cRg x4
  have r_5 := cRg fx0
  have r_6 := cRg fx1
  have r_7 := cRg fx2
  have r_8 := cRg fx3
  have r_9 := cRg fx4
  have cQ0 : ∀ dd os, Calls Tryz.prog 114 #[.agg #[.int .i64 x.kind, .string x.name, .int .i64 x.num, .int .i64 x.pos, .slice Ax x.subs.length cx]] (Go.Sort.grow (redrawn W0 dd) os) fun e w'' => e = .returned (.string Tx) ∧ ∃ p : Regrown, w'' = Go.Sort.grow (redrawn W0 p.d) p.os := fun dd os => by rw [HT_x.out]; exact Calls.regrown_of (typeName_any _ x Ax cx _ (HK_x.out.below (below_regrown _ _ _)) HD_x.out (by rw [← HT_x.out]; unfold maxT; omega))
  refine wp_region_quiet_below (by kernel_rfl) (by kernel_rfl) ?_
  repeat (go_big_quiet_step (first | with_reducible exact cQ0 _ _))
  refine wpQuiet_nil ?_
  intro _ hw'
  obtain ⟨⟨dq, osq⟩, hw''⟩ := hw'
  subst hw''
  clear cQ0 r_0 r_1 r_2 r_3 r_4 r_5 r_6 r_7 r_8 r_9
  have HG := hid (below_regrown W0 dq osq)
  generalize hG : Go.Sort.grow (redrawn W0 dq) osq = G at *
  clear hG
  go_wp2
  go_ret
  exact ⟨rfl, bTh HBOX.out HG.out⟩
 | false =>
  have hTT : paramT ⟨k, s, num, pos, [x]⟩ = s ++ ⟨#[58, 32]⟩ ++ nameT x := by simp only [beq_iff_eq, beq_eq_false_iff_ne, ne_eq] at h1; simp [paramT, Nd.sub, h1, nil_ba]
  rw [hTT] at hsz ⊢
  clear hTT
  unfold maxT at hsz
  simp only [ByteArray.size_append, ba_size, List.size_toArray, List.length_cons, List.length_nil] at hsz
  obtain ⟨Tx, hT_x⟩ : ∃ T, T = nameT x := ⟨_, rfl⟩
  rw [← hT_x] at hsz ⊢
  have HT_x := hid hT_x
  clear hT_x
  have HAT := hid (bAt w ⟨k, s, num, pos, [x]⟩ (some ⟨b, o, none⟩) c 24)
  have HX_x := hid (hx_x.below (bBw w (.cells #[.int .i64 k, .string s, .int .i64 num, .int .i64 pos, .slice (some ⟨b, o, none⟩) 1 c] 24)))
  have HK_x := hid (hk_x.below (bBw w (.cells #[.int .i64 k, .string s, .int .i64 num, .int .i64 pos, .slice (some ⟨b, o, none⟩) 1 c] 24)))
  clear hx_x hk_x
  clear hk
  obtain ⟨fx0, fx1, fx2, fx3, fx4⟩ := HX_x.out
  go_enter Tryz.func118, Tryz.ntmps118
  go_wp2
  generalize hW0 : w.alloc (.cells #[.int .i64 k, .string s, .int .i64 num, .int .i64 pos, .slice (some ⟨b, o, none⟩) 1 c] 24) = W0 at *
  have HBOX := hid (show Below w.heap.size w W0 by rw [← hW0]; exact bBw _ _)
  clear hW0
  clear fx0 fx1 fx2 fx3 fx4
  obtain ⟨x0, x1, x2, x3, x4⟩ := HAT.out
  obtain ⟨fx0, fx1, fx2, fx3, fx4⟩ := HX_x.out
  have r_0 := cRg x0
  have r_1 := cRg x1
  have r_2 := cRg x2
  have r_3 := cRg x3
  have r_4 := cRg x4
  have r_5 := cRg fx0
  have r_6 := cRg fx1
  have r_7 := cRg fx2
  have r_8 := cRg fx3
  have r_9 := cRg fx4
  have cQ0 : ∀ dd os, Calls Tryz.prog 114 #[.agg #[.int .i64 x.kind, .string x.name, .int .i64 x.num, .int .i64 x.pos, .slice Ax x.subs.length cx]] (Go.Sort.grow (redrawn W0 dd) os) fun e w'' => e = .returned (.string Tx) ∧ ∃ p : Regrown, w'' = Go.Sort.grow (redrawn W0 p.d) p.os := fun dd os => by rw [HT_x.out]; exact Calls.regrown_of (typeName_any _ x Ax cx _ (HK_x.out.below (below_regrown _ _ _)) HD_x.out (by rw [← HT_x.out]; unfold maxT; omega))
  refine wp_region_quiet_below (by kernel_rfl) (by kernel_rfl) ?_
  repeat (go_big_quiet_step (first | with_reducible exact cQ0 _ _))
  refine wpQuiet_nil ?_
  intro _ hw'
  obtain ⟨⟨dq, osq⟩, hw''⟩ := hw'
  subst hw''
  clear cQ0 r_0 r_1 r_2 r_3 r_4 r_5 r_6 r_7 r_8 r_9
  have HG := hid (below_regrown W0 dq osq)
  generalize hG : Go.Sort.grow (redrawn W0 dq) osq = G at *
  clear hG
  go_wp2
  go_ret
  exact ⟨rfl, bTh HBOX.out HG.out⟩
theorem sayImport_any (n : Nd) (A : Option Addr) (c : Nat) (w : World) :
  Calls Tryz.prog 64 #[.agg #[.int .i64 n.kind, .string n.name, .int .i64 n.num, .int .i64 n.pos, .slice A n.subs.length c]] w fun e w' => e = .returned (.string n.name) ∧ Below w.heap.size w w' := by
 obtain ⟨k, s, num, pos, subs⟩ := n
 go_enter Tryz.func64, Tryz.ntmps64
 go_wp2
 go_ret
 exact ⟨rfl, bBw _ _⟩
def okC (d : Nat) (x : Nd) : Bool := decide (x.subs.length = 1) && exprS d (x.sub 0)
def okN (x : Nd) : Bool := decide (x.subs.length = 1) && typeS (x.sub 0)
def okV (x : Nd) : Bool := decide (x.subs.length = 1) && nameS (x.sub 0)
theorem ok_two {b : Prop} [Decidable b] {c : Bool} (h : (decide b && c) = true) : b ∧ c = true := by simpa using h
theorem say_const (d : Nat) : SayFn 66 (d + 1) (okC d) (constT d) :=
 ⟨fun args w => enters_f Tryz.func66 (by kernel_rfl) rfl args w, fun n A c w hl hk hok hsz => sayConst_any d n A c w hl hk (ok_two hok).1 (ok_two hok).2 hsz⟩
theorem say_named (d : Nat) : SayFn 69 (d + 1) okN namedT :=
 ⟨fun args w => enters_f Tryz.func69 (by kernel_rfl) rfl args w, fun n A c w hl hk hok hsz => by
  cases d with
  | zero =>
   obtain ⟨x, hx⟩ : ∃ x, n.subs = [x] := List.length_eq_one_iff.1 (ok_two hok).1
   obtain ⟨_, _, _, _, _, _, hkx⟩ := hk.one hx
   exact hkx.elim
  | succ d => exact named_any0 (d + 1) n A c w hl d rfl hk (ok_two hok).1 (ok_two hok).2 hsz⟩
theorem say_var (d : Nat) : SayFn 71 (d + 1) okV varT :=
 ⟨fun args w => enters_f Tryz.func71 (by kernel_rfl) rfl args w, fun n A c w _ hk hok hsz => variable_any d n A c w hk (ok_two hok).1 (ok_two hok).2 hsz⟩
theorem say_param (d : Nat) : SayFn 118 (d + 1) okV paramT :=
 ⟨fun args w => enters_f Tryz.func118 (by kernel_rfl) rfl args w, fun n A c w _ hk hok hsz => sayParam_any d n A c w hk (ok_two hok).1 (ok_two hok).2 hsz⟩
theorem say_import (d : Nat) : SayFn 64 d (fun _ => true) (·.name) :=
 ⟨fun args w => enters_f Tryz.func64 (by kernel_rfl) rfl args w, fun n A c w _ _ _ _ => sayImport_any n A c w⟩
end Go.Proofs.YtneohanphabneaaGreatDoor
