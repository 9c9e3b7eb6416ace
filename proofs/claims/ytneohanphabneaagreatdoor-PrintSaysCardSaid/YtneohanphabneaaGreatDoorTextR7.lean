/-
The document's text of a tree, the walks: procedures. Conditions: the tree lies in memory and is shaped; the text's length is below a bound.
-/
import Derived.Test.YtneohanphabneaaGreatDoorTextR6
import Derived.Test.YtneohanphabneaaGreatDoorTextPT
namespace Go.Proofs.YtneohanphabneaaGreatDoor
set_option linter.unusedSimpArgs false
set_option linter.unusedVariables false
open Go.RowKit Go.BigFrame
theorem st_texts : ∀ d : Nat, Says_stmtText d ∧ Says_stmtsText d
 | 0 => ⟨fun _ _ _ _ _ hk => hk.elim, fun _ _ _ _ _ hk => hk.elim⟩
 | d + 1 => ⟨stmtText_step d (st_texts d).2, stmtsText_step d (st_texts d).1⟩
/-- What is written of the parameters, of the result. -/
def parT (n : Nd) : ByteArray := if 0 < (n.sub 0).subs.length ∨ (n.sub 1).kind ≠ 0 then ⟨#[40]⟩ ++ joinB ⟨#[59, 32]⟩ ((n.sub 0).subs.map paramT) ++ ⟨#[41]⟩ else ⟨#[]⟩
def resT (n : Nd) : ByteArray := if (n.sub 1).kind ≠ 0 then ⟨#[58, 32]⟩ ++ nameT (n.sub 1) else ⟨#[]⟩
/-- 'procText'; d: the depth of the declarations' expressions. -/
def procT (d : Nat) (n : Nd) : ByteArray := (⟨#[80, 82, 79, 67, 69, 68, 85, 82, 69, 32]⟩ : ByteArray) ++ starT n ++ parT n ++ resT n ++ (⟨#[59, 10]⟩ : ByteArray) ++ declTT d (⟨#[86, 65, 82]⟩ : ByteArray) (n.sub 2).subs ++ (⟨#[66, 69, 71, 73, 78, 10]⟩ : ByteArray) ++ stmtsT (d + 2) (n.sub 3) (⟨#[32, 32]⟩ : ByteArray) ++ (⟨#[69, 78, 68, 32]⟩ : ByteArray) ++ n.name ++ (⟨#[59, 10]⟩ : ByteArray)
theorem declOK_var {d : Nat} {l : List Nd} (h : (l.all fun x => decide (x.kind = 6) && decide (x.num = 0) && varS x 6) = true) : l.all (declOK d) = true := by
 rw [List.all_eq_true] at h ⊢
 intro x hx
 have := h x hx
 simp only [Bool.and_eq_true, decide_eq_true_eq] at this
 simp [declOK, this.1.1, this.2]
set_option maxRecDepth 100000 in
set_option maxHeartbeats 4000000 in
theorem procText_any (d : Nat) (n : Nd) (A : Option Addr) (c : Nat) (w : World) (hk : Kids w (d + 3) n A c) (hs : procS (d + 2) n = true) (hsz : (procT d n).size ≤ maxT) :
  Calls Tryz.prog 22 #[.agg #[.int .i64 n.kind, .string n.name, .int .i64 n.num, .int .i64 n.pos, .slice A n.subs.length c]] w fun e w' => e = .returned (.string (procT d n)) ∧ Below w.heap.size w w' := by
 obtain ⟨k, s, num, pos, subs⟩ := n
 have hlen := hk.len
 unfold maxLen at hlen
 simp only at hlen
 simp [procS] at hs
 have hD := fun wd l A c V hk hs hz => declText_any d wd l A c V hk hs hz
 have hL := (st_texts (d + 2)).2
 obtain ⟨x, y, z, v, rfl⟩ := len4 (l := subs) (headB_len hs.1.1.1.1.1.1 (by omega))
 obtain ⟨b, o, Ax, cx, rfl, hx_x, hk_x⟩ := hk.one (x := x) (r := [y, z, v]) rfl
 obtain ⟨Ay, cy, hx_y, hk_y⟩ := hk.nth rfl (i := 1) (x := y) rfl (p := o + 5) (by omega)
 obtain ⟨Az, cz, hx_z, hk_z⟩ := hk.nth rfl (i := 2) (x := z) rfl (p := o + 10) (by omega)
 obtain ⟨Av, cv, hx_v, hk_v⟩ := hk.nth rfl (i := 3) (x := v) rfl (p := o + 15) (by omega)
 simp only [List.length_cons, List.length_nil, Nat.zero_add] at hlen
 simp only [Nd.sub, List.getD_cons_zero, List.getD_cons_succ] at hs
 have HPAR := hid (show (x.subs.all fun q => decide (q.kind = 8) && varS q 8) = true by have h := hs.1.1.1.2; simpa using h)
 have HVAR := hid (declOK_var (d := d) (show (z.subs.all fun q => decide (q.kind = 6) && decide (q.num = 0) && varS q 6) = true by have h := hs.1.1.2; simpa using h))
 have HD_v := hid hs.2
 clear hs
 have hTT : procT d ⟨k, s, num, pos, [x, y, z, v]⟩ = (⟨#[80, 82, 79, 67, 69, 68, 85, 82, 69, 32]⟩ : ByteArray) ++ starT ⟨k, s, num, pos, [x, y, z, v]⟩ ++ parT ⟨k, s, num, pos, [x, y, z, v]⟩ ++ resT ⟨k, s, num, pos, [x, y, z, v]⟩ ++ (⟨#[59, 10]⟩ : ByteArray) ++ declTT d (⟨#[86, 65, 82]⟩ : ByteArray) z.subs ++ (⟨#[66, 69, 71, 73, 78, 10]⟩ : ByteArray) ++ stmtsT (d + 2) v (⟨#[32, 32]⟩ : ByteArray) ++ (⟨#[69, 78, 68, 32]⟩ : ByteArray) ++ s ++ (⟨#[59, 10]⟩ : ByteArray) := rfl
 rw [hTT] at hsz ⊢
 clear hTT
 obtain ⟨Tn, hT_n⟩ : ∃ T, T = starT ⟨k, s, num, pos, [x, y, z, v]⟩ := ⟨_, rfl⟩
 rw [← hT_n] at hsz ⊢
 have HT_n := hid hT_n
 clear hT_n
 obtain ⟨Tz, hT_z⟩ : ∃ T, T = declTT d (⟨#[86, 65, 82]⟩ : ByteArray) z.subs := ⟨_, rfl⟩
 rw [← hT_z] at hsz ⊢
 have HT_z := hid hT_z
 clear hT_z
 obtain ⟨Tv, hT_v⟩ : ∃ T, T = stmtsT (d + 2) v (⟨#[32, 32]⟩ : ByteArray) := ⟨_, rfl⟩
 rw [← hT_v] at hsz ⊢
 have HT_v := hid hT_v
 clear hT_v
 have hns : s.size ≤ Tn.size := by rw [HT_n.out]; unfold starT; split <;> simp [ByteArray.size_append]
 have hPAR : parT ⟨k, s, num, pos, [x, y, z, v]⟩ = if 0 < x.subs.length ∨ y.kind ≠ 0 then ⟨#[40]⟩ ++ joinB ⟨#[59, 32]⟩ (x.subs.map paramT) ++ ⟨#[41]⟩ else ⟨#[]⟩ := rfl
 have hRES : resT ⟨k, s, num, pos, [x, y, z, v]⟩ = if y.kind ≠ 0 then ⟨#[58, 32]⟩ ++ nameT y else ⟨#[]⟩ := rfl
 rw [hPAR, hRES] at hsz ⊢
 clear hPAR hRES
 have hxl := hk_x.len
 have hzl := hk_z.len
 unfold maxLen at hxl hzl
 have hkx := hk_x.list
 have hkz := hk_z.list
 by_cases hx0 : 0 < x.subs.length
 ·skip
  by_cases hy0 : y.kind ≠ 0
  ·skip
   rw [if_pos (Or.inl hx0)] at hsz ⊢
   obtain ⟨JJ, hJJ⟩ : ∃ JJ, JJ = joinB ⟨#[59, 32]⟩ (x.subs.map paramT) := ⟨_, rfl⟩
   rw [← hJJ] at hsz ⊢
   have HJJ := hid hJJ
   clear hJJ
   rw [if_pos hy0] at hsz ⊢
   unfold maxT at hsz
   simp only [ByteArray.size_append, ba_size, List.size_toArray, List.length_cons, List.length_nil] at hsz
   have hxb : decide ((0 : Int) < (x.subs.length : Int)) = true := decide_eq_true (by omega)
   have hxc : decide (0 < x.subs.length) = true := decide_eq_true hx0
   have hyb : (y.kind != 0) = true := by simp [hy0]
   have HD_y := hid hy0
   clear hx0 hy0
   obtain ⟨Ty, hT_y⟩ : ∃ T, T = nameT y := ⟨_, rfl⟩
   rw [← hT_y] at hsz ⊢
   have HT_y := hid hT_y
   clear hT_y
   have HAT := hid (bAt w ⟨k, s, num, pos, [x, y, z, v]⟩ (some ⟨b, o, none⟩) c 24)
   have HX_x := hid (hx_x.below (bBw w (.cells #[.int .i64 k, .string s, .int .i64 num, .int .i64 pos, .slice (some ⟨b, o, none⟩) 4 c] 24)))
   have HK_x := hid (hk_x.below (bBw w (.cells #[.int .i64 k, .string s, .int .i64 num, .int .i64 pos, .slice (some ⟨b, o, none⟩) 4 c] 24)))
   clear hx_x hk_x
   have HX_y := hid (hx_y.below (bBw w (.cells #[.int .i64 k, .string s, .int .i64 num, .int .i64 pos, .slice (some ⟨b, o, none⟩) 4 c] 24)))
   have HK_y := hid (hk_y.below (bBw w (.cells #[.int .i64 k, .string s, .int .i64 num, .int .i64 pos, .slice (some ⟨b, o, none⟩) 4 c] 24)))
   clear hx_y hk_y
   have HX_z := hid (hx_z.below (bBw w (.cells #[.int .i64 k, .string s, .int .i64 num, .int .i64 pos, .slice (some ⟨b, o, none⟩) 4 c] 24)))
   have HK_z := hid (hk_z.below (bBw w (.cells #[.int .i64 k, .string s, .int .i64 num, .int .i64 pos, .slice (some ⟨b, o, none⟩) 4 c] 24)))
   clear hx_z hk_z
   have HX_v := hid (hx_v.below (bBw w (.cells #[.int .i64 k, .string s, .int .i64 num, .int .i64 pos, .slice (some ⟨b, o, none⟩) 4 c] 24)))
   have HK_v := hid (hk_v.below (bBw w (.cells #[.int .i64 k, .string s, .int .i64 num, .int .i64 pos, .slice (some ⟨b, o, none⟩) 4 c] 24)))
   clear hx_v hk_v
   have HKX := hid ((hkx).below (bBw w (.cells #[.int .i64 k, .string s, .int .i64 num, .int .i64 pos, .slice (some ⟨b, o, none⟩) 4 c] 24)))
   have HKZ := hid ((hkz).below (bBw w (.cells #[.int .i64 k, .string s, .int .i64 num, .int .i64 pos, .slice (some ⟨b, o, none⟩) 4 c] 24)))
   clear hk
   clear hkx hkz
   obtain ⟨fx0, fx1, fx2, fx3, fx4⟩ := HX_x.out
   obtain ⟨fy0, fy1, fy2, fy3, fy4⟩ := HX_y.out
   obtain ⟨fz0, fz1, fz2, fz3, fz4⟩ := HX_z.out
   obtain ⟨fv0, fv1, fv2, fv3, fv4⟩ := HX_v.out
   go_enter Tryz.func22, Tryz.ntmps22
   go_wp2_with fail
   generalize hW0 : w.alloc (.cells #[.int .i64 k, .string s, .int .i64 num, .int .i64 pos, .slice (some ⟨b, o, none⟩) 4 c] 24) = W0 at *
   have HBOX := hid (show Below w.heap.size w W0 by rw [← hW0]; exact bBw _ _)
   clear hW0
   obtain ⟨x0, x1, x2, x3, x4⟩ := HAT.out
   obtain ⟨fx0, fx1, fx2, fx3, fx4⟩ := HX_x.out
   obtain ⟨fy0, fy1, fy2, fy3, fy4⟩ := HX_y.out
   obtain ⟨fz0, fz1, fz2, fz3, fz4⟩ := HX_z.out
   obtain ⟨fv0, fv1, fv2, fv3, fv4⟩ := HX_v.out
   refine (starred_any ⟨k, s, num, pos, [x, y, z, v]⟩ (some ⟨b, o, none⟩) c W0 (by unfold maxT; simp only; omega)).mono ?_
   rintro e w1 ⟨rfl, hb1⟩
   rw [← HT_n.out]
   have HC1 := hid hb1
   clear hb1
   clear x0 x1 x2 x3 x4 fx0 fx1 fx2 fx3 fx4 fy0 fy1 fy2 fy3 fy4 fz0 fz1 fz2 fz3 fz4 fv0 fv1 fv2 fv3 fv4
   obtain ⟨x0, x1, x2, x3, x4⟩ := nb HAT HC1
   obtain ⟨fx0, fx1, fx2, fx3, fx4⟩ := nb HX_x HC1
   obtain ⟨fy0, fy1, fy2, fy3, fy4⟩ := nb HX_y HC1
   obtain ⟨fz0, fz1, fz2, fz3, fz4⟩ := nb HX_z HC1
   obtain ⟨fv0, fv1, fv2, fv3, fv4⟩ := nb HX_v HC1
   go_wp2
   obtain ⟨PR, hPR⟩ : ∃ PR : ByteArray, PR = (⟨#[80, 82, 79, 67, 69, 68, 85, 82, 69, 32]⟩ : ByteArray) ++ Tn ++ ⟨#[40]⟩ := ⟨_, rfl⟩
   try rw [← hPR]
   have HPR := hid hPR
   have hPRz : PR.size = Tn.size + 11 := by rw [hPR]; simp only [ByteArray.size_append, ba_size, List.size_toArray, List.length_cons, List.length_nil]; omega
   clear hPR
   go_loopw [3, 5] (fun ss ii wr => ∃ (j : Nat) (S : ByteArray), j ≤ x.subs.length ∧ ii = .int .i64 j ∧ ss = .string S ∧ Hid (S = PR ++ joinB ⟨#[59, 32]⟩ ((x.subs.take j).map paramT)) ∧ Hid (Below W0.heap.size W0 wr)) (fun _ ii _ => x.subs.length - (intOf ii).toNat)
   case atStart => exact ⟨0, _, Nat.zero_le _, rfl, rfl, hid (by simp [joinB, ba_nil]), HC1⟩
   case round =>
    obtain ⟨j, S, hj, rfl, rfl, HSS, HCR⟩ := hrel
    clear x0 x1 x2 x3 x4 fx0 fx1 fx2 fx3 fx4 fy0 fy1 fy2 fy3 fy4 fz0 fz1 fz2 fz3 fz4 fv0 fv1 fv2 fv3 fv4
    obtain ⟨x0, x1, x2, x3, x4⟩ := nb HAT HCR
    obtain ⟨fx0, fx1, fx2, fx3, fx4⟩ := nb HX_x HCR
    obtain ⟨fy0, fy1, fy2, fy3, fy4⟩ := nb HX_y HCR
    obtain ⟨fz0, fz1, fz2, fz3, fz4⟩ := nb HX_z HCR
    obtain ⟨fv0, fv1, fv2, fv3, fv4⟩ := nb HX_v HCR
    have hSz : S.size ≤ PR.size + JJ.size := by
     have h1 := join_le ⟨#[59, 32]⟩ paramT x.subs j
     rw [HSS.out, HJJ.out]
     simp only [ByteArray.size_append]
     omega
    by_cases hlt : j < x.subs.length
    ·skip
     obtain ⟨q, hq⟩ : ∃ q, x.subs[j]? = some q := ⟨_, List.getElem?_eq_getElem hlt⟩
     obtain ⟨bq, oq, Aq, cq, hA, hxq, hkq⟩ := HKX.out.2.2 j q hq
     have HA := hid hA
     have hvar := all_at HPAR.out hq
     simp only [Bool.and_eq_true, varS] at hvar
     have STEP := hid (joinB_step ⟨#[59, 32]⟩ paramT hq)
     have hle := join_le ⟨#[59, 32]⟩ paramT x.subs (j + 1)
     rw [STEP.out, ← HJJ.out] at hle
     obtain ⟨qk, qs, qn, qp, ql⟩ := q
     obtain ⟨r, rfl⟩ := len1 (headB_len hvar.2.1 (by omega))
     clear hvar hq hA
     obtain ⟨b2, o2, Ar, cr, rfl, hx_r, hk_r⟩ := hkq.one (x := r) (r := []) rfl
     have HX_q := hid hxq
     have HX_r := hid hx_r
     have HK_r := hid hk_r
     clear hxq hx_r hkq hk_r
     have fxx := fx4
     rw [HA.out] at fxx
     clear fx4
     have fx4 := fxx
     clear fxx
     obtain ⟨Tr, hT_r⟩ : ∃ T, T = nameT r := ⟨_, rfl⟩
     have HT_r := hid hT_r
     clear hT_r
     have FQ := hid (show paramT ⟨qk, qs, qn, qp, [r]⟩ = (if qn = 1 then ⟨#[86, 65, 82, 32]⟩ else ⟨#[]⟩) ++ qs ++ ⟨#[58, 32]⟩ ++ Tr by rw [HT_r.out]; rfl)
     rw [FQ.out] at hle
     have hz0 : (joinB ⟨#[59, 32]⟩ ((x.subs.take j).map paramT)).size + qs.size + Tr.size ≤ JJ.size := by
      split at hle
      ·rename_i h0
       subst h0
       simp only [List.take_zero, List.map_nil, joinB, ByteArray.size_append, ba_size, List.size_toArray, List.length_cons, List.length_nil] at hle ⊢
       omega
      ·simp only [ByteArray.size_append, ba_size, List.size_toArray, List.length_cons, List.length_nil] at hle
       omega
     have hz : S.size + qs.size + Tr.size + 10 ≤ 1099511627799 ∧ Tr.size ≤ 1099511627776 := by
      rw [HSS.out]
      simp only [ByteArray.size_append]
      omega
     obtain ⟨hz, hTr⟩ := hz
     clear hle hz0
     obtain ⟨fq0, fq1, fq2, fq3, fq4⟩ := nb HX_q HCR
     obtain ⟨fr0, fr1, fr2, fr3, fr4⟩ := nb HX_r HCR
     by_cases h0 : j = 0
     ·skip
      have h0c : decide (0 < j) = false := decide_eq_false (by omega)
      have h0b : decide (0 < (j : Int)) = false := decide_eq_false (by omega)
      have H0 := hid h0
      clear h0
      cases hq1 : (qn == 1) with
      | true =>
       have HQ1 := hid (show qn = 1 by simpa using hq1)
       have hj1 : (0 : Int) ≤ (j : Int) := by omega
       have hj2 : (j : Int) < x.subs.length := by omega
       rw [HA.out]
       go_wp2
       have r_0 := cRg x0
       have r_1 := cRg x1
       have r_2 := cRg x2
       have r_3 := cRg x3
       have r_4 := cRg x4
       have r_5 := cRg fx0
       have r_6 := cRg fx1
       have r_7 := cRg fx2
       have r_8 := cRg fx3
       have r_9 := cRg fx4
       have r_10 := cRg fy0
       have r_11 := cRg fy1
       have r_12 := cRg fy2
       have r_13 := cRg fy3
       have r_14 := cRg fy4
       have r_15 := cRg fz0
       have r_16 := cRg fz1
       have r_17 := cRg fz2
       have r_18 := cRg fz3
       have r_19 := cRg fz4
       have r_20 := cRg fv0
       have r_21 := cRg fv1
       have r_22 := cRg fv2
       have r_23 := cRg fv3
       have r_24 := cRg fv4
       have r_25 := cRg fq0
       have r_26 := cRg fq1
       have r_27 := cRg fq2
       have r_28 := cRg fq3
       have r_29 := cRg fq4
       have r_30 := cRg fr0
       have r_31 := cRg fr1
       have r_32 := cRg fr2
       have r_33 := cRg fr3
       have r_34 := cRg fr4
       have cP0 : ∀ w', Below wr.heap.size wr w' → Calls Tryz.prog 47 #[.agg #[.int .i64 r.kind, .string r.name, .int .i64 r.num, .int .i64 r.pos, .slice Ar r.subs.length cr]] w' fun e w'' => e = .returned (.string Tr) ∧ Below w'.heap.size w' w'' := fun w' hb => by rw [HT_r.out]; exact nameText_any _ r Ar cr _ (HK_r.out.below (bTh HCR.out hb)) (by rw [← HT_r.out]; unfold maxT; omega)
       have cQ0 : ∀ dd os, Calls Tryz.prog 47 #[.agg #[.int .i64 r.kind, .string r.name, .int .i64 r.num, .int .i64 r.pos, .slice Ar r.subs.length cr]] (Go.Sort.grow (redrawn wr dd) os) fun e w'' => e = .returned (.string Tr) ∧ ∃ p : Regrown, w'' = Go.Sort.grow (redrawn wr p.d) p.os := fun dd os => Calls.regrown_of (cP0 _ (below_regrown _ _ _))
       clear cP0
       refine wp_region_quiet_below (by kernel_rfl) (by kernel_rfl) ?_
       repeat (go_big_quiet_step (first | with_reducible exact cQ0 _ _))
       refine wpQuiet_nil ?_
       intro _ hw'
       obtain ⟨⟨dq, osq⟩, hw''⟩ := hw'
       subst hw''
       clear cQ0 r_0 r_1 r_2 r_3 r_4 r_5 r_6 r_7 r_8 r_9 r_10 r_11 r_12 r_13 r_14 r_15 r_16 r_17 r_18 r_19 r_20 r_21 r_22 r_23 r_24 r_25 r_26 r_27 r_28 r_29 r_30 r_31 r_32 r_33 r_34
       have HG := hid (bTh HCR.out (below_regrown wr dq osq))
       generalize hG : Go.Sort.grow (redrawn wr dq) osq = G at *
       clear hG
       go_wp2
       go_roundw
       case rel => exact ⟨j + 1, _, by omega, by go_num, rfl, hid (by rw [STEP.out, if_pos H0.out, HSS.out, FQ.out, if_pos HQ1.out, H0.out]; simp only [ba_assoc, nil_ba, ba_nil, List.take_zero, List.map_nil, joinB]), HG⟩
       case measure => simp [intOf]; omega
      | false =>
       have HQ1 := hid (show ¬ qn = 1 by simpa using hq1)
       have hj1 : (0 : Int) ≤ (j : Int) := by omega
       have hj2 : (j : Int) < x.subs.length := by omega
       rw [HA.out]
       go_wp2
       have r_0 := cRg x0
       have r_1 := cRg x1
       have r_2 := cRg x2
       have r_3 := cRg x3
       have r_4 := cRg x4
       have r_5 := cRg fx0
       have r_6 := cRg fx1
       have r_7 := cRg fx2
       have r_8 := cRg fx3
       have r_9 := cRg fx4
       have r_10 := cRg fy0
       have r_11 := cRg fy1
       have r_12 := cRg fy2
       have r_13 := cRg fy3
       have r_14 := cRg fy4
       have r_15 := cRg fz0
       have r_16 := cRg fz1
       have r_17 := cRg fz2
       have r_18 := cRg fz3
       have r_19 := cRg fz4
       have r_20 := cRg fv0
       have r_21 := cRg fv1
       have r_22 := cRg fv2
       have r_23 := cRg fv3
       have r_24 := cRg fv4
       have r_25 := cRg fq0
       have r_26 := cRg fq1
       have r_27 := cRg fq2
       have r_28 := cRg fq3
       have r_29 := cRg fq4
       have r_30 := cRg fr0
       have r_31 := cRg fr1
       have r_32 := cRg fr2
       have r_33 := cRg fr3
       have r_34 := cRg fr4
       have cP0 : ∀ w', Below wr.heap.size wr w' → Calls Tryz.prog 47 #[.agg #[.int .i64 r.kind, .string r.name, .int .i64 r.num, .int .i64 r.pos, .slice Ar r.subs.length cr]] w' fun e w'' => e = .returned (.string Tr) ∧ Below w'.heap.size w' w'' := fun w' hb => by rw [HT_r.out]; exact nameText_any _ r Ar cr _ (HK_r.out.below (bTh HCR.out hb)) (by rw [← HT_r.out]; unfold maxT; omega)
       have cQ0 : ∀ dd os, Calls Tryz.prog 47 #[.agg #[.int .i64 r.kind, .string r.name, .int .i64 r.num, .int .i64 r.pos, .slice Ar r.subs.length cr]] (Go.Sort.grow (redrawn wr dd) os) fun e w'' => e = .returned (.string Tr) ∧ ∃ p : Regrown, w'' = Go.Sort.grow (redrawn wr p.d) p.os := fun dd os => Calls.regrown_of (cP0 _ (below_regrown _ _ _))
       clear cP0
       refine wp_region_quiet_below (by kernel_rfl) (by kernel_rfl) ?_
       repeat (go_big_quiet_step (first | with_reducible exact cQ0 _ _))
       refine wpQuiet_nil ?_
       intro _ hw'
       obtain ⟨⟨dq, osq⟩, hw''⟩ := hw'
       subst hw''
       clear cQ0 r_0 r_1 r_2 r_3 r_4 r_5 r_6 r_7 r_8 r_9 r_10 r_11 r_12 r_13 r_14 r_15 r_16 r_17 r_18 r_19 r_20 r_21 r_22 r_23 r_24 r_25 r_26 r_27 r_28 r_29 r_30 r_31 r_32 r_33 r_34
       have HG := hid (bTh HCR.out (below_regrown wr dq osq))
       generalize hG : Go.Sort.grow (redrawn wr dq) osq = G at *
       clear hG
       go_wp2
       go_roundw
       case rel => exact ⟨j + 1, _, by omega, by go_num, rfl, hid (by rw [STEP.out, if_pos H0.out, HSS.out, FQ.out, if_neg HQ1.out, H0.out]; simp only [ba_assoc, nil_ba, ba_nil, List.take_zero, List.map_nil, joinB]), HG⟩
       case measure => simp [intOf]; omega
     ·skip
      have h0c : decide (0 < j) = true := decide_eq_true (by omega)
      have h0b : decide (0 < (j : Int)) = true := decide_eq_true (by omega)
      have H0 := hid h0
      clear h0
      cases hq1 : (qn == 1) with
      | true =>
       have HQ1 := hid (show qn = 1 by simpa using hq1)
       have hj1 : (0 : Int) ≤ (j : Int) := by omega
       have hj2 : (j : Int) < x.subs.length := by omega
       rw [HA.out]
       go_wp2
       have r_0 := cRg x0
       have r_1 := cRg x1
       have r_2 := cRg x2
       have r_3 := cRg x3
       have r_4 := cRg x4
       have r_5 := cRg fx0
       have r_6 := cRg fx1
       have r_7 := cRg fx2
       have r_8 := cRg fx3
       have r_9 := cRg fx4
       have r_10 := cRg fy0
       have r_11 := cRg fy1
       have r_12 := cRg fy2
       have r_13 := cRg fy3
       have r_14 := cRg fy4
       have r_15 := cRg fz0
       have r_16 := cRg fz1
       have r_17 := cRg fz2
       have r_18 := cRg fz3
       have r_19 := cRg fz4
       have r_20 := cRg fv0
       have r_21 := cRg fv1
       have r_22 := cRg fv2
       have r_23 := cRg fv3
       have r_24 := cRg fv4
       have r_25 := cRg fq0
       have r_26 := cRg fq1
       have r_27 := cRg fq2
       have r_28 := cRg fq3
       have r_29 := cRg fq4
       have r_30 := cRg fr0
       have r_31 := cRg fr1
       have r_32 := cRg fr2
       have r_33 := cRg fr3
       have r_34 := cRg fr4
       have cP0 : ∀ w', Below wr.heap.size wr w' → Calls Tryz.prog 47 #[.agg #[.int .i64 r.kind, .string r.name, .int .i64 r.num, .int .i64 r.pos, .slice Ar r.subs.length cr]] w' fun e w'' => e = .returned (.string Tr) ∧ Below w'.heap.size w' w'' := fun w' hb => by rw [HT_r.out]; exact nameText_any _ r Ar cr _ (HK_r.out.below (bTh HCR.out hb)) (by rw [← HT_r.out]; unfold maxT; omega)
       have cQ0 : ∀ dd os, Calls Tryz.prog 47 #[.agg #[.int .i64 r.kind, .string r.name, .int .i64 r.num, .int .i64 r.pos, .slice Ar r.subs.length cr]] (Go.Sort.grow (redrawn wr dd) os) fun e w'' => e = .returned (.string Tr) ∧ ∃ p : Regrown, w'' = Go.Sort.grow (redrawn wr p.d) p.os := fun dd os => Calls.regrown_of (cP0 _ (below_regrown _ _ _))
       clear cP0
       refine wp_region_quiet_below (by kernel_rfl) (by kernel_rfl) ?_
       repeat (go_big_quiet_step (first | with_reducible exact cQ0 _ _))
       refine wpQuiet_nil ?_
       intro _ hw'
       obtain ⟨⟨dq, osq⟩, hw''⟩ := hw'
       subst hw''
       clear cQ0 r_0 r_1 r_2 r_3 r_4 r_5 r_6 r_7 r_8 r_9 r_10 r_11 r_12 r_13 r_14 r_15 r_16 r_17 r_18 r_19 r_20 r_21 r_22 r_23 r_24 r_25 r_26 r_27 r_28 r_29 r_30 r_31 r_32 r_33 r_34
       have HG := hid (bTh HCR.out (below_regrown wr dq osq))
       generalize hG : Go.Sort.grow (redrawn wr dq) osq = G at *
       clear hG
       go_wp2
       go_roundw
       case rel => exact ⟨j + 1, _, by omega, by go_num, rfl, hid (by rw [STEP.out, if_neg H0.out, HSS.out, FQ.out, if_pos HQ1.out]; simp only [ba_assoc, nil_ba, ba_nil]), HG⟩
       case measure => simp [intOf]; omega
      | false =>
       have HQ1 := hid (show ¬ qn = 1 by simpa using hq1)
       have hj1 : (0 : Int) ≤ (j : Int) := by omega
       have hj2 : (j : Int) < x.subs.length := by omega
       rw [HA.out]
       go_wp2
       have r_0 := cRg x0
       have r_1 := cRg x1
       have r_2 := cRg x2
       have r_3 := cRg x3
       have r_4 := cRg x4
       have r_5 := cRg fx0
       have r_6 := cRg fx1
       have r_7 := cRg fx2
       have r_8 := cRg fx3
       have r_9 := cRg fx4
       have r_10 := cRg fy0
       have r_11 := cRg fy1
       have r_12 := cRg fy2
       have r_13 := cRg fy3
       have r_14 := cRg fy4
       have r_15 := cRg fz0
       have r_16 := cRg fz1
       have r_17 := cRg fz2
       have r_18 := cRg fz3
       have r_19 := cRg fz4
       have r_20 := cRg fv0
       have r_21 := cRg fv1
       have r_22 := cRg fv2
       have r_23 := cRg fv3
       have r_24 := cRg fv4
       have r_25 := cRg fq0
       have r_26 := cRg fq1
       have r_27 := cRg fq2
       have r_28 := cRg fq3
       have r_29 := cRg fq4
       have r_30 := cRg fr0
       have r_31 := cRg fr1
       have r_32 := cRg fr2
       have r_33 := cRg fr3
       have r_34 := cRg fr4
       have cP0 : ∀ w', Below wr.heap.size wr w' → Calls Tryz.prog 47 #[.agg #[.int .i64 r.kind, .string r.name, .int .i64 r.num, .int .i64 r.pos, .slice Ar r.subs.length cr]] w' fun e w'' => e = .returned (.string Tr) ∧ Below w'.heap.size w' w'' := fun w' hb => by rw [HT_r.out]; exact nameText_any _ r Ar cr _ (HK_r.out.below (bTh HCR.out hb)) (by rw [← HT_r.out]; unfold maxT; omega)
       have cQ0 : ∀ dd os, Calls Tryz.prog 47 #[.agg #[.int .i64 r.kind, .string r.name, .int .i64 r.num, .int .i64 r.pos, .slice Ar r.subs.length cr]] (Go.Sort.grow (redrawn wr dd) os) fun e w'' => e = .returned (.string Tr) ∧ ∃ p : Regrown, w'' = Go.Sort.grow (redrawn wr p.d) p.os := fun dd os => Calls.regrown_of (cP0 _ (below_regrown _ _ _))
       clear cP0
       refine wp_region_quiet_below (by kernel_rfl) (by kernel_rfl) ?_
       repeat (go_big_quiet_step (first | with_reducible exact cQ0 _ _))
       refine wpQuiet_nil ?_
       intro _ hw'
       obtain ⟨⟨dq, osq⟩, hw''⟩ := hw'
       subst hw''
       clear cQ0 r_0 r_1 r_2 r_3 r_4 r_5 r_6 r_7 r_8 r_9 r_10 r_11 r_12 r_13 r_14 r_15 r_16 r_17 r_18 r_19 r_20 r_21 r_22 r_23 r_24 r_25 r_26 r_27 r_28 r_29 r_30 r_31 r_32 r_33 r_34
       have HG := hid (bTh HCR.out (below_regrown wr dq osq))
       generalize hG : Go.Sort.grow (redrawn wr dq) osq = G at *
       clear hG
       go_wp2
       go_roundw
       case rel => exact ⟨j + 1, _, by omega, by go_num, rfl, hid (by rw [STEP.out, if_neg H0.out, HSS.out, FQ.out, if_neg HQ1.out]; simp only [ba_assoc, nil_ba, ba_nil]), HG⟩
       case measure => simp [intOf]; omega
    ·skip
     have HSE := hid (show S = PR ++ JJ by rw [HSS.out, List.take_of_length_le (by omega), HJJ.out])
     go_wp2_with fail
     have hct := nameText_any _ y Ay cy _ (kb HK_y HCR) (by rw [← HT_y.out]; unfold maxT; omega)
     with_reducible refine hct.mono ?_
     clear hct
     rintro e w2 ⟨rfl, hb2⟩
     have HC2 := hid (bTh HCR.out hb2)
     clear hb2
     clear x0 x1 x2 x3 x4 fx0 fx1 fx2 fx3 fx4 fy0 fy1 fy2 fy3 fy4 fz0 fz1 fz2 fz3 fz4 fv0 fv1 fv2 fv3 fv4
     obtain ⟨x0, x1, x2, x3, x4⟩ := nb HAT HC2
     obtain ⟨fx0, fx1, fx2, fx3, fx4⟩ := nb HX_x HC2
     obtain ⟨fy0, fy1, fy2, fy3, fy4⟩ := nb HX_y HC2
     obtain ⟨fz0, fz1, fz2, fz3, fz4⟩ := nb HX_z HC2
     obtain ⟨fv0, fv1, fv2, fv3, fv4⟩ := nb HX_v HC2
     rw [← HT_y.out]
     go_wp2
     have r_0 := cRg x0
     have r_1 := cRg x1
     have r_2 := cRg x2
     have r_3 := cRg x3
     have r_4 := cRg x4
     have r_5 := cRg fx0
     have r_6 := cRg fx1
     have r_7 := cRg fx2
     have r_8 := cRg fx3
     have r_9 := cRg fx4
     have r_10 := cRg fy0
     have r_11 := cRg fy1
     have r_12 := cRg fy2
     have r_13 := cRg fy3
     have r_14 := cRg fy4
     have r_15 := cRg fz0
     have r_16 := cRg fz1
     have r_17 := cRg fz2
     have r_18 := cRg fz3
     have r_19 := cRg fz4
     have r_20 := cRg fv0
     have r_21 := cRg fv1
     have r_22 := cRg fv2
     have r_23 := cRg fv3
     have r_24 := cRg fv4
     have cP0 : ∀ w', Below w2.heap.size w2 w' → Calls Tryz.prog 21 #[.string (⟨#[86, 65, 82]⟩ : ByteArray), .slice Az z.subs.length cz] w' fun e w'' => e = .returned (.string Tz) ∧ Below w'.heap.size w' w'' := fun w' hb => by rw [HT_z.out]; exact hD (⟨#[86, 65, 82]⟩ : ByteArray) z.subs Az cz _ (HKZ.out.below (bTh HC2.out hb)) HVAR.out (by rw [← HT_z.out]; unfold maxT; omega)
     have cQ0 : ∀ dd os, Calls Tryz.prog 21 #[.string (⟨#[86, 65, 82]⟩ : ByteArray), .slice Az z.subs.length cz] (Go.Sort.grow (redrawn w2 dd) os) fun e w'' => e = .returned (.string Tz) ∧ ∃ p : Regrown, w'' = Go.Sort.grow (redrawn w2 p.d) p.os := fun dd os => Calls.regrown_of (cP0 _ (below_regrown _ _ _))
     clear cP0
     have cP1 : ∀ w', Below w2.heap.size w2 w' → Calls Tryz.prog 23 #[.agg #[.int .i64 v.kind, .string v.name, .int .i64 v.num, .int .i64 v.pos, .slice Av v.subs.length cv], .string (⟨#[32, 32]⟩ : ByteArray)] w' fun e w'' => e = .returned (.string Tv) ∧ Below w'.heap.size w' w'' := fun w' hb => by rw [HT_v.out]; exact hL v Av cv (⟨#[32, 32]⟩ : ByteArray) _ (HK_v.out.below (bTh HC2.out hb)) HD_v.out (by rw [← HT_v.out]; unfold maxT; omega) (by unfold maxT; simp [ba_size])
     have cQ1 : ∀ dd os, Calls Tryz.prog 23 #[.agg #[.int .i64 v.kind, .string v.name, .int .i64 v.num, .int .i64 v.pos, .slice Av v.subs.length cv], .string (⟨#[32, 32]⟩ : ByteArray)] (Go.Sort.grow (redrawn w2 dd) os) fun e w'' => e = .returned (.string Tv) ∧ ∃ p : Regrown, w'' = Go.Sort.grow (redrawn w2 p.d) p.os := fun dd os => Calls.regrown_of (cP1 _ (below_regrown _ _ _))
     clear cP1
     refine wp_region_quiet_below (by kernel_rfl) (by kernel_rfl) ?_
     repeat (go_big_quiet_step (first | with_reducible exact cQ0 _ _ | with_reducible exact cQ1 _ _))
     refine wpQuiet_nil ?_
     intro _ hw'
     obtain ⟨⟨dq, osq⟩, hw''⟩ := hw'
     subst hw''
     clear cQ0 cQ1 r_0 r_1 r_2 r_3 r_4 r_5 r_6 r_7 r_8 r_9 r_10 r_11 r_12 r_13 r_14 r_15 r_16 r_17 r_18 r_19 r_20 r_21 r_22 r_23 r_24
     have HG := hid (bTh HC2.out (below_regrown w2 dq osq))
     generalize hG : Go.Sort.grow (redrawn w2 dq) osq = G at *
     clear hG
     go_wp2
     go_ret
     exact ⟨ret_str (by rw [HSE.out, HPR.out]; simp only [ba_assoc, nil_ba, ba_nil]), bTh HBOX.out HG.out⟩
  ·skip
   have hy0' : y.kind = 0 := Decidable.not_not.1 hy0
   clear hy0
   have hy0 := hy0'
   rw [if_pos (Or.inl hx0)] at hsz ⊢
   obtain ⟨JJ, hJJ⟩ : ∃ JJ, JJ = joinB ⟨#[59, 32]⟩ (x.subs.map paramT) := ⟨_, rfl⟩
   rw [← hJJ] at hsz ⊢
   have HJJ := hid hJJ
   clear hJJ
   rw [if_neg (by simp [hy0])] at hsz ⊢
   unfold maxT at hsz
   simp only [ByteArray.size_append, ba_size, List.size_toArray, List.length_cons, List.length_nil] at hsz
   have hxb : decide ((0 : Int) < (x.subs.length : Int)) = true := decide_eq_true (by omega)
   have hxc : decide (0 < x.subs.length) = true := decide_eq_true hx0
   have hyb : (y.kind != 0) = false := by simp [hy0]
   clear hx0 hy0
   have HAT := hid (bAt w ⟨k, s, num, pos, [x, y, z, v]⟩ (some ⟨b, o, none⟩) c 24)
   have HX_x := hid (hx_x.below (bBw w (.cells #[.int .i64 k, .string s, .int .i64 num, .int .i64 pos, .slice (some ⟨b, o, none⟩) 4 c] 24)))
   have HK_x := hid (hk_x.below (bBw w (.cells #[.int .i64 k, .string s, .int .i64 num, .int .i64 pos, .slice (some ⟨b, o, none⟩) 4 c] 24)))
   clear hx_x hk_x
   have HX_y := hid (hx_y.below (bBw w (.cells #[.int .i64 k, .string s, .int .i64 num, .int .i64 pos, .slice (some ⟨b, o, none⟩) 4 c] 24)))
   have HK_y := hid (hk_y.below (bBw w (.cells #[.int .i64 k, .string s, .int .i64 num, .int .i64 pos, .slice (some ⟨b, o, none⟩) 4 c] 24)))
   clear hx_y hk_y
   have HX_z := hid (hx_z.below (bBw w (.cells #[.int .i64 k, .string s, .int .i64 num, .int .i64 pos, .slice (some ⟨b, o, none⟩) 4 c] 24)))
   have HK_z := hid (hk_z.below (bBw w (.cells #[.int .i64 k, .string s, .int .i64 num, .int .i64 pos, .slice (some ⟨b, o, none⟩) 4 c] 24)))
   clear hx_z hk_z
   have HX_v := hid (hx_v.below (bBw w (.cells #[.int .i64 k, .string s, .int .i64 num, .int .i64 pos, .slice (some ⟨b, o, none⟩) 4 c] 24)))
   have HK_v := hid (hk_v.below (bBw w (.cells #[.int .i64 k, .string s, .int .i64 num, .int .i64 pos, .slice (some ⟨b, o, none⟩) 4 c] 24)))
   clear hx_v hk_v
   have HKX := hid ((hkx).below (bBw w (.cells #[.int .i64 k, .string s, .int .i64 num, .int .i64 pos, .slice (some ⟨b, o, none⟩) 4 c] 24)))
   have HKZ := hid ((hkz).below (bBw w (.cells #[.int .i64 k, .string s, .int .i64 num, .int .i64 pos, .slice (some ⟨b, o, none⟩) 4 c] 24)))
   clear hk
   clear hkx hkz
   obtain ⟨fx0, fx1, fx2, fx3, fx4⟩ := HX_x.out
   obtain ⟨fy0, fy1, fy2, fy3, fy4⟩ := HX_y.out
   obtain ⟨fz0, fz1, fz2, fz3, fz4⟩ := HX_z.out
   obtain ⟨fv0, fv1, fv2, fv3, fv4⟩ := HX_v.out
   go_enter Tryz.func22, Tryz.ntmps22
   go_wp2_with fail
   generalize hW0 : w.alloc (.cells #[.int .i64 k, .string s, .int .i64 num, .int .i64 pos, .slice (some ⟨b, o, none⟩) 4 c] 24) = W0 at *
   have HBOX := hid (show Below w.heap.size w W0 by rw [← hW0]; exact bBw _ _)
   clear hW0
   obtain ⟨x0, x1, x2, x3, x4⟩ := HAT.out
   obtain ⟨fx0, fx1, fx2, fx3, fx4⟩ := HX_x.out
   obtain ⟨fy0, fy1, fy2, fy3, fy4⟩ := HX_y.out
   obtain ⟨fz0, fz1, fz2, fz3, fz4⟩ := HX_z.out
   obtain ⟨fv0, fv1, fv2, fv3, fv4⟩ := HX_v.out
   refine (starred_any ⟨k, s, num, pos, [x, y, z, v]⟩ (some ⟨b, o, none⟩) c W0 (by unfold maxT; simp only; omega)).mono ?_
   rintro e w1 ⟨rfl, hb1⟩
   rw [← HT_n.out]
   have HC1 := hid hb1
   clear hb1
   clear x0 x1 x2 x3 x4 fx0 fx1 fx2 fx3 fx4 fy0 fy1 fy2 fy3 fy4 fz0 fz1 fz2 fz3 fz4 fv0 fv1 fv2 fv3 fv4
   obtain ⟨x0, x1, x2, x3, x4⟩ := nb HAT HC1
   obtain ⟨fx0, fx1, fx2, fx3, fx4⟩ := nb HX_x HC1
   obtain ⟨fy0, fy1, fy2, fy3, fy4⟩ := nb HX_y HC1
   obtain ⟨fz0, fz1, fz2, fz3, fz4⟩ := nb HX_z HC1
   obtain ⟨fv0, fv1, fv2, fv3, fv4⟩ := nb HX_v HC1
   go_wp2
   obtain ⟨PR, hPR⟩ : ∃ PR : ByteArray, PR = (⟨#[80, 82, 79, 67, 69, 68, 85, 82, 69, 32]⟩ : ByteArray) ++ Tn ++ ⟨#[40]⟩ := ⟨_, rfl⟩
   try rw [← hPR]
   have HPR := hid hPR
   have hPRz : PR.size = Tn.size + 11 := by rw [hPR]; simp only [ByteArray.size_append, ba_size, List.size_toArray, List.length_cons, List.length_nil]; omega
   clear hPR
   go_loopw [3, 5] (fun ss ii wr => ∃ (j : Nat) (S : ByteArray), j ≤ x.subs.length ∧ ii = .int .i64 j ∧ ss = .string S ∧ Hid (S = PR ++ joinB ⟨#[59, 32]⟩ ((x.subs.take j).map paramT)) ∧ Hid (Below W0.heap.size W0 wr)) (fun _ ii _ => x.subs.length - (intOf ii).toNat)
   case atStart => exact ⟨0, _, Nat.zero_le _, rfl, rfl, hid (by simp [joinB, ba_nil]), HC1⟩
   case round =>
    obtain ⟨j, S, hj, rfl, rfl, HSS, HCR⟩ := hrel
    clear x0 x1 x2 x3 x4 fx0 fx1 fx2 fx3 fx4 fy0 fy1 fy2 fy3 fy4 fz0 fz1 fz2 fz3 fz4 fv0 fv1 fv2 fv3 fv4
    obtain ⟨x0, x1, x2, x3, x4⟩ := nb HAT HCR
    obtain ⟨fx0, fx1, fx2, fx3, fx4⟩ := nb HX_x HCR
    obtain ⟨fy0, fy1, fy2, fy3, fy4⟩ := nb HX_y HCR
    obtain ⟨fz0, fz1, fz2, fz3, fz4⟩ := nb HX_z HCR
    obtain ⟨fv0, fv1, fv2, fv3, fv4⟩ := nb HX_v HCR
    have hSz : S.size ≤ PR.size + JJ.size := by
     have h1 := join_le ⟨#[59, 32]⟩ paramT x.subs j
     rw [HSS.out, HJJ.out]
     simp only [ByteArray.size_append]
     omega
    by_cases hlt : j < x.subs.length
    ·skip
     obtain ⟨q, hq⟩ : ∃ q, x.subs[j]? = some q := ⟨_, List.getElem?_eq_getElem hlt⟩
     obtain ⟨bq, oq, Aq, cq, hA, hxq, hkq⟩ := HKX.out.2.2 j q hq
     have HA := hid hA
     have hvar := all_at HPAR.out hq
     simp only [Bool.and_eq_true, varS] at hvar
     have STEP := hid (joinB_step ⟨#[59, 32]⟩ paramT hq)
     have hle := join_le ⟨#[59, 32]⟩ paramT x.subs (j + 1)
     rw [STEP.out, ← HJJ.out] at hle
     obtain ⟨qk, qs, qn, qp, ql⟩ := q
     obtain ⟨r, rfl⟩ := len1 (headB_len hvar.2.1 (by omega))
     clear hvar hq hA
     obtain ⟨b2, o2, Ar, cr, rfl, hx_r, hk_r⟩ := hkq.one (x := r) (r := []) rfl
     have HX_q := hid hxq
     have HX_r := hid hx_r
     have HK_r := hid hk_r
     clear hxq hx_r hkq hk_r
     have fxx := fx4
     rw [HA.out] at fxx
     clear fx4
     have fx4 := fxx
     clear fxx
     obtain ⟨Tr, hT_r⟩ : ∃ T, T = nameT r := ⟨_, rfl⟩
     have HT_r := hid hT_r
     clear hT_r
     have FQ := hid (show paramT ⟨qk, qs, qn, qp, [r]⟩ = (if qn = 1 then ⟨#[86, 65, 82, 32]⟩ else ⟨#[]⟩) ++ qs ++ ⟨#[58, 32]⟩ ++ Tr by rw [HT_r.out]; rfl)
     rw [FQ.out] at hle
     have hz0 : (joinB ⟨#[59, 32]⟩ ((x.subs.take j).map paramT)).size + qs.size + Tr.size ≤ JJ.size := by
      split at hle
      ·rename_i h0
       subst h0
       simp only [List.take_zero, List.map_nil, joinB, ByteArray.size_append, ba_size, List.size_toArray, List.length_cons, List.length_nil] at hle ⊢
       omega
      ·simp only [ByteArray.size_append, ba_size, List.size_toArray, List.length_cons, List.length_nil] at hle
       omega
     have hz : S.size + qs.size + Tr.size + 10 ≤ 1099511627799 ∧ Tr.size ≤ 1099511627776 := by
      rw [HSS.out]
      simp only [ByteArray.size_append]
      omega
     obtain ⟨hz, hTr⟩ := hz
     clear hle hz0
     obtain ⟨fq0, fq1, fq2, fq3, fq4⟩ := nb HX_q HCR
     obtain ⟨fr0, fr1, fr2, fr3, fr4⟩ := nb HX_r HCR
     by_cases h0 : j = 0
     ·skip
      have h0c : decide (0 < j) = false := decide_eq_false (by omega)
      have h0b : decide (0 < (j : Int)) = false := decide_eq_false (by omega)
      have H0 := hid h0
      clear h0
      cases hq1 : (qn == 1) with
      | true =>
       have HQ1 := hid (show qn = 1 by simpa using hq1)
       have hj1 : (0 : Int) ≤ (j : Int) := by omega
       have hj2 : (j : Int) < x.subs.length := by omega
       rw [HA.out]
       go_wp2
       have r_0 := cRg x0
       have r_1 := cRg x1
       have r_2 := cRg x2
       have r_3 := cRg x3
       have r_4 := cRg x4
       have r_5 := cRg fx0
       have r_6 := cRg fx1
       have r_7 := cRg fx2
       have r_8 := cRg fx3
       have r_9 := cRg fx4
       have r_10 := cRg fy0
       have r_11 := cRg fy1
       have r_12 := cRg fy2
       have r_13 := cRg fy3
       have r_14 := cRg fy4
       have r_15 := cRg fz0
       have r_16 := cRg fz1
       have r_17 := cRg fz2
       have r_18 := cRg fz3
       have r_19 := cRg fz4
       have r_20 := cRg fv0
       have r_21 := cRg fv1
       have r_22 := cRg fv2
       have r_23 := cRg fv3
       have r_24 := cRg fv4
       have r_25 := cRg fq0
       have r_26 := cRg fq1
       have r_27 := cRg fq2
       have r_28 := cRg fq3
       have r_29 := cRg fq4
       have r_30 := cRg fr0
       have r_31 := cRg fr1
       have r_32 := cRg fr2
       have r_33 := cRg fr3
       have r_34 := cRg fr4
       have cP0 : ∀ w', Below wr.heap.size wr w' → Calls Tryz.prog 47 #[.agg #[.int .i64 r.kind, .string r.name, .int .i64 r.num, .int .i64 r.pos, .slice Ar r.subs.length cr]] w' fun e w'' => e = .returned (.string Tr) ∧ Below w'.heap.size w' w'' := fun w' hb => by rw [HT_r.out]; exact nameText_any _ r Ar cr _ (HK_r.out.below (bTh HCR.out hb)) (by rw [← HT_r.out]; unfold maxT; omega)
       have cQ0 : ∀ dd os, Calls Tryz.prog 47 #[.agg #[.int .i64 r.kind, .string r.name, .int .i64 r.num, .int .i64 r.pos, .slice Ar r.subs.length cr]] (Go.Sort.grow (redrawn wr dd) os) fun e w'' => e = .returned (.string Tr) ∧ ∃ p : Regrown, w'' = Go.Sort.grow (redrawn wr p.d) p.os := fun dd os => Calls.regrown_of (cP0 _ (below_regrown _ _ _))
       clear cP0
       refine wp_region_quiet_below (by kernel_rfl) (by kernel_rfl) ?_
       repeat (go_big_quiet_step (first | with_reducible exact cQ0 _ _))
       refine wpQuiet_nil ?_
       intro _ hw'
       obtain ⟨⟨dq, osq⟩, hw''⟩ := hw'
       subst hw''
       clear cQ0 r_0 r_1 r_2 r_3 r_4 r_5 r_6 r_7 r_8 r_9 r_10 r_11 r_12 r_13 r_14 r_15 r_16 r_17 r_18 r_19 r_20 r_21 r_22 r_23 r_24 r_25 r_26 r_27 r_28 r_29 r_30 r_31 r_32 r_33 r_34
       have HG := hid (bTh HCR.out (below_regrown wr dq osq))
       generalize hG : Go.Sort.grow (redrawn wr dq) osq = G at *
       clear hG
       go_wp2
       go_roundw
       case rel => exact ⟨j + 1, _, by omega, by go_num, rfl, hid (by rw [STEP.out, if_pos H0.out, HSS.out, FQ.out, if_pos HQ1.out, H0.out]; simp only [ba_assoc, nil_ba, ba_nil, List.take_zero, List.map_nil, joinB]), HG⟩
       case measure => simp [intOf]; omega
      | false =>
       have HQ1 := hid (show ¬ qn = 1 by simpa using hq1)
       have hj1 : (0 : Int) ≤ (j : Int) := by omega
       have hj2 : (j : Int) < x.subs.length := by omega
       rw [HA.out]
       go_wp2
       have r_0 := cRg x0
       have r_1 := cRg x1
       have r_2 := cRg x2
       have r_3 := cRg x3
       have r_4 := cRg x4
       have r_5 := cRg fx0
       have r_6 := cRg fx1
       have r_7 := cRg fx2
       have r_8 := cRg fx3
       have r_9 := cRg fx4
       have r_10 := cRg fy0
       have r_11 := cRg fy1
       have r_12 := cRg fy2
       have r_13 := cRg fy3
       have r_14 := cRg fy4
       have r_15 := cRg fz0
       have r_16 := cRg fz1
       have r_17 := cRg fz2
       have r_18 := cRg fz3
       have r_19 := cRg fz4
       have r_20 := cRg fv0
       have r_21 := cRg fv1
       have r_22 := cRg fv2
       have r_23 := cRg fv3
       have r_24 := cRg fv4
       have r_25 := cRg fq0
       have r_26 := cRg fq1
       have r_27 := cRg fq2
       have r_28 := cRg fq3
       have r_29 := cRg fq4
       have r_30 := cRg fr0
       have r_31 := cRg fr1
       have r_32 := cRg fr2
       have r_33 := cRg fr3
       have r_34 := cRg fr4
       have cP0 : ∀ w', Below wr.heap.size wr w' → Calls Tryz.prog 47 #[.agg #[.int .i64 r.kind, .string r.name, .int .i64 r.num, .int .i64 r.pos, .slice Ar r.subs.length cr]] w' fun e w'' => e = .returned (.string Tr) ∧ Below w'.heap.size w' w'' := fun w' hb => by rw [HT_r.out]; exact nameText_any _ r Ar cr _ (HK_r.out.below (bTh HCR.out hb)) (by rw [← HT_r.out]; unfold maxT; omega)
       have cQ0 : ∀ dd os, Calls Tryz.prog 47 #[.agg #[.int .i64 r.kind, .string r.name, .int .i64 r.num, .int .i64 r.pos, .slice Ar r.subs.length cr]] (Go.Sort.grow (redrawn wr dd) os) fun e w'' => e = .returned (.string Tr) ∧ ∃ p : Regrown, w'' = Go.Sort.grow (redrawn wr p.d) p.os := fun dd os => Calls.regrown_of (cP0 _ (below_regrown _ _ _))
       clear cP0
       refine wp_region_quiet_below (by kernel_rfl) (by kernel_rfl) ?_
       repeat (go_big_quiet_step (first | with_reducible exact cQ0 _ _))
       refine wpQuiet_nil ?_
       intro _ hw'
       obtain ⟨⟨dq, osq⟩, hw''⟩ := hw'
       subst hw''
       clear cQ0 r_0 r_1 r_2 r_3 r_4 r_5 r_6 r_7 r_8 r_9 r_10 r_11 r_12 r_13 r_14 r_15 r_16 r_17 r_18 r_19 r_20 r_21 r_22 r_23 r_24 r_25 r_26 r_27 r_28 r_29 r_30 r_31 r_32 r_33 r_34
       have HG := hid (bTh HCR.out (below_regrown wr dq osq))
       generalize hG : Go.Sort.grow (redrawn wr dq) osq = G at *
       clear hG
       go_wp2
       go_roundw
       case rel => exact ⟨j + 1, _, by omega, by go_num, rfl, hid (by rw [STEP.out, if_pos H0.out, HSS.out, FQ.out, if_neg HQ1.out, H0.out]; simp only [ba_assoc, nil_ba, ba_nil, List.take_zero, List.map_nil, joinB]), HG⟩
       case measure => simp [intOf]; omega
     ·skip
      have h0c : decide (0 < j) = true := decide_eq_true (by omega)
      have h0b : decide (0 < (j : Int)) = true := decide_eq_true (by omega)
      have H0 := hid h0
      clear h0
      cases hq1 : (qn == 1) with
      | true =>
       have HQ1 := hid (show qn = 1 by simpa using hq1)
       have hj1 : (0 : Int) ≤ (j : Int) := by omega
       have hj2 : (j : Int) < x.subs.length := by omega
       rw [HA.out]
       go_wp2
       have r_0 := cRg x0
       have r_1 := cRg x1
       have r_2 := cRg x2
       have r_3 := cRg x3
       have r_4 := cRg x4
       have r_5 := cRg fx0
       have r_6 := cRg fx1
       have r_7 := cRg fx2
       have r_8 := cRg fx3
       have r_9 := cRg fx4
       have r_10 := cRg fy0
       have r_11 := cRg fy1
       have r_12 := cRg fy2
       have r_13 := cRg fy3
       have r_14 := cRg fy4
       have r_15 := cRg fz0
       have r_16 := cRg fz1
       have r_17 := cRg fz2
       have r_18 := cRg fz3
       have r_19 := cRg fz4
       have r_20 := cRg fv0
       have r_21 := cRg fv1
       have r_22 := cRg fv2
       have r_23 := cRg fv3
       have r_24 := cRg fv4
       have r_25 := cRg fq0
       have r_26 := cRg fq1
       have r_27 := cRg fq2
       have r_28 := cRg fq3
       have r_29 := cRg fq4
       have r_30 := cRg fr0
       have r_31 := cRg fr1
       have r_32 := cRg fr2
       have r_33 := cRg fr3
       have r_34 := cRg fr4
       have cP0 : ∀ w', Below wr.heap.size wr w' → Calls Tryz.prog 47 #[.agg #[.int .i64 r.kind, .string r.name, .int .i64 r.num, .int .i64 r.pos, .slice Ar r.subs.length cr]] w' fun e w'' => e = .returned (.string Tr) ∧ Below w'.heap.size w' w'' := fun w' hb => by rw [HT_r.out]; exact nameText_any _ r Ar cr _ (HK_r.out.below (bTh HCR.out hb)) (by rw [← HT_r.out]; unfold maxT; omega)
       have cQ0 : ∀ dd os, Calls Tryz.prog 47 #[.agg #[.int .i64 r.kind, .string r.name, .int .i64 r.num, .int .i64 r.pos, .slice Ar r.subs.length cr]] (Go.Sort.grow (redrawn wr dd) os) fun e w'' => e = .returned (.string Tr) ∧ ∃ p : Regrown, w'' = Go.Sort.grow (redrawn wr p.d) p.os := fun dd os => Calls.regrown_of (cP0 _ (below_regrown _ _ _))
       clear cP0
       refine wp_region_quiet_below (by kernel_rfl) (by kernel_rfl) ?_
       repeat (go_big_quiet_step (first | with_reducible exact cQ0 _ _))
       refine wpQuiet_nil ?_
       intro _ hw'
       obtain ⟨⟨dq, osq⟩, hw''⟩ := hw'
       subst hw''
       clear cQ0 r_0 r_1 r_2 r_3 r_4 r_5 r_6 r_7 r_8 r_9 r_10 r_11 r_12 r_13 r_14 r_15 r_16 r_17 r_18 r_19 r_20 r_21 r_22 r_23 r_24 r_25 r_26 r_27 r_28 r_29 r_30 r_31 r_32 r_33 r_34
       have HG := hid (bTh HCR.out (below_regrown wr dq osq))
       generalize hG : Go.Sort.grow (redrawn wr dq) osq = G at *
       clear hG
       go_wp2
       go_roundw
       case rel => exact ⟨j + 1, _, by omega, by go_num, rfl, hid (by rw [STEP.out, if_neg H0.out, HSS.out, FQ.out, if_pos HQ1.out]; simp only [ba_assoc, nil_ba, ba_nil]), HG⟩
       case measure => simp [intOf]; omega
      | false =>
       have HQ1 := hid (show ¬ qn = 1 by simpa using hq1)
       have hj1 : (0 : Int) ≤ (j : Int) := by omega
       have hj2 : (j : Int) < x.subs.length := by omega
       rw [HA.out]
       go_wp2
       have r_0 := cRg x0
       have r_1 := cRg x1
       have r_2 := cRg x2
       have r_3 := cRg x3
       have r_4 := cRg x4
       have r_5 := cRg fx0
       have r_6 := cRg fx1
       have r_7 := cRg fx2
       have r_8 := cRg fx3
       have r_9 := cRg fx4
       have r_10 := cRg fy0
       have r_11 := cRg fy1
       have r_12 := cRg fy2
       have r_13 := cRg fy3
       have r_14 := cRg fy4
       have r_15 := cRg fz0
       have r_16 := cRg fz1
       have r_17 := cRg fz2
       have r_18 := cRg fz3
       have r_19 := cRg fz4
       have r_20 := cRg fv0
       have r_21 := cRg fv1
       have r_22 := cRg fv2
       have r_23 := cRg fv3
       have r_24 := cRg fv4
       have r_25 := cRg fq0
       have r_26 := cRg fq1
       have r_27 := cRg fq2
       have r_28 := cRg fq3
       have r_29 := cRg fq4
       have r_30 := cRg fr0
       have r_31 := cRg fr1
       have r_32 := cRg fr2
       have r_33 := cRg fr3
       have r_34 := cRg fr4
       have cP0 : ∀ w', Below wr.heap.size wr w' → Calls Tryz.prog 47 #[.agg #[.int .i64 r.kind, .string r.name, .int .i64 r.num, .int .i64 r.pos, .slice Ar r.subs.length cr]] w' fun e w'' => e = .returned (.string Tr) ∧ Below w'.heap.size w' w'' := fun w' hb => by rw [HT_r.out]; exact nameText_any _ r Ar cr _ (HK_r.out.below (bTh HCR.out hb)) (by rw [← HT_r.out]; unfold maxT; omega)
       have cQ0 : ∀ dd os, Calls Tryz.prog 47 #[.agg #[.int .i64 r.kind, .string r.name, .int .i64 r.num, .int .i64 r.pos, .slice Ar r.subs.length cr]] (Go.Sort.grow (redrawn wr dd) os) fun e w'' => e = .returned (.string Tr) ∧ ∃ p : Regrown, w'' = Go.Sort.grow (redrawn wr p.d) p.os := fun dd os => Calls.regrown_of (cP0 _ (below_regrown _ _ _))
       clear cP0
       refine wp_region_quiet_below (by kernel_rfl) (by kernel_rfl) ?_
       repeat (go_big_quiet_step (first | with_reducible exact cQ0 _ _))
       refine wpQuiet_nil ?_
       intro _ hw'
       obtain ⟨⟨dq, osq⟩, hw''⟩ := hw'
       subst hw''
       clear cQ0 r_0 r_1 r_2 r_3 r_4 r_5 r_6 r_7 r_8 r_9 r_10 r_11 r_12 r_13 r_14 r_15 r_16 r_17 r_18 r_19 r_20 r_21 r_22 r_23 r_24 r_25 r_26 r_27 r_28 r_29 r_30 r_31 r_32 r_33 r_34
       have HG := hid (bTh HCR.out (below_regrown wr dq osq))
       generalize hG : Go.Sort.grow (redrawn wr dq) osq = G at *
       clear hG
       go_wp2
       go_roundw
       case rel => exact ⟨j + 1, _, by omega, by go_num, rfl, hid (by rw [STEP.out, if_neg H0.out, HSS.out, FQ.out, if_neg HQ1.out]; simp only [ba_assoc, nil_ba, ba_nil]), HG⟩
       case measure => simp [intOf]; omega
    ·skip
     have HSE := hid (show S = PR ++ JJ by rw [HSS.out, List.take_of_length_le (by omega), HJJ.out])
     go_wp2
     have r_0 := cRg x0
     have r_1 := cRg x1
     have r_2 := cRg x2
     have r_3 := cRg x3
     have r_4 := cRg x4
     have r_5 := cRg fx0
     have r_6 := cRg fx1
     have r_7 := cRg fx2
     have r_8 := cRg fx3
     have r_9 := cRg fx4
     have r_10 := cRg fy0
     have r_11 := cRg fy1
     have r_12 := cRg fy2
     have r_13 := cRg fy3
     have r_14 := cRg fy4
     have r_15 := cRg fz0
     have r_16 := cRg fz1
     have r_17 := cRg fz2
     have r_18 := cRg fz3
     have r_19 := cRg fz4
     have r_20 := cRg fv0
     have r_21 := cRg fv1
     have r_22 := cRg fv2
     have r_23 := cRg fv3
     have r_24 := cRg fv4
     have cP0 : ∀ w', Below wr.heap.size wr w' → Calls Tryz.prog 21 #[.string (⟨#[86, 65, 82]⟩ : ByteArray), .slice Az z.subs.length cz] w' fun e w'' => e = .returned (.string Tz) ∧ Below w'.heap.size w' w'' := fun w' hb => by rw [HT_z.out]; exact hD (⟨#[86, 65, 82]⟩ : ByteArray) z.subs Az cz _ (HKZ.out.below (bTh HCR.out hb)) HVAR.out (by rw [← HT_z.out]; unfold maxT; omega)
     have cQ0 : ∀ dd os, Calls Tryz.prog 21 #[.string (⟨#[86, 65, 82]⟩ : ByteArray), .slice Az z.subs.length cz] (Go.Sort.grow (redrawn wr dd) os) fun e w'' => e = .returned (.string Tz) ∧ ∃ p : Regrown, w'' = Go.Sort.grow (redrawn wr p.d) p.os := fun dd os => Calls.regrown_of (cP0 _ (below_regrown _ _ _))
     clear cP0
     have cP1 : ∀ w', Below wr.heap.size wr w' → Calls Tryz.prog 23 #[.agg #[.int .i64 v.kind, .string v.name, .int .i64 v.num, .int .i64 v.pos, .slice Av v.subs.length cv], .string (⟨#[32, 32]⟩ : ByteArray)] w' fun e w'' => e = .returned (.string Tv) ∧ Below w'.heap.size w' w'' := fun w' hb => by rw [HT_v.out]; exact hL v Av cv (⟨#[32, 32]⟩ : ByteArray) _ (HK_v.out.below (bTh HCR.out hb)) HD_v.out (by rw [← HT_v.out]; unfold maxT; omega) (by unfold maxT; simp [ba_size])
     have cQ1 : ∀ dd os, Calls Tryz.prog 23 #[.agg #[.int .i64 v.kind, .string v.name, .int .i64 v.num, .int .i64 v.pos, .slice Av v.subs.length cv], .string (⟨#[32, 32]⟩ : ByteArray)] (Go.Sort.grow (redrawn wr dd) os) fun e w'' => e = .returned (.string Tv) ∧ ∃ p : Regrown, w'' = Go.Sort.grow (redrawn wr p.d) p.os := fun dd os => Calls.regrown_of (cP1 _ (below_regrown _ _ _))
     clear cP1
     refine wp_region_quiet_below (by kernel_rfl) (by kernel_rfl) ?_
     repeat (go_big_quiet_step (first | with_reducible exact cQ0 _ _ | with_reducible exact cQ1 _ _))
     refine wpQuiet_nil ?_
     intro _ hw'
     obtain ⟨⟨dq, osq⟩, hw''⟩ := hw'
     subst hw''
     clear cQ0 cQ1 r_0 r_1 r_2 r_3 r_4 r_5 r_6 r_7 r_8 r_9 r_10 r_11 r_12 r_13 r_14 r_15 r_16 r_17 r_18 r_19 r_20 r_21 r_22 r_23 r_24
     have HG := hid (bTh HCR.out (below_regrown wr dq osq))
     generalize hG : Go.Sort.grow (redrawn wr dq) osq = G at *
     clear hG
     go_wp2
     go_ret
     exact ⟨ret_str (by rw [HSE.out, HPR.out]; simp only [ba_assoc, nil_ba, ba_nil]), bTh HBOX.out HG.out⟩
 ·skip
  by_cases hy0 : y.kind ≠ 0
  ·skip
   rw [if_pos (Or.inr hy0)] at hsz ⊢
   obtain ⟨JJ, hJJ⟩ : ∃ JJ, JJ = joinB ⟨#[59, 32]⟩ (x.subs.map paramT) := ⟨_, rfl⟩
   rw [← hJJ] at hsz ⊢
   have HJJ := hid hJJ
   clear hJJ
   rw [if_pos hy0] at hsz ⊢
   unfold maxT at hsz
   simp only [ByteArray.size_append, ba_size, List.size_toArray, List.length_cons, List.length_nil] at hsz
   have hxb : decide ((0 : Int) < (x.subs.length : Int)) = false := decide_eq_false (by omega)
   have hxc : decide (0 < x.subs.length) = false := decide_eq_false hx0
   have hyb : (y.kind != 0) = true := by simp [hy0]
   have HD_y := hid hy0
   have HX0 := hid (show x.subs.length = 0 by omega)
   clear hx0 hy0
   obtain ⟨Ty, hT_y⟩ : ∃ T, T = nameT y := ⟨_, rfl⟩
   rw [← hT_y] at hsz ⊢
   have HT_y := hid hT_y
   clear hT_y
   have HAT := hid (bAt w ⟨k, s, num, pos, [x, y, z, v]⟩ (some ⟨b, o, none⟩) c 24)
   have HX_x := hid (hx_x.below (bBw w (.cells #[.int .i64 k, .string s, .int .i64 num, .int .i64 pos, .slice (some ⟨b, o, none⟩) 4 c] 24)))
   have HK_x := hid (hk_x.below (bBw w (.cells #[.int .i64 k, .string s, .int .i64 num, .int .i64 pos, .slice (some ⟨b, o, none⟩) 4 c] 24)))
   clear hx_x hk_x
   have HX_y := hid (hx_y.below (bBw w (.cells #[.int .i64 k, .string s, .int .i64 num, .int .i64 pos, .slice (some ⟨b, o, none⟩) 4 c] 24)))
   have HK_y := hid (hk_y.below (bBw w (.cells #[.int .i64 k, .string s, .int .i64 num, .int .i64 pos, .slice (some ⟨b, o, none⟩) 4 c] 24)))
   clear hx_y hk_y
   have HX_z := hid (hx_z.below (bBw w (.cells #[.int .i64 k, .string s, .int .i64 num, .int .i64 pos, .slice (some ⟨b, o, none⟩) 4 c] 24)))
   have HK_z := hid (hk_z.below (bBw w (.cells #[.int .i64 k, .string s, .int .i64 num, .int .i64 pos, .slice (some ⟨b, o, none⟩) 4 c] 24)))
   clear hx_z hk_z
   have HX_v := hid (hx_v.below (bBw w (.cells #[.int .i64 k, .string s, .int .i64 num, .int .i64 pos, .slice (some ⟨b, o, none⟩) 4 c] 24)))
   have HK_v := hid (hk_v.below (bBw w (.cells #[.int .i64 k, .string s, .int .i64 num, .int .i64 pos, .slice (some ⟨b, o, none⟩) 4 c] 24)))
   clear hx_v hk_v
   have HKX := hid ((hkx).below (bBw w (.cells #[.int .i64 k, .string s, .int .i64 num, .int .i64 pos, .slice (some ⟨b, o, none⟩) 4 c] 24)))
   have HKZ := hid ((hkz).below (bBw w (.cells #[.int .i64 k, .string s, .int .i64 num, .int .i64 pos, .slice (some ⟨b, o, none⟩) 4 c] 24)))
   clear hk
   clear hkx hkz
   obtain ⟨fx0, fx1, fx2, fx3, fx4⟩ := HX_x.out
   obtain ⟨fy0, fy1, fy2, fy3, fy4⟩ := HX_y.out
   obtain ⟨fz0, fz1, fz2, fz3, fz4⟩ := HX_z.out
   obtain ⟨fv0, fv1, fv2, fv3, fv4⟩ := HX_v.out
   go_enter Tryz.func22, Tryz.ntmps22
   go_wp2_with fail
   generalize hW0 : w.alloc (.cells #[.int .i64 k, .string s, .int .i64 num, .int .i64 pos, .slice (some ⟨b, o, none⟩) 4 c] 24) = W0 at *
   have HBOX := hid (show Below w.heap.size w W0 by rw [← hW0]; exact bBw _ _)
   clear hW0
   obtain ⟨x0, x1, x2, x3, x4⟩ := HAT.out
   obtain ⟨fx0, fx1, fx2, fx3, fx4⟩ := HX_x.out
   obtain ⟨fy0, fy1, fy2, fy3, fy4⟩ := HX_y.out
   obtain ⟨fz0, fz1, fz2, fz3, fz4⟩ := HX_z.out
   obtain ⟨fv0, fv1, fv2, fv3, fv4⟩ := HX_v.out
   refine (starred_any ⟨k, s, num, pos, [x, y, z, v]⟩ (some ⟨b, o, none⟩) c W0 (by unfold maxT; simp only; omega)).mono ?_
   rintro e w1 ⟨rfl, hb1⟩
   rw [← HT_n.out]
   have HC1 := hid hb1
   clear hb1
   clear x0 x1 x2 x3 x4 fx0 fx1 fx2 fx3 fx4 fy0 fy1 fy2 fy3 fy4 fz0 fz1 fz2 fz3 fz4 fv0 fv1 fv2 fv3 fv4
   obtain ⟨x0, x1, x2, x3, x4⟩ := nb HAT HC1
   obtain ⟨fx0, fx1, fx2, fx3, fx4⟩ := nb HX_x HC1
   obtain ⟨fy0, fy1, fy2, fy3, fy4⟩ := nb HX_y HC1
   obtain ⟨fz0, fz1, fz2, fz3, fz4⟩ := nb HX_z HC1
   obtain ⟨fv0, fv1, fv2, fv3, fv4⟩ := nb HX_v HC1
   go_wp2
   obtain ⟨PR, hPR⟩ : ∃ PR : ByteArray, PR = (⟨#[80, 82, 79, 67, 69, 68, 85, 82, 69, 32]⟩ : ByteArray) ++ Tn ++ ⟨#[40]⟩ := ⟨_, rfl⟩
   try rw [← hPR]
   have HPR := hid hPR
   have hPRz : PR.size = Tn.size + 11 := by rw [hPR]; simp only [ByteArray.size_append, ba_size, List.size_toArray, List.length_cons, List.length_nil]; omega
   clear hPR
   go_loopw [3, 5] (fun ss ii wr => ∃ (j : Nat) (S : ByteArray), j ≤ x.subs.length ∧ ii = .int .i64 j ∧ ss = .string S ∧ Hid (S = PR ++ joinB ⟨#[59, 32]⟩ ((x.subs.take j).map paramT)) ∧ Hid (Below W0.heap.size W0 wr)) (fun _ ii _ => x.subs.length - (intOf ii).toNat)
   case atStart => exact ⟨0, _, Nat.zero_le _, rfl, rfl, hid (by simp [joinB, ba_nil]), HC1⟩
   case round =>
    obtain ⟨j, S, hj, rfl, rfl, HSS, HCR⟩ := hrel
    clear x0 x1 x2 x3 x4 fx0 fx1 fx2 fx3 fx4 fy0 fy1 fy2 fy3 fy4 fz0 fz1 fz2 fz3 fz4 fv0 fv1 fv2 fv3 fv4
    obtain ⟨x0, x1, x2, x3, x4⟩ := nb HAT HCR
    obtain ⟨fx0, fx1, fx2, fx3, fx4⟩ := nb HX_x HCR
    obtain ⟨fy0, fy1, fy2, fy3, fy4⟩ := nb HX_y HCR
    obtain ⟨fz0, fz1, fz2, fz3, fz4⟩ := nb HX_z HCR
    obtain ⟨fv0, fv1, fv2, fv3, fv4⟩ := nb HX_v HCR
    have hSz : S.size ≤ PR.size + JJ.size := by
     have h1 := join_le ⟨#[59, 32]⟩ paramT x.subs j
     rw [HSS.out, HJJ.out]
     simp only [ByteArray.size_append]
     omega
    by_cases hlt : j < x.subs.length
    ·skip
     exact absurd hlt (by have := HX0.out; omega)
    ·skip
     have HSE := hid (show S = PR ++ JJ by rw [HSS.out, List.take_of_length_le (by omega), HJJ.out])
     go_wp2_with fail
     have hct := nameText_any _ y Ay cy _ (kb HK_y HCR) (by rw [← HT_y.out]; unfold maxT; omega)
     with_reducible refine hct.mono ?_
     clear hct
     rintro e w2 ⟨rfl, hb2⟩
     have HC2 := hid (bTh HCR.out hb2)
     clear hb2
     clear x0 x1 x2 x3 x4 fx0 fx1 fx2 fx3 fx4 fy0 fy1 fy2 fy3 fy4 fz0 fz1 fz2 fz3 fz4 fv0 fv1 fv2 fv3 fv4
     obtain ⟨x0, x1, x2, x3, x4⟩ := nb HAT HC2
     obtain ⟨fx0, fx1, fx2, fx3, fx4⟩ := nb HX_x HC2
     obtain ⟨fy0, fy1, fy2, fy3, fy4⟩ := nb HX_y HC2
     obtain ⟨fz0, fz1, fz2, fz3, fz4⟩ := nb HX_z HC2
     obtain ⟨fv0, fv1, fv2, fv3, fv4⟩ := nb HX_v HC2
     rw [← HT_y.out]
     go_wp2
     have r_0 := cRg x0
     have r_1 := cRg x1
     have r_2 := cRg x2
     have r_3 := cRg x3
     have r_4 := cRg x4
     have r_5 := cRg fx0
     have r_6 := cRg fx1
     have r_7 := cRg fx2
     have r_8 := cRg fx3
     have r_9 := cRg fx4
     have r_10 := cRg fy0
     have r_11 := cRg fy1
     have r_12 := cRg fy2
     have r_13 := cRg fy3
     have r_14 := cRg fy4
     have r_15 := cRg fz0
     have r_16 := cRg fz1
     have r_17 := cRg fz2
     have r_18 := cRg fz3
     have r_19 := cRg fz4
     have r_20 := cRg fv0
     have r_21 := cRg fv1
     have r_22 := cRg fv2
     have r_23 := cRg fv3
     have r_24 := cRg fv4
     have cP0 : ∀ w', Below w2.heap.size w2 w' → Calls Tryz.prog 21 #[.string (⟨#[86, 65, 82]⟩ : ByteArray), .slice Az z.subs.length cz] w' fun e w'' => e = .returned (.string Tz) ∧ Below w'.heap.size w' w'' := fun w' hb => by rw [HT_z.out]; exact hD (⟨#[86, 65, 82]⟩ : ByteArray) z.subs Az cz _ (HKZ.out.below (bTh HC2.out hb)) HVAR.out (by rw [← HT_z.out]; unfold maxT; omega)
     have cQ0 : ∀ dd os, Calls Tryz.prog 21 #[.string (⟨#[86, 65, 82]⟩ : ByteArray), .slice Az z.subs.length cz] (Go.Sort.grow (redrawn w2 dd) os) fun e w'' => e = .returned (.string Tz) ∧ ∃ p : Regrown, w'' = Go.Sort.grow (redrawn w2 p.d) p.os := fun dd os => Calls.regrown_of (cP0 _ (below_regrown _ _ _))
     clear cP0
     have cP1 : ∀ w', Below w2.heap.size w2 w' → Calls Tryz.prog 23 #[.agg #[.int .i64 v.kind, .string v.name, .int .i64 v.num, .int .i64 v.pos, .slice Av v.subs.length cv], .string (⟨#[32, 32]⟩ : ByteArray)] w' fun e w'' => e = .returned (.string Tv) ∧ Below w'.heap.size w' w'' := fun w' hb => by rw [HT_v.out]; exact hL v Av cv (⟨#[32, 32]⟩ : ByteArray) _ (HK_v.out.below (bTh HC2.out hb)) HD_v.out (by rw [← HT_v.out]; unfold maxT; omega) (by unfold maxT; simp [ba_size])
     have cQ1 : ∀ dd os, Calls Tryz.prog 23 #[.agg #[.int .i64 v.kind, .string v.name, .int .i64 v.num, .int .i64 v.pos, .slice Av v.subs.length cv], .string (⟨#[32, 32]⟩ : ByteArray)] (Go.Sort.grow (redrawn w2 dd) os) fun e w'' => e = .returned (.string Tv) ∧ ∃ p : Regrown, w'' = Go.Sort.grow (redrawn w2 p.d) p.os := fun dd os => Calls.regrown_of (cP1 _ (below_regrown _ _ _))
     clear cP1
     refine wp_region_quiet_below (by kernel_rfl) (by kernel_rfl) ?_
     repeat (go_big_quiet_step (first | with_reducible exact cQ0 _ _ | with_reducible exact cQ1 _ _))
     refine wpQuiet_nil ?_
     intro _ hw'
     obtain ⟨⟨dq, osq⟩, hw''⟩ := hw'
     subst hw''
     clear cQ0 cQ1 r_0 r_1 r_2 r_3 r_4 r_5 r_6 r_7 r_8 r_9 r_10 r_11 r_12 r_13 r_14 r_15 r_16 r_17 r_18 r_19 r_20 r_21 r_22 r_23 r_24
     have HG := hid (bTh HC2.out (below_regrown w2 dq osq))
     generalize hG : Go.Sort.grow (redrawn w2 dq) osq = G at *
     clear hG
     go_wp2
     go_ret
     exact ⟨ret_str (by rw [HSE.out, HPR.out]; simp only [ba_assoc, nil_ba, ba_nil]), bTh HBOX.out HG.out⟩
  ·skip
   have hy0' : y.kind = 0 := Decidable.not_not.1 hy0
   clear hy0
   have hy0 := hy0'
   rw [if_neg (by intro h; rcases h with h | h; exact hx0 h; exact h hy0)] at hsz ⊢
   rw [if_neg (by simp [hy0])] at hsz ⊢
   unfold maxT at hsz
   simp only [ByteArray.size_append, ba_size, List.size_toArray, List.length_cons, List.length_nil] at hsz
   have hxb : decide ((0 : Int) < (x.subs.length : Int)) = false := decide_eq_false (by omega)
   have hxc : decide (0 < x.subs.length) = false := decide_eq_false hx0
   have hyb : (y.kind != 0) = false := by simp [hy0]
   have HX0 := hid (show x.subs.length = 0 by omega)
   clear hx0 hy0
   have HAT := hid (bAt w ⟨k, s, num, pos, [x, y, z, v]⟩ (some ⟨b, o, none⟩) c 24)
   have HX_x := hid (hx_x.below (bBw w (.cells #[.int .i64 k, .string s, .int .i64 num, .int .i64 pos, .slice (some ⟨b, o, none⟩) 4 c] 24)))
   have HK_x := hid (hk_x.below (bBw w (.cells #[.int .i64 k, .string s, .int .i64 num, .int .i64 pos, .slice (some ⟨b, o, none⟩) 4 c] 24)))
   clear hx_x hk_x
   have HX_y := hid (hx_y.below (bBw w (.cells #[.int .i64 k, .string s, .int .i64 num, .int .i64 pos, .slice (some ⟨b, o, none⟩) 4 c] 24)))
   have HK_y := hid (hk_y.below (bBw w (.cells #[.int .i64 k, .string s, .int .i64 num, .int .i64 pos, .slice (some ⟨b, o, none⟩) 4 c] 24)))
   clear hx_y hk_y
   have HX_z := hid (hx_z.below (bBw w (.cells #[.int .i64 k, .string s, .int .i64 num, .int .i64 pos, .slice (some ⟨b, o, none⟩) 4 c] 24)))
   have HK_z := hid (hk_z.below (bBw w (.cells #[.int .i64 k, .string s, .int .i64 num, .int .i64 pos, .slice (some ⟨b, o, none⟩) 4 c] 24)))
   clear hx_z hk_z
   have HX_v := hid (hx_v.below (bBw w (.cells #[.int .i64 k, .string s, .int .i64 num, .int .i64 pos, .slice (some ⟨b, o, none⟩) 4 c] 24)))
   have HK_v := hid (hk_v.below (bBw w (.cells #[.int .i64 k, .string s, .int .i64 num, .int .i64 pos, .slice (some ⟨b, o, none⟩) 4 c] 24)))
   clear hx_v hk_v
   have HKX := hid ((hkx).below (bBw w (.cells #[.int .i64 k, .string s, .int .i64 num, .int .i64 pos, .slice (some ⟨b, o, none⟩) 4 c] 24)))
   have HKZ := hid ((hkz).below (bBw w (.cells #[.int .i64 k, .string s, .int .i64 num, .int .i64 pos, .slice (some ⟨b, o, none⟩) 4 c] 24)))
   clear hk
   clear hkx hkz
   obtain ⟨fx0, fx1, fx2, fx3, fx4⟩ := HX_x.out
   obtain ⟨fy0, fy1, fy2, fy3, fy4⟩ := HX_y.out
   obtain ⟨fz0, fz1, fz2, fz3, fz4⟩ := HX_z.out
   obtain ⟨fv0, fv1, fv2, fv3, fv4⟩ := HX_v.out
   go_enter Tryz.func22, Tryz.ntmps22
   go_wp2_with fail
   generalize hW0 : w.alloc (.cells #[.int .i64 k, .string s, .int .i64 num, .int .i64 pos, .slice (some ⟨b, o, none⟩) 4 c] 24) = W0 at *
   have HBOX := hid (show Below w.heap.size w W0 by rw [← hW0]; exact bBw _ _)
   clear hW0
   obtain ⟨x0, x1, x2, x3, x4⟩ := HAT.out
   obtain ⟨fx0, fx1, fx2, fx3, fx4⟩ := HX_x.out
   obtain ⟨fy0, fy1, fy2, fy3, fy4⟩ := HX_y.out
   obtain ⟨fz0, fz1, fz2, fz3, fz4⟩ := HX_z.out
   obtain ⟨fv0, fv1, fv2, fv3, fv4⟩ := HX_v.out
   refine (starred_any ⟨k, s, num, pos, [x, y, z, v]⟩ (some ⟨b, o, none⟩) c W0 (by unfold maxT; simp only; omega)).mono ?_
   rintro e w1 ⟨rfl, hb1⟩
   rw [← HT_n.out]
   have HC1 := hid hb1
   clear hb1
   clear x0 x1 x2 x3 x4 fx0 fx1 fx2 fx3 fx4 fy0 fy1 fy2 fy3 fy4 fz0 fz1 fz2 fz3 fz4 fv0 fv1 fv2 fv3 fv4
   obtain ⟨x0, x1, x2, x3, x4⟩ := nb HAT HC1
   obtain ⟨fx0, fx1, fx2, fx3, fx4⟩ := nb HX_x HC1
   obtain ⟨fy0, fy1, fy2, fy3, fy4⟩ := nb HX_y HC1
   obtain ⟨fz0, fz1, fz2, fz3, fz4⟩ := nb HX_z HC1
   obtain ⟨fv0, fv1, fv2, fv3, fv4⟩ := nb HX_v HC1
   go_wp2
   have r_0 := cRg x0
   have r_1 := cRg x1
   have r_2 := cRg x2
   have r_3 := cRg x3
   have r_4 := cRg x4
   have r_5 := cRg fx0
   have r_6 := cRg fx1
   have r_7 := cRg fx2
   have r_8 := cRg fx3
   have r_9 := cRg fx4
   have r_10 := cRg fy0
   have r_11 := cRg fy1
   have r_12 := cRg fy2
   have r_13 := cRg fy3
   have r_14 := cRg fy4
   have r_15 := cRg fz0
   have r_16 := cRg fz1
   have r_17 := cRg fz2
   have r_18 := cRg fz3
   have r_19 := cRg fz4
   have r_20 := cRg fv0
   have r_21 := cRg fv1
   have r_22 := cRg fv2
   have r_23 := cRg fv3
   have r_24 := cRg fv4
   have cP0 : ∀ w', Below w1.heap.size w1 w' → Calls Tryz.prog 21 #[.string (⟨#[86, 65, 82]⟩ : ByteArray), .slice Az z.subs.length cz] w' fun e w'' => e = .returned (.string Tz) ∧ Below w'.heap.size w' w'' := fun w' hb => by rw [HT_z.out]; exact hD (⟨#[86, 65, 82]⟩ : ByteArray) z.subs Az cz _ (HKZ.out.below (bTh HC1.out hb)) HVAR.out (by rw [← HT_z.out]; unfold maxT; omega)
   have cQ0 : ∀ dd os, Calls Tryz.prog 21 #[.string (⟨#[86, 65, 82]⟩ : ByteArray), .slice Az z.subs.length cz] (Go.Sort.grow (redrawn w1 dd) os) fun e w'' => e = .returned (.string Tz) ∧ ∃ p : Regrown, w'' = Go.Sort.grow (redrawn w1 p.d) p.os := fun dd os => Calls.regrown_of (cP0 _ (below_regrown _ _ _))
   clear cP0
   have cP1 : ∀ w', Below w1.heap.size w1 w' → Calls Tryz.prog 23 #[.agg #[.int .i64 v.kind, .string v.name, .int .i64 v.num, .int .i64 v.pos, .slice Av v.subs.length cv], .string (⟨#[32, 32]⟩ : ByteArray)] w' fun e w'' => e = .returned (.string Tv) ∧ Below w'.heap.size w' w'' := fun w' hb => by rw [HT_v.out]; exact hL v Av cv (⟨#[32, 32]⟩ : ByteArray) _ (HK_v.out.below (bTh HC1.out hb)) HD_v.out (by rw [← HT_v.out]; unfold maxT; omega) (by unfold maxT; simp [ba_size])
   have cQ1 : ∀ dd os, Calls Tryz.prog 23 #[.agg #[.int .i64 v.kind, .string v.name, .int .i64 v.num, .int .i64 v.pos, .slice Av v.subs.length cv], .string (⟨#[32, 32]⟩ : ByteArray)] (Go.Sort.grow (redrawn w1 dd) os) fun e w'' => e = .returned (.string Tv) ∧ ∃ p : Regrown, w'' = Go.Sort.grow (redrawn w1 p.d) p.os := fun dd os => Calls.regrown_of (cP1 _ (below_regrown _ _ _))
   clear cP1
   refine wp_region_quiet_below (by kernel_rfl) (by kernel_rfl) ?_
   repeat (go_big_quiet_step (first | with_reducible exact cQ0 _ _ | with_reducible exact cQ1 _ _))
   refine wpQuiet_nil ?_
   intro _ hw'
   obtain ⟨⟨dq, osq⟩, hw''⟩ := hw'
   subst hw''
   clear cQ0 cQ1 r_0 r_1 r_2 r_3 r_4 r_5 r_6 r_7 r_8 r_9 r_10 r_11 r_12 r_13 r_14 r_15 r_16 r_17 r_18 r_19 r_20 r_21 r_22 r_23 r_24
   have HG := hid (bTh HC1.out (below_regrown w1 dq osq))
   generalize hG : Go.Sort.grow (redrawn w1 dq) osq = G at *
   clear hG
   go_wp2
   go_ret
   exact ⟨ret_str (by simp only [ba_assoc, nil_ba, ba_nil]), bTh HBOX.out HG.out⟩
end Go.Proofs.YtneohanphabneaaGreatDoor
