/-
The program's text of a tree, the walks: the whole. Conditions: the tree lies in memory and is shaped; the writer's block holds the writer; the text's length is below a bound.
-/
import Derived.Test.YtneohanphabneaaGreatDoorWrPr
import Derived.Test.YtneohanphabneaaGreatDoorTextR8
namespace Go.Proofs.YtneohanphabneaaGreatDoor
set_option linter.unusedSimpArgs false
set_option linter.unusedVariables false
open Go.RowKit Go.BigFrame
theorem part_at {d : Nat} {kind : Int} {l : Nd} (h : partS (d + 1) kind l = true) : ∀ x ∈ l.subs, x.kind = kind ∧ declStep d x = true := fun x hx => by
 have := List.all_eq_true.1 (part_all h) x hx
 simp only [Bool.and_eq_true, decide_eq_true_eq] at this
 exact ⟨this.1, by rw [← declS_succ]; exact this.2⟩
theorem sec_const {d : Nat} {wd : ByteArray} {l : Nd} (h : partS (d + 1) 4 l = true) : secT (constT d) 0 wd l.subs = declTT d wd l.subs :=
 sec_eq fun x hx => by
  have h1 := (part_at h x hx).1
  simp only [secL, declLT, h1, constT, padT]
  exact ba_ext (by simp)
theorem sec_named {d : Nat} {wd : ByteArray} {l : Nd} (h : partS (d + 1) 5 l = true) : secT namedT 0 wd l.subs = declTT d wd l.subs :=
 sec_eq fun x hx => by
  have h1 := (part_at h x hx).1
  simp only [secL, declLT, h1, namedT, padT]
  exact ba_ext (by simp)
theorem sec_vars {d : Nat} {wd : ByteArray} {l : Nd} (h : partS (d + 1) 6 l = true) : secT varT 0 wd l.subs = declTT d wd l.subs :=
 sec_eq fun x hx => by
  have h1 := (part_at h x hx).1
  simp only [secL, declLT, h1, varT, padT]
  exact ba_ext (by simp)
theorem const_ok {d : Nat} {l : Nd} (h : partS (d + 1) 4 l = true) : l.subs.all (okC d) = true := by
 rw [List.all_eq_true]
 intro x hx
 obtain ⟨h1, h2⟩ := part_at h x hx
 simp [declStep, h1] at h2
 have := headB_len h2.1 (by omega)
 simp [okC, h2.2]
 omega
theorem named_ok {d : Nat} {l : Nd} (h : partS (d + 1) 5 l = true) : l.subs.all okN = true := by
 rw [List.all_eq_true]
 intro x hx
 obtain ⟨h1, h2⟩ := part_at h x hx
 simp [declStep, h1] at h2
 have := headB_len h2.1 (by omega)
 simp [okN, h2.2]
 omega
theorem vars_ok {d : Nat} {l : Nd} (h : partS (d + 1) 6 l = true) : l.subs.all okV = true :=
 ok_of (p := okV) (k := 6) fun x hx => by
  obtain ⟨h1, h2⟩ := part_at h x hx
  simpa [declStep, h1] using h2
set_option maxRecDepth 100000 in
set_option maxHeartbeats 1500000 in
theorem wmodule_any (d : Nat) (n : Nd) (A : Option Addr) (c : Nat) (w0 w : World) (wb : Nat) (S : ByteArray) (hl : PowLaid w0) (hk : Kids w0 (d + 5) n A c) (hb0 : Below w0.heap.size w0 w) (hr : IsWr w0.heap.size wb S (0 : Nat) w) (hs : shapedS (d + 5) n = true) (hsz : S.size + (printedT d n).size ≤ maxW) (hd : d ≤ 900) :
  Calls Tryz.prog 25 #[.pointer (some ⟨wb, 0, none⟩), .agg #[.int .i64 n.kind, .string n.name, .int .i64 n.num, .int .i64 n.pos, .slice A n.subs.length c]] w fun e w' => e = .returned (.tuple #[]) ∧ IsWr w0.heap.size wb (S ++ printedT d n) (0 : Nat) w' ∧ Wrote w0.heap.size wb w w' := by
 obtain ⟨k, s, num, pos, subs⟩ := n
 have hlen := hk.len
 unfold maxLen at hlen
 simp only at hlen
 rw [shapedS_at (d + 3)] at hs
 simp only [Bool.and_eq_true] at hs
 have hL := (ws_any (d + 4)).2
 have hP := fun n A c w0 w wb S hl hk hb0 hr hs hsz => wproc_any d n A c w0 w wb S hl hk hb0 hr hs hsz hd
 obtain ⟨x, y, z, v, u, t, rfl⟩ := len6 (l := subs) (headB_len hs.1.1.1.1.1.1 (by omega))
 obtain ⟨b, o, Ax, cx, rfl, hx_x, hk_x⟩ := hk.one (x := x) (r := [y, z, v, u, t]) rfl
 obtain ⟨Ay, cy, hx_y, hk_y⟩ := hk.nth rfl (i := 1) (x := y) rfl (p := o + 5) (by omega)
 obtain ⟨Az, cz, hx_z, hk_z⟩ := hk.nth rfl (i := 2) (x := z) rfl (p := o + 10) (by omega)
 obtain ⟨Av, cv, hx_v, hk_v⟩ := hk.nth rfl (i := 3) (x := v) rfl (p := o + 15) (by omega)
 obtain ⟨Au, cu, hx_u, hk_u⟩ := hk.nth rfl (i := 4) (x := u) rfl (p := o + 20) (by omega)
 obtain ⟨At, ct, hx_t, hk_t⟩ := hk.nth rfl (i := 5) (x := t) rfl (p := o + 25) (by omega)
 simp only [List.length_cons, List.length_nil, Nat.zero_add] at hlen
 simp only [Nd.sub, List.getD_cons_zero, List.getD_cons_succ] at hs
 have HO_y := hid (const_ok hs.1.1.1.1.2)
 have HO_z := hid (named_ok hs.1.1.1.2)
 have HO_v := hid (vars_ok hs.1.1.2)
 have HO_u := hid (part_proc hs.1.2)
 have HD_t := hid hs.2
 have hTT : printedT d ⟨k, s, num, pos, [x, y, z, v, u, t]⟩ = (⟨#[77, 79, 68, 85, 76, 69, 32]⟩ : ByteArray) ++ s ++ (⟨#[59, 10]⟩ : ByteArray) ++ impT x.subs ++ declTT (d + 2) (⟨#[67, 79, 78, 83, 84]⟩ : ByteArray) y.subs ++ declTT (d + 2) (⟨#[84, 89, 80, 69]⟩ : ByteArray) z.subs ++ declTT (d + 2) (⟨#[86, 65, 82]⟩ : ByteArray) v.subs ++ catB (u.subs.map (procT d)) ++ bodyT (d + 4) t ++ (⟨#[69, 78, 68, 32]⟩ : ByteArray) ++ s ++ (⟨#[46, 10]⟩ : ByteArray) := rfl
 rw [hTT, ← sec_const hs.1.1.1.1.2, ← sec_named hs.1.1.1.2, ← sec_vars hs.1.1.2] at hsz ⊢
 clear hTT hs
 obtain ⟨Ty, hT_y⟩ : ∃ T, T = secT (constT (d + 2)) 0 (⟨#[67, 79, 78, 83, 84]⟩ : ByteArray) y.subs := ⟨_, rfl⟩
 rw [← hT_y] at hsz ⊢
 have HT_y := hid hT_y
 clear hT_y
 obtain ⟨Tz, hT_z⟩ : ∃ T, T = secT namedT 0 (⟨#[84, 89, 80, 69]⟩ : ByteArray) z.subs := ⟨_, rfl⟩
 rw [← hT_z] at hsz ⊢
 have HT_z := hid hT_z
 clear hT_z
 obtain ⟨Tv, hT_v⟩ : ∃ T, T = secT varT 0 (⟨#[86, 65, 82]⟩ : ByteArray) v.subs := ⟨_, rfl⟩
 rw [← hT_v] at hsz ⊢
 have HT_v := hid hT_v
 clear hT_v
 obtain ⟨Tu, hT_u⟩ : ∃ T, T = catB (u.subs.map (procT d)) := ⟨_, rfl⟩
 rw [← hT_u] at hsz ⊢
 have HT_u := hid hT_u
 clear hT_u
 have hlx := hk_x.len
 unfold maxLen at hlx
 have hkx := hk_x.list
 have hly := hk_y.len
 unfold maxLen at hly
 have hky := hk_y.list
 have hlz := hk_z.len
 unfold maxLen at hlz
 have hkz := hk_z.list
 have hlv := hk_v.len
 unfold maxLen at hlv
 have hkv := hk_v.list
 have hlu := hk_u.len
 unfold maxLen at hlu
 have hku := hk_u.list
 have hlt := hk_t.len
 unfold maxLen at hlt
 have hkt := hk_t.list
 by_cases hx0 : 0 < x.subs.length
 ·skip
  by_cases ht0 : 0 < t.subs.length
  ·skip
   unfold impT bodyT at hsz ⊢
   rw [if_pos hx0] at hsz ⊢
   rw [if_pos ht0] at hsz ⊢
   obtain ⟨JJ, hJJ⟩ : ∃ JJ, JJ = joinB ⟨#[44, 32]⟩ (x.subs.map (·.name)) := ⟨_, rfl⟩
   rw [← hJJ] at hsz ⊢
   have HJJ := hid hJJ
   clear hJJ
   obtain ⟨Tt, hT_t⟩ : ∃ T, T = stmtsT (d + 4) t (⟨#[32, 32]⟩ : ByteArray) := ⟨_, rfl⟩
   rw [← hT_t] at hsz ⊢
   have HT_t := hid hT_t
   clear hT_t
   unfold maxW at hsz
   simp only [ByteArray.size_append, ba_size, List.size_toArray, List.length_cons, List.length_nil, padT_zero] at hsz
   have xb1 : decide ((0 : Int) < (x.subs.length : Int)) = true := decide_eq_true (by omega)
   have xb2 : decide (0 < x.subs.length) = true := decide_eq_true (by omega)
   have tb1 : decide ((0 : Int) < (t.subs.length : Int)) = true := decide_eq_true (by omega)
   have tb2 : decide (0 < t.subs.length) = true := decide_eq_true (by omega)
   clear hx0 ht0
   have HL := hid hl
   clear hl
   have HX_x := hid hx_x
   have HK_x := hid hk_x
   clear hx_x hk_x
   have HX_y := hid hx_y
   have HK_y := hid hk_y
   clear hx_y hk_y
   have HX_z := hid hx_z
   have HK_z := hid hk_z
   clear hx_z hk_z
   have HX_v := hid hx_v
   have HK_v := hid hk_v
   clear hx_v hk_v
   have HX_u := hid hx_u
   have HK_u := hid hk_u
   clear hx_u hk_u
   have HX_t := hid hx_t
   have HK_t := hid hk_t
   clear hx_t hk_t
   have HKX := hid (hkx)
   have HKY := hid (hky)
   have HKZ := hid (hkz)
   have HKV := hid (hkv)
   have HKU := hid (hku)
   clear hk
   have HB0 := hid (hb0.alloc hb0.size (.cells #[.int .i64 k, .string s, .int .i64 num, .int .i64 pos, .slice (some ⟨b, o, none⟩) 6 c] 24))
   have HR0 := hid (hr.below (bBw w (.cells #[.int .i64 k, .string s, .int .i64 num, .int .i64 pos, .slice (some ⟨b, o, none⟩) 6 c] 24)))
   have HT0 := hid (Wrote.refl w0.heap.size wb (w.alloc (.cells #[.int .i64 k, .string s, .int .i64 num, .int .i64 pos, .slice (some ⟨b, o, none⟩) 6 c] 24)))
   have HOUT := hid ((Wrote.refl w0.heap.size wb w).then hb0.size (bBw w (.cells #[.int .i64 k, .string s, .int .i64 num, .int .i64 pos, .slice (some ⟨b, o, none⟩) 6 c] 24)))
   have HBK := hid (heap_new w (.cells #[.int .i64 k, .string s, .int .i64 num, .int .i64 pos, .slice (some ⟨b, o, none⟩) 6 c] 24))
   have HNE := hid (Nat.ne_of_gt hr.lt)
   have HGE := hid hr.ge
   clear hb0 hr
   clear hkx hky hkz hkv hku hkt
   obtain ⟨fx0, fx1, fx2, fx3, fx4⟩ := nb HX_x HB0
   obtain ⟨fy0, fy1, fy2, fy3, fy4⟩ := nb HX_y HB0
   obtain ⟨fz0, fz1, fz2, fz3, fz4⟩ := nb HX_z HB0
   obtain ⟨fv0, fv1, fv2, fv3, fv4⟩ := nb HX_v HB0
   obtain ⟨fu0, fu1, fu2, fu3, fu4⟩ := nb HX_u HB0
   obtain ⟨ft0, ft1, ft2, ft3, ft4⟩ := nb HX_t HB0
   have hdeep := HR0.out.deep_at
   have hfz := HR0.out.unfrozen
   go_enter Tryz.func25, Tryz.ntmps25
   go_wp2_with fail
   generalize hW0 : w.alloc (.cells #[.int .i64 k, .string s, .int .i64 num, .int .i64 pos, .slice (some ⟨b, o, none⟩) 6 c] 24) = W0 at *
   clear hW0
   have hct := line_any w0.heap.size wb _ ((⟨#[77, 79, 68, 85, 76, 69, 32]⟩ : ByteArray) ++ s ++ (⟨#[59]⟩ : ByteArray)) 0 W0 HR0.out
   replace hct := hct (by omega)
   replace hct := hct (by (try simp only [ByteArray.size_append, ba_size, List.size_toArray, List.length_cons, List.length_nil, padT_zero]); omega)
   replace hct := hct HB0.out.size
   with_reducible refine hct.mono ?_
   clear hct
   rintro e V1 ⟨rfl, hw, ht⟩
   have HB1 := hid (HB0.out.trans ht.below)
   have HT1 := hid (HT0.out.trans ht)
   have HR1 := hid hw
   clear hw ht
   clear fx0 fx1 fx2 fx3 fx4 fy0 fy1 fy2 fy3 fy4 fz0 fz1 fz2 fz3 fz4 fv0 fv1 fv2 fv3 fv4 fu0 fu1 fu2 fu3 fu4 ft0 ft1 ft2 ft3 ft4 hdeep hfz
   obtain ⟨x0, x1, x2, x3, x4⟩ := bKp (n := ⟨k, s, num, pos, [x, y, z, v, u, t]⟩) (A := (some ⟨b, o, none⟩)) (c := c) HBK.out HT1.out.kept HNE.out
   obtain ⟨fx0, fx1, fx2, fx3, fx4⟩ := nb HX_x HB1
   obtain ⟨fy0, fy1, fy2, fy3, fy4⟩ := nb HX_y HB1
   obtain ⟨fz0, fz1, fz2, fz3, fz4⟩ := nb HX_z HB1
   obtain ⟨fv0, fv1, fv2, fv3, fv4⟩ := nb HX_v HB1
   obtain ⟨fu0, fu1, fu2, fu3, fu4⟩ := nb HX_u HB1
   obtain ⟨ft0, ft1, ft2, ft3, ft4⟩ := nb HX_t HB1
   go_wp2_with fail
   have hct := join_any _ (d + 3) (fun _ => true) (·.name) (say_import (d + 3)) x.subs Ax cx ⟨#[44, 32]⟩ V1 (HL.out.below HB1.out) (HKX.out.below HB1.out) (by simp) (by rw [← HJJ.out]; unfold maxT; omega) (by simp [ba_size])
   with_reducible refine hct.mono ?_
   clear hct
   rintro e V2 ⟨rfl, hb⟩
   rw [← HJJ.out]
   have HB2 := hid (bTh HB1.out hb)
   have HT2 := hid (HT1.out.then HB1.out.size hb)
   have HR2 := hid (HR1.out.below hb)
   clear hb
   clear x0 x1 x2 x3 x4 fx0 fx1 fx2 fx3 fx4 fy0 fy1 fy2 fy3 fy4 fz0 fz1 fz2 fz3 fz4 fv0 fv1 fv2 fv3 fv4 fu0 fu1 fu2 fu3 fu4 ft0 ft1 ft2 ft3 ft4
   obtain ⟨x0, x1, x2, x3, x4⟩ := bKp (n := ⟨k, s, num, pos, [x, y, z, v, u, t]⟩) (A := (some ⟨b, o, none⟩)) (c := c) HBK.out HT2.out.kept HNE.out
   obtain ⟨fx0, fx1, fx2, fx3, fx4⟩ := nb HX_x HB2
   obtain ⟨fy0, fy1, fy2, fy3, fy4⟩ := nb HX_y HB2
   obtain ⟨fz0, fz1, fz2, fz3, fz4⟩ := nb HX_z HB2
   obtain ⟨fv0, fv1, fv2, fv3, fv4⟩ := nb HX_v HB2
   obtain ⟨fu0, fu1, fu2, fu3, fu4⟩ := nb HX_u HB2
   obtain ⟨ft0, ft1, ft2, ft3, ft4⟩ := nb HX_t HB2
   go_wp2_with fail
   have hct := line_any w0.heap.size wb _ ((⟨#[73, 77, 80, 79, 82, 84, 32]⟩ : ByteArray) ++ JJ ++ (⟨#[59]⟩ : ByteArray)) 0 V2 HR2.out
   replace hct := hct (by omega)
   replace hct := hct (by (try simp only [ByteArray.size_append, ba_size, List.size_toArray, List.length_cons, List.length_nil, padT_zero]); omega)
   replace hct := hct HB2.out.size
   with_reducible refine hct.mono ?_
   clear hct
   rintro e V3 ⟨rfl, hw, ht⟩
   have HB3 := hid (HB2.out.trans ht.below)
   have HT3 := hid (HT2.out.trans ht)
   have HR3 := hid hw
   clear hw ht
   clear x0 x1 x2 x3 x4 fx0 fx1 fx2 fx3 fx4 fy0 fy1 fy2 fy3 fy4 fz0 fz1 fz2 fz3 fz4 fv0 fv1 fv2 fv3 fv4 fu0 fu1 fu2 fu3 fu4 ft0 ft1 ft2 ft3 ft4
   obtain ⟨x0, x1, x2, x3, x4⟩ := bKp (n := ⟨k, s, num, pos, [x, y, z, v, u, t]⟩) (A := (some ⟨b, o, none⟩)) (c := c) HBK.out HT3.out.kept HNE.out
   obtain ⟨fx0, fx1, fx2, fx3, fx4⟩ := nb HX_x HB3
   obtain ⟨fy0, fy1, fy2, fy3, fy4⟩ := nb HX_y HB3
   obtain ⟨fz0, fz1, fz2, fz3, fz4⟩ := nb HX_z HB3
   obtain ⟨fv0, fv1, fv2, fv3, fv4⟩ := nb HX_v HB3
   obtain ⟨fu0, fu1, fu2, fu3, fu4⟩ := nb HX_u HB3
   obtain ⟨ft0, ft1, ft2, ft3, ft4⟩ := nb HX_t HB3
   go_wp2_with fail
   have hct := section_any _ (d + 3) (okC (d + 2)) (constT (d + 2)) (say_const (d + 2)) y.subs Ay cy (⟨#[67, 79, 78, 83, 84]⟩ : ByteArray) w0 V3 wb _ 0 HL.out HKY.out HB3.out HR3.out
   replace hct := hct HO_y.out
   replace hct := hct (by rw [← HT_y.out]; unfold maxW; (try simp only [ByteArray.size_append, ba_size, List.size_toArray, List.length_cons, List.length_nil, padT_zero]); omega)
   replace hct := hct (by omega)
   with_reducible refine hct.mono ?_
   clear hct
   rintro e V4 ⟨rfl, hw, ht⟩
   have HB4 := hid (HB3.out.trans ht.below)
   have HT4 := hid (HT3.out.trans ht)
   have HR4 := hid hw
   clear hw ht
   clear x0 x1 x2 x3 x4 fx0 fx1 fx2 fx3 fx4 fy0 fy1 fy2 fy3 fy4 fz0 fz1 fz2 fz3 fz4 fv0 fv1 fv2 fv3 fv4 fu0 fu1 fu2 fu3 fu4 ft0 ft1 ft2 ft3 ft4
   obtain ⟨x0, x1, x2, x3, x4⟩ := bKp (n := ⟨k, s, num, pos, [x, y, z, v, u, t]⟩) (A := (some ⟨b, o, none⟩)) (c := c) HBK.out HT4.out.kept HNE.out
   obtain ⟨fx0, fx1, fx2, fx3, fx4⟩ := nb HX_x HB4
   obtain ⟨fy0, fy1, fy2, fy3, fy4⟩ := nb HX_y HB4
   obtain ⟨fz0, fz1, fz2, fz3, fz4⟩ := nb HX_z HB4
   obtain ⟨fv0, fv1, fv2, fv3, fv4⟩ := nb HX_v HB4
   obtain ⟨fu0, fu1, fu2, fu3, fu4⟩ := nb HX_u HB4
   obtain ⟨ft0, ft1, ft2, ft3, ft4⟩ := nb HX_t HB4
   have hr := HR4.out
   try rw [show 0 + 1 = 1 from rfl, padT_one] at hr
   rw [← HT_y.out] at hr
   have HR4' := hid hr
   clear hr HR4
   have HR4 := HR4'
   clear HR4'
   go_wp2_with fail
   have hct := section_any _ (d + 3) okN namedT (say_named (d + 2)) z.subs Az cz (⟨#[84, 89, 80, 69]⟩ : ByteArray) w0 V4 wb _ 0 HL.out HKZ.out HB4.out HR4.out
   replace hct := hct HO_z.out
   replace hct := hct (by rw [← HT_z.out]; unfold maxW; (try simp only [ByteArray.size_append, ba_size, List.size_toArray, List.length_cons, List.length_nil, padT_zero]); omega)
   replace hct := hct (by omega)
   with_reducible refine hct.mono ?_
   clear hct
   rintro e V5 ⟨rfl, hw, ht⟩
   have HB5 := hid (HB4.out.trans ht.below)
   have HT5 := hid (HT4.out.trans ht)
   have HR5 := hid hw
   clear hw ht
   clear x0 x1 x2 x3 x4 fx0 fx1 fx2 fx3 fx4 fy0 fy1 fy2 fy3 fy4 fz0 fz1 fz2 fz3 fz4 fv0 fv1 fv2 fv3 fv4 fu0 fu1 fu2 fu3 fu4 ft0 ft1 ft2 ft3 ft4
   obtain ⟨x0, x1, x2, x3, x4⟩ := bKp (n := ⟨k, s, num, pos, [x, y, z, v, u, t]⟩) (A := (some ⟨b, o, none⟩)) (c := c) HBK.out HT5.out.kept HNE.out
   obtain ⟨fx0, fx1, fx2, fx3, fx4⟩ := nb HX_x HB5
   obtain ⟨fy0, fy1, fy2, fy3, fy4⟩ := nb HX_y HB5
   obtain ⟨fz0, fz1, fz2, fz3, fz4⟩ := nb HX_z HB5
   obtain ⟨fv0, fv1, fv2, fv3, fv4⟩ := nb HX_v HB5
   obtain ⟨fu0, fu1, fu2, fu3, fu4⟩ := nb HX_u HB5
   obtain ⟨ft0, ft1, ft2, ft3, ft4⟩ := nb HX_t HB5
   have hr := HR5.out
   try rw [show 0 + 1 = 1 from rfl, padT_one] at hr
   rw [← HT_z.out] at hr
   have HR5' := hid hr
   clear hr HR5
   have HR5 := HR5'
   clear HR5'
   go_wp2_with fail
   have hct := section_any _ (d + 3) okV varT (say_var (d + 2)) v.subs Av cv (⟨#[86, 65, 82]⟩ : ByteArray) w0 V5 wb _ 0 HL.out HKV.out HB5.out HR5.out
   replace hct := hct HO_v.out
   replace hct := hct (by rw [← HT_v.out]; unfold maxW; (try simp only [ByteArray.size_append, ba_size, List.size_toArray, List.length_cons, List.length_nil, padT_zero]); omega)
   replace hct := hct (by omega)
   with_reducible refine hct.mono ?_
   clear hct
   rintro e V6 ⟨rfl, hw, ht⟩
   have HB6 := hid (HB5.out.trans ht.below)
   have HT6 := hid (HT5.out.trans ht)
   have HR6 := hid hw
   clear hw ht
   clear x0 x1 x2 x3 x4 fx0 fx1 fx2 fx3 fx4 fy0 fy1 fy2 fy3 fy4 fz0 fz1 fz2 fz3 fz4 fv0 fv1 fv2 fv3 fv4 fu0 fu1 fu2 fu3 fu4 ft0 ft1 ft2 ft3 ft4
   obtain ⟨x0, x1, x2, x3, x4⟩ := bKp (n := ⟨k, s, num, pos, [x, y, z, v, u, t]⟩) (A := (some ⟨b, o, none⟩)) (c := c) HBK.out HT6.out.kept HNE.out
   obtain ⟨fx0, fx1, fx2, fx3, fx4⟩ := nb HX_x HB6
   obtain ⟨fy0, fy1, fy2, fy3, fy4⟩ := nb HX_y HB6
   obtain ⟨fz0, fz1, fz2, fz3, fz4⟩ := nb HX_z HB6
   obtain ⟨fv0, fv1, fv2, fv3, fv4⟩ := nb HX_v HB6
   obtain ⟨fu0, fu1, fu2, fu3, fu4⟩ := nb HX_u HB6
   obtain ⟨ft0, ft1, ft2, ft3, ft4⟩ := nb HX_t HB6
   have hr := HR6.out
   try rw [show 0 + 1 = 1 from rfl, padT_one] at hr
   rw [← HT_v.out] at hr
   have HR6' := hid hr
   clear hr HR6
   have HR6 := HR6'
   clear HR6'
   obtain ⟨S1, hS1⟩ : ∃ S1, S1 = S ++ (padT 0 ++ ((⟨#[77, 79, 68, 85, 76, 69, 32]⟩ : ByteArray) ++ s ++ (⟨#[59]⟩ : ByteArray)) ++ ⟨#[10]⟩) ++ (padT 0 ++ ((⟨#[73, 77, 80, 79, 82, 84, 32]⟩ : ByteArray) ++ JJ ++ (⟨#[59]⟩ : ByteArray)) ++ ⟨#[10]⟩) ++ Ty ++ Tz ++ Tv := ⟨_, rfl⟩
   have hr := HR6.out
   rw [← hS1] at hr
   have HRa := hid hr
   clear hr HR6
   have hS1z : S1.size = S.size + s.size + JJ.size + Ty.size + Tz.size + Tv.size + 18 := by rw [hS1]; simp only [ByteArray.size_append, ba_size, List.size_toArray, List.length_cons, List.length_nil, padT_zero]; omega
   have HS1 := hid hS1
   clear hS1
   go_wp2
   go_loopw [55] (fun ii wr => ∃ (j : Nat), j ≤ u.subs.length ∧ ii = .int .i64 j ∧ Hid (Below w0.heap.size w0 wr) ∧ Hid (Wrote w0.heap.size wb W0 wr) ∧ Hid (IsWr w0.heap.size wb (S1 ++ catB ((u.subs.take j).map (procT d))) ((0 : Nat) : Int) wr)) (fun ii _ => u.subs.length - (intOf ii).toNat)
   case atStart => exact ⟨0, by omega, rfl, HB6, HT6, hid (by rw [List.take_zero, List.map_nil, catB, ba_nil]; exact HRa.out)⟩
   case round =>
    obtain ⟨j, hj, rfl, HBr, HTr, HRr⟩ := hrel
    clear x0 x1 x2 x3 x4 fx0 fx1 fx2 fx3 fx4 fy0 fy1 fy2 fy3 fy4 fz0 fz1 fz2 fz3 fz4 fv0 fv1 fv2 fv3 fv4 fu0 fu1 fu2 fu3 fu4 ft0 ft1 ft2 ft3 ft4
    obtain ⟨x0, x1, x2, x3, x4⟩ := bKp (n := ⟨k, s, num, pos, [x, y, z, v, u, t]⟩) (A := (some ⟨b, o, none⟩)) (c := c) HBK.out HTr.out.kept HNE.out
    obtain ⟨fx0, fx1, fx2, fx3, fx4⟩ := nb HX_x HBr
    obtain ⟨fy0, fy1, fy2, fy3, fy4⟩ := nb HX_y HBr
    obtain ⟨fz0, fz1, fz2, fz3, fz4⟩ := nb HX_z HBr
    obtain ⟨fv0, fv1, fv2, fv3, fv4⟩ := nb HX_v HBr
    obtain ⟨fu0, fu1, fu2, fu3, fu4⟩ := nb HX_u HBr
    obtain ⟨ft0, ft1, ft2, ft3, ft4⟩ := nb HX_t HBr
    by_cases hlt : j < u.subs.length
    ·skip
     obtain ⟨q, hq⟩ : ∃ q, u.subs[j]? = some q := ⟨_, List.getElem?_eq_getElem hlt⟩
     obtain ⟨bq, oq, Aq, cq, hA, hxq, hkq⟩ := HKU.out.2.2 j q hq
     have HA := hid hA
     have HO_q := hid (all_at HO_u.out hq)
     have hcs := cat_size (f := procT d) hq
     have STEP := hid (cat_step (f := procT d) hq)
     have HX_q := hid hxq
     have HK_q := hid hkq
     clear hxq hkq hq
     rw [← HT_u.out] at hcs
     obtain ⟨Tq, hT_q⟩ : ∃ X, X = procT d q := ⟨_, rfl⟩
     rw [← hT_q] at hcs
     have HT_q := hid hT_q
     clear hT_q
     have fxx := fu4
     rw [HA.out] at fxx
     clear fu4 hA
     have fu4 := fxx
     clear fxx
     try rw [HA.out]
     have hj1 : (0 : Int) ≤ (j : Int) := by omega
     have hj2 : (j : Int) < u.subs.length := by omega
     obtain ⟨CC, hCC⟩ : ∃ CC, CC = catB ((u.subs.take j).map (procT d)) := ⟨_, rfl⟩
     rw [← hCC] at hcs
     have hr := HRr.out
     rw [← hCC] at hr
     have HRr2 := hid hr
     clear hr HRr
     have HRr := HRr2
     clear HRr2
     have HCC := hid hCC
     clear hCC
     obtain ⟨fq0, fq1, fq2, fq3, fq4⟩ := nb HX_q HBr
     go_wp2_with fail
     generalize hV : wr.alloc (.cells #[.int .i64 q.kind, .string q.name, .int .i64 q.num, .int .i64 q.pos, .slice Aq q.subs.length cq] 24) = V7 at *
     have HB7 := hid (show Below w0.heap.size w0 V7 by rw [← hV]; exact HBr.out.alloc HBr.out.size _)
     have HT7 := hid (show Wrote w0.heap.size wb W0 V7 by rw [← hV]; exact HTr.out.then HBr.out.size (bBw _ _))
     have HR7 := hid (show IsWr w0.heap.size wb (S1 ++ CC) ((0 : Nat) : Int) V7 by rw [← hV]; exact HRr.out.below (bBw _ _))
     clear hV
     clear x0 x1 x2 x3 x4 fx0 fx1 fx2 fx3 fx4 fy0 fy1 fy2 fy3 fy4 fz0 fz1 fz2 fz3 fz4 fv0 fv1 fv2 fv3 fv4 fu0 fu1 fu2 fu3 fu4 ft0 ft1 ft2 ft3 ft4 fq0 fq1 fq2 fq3 fq4
     obtain ⟨x0, x1, x2, x3, x4⟩ := bKp (n := ⟨k, s, num, pos, [x, y, z, v, u, t]⟩) (A := (some ⟨b, o, none⟩)) (c := c) HBK.out HT7.out.kept HNE.out
     obtain ⟨fx0, fx1, fx2, fx3, fx4⟩ := nb HX_x HB7
     obtain ⟨fy0, fy1, fy2, fy3, fy4⟩ := nb HX_y HB7
     obtain ⟨fz0, fz1, fz2, fz3, fz4⟩ := nb HX_z HB7
     obtain ⟨fv0, fv1, fv2, fv3, fv4⟩ := nb HX_v HB7
     obtain ⟨fu0, fu1, fu2, fu3, fu4⟩ := nb HX_u HB7
     obtain ⟨ft0, ft1, ft2, ft3, ft4⟩ := nb HX_t HB7
     obtain ⟨fq0, fq1, fq2, fq3, fq4⟩ := nb HX_q HB7
     have hct := hP q Aq cq w0 V7 wb _ HL.out HK_q.out HB7.out HR7.out
     replace hct := hct HO_q.out
     replace hct := hct (by rw [← HT_q.out]; unfold maxW; (try simp only [ByteArray.size_append, ba_size, List.size_toArray, List.length_cons, List.length_nil, padT_zero]); omega)
     with_reducible refine hct.mono ?_
     clear hct
     rintro e V8 ⟨rfl, hw, ht⟩
     have HB8 := hid (HB7.out.trans ht.below)
     have HT8 := hid (HT7.out.trans ht)
     have HR8 := hid hw
     clear hw ht
     clear x0 x1 x2 x3 x4 fx0 fx1 fx2 fx3 fx4 fy0 fy1 fy2 fy3 fy4 fz0 fz1 fz2 fz3 fz4 fv0 fv1 fv2 fv3 fv4 fu0 fu1 fu2 fu3 fu4 ft0 ft1 ft2 ft3 ft4 fq0 fq1 fq2 fq3 fq4
     obtain ⟨x0, x1, x2, x3, x4⟩ := bKp (n := ⟨k, s, num, pos, [x, y, z, v, u, t]⟩) (A := (some ⟨b, o, none⟩)) (c := c) HBK.out HT8.out.kept HNE.out
     obtain ⟨fx0, fx1, fx2, fx3, fx4⟩ := nb HX_x HB8
     obtain ⟨fy0, fy1, fy2, fy3, fy4⟩ := nb HX_y HB8
     obtain ⟨fz0, fz1, fz2, fz3, fz4⟩ := nb HX_z HB8
     obtain ⟨fv0, fv1, fv2, fv3, fv4⟩ := nb HX_v HB8
     obtain ⟨fu0, fu1, fu2, fu3, fu4⟩ := nb HX_u HB8
     obtain ⟨ft0, ft1, ft2, ft3, ft4⟩ := nb HX_t HB8
     obtain ⟨fq0, fq1, fq2, fq3, fq4⟩ := nb HX_q HB8
     go_wp2
     go_roundw
     case rel => exact ⟨j + 1, by omega, by go_num, HB8, HT8, hid (by
      have h := HR8.out
      rw [STEP.out, ← HCC.out, ← ba_assoc]
      exact h)⟩
     case measure => simp [intOf]; omega
    ·skip
     have hr := HRr.out
     rw [List.take_of_length_le (by omega), ← HT_u.out] at hr
     have HRr2 := hid hr
     clear hr HRr
     have HRr := HRr2
     clear HRr2
     go_wp2_with fail
     have hct := line_any w0.heap.size wb _ ((⟨#[66, 69, 71, 73, 78]⟩ : ByteArray)) 0 wr HRr.out
     replace hct := hct (by omega)
     replace hct := hct (by (try simp only [ByteArray.size_append, ba_size, List.size_toArray, List.length_cons, List.length_nil, padT_zero]); omega)
     replace hct := hct HBr.out.size
     with_reducible refine hct.mono ?_
     clear hct
     rintro e V9 ⟨rfl, hw, ht⟩
     have HB9 := hid (HBr.out.trans ht.below)
     have HT9 := hid (HTr.out.trans ht)
     have HR9 := hid hw
     clear hw ht
     clear x0 x1 x2 x3 x4 fx0 fx1 fx2 fx3 fx4 fy0 fy1 fy2 fy3 fy4 fz0 fz1 fz2 fz3 fz4 fv0 fv1 fv2 fv3 fv4 fu0 fu1 fu2 fu3 fu4 ft0 ft1 ft2 ft3 ft4
     obtain ⟨x0, x1, x2, x3, x4⟩ := bKp (n := ⟨k, s, num, pos, [x, y, z, v, u, t]⟩) (A := (some ⟨b, o, none⟩)) (c := c) HBK.out HT9.out.kept HNE.out
     obtain ⟨fx0, fx1, fx2, fx3, fx4⟩ := nb HX_x HB9
     obtain ⟨fy0, fy1, fy2, fy3, fy4⟩ := nb HX_y HB9
     obtain ⟨fz0, fz1, fz2, fz3, fz4⟩ := nb HX_z HB9
     obtain ⟨fv0, fv1, fv2, fv3, fv4⟩ := nb HX_v HB9
     obtain ⟨fu0, fu1, fu2, fu3, fu4⟩ := nb HX_u HB9
     obtain ⟨ft0, ft1, ft2, ft3, ft4⟩ := nb HX_t HB9
     go_wp2_with fail
     have hct := hL t At ct w0 V9 wb _ 0 HL.out HK_t.out HB9.out HR9.out
     replace hct := hct HD_t.out
     replace hct := hct (by rw [show 0 + 1 = 1 from rfl, padT_one, ← HT_t.out]; unfold maxW; (try simp only [ByteArray.size_append, ba_size, List.size_toArray, List.length_cons, List.length_nil, padT_zero]); omega)
     replace hct := hct (by omega)
     with_reducible refine hct.mono ?_
     clear hct
     rintro e V10 ⟨rfl, hw, ht⟩
     have HB10 := hid (HB9.out.trans ht.below)
     have HT10 := hid (HT9.out.trans ht)
     have HR10 := hid hw
     clear hw ht
     clear x0 x1 x2 x3 x4 fx0 fx1 fx2 fx3 fx4 fy0 fy1 fy2 fy3 fy4 fz0 fz1 fz2 fz3 fz4 fv0 fv1 fv2 fv3 fv4 fu0 fu1 fu2 fu3 fu4 ft0 ft1 ft2 ft3 ft4
     obtain ⟨x0, x1, x2, x3, x4⟩ := bKp (n := ⟨k, s, num, pos, [x, y, z, v, u, t]⟩) (A := (some ⟨b, o, none⟩)) (c := c) HBK.out HT10.out.kept HNE.out
     obtain ⟨fx0, fx1, fx2, fx3, fx4⟩ := nb HX_x HB10
     obtain ⟨fy0, fy1, fy2, fy3, fy4⟩ := nb HX_y HB10
     obtain ⟨fz0, fz1, fz2, fz3, fz4⟩ := nb HX_z HB10
     obtain ⟨fv0, fv1, fv2, fv3, fv4⟩ := nb HX_v HB10
     obtain ⟨fu0, fu1, fu2, fu3, fu4⟩ := nb HX_u HB10
     obtain ⟨ft0, ft1, ft2, ft3, ft4⟩ := nb HX_t HB10
     have hr := HR10.out
     try rw [show 0 + 1 = 1 from rfl, padT_one] at hr
     rw [← HT_t.out] at hr
     have HR10' := hid hr
     clear hr HR10
     have HR10 := HR10'
     clear HR10'
     go_wp2_with fail
     have hct := line_any w0.heap.size wb _ ((⟨#[69, 78, 68, 32]⟩ : ByteArray) ++ s ++ (⟨#[46]⟩ : ByteArray)) 0 V10 HR10.out
     replace hct := hct (by omega)
     replace hct := hct (by (try simp only [ByteArray.size_append, ba_size, List.size_toArray, List.length_cons, List.length_nil, padT_zero]); omega)
     replace hct := hct HB10.out.size
     with_reducible refine hct.mono ?_
     clear hct
     rintro e V11 ⟨rfl, hw, ht⟩
     have HB11 := hid (HB10.out.trans ht.below)
     have HT11 := hid (HT10.out.trans ht)
     have HR11 := hid hw
     clear hw ht
     clear x0 x1 x2 x3 x4 fx0 fx1 fx2 fx3 fx4 fy0 fy1 fy2 fy3 fy4 fz0 fz1 fz2 fz3 fz4 fv0 fv1 fv2 fv3 fv4 fu0 fu1 fu2 fu3 fu4 ft0 ft1 ft2 ft3 ft4
     obtain ⟨x0, x1, x2, x3, x4⟩ := bKp (n := ⟨k, s, num, pos, [x, y, z, v, u, t]⟩) (A := (some ⟨b, o, none⟩)) (c := c) HBK.out HT11.out.kept HNE.out
     obtain ⟨fx0, fx1, fx2, fx3, fx4⟩ := nb HX_x HB11
     obtain ⟨fy0, fy1, fy2, fy3, fy4⟩ := nb HX_y HB11
     obtain ⟨fz0, fz1, fz2, fz3, fz4⟩ := nb HX_z HB11
     obtain ⟨fv0, fv1, fv2, fv3, fv4⟩ := nb HX_v HB11
     obtain ⟨fu0, fu1, fu2, fu3, fu4⟩ := nb HX_u HB11
     obtain ⟨ft0, ft1, ft2, ft3, ft4⟩ := nb HX_t HB11
     go_wp2
     go_end0
     exact ⟨rfl, cast_wr (by rw [HS1.out, show (⟨#[59, 10]⟩ : ByteArray) = (⟨#[59]⟩ : ByteArray) ++ (⟨#[10]⟩ : ByteArray) from rfl, show (⟨#[66, 69, 71, 73, 78, 10]⟩ : ByteArray) = (⟨#[66, 69, 71, 73, 78]⟩ : ByteArray) ++ (⟨#[10]⟩ : ByteArray) from rfl, show (⟨#[46, 10]⟩ : ByteArray) = (⟨#[46]⟩ : ByteArray) ++ (⟨#[10]⟩ : ByteArray) from rfl]; simp only [padT, nil_ba, ba_nil, ba_assoc]) HR11.out, HOUT.out.trans HT11.out⟩
  ·skip
   unfold impT bodyT at hsz ⊢
   rw [if_pos hx0] at hsz ⊢
   rw [if_neg ht0] at hsz ⊢
   obtain ⟨JJ, hJJ⟩ : ∃ JJ, JJ = joinB ⟨#[44, 32]⟩ (x.subs.map (·.name)) := ⟨_, rfl⟩
   rw [← hJJ] at hsz ⊢
   have HJJ := hid hJJ
   clear hJJ
   unfold maxW at hsz
   simp only [ByteArray.size_append, ba_size, List.size_toArray, List.length_cons, List.length_nil, padT_zero] at hsz
   have xb1 : decide ((0 : Int) < (x.subs.length : Int)) = true := decide_eq_true (by omega)
   have xb2 : decide (0 < x.subs.length) = true := decide_eq_true (by omega)
   have tb1 : decide ((0 : Int) < (t.subs.length : Int)) = false := decide_eq_false (by omega)
   have tb2 : decide (0 < t.subs.length) = false := decide_eq_false (by omega)
   clear hx0 ht0
   have HL := hid hl
   clear hl
   have HX_x := hid hx_x
   have HK_x := hid hk_x
   clear hx_x hk_x
   have HX_y := hid hx_y
   have HK_y := hid hk_y
   clear hx_y hk_y
   have HX_z := hid hx_z
   have HK_z := hid hk_z
   clear hx_z hk_z
   have HX_v := hid hx_v
   have HK_v := hid hk_v
   clear hx_v hk_v
   have HX_u := hid hx_u
   have HK_u := hid hk_u
   clear hx_u hk_u
   have HX_t := hid hx_t
   have HK_t := hid hk_t
   clear hx_t hk_t
   have HKX := hid (hkx)
   have HKY := hid (hky)
   have HKZ := hid (hkz)
   have HKV := hid (hkv)
   have HKU := hid (hku)
   clear hk
   have HB0 := hid (hb0.alloc hb0.size (.cells #[.int .i64 k, .string s, .int .i64 num, .int .i64 pos, .slice (some ⟨b, o, none⟩) 6 c] 24))
   have HR0 := hid (hr.below (bBw w (.cells #[.int .i64 k, .string s, .int .i64 num, .int .i64 pos, .slice (some ⟨b, o, none⟩) 6 c] 24)))
   have HT0 := hid (Wrote.refl w0.heap.size wb (w.alloc (.cells #[.int .i64 k, .string s, .int .i64 num, .int .i64 pos, .slice (some ⟨b, o, none⟩) 6 c] 24)))
   have HOUT := hid ((Wrote.refl w0.heap.size wb w).then hb0.size (bBw w (.cells #[.int .i64 k, .string s, .int .i64 num, .int .i64 pos, .slice (some ⟨b, o, none⟩) 6 c] 24)))
   have HBK := hid (heap_new w (.cells #[.int .i64 k, .string s, .int .i64 num, .int .i64 pos, .slice (some ⟨b, o, none⟩) 6 c] 24))
   have HNE := hid (Nat.ne_of_gt hr.lt)
   have HGE := hid hr.ge
   clear hb0 hr
   clear hkx hky hkz hkv hku hkt
   obtain ⟨fx0, fx1, fx2, fx3, fx4⟩ := nb HX_x HB0
   obtain ⟨fy0, fy1, fy2, fy3, fy4⟩ := nb HX_y HB0
   obtain ⟨fz0, fz1, fz2, fz3, fz4⟩ := nb HX_z HB0
   obtain ⟨fv0, fv1, fv2, fv3, fv4⟩ := nb HX_v HB0
   obtain ⟨fu0, fu1, fu2, fu3, fu4⟩ := nb HX_u HB0
   obtain ⟨ft0, ft1, ft2, ft3, ft4⟩ := nb HX_t HB0
   have hdeep := HR0.out.deep_at
   have hfz := HR0.out.unfrozen
   go_enter Tryz.func25, Tryz.ntmps25
   go_wp2_with fail
   generalize hW0 : w.alloc (.cells #[.int .i64 k, .string s, .int .i64 num, .int .i64 pos, .slice (some ⟨b, o, none⟩) 6 c] 24) = W0 at *
   clear hW0
   have hct := line_any w0.heap.size wb _ ((⟨#[77, 79, 68, 85, 76, 69, 32]⟩ : ByteArray) ++ s ++ (⟨#[59]⟩ : ByteArray)) 0 W0 HR0.out
   replace hct := hct (by omega)
   replace hct := hct (by (try simp only [ByteArray.size_append, ba_size, List.size_toArray, List.length_cons, List.length_nil, padT_zero]); omega)
   replace hct := hct HB0.out.size
   with_reducible refine hct.mono ?_
   clear hct
   rintro e V1 ⟨rfl, hw, ht⟩
   have HB1 := hid (HB0.out.trans ht.below)
   have HT1 := hid (HT0.out.trans ht)
   have HR1 := hid hw
   clear hw ht
   clear fx0 fx1 fx2 fx3 fx4 fy0 fy1 fy2 fy3 fy4 fz0 fz1 fz2 fz3 fz4 fv0 fv1 fv2 fv3 fv4 fu0 fu1 fu2 fu3 fu4 ft0 ft1 ft2 ft3 ft4 hdeep hfz
   obtain ⟨x0, x1, x2, x3, x4⟩ := bKp (n := ⟨k, s, num, pos, [x, y, z, v, u, t]⟩) (A := (some ⟨b, o, none⟩)) (c := c) HBK.out HT1.out.kept HNE.out
   obtain ⟨fx0, fx1, fx2, fx3, fx4⟩ := nb HX_x HB1
   obtain ⟨fy0, fy1, fy2, fy3, fy4⟩ := nb HX_y HB1
   obtain ⟨fz0, fz1, fz2, fz3, fz4⟩ := nb HX_z HB1
   obtain ⟨fv0, fv1, fv2, fv3, fv4⟩ := nb HX_v HB1
   obtain ⟨fu0, fu1, fu2, fu3, fu4⟩ := nb HX_u HB1
   obtain ⟨ft0, ft1, ft2, ft3, ft4⟩ := nb HX_t HB1
   go_wp2_with fail
   have hct := join_any _ (d + 3) (fun _ => true) (·.name) (say_import (d + 3)) x.subs Ax cx ⟨#[44, 32]⟩ V1 (HL.out.below HB1.out) (HKX.out.below HB1.out) (by simp) (by rw [← HJJ.out]; unfold maxT; omega) (by simp [ba_size])
   with_reducible refine hct.mono ?_
   clear hct
   rintro e V2 ⟨rfl, hb⟩
   rw [← HJJ.out]
   have HB2 := hid (bTh HB1.out hb)
   have HT2 := hid (HT1.out.then HB1.out.size hb)
   have HR2 := hid (HR1.out.below hb)
   clear hb
   clear x0 x1 x2 x3 x4 fx0 fx1 fx2 fx3 fx4 fy0 fy1 fy2 fy3 fy4 fz0 fz1 fz2 fz3 fz4 fv0 fv1 fv2 fv3 fv4 fu0 fu1 fu2 fu3 fu4 ft0 ft1 ft2 ft3 ft4
   obtain ⟨x0, x1, x2, x3, x4⟩ := bKp (n := ⟨k, s, num, pos, [x, y, z, v, u, t]⟩) (A := (some ⟨b, o, none⟩)) (c := c) HBK.out HT2.out.kept HNE.out
   obtain ⟨fx0, fx1, fx2, fx3, fx4⟩ := nb HX_x HB2
   obtain ⟨fy0, fy1, fy2, fy3, fy4⟩ := nb HX_y HB2
   obtain ⟨fz0, fz1, fz2, fz3, fz4⟩ := nb HX_z HB2
   obtain ⟨fv0, fv1, fv2, fv3, fv4⟩ := nb HX_v HB2
   obtain ⟨fu0, fu1, fu2, fu3, fu4⟩ := nb HX_u HB2
   obtain ⟨ft0, ft1, ft2, ft3, ft4⟩ := nb HX_t HB2
   go_wp2_with fail
   have hct := line_any w0.heap.size wb _ ((⟨#[73, 77, 80, 79, 82, 84, 32]⟩ : ByteArray) ++ JJ ++ (⟨#[59]⟩ : ByteArray)) 0 V2 HR2.out
   replace hct := hct (by omega)
   replace hct := hct (by (try simp only [ByteArray.size_append, ba_size, List.size_toArray, List.length_cons, List.length_nil, padT_zero]); omega)
   replace hct := hct HB2.out.size
   with_reducible refine hct.mono ?_
   clear hct
   rintro e V3 ⟨rfl, hw, ht⟩
   have HB3 := hid (HB2.out.trans ht.below)
   have HT3 := hid (HT2.out.trans ht)
   have HR3 := hid hw
   clear hw ht
   clear x0 x1 x2 x3 x4 fx0 fx1 fx2 fx3 fx4 fy0 fy1 fy2 fy3 fy4 fz0 fz1 fz2 fz3 fz4 fv0 fv1 fv2 fv3 fv4 fu0 fu1 fu2 fu3 fu4 ft0 ft1 ft2 ft3 ft4
   obtain ⟨x0, x1, x2, x3, x4⟩ := bKp (n := ⟨k, s, num, pos, [x, y, z, v, u, t]⟩) (A := (some ⟨b, o, none⟩)) (c := c) HBK.out HT3.out.kept HNE.out
   obtain ⟨fx0, fx1, fx2, fx3, fx4⟩ := nb HX_x HB3
   obtain ⟨fy0, fy1, fy2, fy3, fy4⟩ := nb HX_y HB3
   obtain ⟨fz0, fz1, fz2, fz3, fz4⟩ := nb HX_z HB3
   obtain ⟨fv0, fv1, fv2, fv3, fv4⟩ := nb HX_v HB3
   obtain ⟨fu0, fu1, fu2, fu3, fu4⟩ := nb HX_u HB3
   obtain ⟨ft0, ft1, ft2, ft3, ft4⟩ := nb HX_t HB3
   go_wp2_with fail
   have hct := section_any _ (d + 3) (okC (d + 2)) (constT (d + 2)) (say_const (d + 2)) y.subs Ay cy (⟨#[67, 79, 78, 83, 84]⟩ : ByteArray) w0 V3 wb _ 0 HL.out HKY.out HB3.out HR3.out
   replace hct := hct HO_y.out
   replace hct := hct (by rw [← HT_y.out]; unfold maxW; (try simp only [ByteArray.size_append, ba_size, List.size_toArray, List.length_cons, List.length_nil, padT_zero]); omega)
   replace hct := hct (by omega)
   with_reducible refine hct.mono ?_
   clear hct
   rintro e V4 ⟨rfl, hw, ht⟩
   have HB4 := hid (HB3.out.trans ht.below)
   have HT4 := hid (HT3.out.trans ht)
   have HR4 := hid hw
   clear hw ht
   clear x0 x1 x2 x3 x4 fx0 fx1 fx2 fx3 fx4 fy0 fy1 fy2 fy3 fy4 fz0 fz1 fz2 fz3 fz4 fv0 fv1 fv2 fv3 fv4 fu0 fu1 fu2 fu3 fu4 ft0 ft1 ft2 ft3 ft4
   obtain ⟨x0, x1, x2, x3, x4⟩ := bKp (n := ⟨k, s, num, pos, [x, y, z, v, u, t]⟩) (A := (some ⟨b, o, none⟩)) (c := c) HBK.out HT4.out.kept HNE.out
   obtain ⟨fx0, fx1, fx2, fx3, fx4⟩ := nb HX_x HB4
   obtain ⟨fy0, fy1, fy2, fy3, fy4⟩ := nb HX_y HB4
   obtain ⟨fz0, fz1, fz2, fz3, fz4⟩ := nb HX_z HB4
   obtain ⟨fv0, fv1, fv2, fv3, fv4⟩ := nb HX_v HB4
   obtain ⟨fu0, fu1, fu2, fu3, fu4⟩ := nb HX_u HB4
   obtain ⟨ft0, ft1, ft2, ft3, ft4⟩ := nb HX_t HB4
   have hr := HR4.out
   try rw [show 0 + 1 = 1 from rfl, padT_one] at hr
   rw [← HT_y.out] at hr
   have HR4' := hid hr
   clear hr HR4
   have HR4 := HR4'
   clear HR4'
   go_wp2_with fail
   have hct := section_any _ (d + 3) okN namedT (say_named (d + 2)) z.subs Az cz (⟨#[84, 89, 80, 69]⟩ : ByteArray) w0 V4 wb _ 0 HL.out HKZ.out HB4.out HR4.out
   replace hct := hct HO_z.out
   replace hct := hct (by rw [← HT_z.out]; unfold maxW; (try simp only [ByteArray.size_append, ba_size, List.size_toArray, List.length_cons, List.length_nil, padT_zero]); omega)
   replace hct := hct (by omega)
   with_reducible refine hct.mono ?_
   clear hct
   rintro e V5 ⟨rfl, hw, ht⟩
   have HB5 := hid (HB4.out.trans ht.below)
   have HT5 := hid (HT4.out.trans ht)
   have HR5 := hid hw
   clear hw ht
   clear x0 x1 x2 x3 x4 fx0 fx1 fx2 fx3 fx4 fy0 fy1 fy2 fy3 fy4 fz0 fz1 fz2 fz3 fz4 fv0 fv1 fv2 fv3 fv4 fu0 fu1 fu2 fu3 fu4 ft0 ft1 ft2 ft3 ft4
   obtain ⟨x0, x1, x2, x3, x4⟩ := bKp (n := ⟨k, s, num, pos, [x, y, z, v, u, t]⟩) (A := (some ⟨b, o, none⟩)) (c := c) HBK.out HT5.out.kept HNE.out
   obtain ⟨fx0, fx1, fx2, fx3, fx4⟩ := nb HX_x HB5
   obtain ⟨fy0, fy1, fy2, fy3, fy4⟩ := nb HX_y HB5
   obtain ⟨fz0, fz1, fz2, fz3, fz4⟩ := nb HX_z HB5
   obtain ⟨fv0, fv1, fv2, fv3, fv4⟩ := nb HX_v HB5
   obtain ⟨fu0, fu1, fu2, fu3, fu4⟩ := nb HX_u HB5
   obtain ⟨ft0, ft1, ft2, ft3, ft4⟩ := nb HX_t HB5
   have hr := HR5.out
   try rw [show 0 + 1 = 1 from rfl, padT_one] at hr
   rw [← HT_z.out] at hr
   have HR5' := hid hr
   clear hr HR5
   have HR5 := HR5'
   clear HR5'
   go_wp2_with fail
   have hct := section_any _ (d + 3) okV varT (say_var (d + 2)) v.subs Av cv (⟨#[86, 65, 82]⟩ : ByteArray) w0 V5 wb _ 0 HL.out HKV.out HB5.out HR5.out
   replace hct := hct HO_v.out
   replace hct := hct (by rw [← HT_v.out]; unfold maxW; (try simp only [ByteArray.size_append, ba_size, List.size_toArray, List.length_cons, List.length_nil, padT_zero]); omega)
   replace hct := hct (by omega)
   with_reducible refine hct.mono ?_
   clear hct
   rintro e V6 ⟨rfl, hw, ht⟩
   have HB6 := hid (HB5.out.trans ht.below)
   have HT6 := hid (HT5.out.trans ht)
   have HR6 := hid hw
   clear hw ht
   clear x0 x1 x2 x3 x4 fx0 fx1 fx2 fx3 fx4 fy0 fy1 fy2 fy3 fy4 fz0 fz1 fz2 fz3 fz4 fv0 fv1 fv2 fv3 fv4 fu0 fu1 fu2 fu3 fu4 ft0 ft1 ft2 ft3 ft4
   obtain ⟨x0, x1, x2, x3, x4⟩ := bKp (n := ⟨k, s, num, pos, [x, y, z, v, u, t]⟩) (A := (some ⟨b, o, none⟩)) (c := c) HBK.out HT6.out.kept HNE.out
   obtain ⟨fx0, fx1, fx2, fx3, fx4⟩ := nb HX_x HB6
   obtain ⟨fy0, fy1, fy2, fy3, fy4⟩ := nb HX_y HB6
   obtain ⟨fz0, fz1, fz2, fz3, fz4⟩ := nb HX_z HB6
   obtain ⟨fv0, fv1, fv2, fv3, fv4⟩ := nb HX_v HB6
   obtain ⟨fu0, fu1, fu2, fu3, fu4⟩ := nb HX_u HB6
   obtain ⟨ft0, ft1, ft2, ft3, ft4⟩ := nb HX_t HB6
   have hr := HR6.out
   try rw [show 0 + 1 = 1 from rfl, padT_one] at hr
   rw [← HT_v.out] at hr
   have HR6' := hid hr
   clear hr HR6
   have HR6 := HR6'
   clear HR6'
   obtain ⟨S1, hS1⟩ : ∃ S1, S1 = S ++ (padT 0 ++ ((⟨#[77, 79, 68, 85, 76, 69, 32]⟩ : ByteArray) ++ s ++ (⟨#[59]⟩ : ByteArray)) ++ ⟨#[10]⟩) ++ (padT 0 ++ ((⟨#[73, 77, 80, 79, 82, 84, 32]⟩ : ByteArray) ++ JJ ++ (⟨#[59]⟩ : ByteArray)) ++ ⟨#[10]⟩) ++ Ty ++ Tz ++ Tv := ⟨_, rfl⟩
   have hr := HR6.out
   rw [← hS1] at hr
   have HRa := hid hr
   clear hr HR6
   have hS1z : S1.size = S.size + s.size + JJ.size + Ty.size + Tz.size + Tv.size + 18 := by rw [hS1]; simp only [ByteArray.size_append, ba_size, List.size_toArray, List.length_cons, List.length_nil, padT_zero]; omega
   have HS1 := hid hS1
   clear hS1
   go_wp2
   go_loopw [55] (fun ii wr => ∃ (j : Nat), j ≤ u.subs.length ∧ ii = .int .i64 j ∧ Hid (Below w0.heap.size w0 wr) ∧ Hid (Wrote w0.heap.size wb W0 wr) ∧ Hid (IsWr w0.heap.size wb (S1 ++ catB ((u.subs.take j).map (procT d))) ((0 : Nat) : Int) wr)) (fun ii _ => u.subs.length - (intOf ii).toNat)
   case atStart => exact ⟨0, by omega, rfl, HB6, HT6, hid (by rw [List.take_zero, List.map_nil, catB, ba_nil]; exact HRa.out)⟩
   case round =>
    obtain ⟨j, hj, rfl, HBr, HTr, HRr⟩ := hrel
    clear x0 x1 x2 x3 x4 fx0 fx1 fx2 fx3 fx4 fy0 fy1 fy2 fy3 fy4 fz0 fz1 fz2 fz3 fz4 fv0 fv1 fv2 fv3 fv4 fu0 fu1 fu2 fu3 fu4 ft0 ft1 ft2 ft3 ft4
    obtain ⟨x0, x1, x2, x3, x4⟩ := bKp (n := ⟨k, s, num, pos, [x, y, z, v, u, t]⟩) (A := (some ⟨b, o, none⟩)) (c := c) HBK.out HTr.out.kept HNE.out
    obtain ⟨fx0, fx1, fx2, fx3, fx4⟩ := nb HX_x HBr
    obtain ⟨fy0, fy1, fy2, fy3, fy4⟩ := nb HX_y HBr
    obtain ⟨fz0, fz1, fz2, fz3, fz4⟩ := nb HX_z HBr
    obtain ⟨fv0, fv1, fv2, fv3, fv4⟩ := nb HX_v HBr
    obtain ⟨fu0, fu1, fu2, fu3, fu4⟩ := nb HX_u HBr
    obtain ⟨ft0, ft1, ft2, ft3, ft4⟩ := nb HX_t HBr
    by_cases hlt : j < u.subs.length
    ·skip
     obtain ⟨q, hq⟩ : ∃ q, u.subs[j]? = some q := ⟨_, List.getElem?_eq_getElem hlt⟩
     obtain ⟨bq, oq, Aq, cq, hA, hxq, hkq⟩ := HKU.out.2.2 j q hq
     have HA := hid hA
     have HO_q := hid (all_at HO_u.out hq)
     have hcs := cat_size (f := procT d) hq
     have STEP := hid (cat_step (f := procT d) hq)
     have HX_q := hid hxq
     have HK_q := hid hkq
     clear hxq hkq hq
     rw [← HT_u.out] at hcs
     obtain ⟨Tq, hT_q⟩ : ∃ X, X = procT d q := ⟨_, rfl⟩
     rw [← hT_q] at hcs
     have HT_q := hid hT_q
     clear hT_q
     have fxx := fu4
     rw [HA.out] at fxx
     clear fu4 hA
     have fu4 := fxx
     clear fxx
     try rw [HA.out]
     have hj1 : (0 : Int) ≤ (j : Int) := by omega
     have hj2 : (j : Int) < u.subs.length := by omega
     obtain ⟨CC, hCC⟩ : ∃ CC, CC = catB ((u.subs.take j).map (procT d)) := ⟨_, rfl⟩
     rw [← hCC] at hcs
     have hr := HRr.out
     rw [← hCC] at hr
     have HRr2 := hid hr
     clear hr HRr
     have HRr := HRr2
     clear HRr2
     have HCC := hid hCC
     clear hCC
     obtain ⟨fq0, fq1, fq2, fq3, fq4⟩ := nb HX_q HBr
     go_wp2_with fail
     generalize hV : wr.alloc (.cells #[.int .i64 q.kind, .string q.name, .int .i64 q.num, .int .i64 q.pos, .slice Aq q.subs.length cq] 24) = V7 at *
     have HB7 := hid (show Below w0.heap.size w0 V7 by rw [← hV]; exact HBr.out.alloc HBr.out.size _)
     have HT7 := hid (show Wrote w0.heap.size wb W0 V7 by rw [← hV]; exact HTr.out.then HBr.out.size (bBw _ _))
     have HR7 := hid (show IsWr w0.heap.size wb (S1 ++ CC) ((0 : Nat) : Int) V7 by rw [← hV]; exact HRr.out.below (bBw _ _))
     clear hV
     clear x0 x1 x2 x3 x4 fx0 fx1 fx2 fx3 fx4 fy0 fy1 fy2 fy3 fy4 fz0 fz1 fz2 fz3 fz4 fv0 fv1 fv2 fv3 fv4 fu0 fu1 fu2 fu3 fu4 ft0 ft1 ft2 ft3 ft4 fq0 fq1 fq2 fq3 fq4
     obtain ⟨x0, x1, x2, x3, x4⟩ := bKp (n := ⟨k, s, num, pos, [x, y, z, v, u, t]⟩) (A := (some ⟨b, o, none⟩)) (c := c) HBK.out HT7.out.kept HNE.out
     obtain ⟨fx0, fx1, fx2, fx3, fx4⟩ := nb HX_x HB7
     obtain ⟨fy0, fy1, fy2, fy3, fy4⟩ := nb HX_y HB7
     obtain ⟨fz0, fz1, fz2, fz3, fz4⟩ := nb HX_z HB7
     obtain ⟨fv0, fv1, fv2, fv3, fv4⟩ := nb HX_v HB7
     obtain ⟨fu0, fu1, fu2, fu3, fu4⟩ := nb HX_u HB7
     obtain ⟨ft0, ft1, ft2, ft3, ft4⟩ := nb HX_t HB7
     obtain ⟨fq0, fq1, fq2, fq3, fq4⟩ := nb HX_q HB7
     have hct := hP q Aq cq w0 V7 wb _ HL.out HK_q.out HB7.out HR7.out
     replace hct := hct HO_q.out
     replace hct := hct (by rw [← HT_q.out]; unfold maxW; (try simp only [ByteArray.size_append, ba_size, List.size_toArray, List.length_cons, List.length_nil, padT_zero]); omega)
     with_reducible refine hct.mono ?_
     clear hct
     rintro e V8 ⟨rfl, hw, ht⟩
     have HB8 := hid (HB7.out.trans ht.below)
     have HT8 := hid (HT7.out.trans ht)
     have HR8 := hid hw
     clear hw ht
     clear x0 x1 x2 x3 x4 fx0 fx1 fx2 fx3 fx4 fy0 fy1 fy2 fy3 fy4 fz0 fz1 fz2 fz3 fz4 fv0 fv1 fv2 fv3 fv4 fu0 fu1 fu2 fu3 fu4 ft0 ft1 ft2 ft3 ft4 fq0 fq1 fq2 fq3 fq4
     obtain ⟨x0, x1, x2, x3, x4⟩ := bKp (n := ⟨k, s, num, pos, [x, y, z, v, u, t]⟩) (A := (some ⟨b, o, none⟩)) (c := c) HBK.out HT8.out.kept HNE.out
     obtain ⟨fx0, fx1, fx2, fx3, fx4⟩ := nb HX_x HB8
     obtain ⟨fy0, fy1, fy2, fy3, fy4⟩ := nb HX_y HB8
     obtain ⟨fz0, fz1, fz2, fz3, fz4⟩ := nb HX_z HB8
     obtain ⟨fv0, fv1, fv2, fv3, fv4⟩ := nb HX_v HB8
     obtain ⟨fu0, fu1, fu2, fu3, fu4⟩ := nb HX_u HB8
     obtain ⟨ft0, ft1, ft2, ft3, ft4⟩ := nb HX_t HB8
     obtain ⟨fq0, fq1, fq2, fq3, fq4⟩ := nb HX_q HB8
     go_wp2
     go_roundw
     case rel => exact ⟨j + 1, by omega, by go_num, HB8, HT8, hid (by
      have h := HR8.out
      rw [STEP.out, ← HCC.out, ← ba_assoc]
      exact h)⟩
     case measure => simp [intOf]; omega
    ·skip
     have hr := HRr.out
     rw [List.take_of_length_le (by omega), ← HT_u.out] at hr
     have HRr2 := hid hr
     clear hr HRr
     have HRr := HRr2
     clear HRr2
     go_wp2_with fail
     have hct := line_any w0.heap.size wb _ ((⟨#[69, 78, 68, 32]⟩ : ByteArray) ++ s ++ (⟨#[46]⟩ : ByteArray)) 0 wr HRr.out
     replace hct := hct (by omega)
     replace hct := hct (by (try simp only [ByteArray.size_append, ba_size, List.size_toArray, List.length_cons, List.length_nil, padT_zero]); omega)
     replace hct := hct HBr.out.size
     with_reducible refine hct.mono ?_
     clear hct
     rintro e V9 ⟨rfl, hw, ht⟩
     have HB9 := hid (HBr.out.trans ht.below)
     have HT9 := hid (HTr.out.trans ht)
     have HR9 := hid hw
     clear hw ht
     clear x0 x1 x2 x3 x4 fx0 fx1 fx2 fx3 fx4 fy0 fy1 fy2 fy3 fy4 fz0 fz1 fz2 fz3 fz4 fv0 fv1 fv2 fv3 fv4 fu0 fu1 fu2 fu3 fu4 ft0 ft1 ft2 ft3 ft4
     obtain ⟨x0, x1, x2, x3, x4⟩ := bKp (n := ⟨k, s, num, pos, [x, y, z, v, u, t]⟩) (A := (some ⟨b, o, none⟩)) (c := c) HBK.out HT9.out.kept HNE.out
     obtain ⟨fx0, fx1, fx2, fx3, fx4⟩ := nb HX_x HB9
     obtain ⟨fy0, fy1, fy2, fy3, fy4⟩ := nb HX_y HB9
     obtain ⟨fz0, fz1, fz2, fz3, fz4⟩ := nb HX_z HB9
     obtain ⟨fv0, fv1, fv2, fv3, fv4⟩ := nb HX_v HB9
     obtain ⟨fu0, fu1, fu2, fu3, fu4⟩ := nb HX_u HB9
     obtain ⟨ft0, ft1, ft2, ft3, ft4⟩ := nb HX_t HB9
     go_wp2
     go_end0
     exact ⟨rfl, cast_wr (by rw [HS1.out, show (⟨#[59, 10]⟩ : ByteArray) = (⟨#[59]⟩ : ByteArray) ++ (⟨#[10]⟩ : ByteArray) from rfl, show (⟨#[46, 10]⟩ : ByteArray) = (⟨#[46]⟩ : ByteArray) ++ (⟨#[10]⟩ : ByteArray) from rfl]; simp only [padT, nil_ba, ba_nil, ba_assoc]) HR9.out, HOUT.out.trans HT9.out⟩
 ·skip
  by_cases ht0 : 0 < t.subs.length
  ·skip
   unfold impT bodyT at hsz ⊢
   rw [if_neg hx0] at hsz ⊢
   rw [if_pos ht0] at hsz ⊢
   obtain ⟨Tt, hT_t⟩ : ∃ T, T = stmtsT (d + 4) t (⟨#[32, 32]⟩ : ByteArray) := ⟨_, rfl⟩
   rw [← hT_t] at hsz ⊢
   have HT_t := hid hT_t
   clear hT_t
   unfold maxW at hsz
   simp only [ByteArray.size_append, ba_size, List.size_toArray, List.length_cons, List.length_nil, padT_zero] at hsz
   have xb1 : decide ((0 : Int) < (x.subs.length : Int)) = false := decide_eq_false (by omega)
   have xb2 : decide (0 < x.subs.length) = false := decide_eq_false (by omega)
   have tb1 : decide ((0 : Int) < (t.subs.length : Int)) = true := decide_eq_true (by omega)
   have tb2 : decide (0 < t.subs.length) = true := decide_eq_true (by omega)
   clear hx0 ht0
   have HL := hid hl
   clear hl
   have HX_x := hid hx_x
   have HK_x := hid hk_x
   clear hx_x hk_x
   have HX_y := hid hx_y
   have HK_y := hid hk_y
   clear hx_y hk_y
   have HX_z := hid hx_z
   have HK_z := hid hk_z
   clear hx_z hk_z
   have HX_v := hid hx_v
   have HK_v := hid hk_v
   clear hx_v hk_v
   have HX_u := hid hx_u
   have HK_u := hid hk_u
   clear hx_u hk_u
   have HX_t := hid hx_t
   have HK_t := hid hk_t
   clear hx_t hk_t
   have HKX := hid (hkx)
   have HKY := hid (hky)
   have HKZ := hid (hkz)
   have HKV := hid (hkv)
   have HKU := hid (hku)
   clear hk
   have HB0 := hid (hb0.alloc hb0.size (.cells #[.int .i64 k, .string s, .int .i64 num, .int .i64 pos, .slice (some ⟨b, o, none⟩) 6 c] 24))
   have HR0 := hid (hr.below (bBw w (.cells #[.int .i64 k, .string s, .int .i64 num, .int .i64 pos, .slice (some ⟨b, o, none⟩) 6 c] 24)))
   have HT0 := hid (Wrote.refl w0.heap.size wb (w.alloc (.cells #[.int .i64 k, .string s, .int .i64 num, .int .i64 pos, .slice (some ⟨b, o, none⟩) 6 c] 24)))
   have HOUT := hid ((Wrote.refl w0.heap.size wb w).then hb0.size (bBw w (.cells #[.int .i64 k, .string s, .int .i64 num, .int .i64 pos, .slice (some ⟨b, o, none⟩) 6 c] 24)))
   have HBK := hid (heap_new w (.cells #[.int .i64 k, .string s, .int .i64 num, .int .i64 pos, .slice (some ⟨b, o, none⟩) 6 c] 24))
   have HNE := hid (Nat.ne_of_gt hr.lt)
   have HGE := hid hr.ge
   clear hb0 hr
   clear hkx hky hkz hkv hku hkt
   obtain ⟨fx0, fx1, fx2, fx3, fx4⟩ := nb HX_x HB0
   obtain ⟨fy0, fy1, fy2, fy3, fy4⟩ := nb HX_y HB0
   obtain ⟨fz0, fz1, fz2, fz3, fz4⟩ := nb HX_z HB0
   obtain ⟨fv0, fv1, fv2, fv3, fv4⟩ := nb HX_v HB0
   obtain ⟨fu0, fu1, fu2, fu3, fu4⟩ := nb HX_u HB0
   obtain ⟨ft0, ft1, ft2, ft3, ft4⟩ := nb HX_t HB0
   have hdeep := HR0.out.deep_at
   have hfz := HR0.out.unfrozen
   go_enter Tryz.func25, Tryz.ntmps25
   go_wp2_with fail
   generalize hW0 : w.alloc (.cells #[.int .i64 k, .string s, .int .i64 num, .int .i64 pos, .slice (some ⟨b, o, none⟩) 6 c] 24) = W0 at *
   clear hW0
   have hct := line_any w0.heap.size wb _ ((⟨#[77, 79, 68, 85, 76, 69, 32]⟩ : ByteArray) ++ s ++ (⟨#[59]⟩ : ByteArray)) 0 W0 HR0.out
   replace hct := hct (by omega)
   replace hct := hct (by (try simp only [ByteArray.size_append, ba_size, List.size_toArray, List.length_cons, List.length_nil, padT_zero]); omega)
   replace hct := hct HB0.out.size
   with_reducible refine hct.mono ?_
   clear hct
   rintro e V1 ⟨rfl, hw, ht⟩
   have HB1 := hid (HB0.out.trans ht.below)
   have HT1 := hid (HT0.out.trans ht)
   have HR1 := hid hw
   clear hw ht
   clear fx0 fx1 fx2 fx3 fx4 fy0 fy1 fy2 fy3 fy4 fz0 fz1 fz2 fz3 fz4 fv0 fv1 fv2 fv3 fv4 fu0 fu1 fu2 fu3 fu4 ft0 ft1 ft2 ft3 ft4 hdeep hfz
   obtain ⟨x0, x1, x2, x3, x4⟩ := bKp (n := ⟨k, s, num, pos, [x, y, z, v, u, t]⟩) (A := (some ⟨b, o, none⟩)) (c := c) HBK.out HT1.out.kept HNE.out
   obtain ⟨fx0, fx1, fx2, fx3, fx4⟩ := nb HX_x HB1
   obtain ⟨fy0, fy1, fy2, fy3, fy4⟩ := nb HX_y HB1
   obtain ⟨fz0, fz1, fz2, fz3, fz4⟩ := nb HX_z HB1
   obtain ⟨fv0, fv1, fv2, fv3, fv4⟩ := nb HX_v HB1
   obtain ⟨fu0, fu1, fu2, fu3, fu4⟩ := nb HX_u HB1
   obtain ⟨ft0, ft1, ft2, ft3, ft4⟩ := nb HX_t HB1
   go_wp2_with fail
   have hct := section_any _ (d + 3) (okC (d + 2)) (constT (d + 2)) (say_const (d + 2)) y.subs Ay cy (⟨#[67, 79, 78, 83, 84]⟩ : ByteArray) w0 V1 wb _ 0 HL.out HKY.out HB1.out HR1.out
   replace hct := hct HO_y.out
   replace hct := hct (by rw [← HT_y.out]; unfold maxW; (try simp only [ByteArray.size_append, ba_size, List.size_toArray, List.length_cons, List.length_nil, padT_zero]); omega)
   replace hct := hct (by omega)
   with_reducible refine hct.mono ?_
   clear hct
   rintro e V2 ⟨rfl, hw, ht⟩
   have HB2 := hid (HB1.out.trans ht.below)
   have HT2 := hid (HT1.out.trans ht)
   have HR2 := hid hw
   clear hw ht
   clear x0 x1 x2 x3 x4 fx0 fx1 fx2 fx3 fx4 fy0 fy1 fy2 fy3 fy4 fz0 fz1 fz2 fz3 fz4 fv0 fv1 fv2 fv3 fv4 fu0 fu1 fu2 fu3 fu4 ft0 ft1 ft2 ft3 ft4
   obtain ⟨x0, x1, x2, x3, x4⟩ := bKp (n := ⟨k, s, num, pos, [x, y, z, v, u, t]⟩) (A := (some ⟨b, o, none⟩)) (c := c) HBK.out HT2.out.kept HNE.out
   obtain ⟨fx0, fx1, fx2, fx3, fx4⟩ := nb HX_x HB2
   obtain ⟨fy0, fy1, fy2, fy3, fy4⟩ := nb HX_y HB2
   obtain ⟨fz0, fz1, fz2, fz3, fz4⟩ := nb HX_z HB2
   obtain ⟨fv0, fv1, fv2, fv3, fv4⟩ := nb HX_v HB2
   obtain ⟨fu0, fu1, fu2, fu3, fu4⟩ := nb HX_u HB2
   obtain ⟨ft0, ft1, ft2, ft3, ft4⟩ := nb HX_t HB2
   have hr := HR2.out
   try rw [show 0 + 1 = 1 from rfl, padT_one] at hr
   rw [← HT_y.out] at hr
   have HR2' := hid hr
   clear hr HR2
   have HR2 := HR2'
   clear HR2'
   go_wp2_with fail
   have hct := section_any _ (d + 3) okN namedT (say_named (d + 2)) z.subs Az cz (⟨#[84, 89, 80, 69]⟩ : ByteArray) w0 V2 wb _ 0 HL.out HKZ.out HB2.out HR2.out
   replace hct := hct HO_z.out
   replace hct := hct (by rw [← HT_z.out]; unfold maxW; (try simp only [ByteArray.size_append, ba_size, List.size_toArray, List.length_cons, List.length_nil, padT_zero]); omega)
   replace hct := hct (by omega)
   with_reducible refine hct.mono ?_
   clear hct
   rintro e V3 ⟨rfl, hw, ht⟩
   have HB3 := hid (HB2.out.trans ht.below)
   have HT3 := hid (HT2.out.trans ht)
   have HR3 := hid hw
   clear hw ht
   clear x0 x1 x2 x3 x4 fx0 fx1 fx2 fx3 fx4 fy0 fy1 fy2 fy3 fy4 fz0 fz1 fz2 fz3 fz4 fv0 fv1 fv2 fv3 fv4 fu0 fu1 fu2 fu3 fu4 ft0 ft1 ft2 ft3 ft4
   obtain ⟨x0, x1, x2, x3, x4⟩ := bKp (n := ⟨k, s, num, pos, [x, y, z, v, u, t]⟩) (A := (some ⟨b, o, none⟩)) (c := c) HBK.out HT3.out.kept HNE.out
   obtain ⟨fx0, fx1, fx2, fx3, fx4⟩ := nb HX_x HB3
   obtain ⟨fy0, fy1, fy2, fy3, fy4⟩ := nb HX_y HB3
   obtain ⟨fz0, fz1, fz2, fz3, fz4⟩ := nb HX_z HB3
   obtain ⟨fv0, fv1, fv2, fv3, fv4⟩ := nb HX_v HB3
   obtain ⟨fu0, fu1, fu2, fu3, fu4⟩ := nb HX_u HB3
   obtain ⟨ft0, ft1, ft2, ft3, ft4⟩ := nb HX_t HB3
   have hr := HR3.out
   try rw [show 0 + 1 = 1 from rfl, padT_one] at hr
   rw [← HT_z.out] at hr
   have HR3' := hid hr
   clear hr HR3
   have HR3 := HR3'
   clear HR3'
   go_wp2_with fail
   have hct := section_any _ (d + 3) okV varT (say_var (d + 2)) v.subs Av cv (⟨#[86, 65, 82]⟩ : ByteArray) w0 V3 wb _ 0 HL.out HKV.out HB3.out HR3.out
   replace hct := hct HO_v.out
   replace hct := hct (by rw [← HT_v.out]; unfold maxW; (try simp only [ByteArray.size_append, ba_size, List.size_toArray, List.length_cons, List.length_nil, padT_zero]); omega)
   replace hct := hct (by omega)
   with_reducible refine hct.mono ?_
   clear hct
   rintro e V4 ⟨rfl, hw, ht⟩
   have HB4 := hid (HB3.out.trans ht.below)
   have HT4 := hid (HT3.out.trans ht)
   have HR4 := hid hw
   clear hw ht
   clear x0 x1 x2 x3 x4 fx0 fx1 fx2 fx3 fx4 fy0 fy1 fy2 fy3 fy4 fz0 fz1 fz2 fz3 fz4 fv0 fv1 fv2 fv3 fv4 fu0 fu1 fu2 fu3 fu4 ft0 ft1 ft2 ft3 ft4
   obtain ⟨x0, x1, x2, x3, x4⟩ := bKp (n := ⟨k, s, num, pos, [x, y, z, v, u, t]⟩) (A := (some ⟨b, o, none⟩)) (c := c) HBK.out HT4.out.kept HNE.out
   obtain ⟨fx0, fx1, fx2, fx3, fx4⟩ := nb HX_x HB4
   obtain ⟨fy0, fy1, fy2, fy3, fy4⟩ := nb HX_y HB4
   obtain ⟨fz0, fz1, fz2, fz3, fz4⟩ := nb HX_z HB4
   obtain ⟨fv0, fv1, fv2, fv3, fv4⟩ := nb HX_v HB4
   obtain ⟨fu0, fu1, fu2, fu3, fu4⟩ := nb HX_u HB4
   obtain ⟨ft0, ft1, ft2, ft3, ft4⟩ := nb HX_t HB4
   have hr := HR4.out
   try rw [show 0 + 1 = 1 from rfl, padT_one] at hr
   rw [← HT_v.out] at hr
   have HR4' := hid hr
   clear hr HR4
   have HR4 := HR4'
   clear HR4'
   obtain ⟨S1, hS1⟩ : ∃ S1, S1 = S ++ (padT 0 ++ ((⟨#[77, 79, 68, 85, 76, 69, 32]⟩ : ByteArray) ++ s ++ (⟨#[59]⟩ : ByteArray)) ++ ⟨#[10]⟩) ++ Ty ++ Tz ++ Tv := ⟨_, rfl⟩
   have hr := HR4.out
   rw [← hS1] at hr
   have HRa := hid hr
   clear hr HR4
   have hS1z : S1.size = S.size + s.size + Ty.size + Tz.size + Tv.size + 9 := by rw [hS1]; simp only [ByteArray.size_append, ba_size, List.size_toArray, List.length_cons, List.length_nil, padT_zero]; omega
   have HS1 := hid hS1
   clear hS1
   go_wp2
   go_loopw [55] (fun ii wr => ∃ (j : Nat), j ≤ u.subs.length ∧ ii = .int .i64 j ∧ Hid (Below w0.heap.size w0 wr) ∧ Hid (Wrote w0.heap.size wb W0 wr) ∧ Hid (IsWr w0.heap.size wb (S1 ++ catB ((u.subs.take j).map (procT d))) ((0 : Nat) : Int) wr)) (fun ii _ => u.subs.length - (intOf ii).toNat)
   case atStart => exact ⟨0, by omega, rfl, HB4, HT4, hid (by rw [List.take_zero, List.map_nil, catB, ba_nil]; exact HRa.out)⟩
   case round =>
    obtain ⟨j, hj, rfl, HBr, HTr, HRr⟩ := hrel
    clear x0 x1 x2 x3 x4 fx0 fx1 fx2 fx3 fx4 fy0 fy1 fy2 fy3 fy4 fz0 fz1 fz2 fz3 fz4 fv0 fv1 fv2 fv3 fv4 fu0 fu1 fu2 fu3 fu4 ft0 ft1 ft2 ft3 ft4
    obtain ⟨x0, x1, x2, x3, x4⟩ := bKp (n := ⟨k, s, num, pos, [x, y, z, v, u, t]⟩) (A := (some ⟨b, o, none⟩)) (c := c) HBK.out HTr.out.kept HNE.out
    obtain ⟨fx0, fx1, fx2, fx3, fx4⟩ := nb HX_x HBr
    obtain ⟨fy0, fy1, fy2, fy3, fy4⟩ := nb HX_y HBr
    obtain ⟨fz0, fz1, fz2, fz3, fz4⟩ := nb HX_z HBr
    obtain ⟨fv0, fv1, fv2, fv3, fv4⟩ := nb HX_v HBr
    obtain ⟨fu0, fu1, fu2, fu3, fu4⟩ := nb HX_u HBr
    obtain ⟨ft0, ft1, ft2, ft3, ft4⟩ := nb HX_t HBr
    by_cases hlt : j < u.subs.length
    ·skip
     obtain ⟨q, hq⟩ : ∃ q, u.subs[j]? = some q := ⟨_, List.getElem?_eq_getElem hlt⟩
     obtain ⟨bq, oq, Aq, cq, hA, hxq, hkq⟩ := HKU.out.2.2 j q hq
     have HA := hid hA
     have HO_q := hid (all_at HO_u.out hq)
     have hcs := cat_size (f := procT d) hq
     have STEP := hid (cat_step (f := procT d) hq)
     have HX_q := hid hxq
     have HK_q := hid hkq
     clear hxq hkq hq
     rw [← HT_u.out] at hcs
     obtain ⟨Tq, hT_q⟩ : ∃ X, X = procT d q := ⟨_, rfl⟩
     rw [← hT_q] at hcs
     have HT_q := hid hT_q
     clear hT_q
     have fxx := fu4
     rw [HA.out] at fxx
     clear fu4 hA
     have fu4 := fxx
     clear fxx
     try rw [HA.out]
     have hj1 : (0 : Int) ≤ (j : Int) := by omega
     have hj2 : (j : Int) < u.subs.length := by omega
     obtain ⟨CC, hCC⟩ : ∃ CC, CC = catB ((u.subs.take j).map (procT d)) := ⟨_, rfl⟩
     rw [← hCC] at hcs
     have hr := HRr.out
     rw [← hCC] at hr
     have HRr2 := hid hr
     clear hr HRr
     have HRr := HRr2
     clear HRr2
     have HCC := hid hCC
     clear hCC
     obtain ⟨fq0, fq1, fq2, fq3, fq4⟩ := nb HX_q HBr
     go_wp2_with fail
     generalize hV : wr.alloc (.cells #[.int .i64 q.kind, .string q.name, .int .i64 q.num, .int .i64 q.pos, .slice Aq q.subs.length cq] 24) = V5 at *
     have HB5 := hid (show Below w0.heap.size w0 V5 by rw [← hV]; exact HBr.out.alloc HBr.out.size _)
     have HT5 := hid (show Wrote w0.heap.size wb W0 V5 by rw [← hV]; exact HTr.out.then HBr.out.size (bBw _ _))
     have HR5 := hid (show IsWr w0.heap.size wb (S1 ++ CC) ((0 : Nat) : Int) V5 by rw [← hV]; exact HRr.out.below (bBw _ _))
     clear hV
     clear x0 x1 x2 x3 x4 fx0 fx1 fx2 fx3 fx4 fy0 fy1 fy2 fy3 fy4 fz0 fz1 fz2 fz3 fz4 fv0 fv1 fv2 fv3 fv4 fu0 fu1 fu2 fu3 fu4 ft0 ft1 ft2 ft3 ft4 fq0 fq1 fq2 fq3 fq4
     obtain ⟨x0, x1, x2, x3, x4⟩ := bKp (n := ⟨k, s, num, pos, [x, y, z, v, u, t]⟩) (A := (some ⟨b, o, none⟩)) (c := c) HBK.out HT5.out.kept HNE.out
     obtain ⟨fx0, fx1, fx2, fx3, fx4⟩ := nb HX_x HB5
     obtain ⟨fy0, fy1, fy2, fy3, fy4⟩ := nb HX_y HB5
     obtain ⟨fz0, fz1, fz2, fz3, fz4⟩ := nb HX_z HB5
     obtain ⟨fv0, fv1, fv2, fv3, fv4⟩ := nb HX_v HB5
     obtain ⟨fu0, fu1, fu2, fu3, fu4⟩ := nb HX_u HB5
     obtain ⟨ft0, ft1, ft2, ft3, ft4⟩ := nb HX_t HB5
     obtain ⟨fq0, fq1, fq2, fq3, fq4⟩ := nb HX_q HB5
     have hct := hP q Aq cq w0 V5 wb _ HL.out HK_q.out HB5.out HR5.out
     replace hct := hct HO_q.out
     replace hct := hct (by rw [← HT_q.out]; unfold maxW; (try simp only [ByteArray.size_append, ba_size, List.size_toArray, List.length_cons, List.length_nil, padT_zero]); omega)
     with_reducible refine hct.mono ?_
     clear hct
     rintro e V6 ⟨rfl, hw, ht⟩
     have HB6 := hid (HB5.out.trans ht.below)
     have HT6 := hid (HT5.out.trans ht)
     have HR6 := hid hw
     clear hw ht
     clear x0 x1 x2 x3 x4 fx0 fx1 fx2 fx3 fx4 fy0 fy1 fy2 fy3 fy4 fz0 fz1 fz2 fz3 fz4 fv0 fv1 fv2 fv3 fv4 fu0 fu1 fu2 fu3 fu4 ft0 ft1 ft2 ft3 ft4 fq0 fq1 fq2 fq3 fq4
     obtain ⟨x0, x1, x2, x3, x4⟩ := bKp (n := ⟨k, s, num, pos, [x, y, z, v, u, t]⟩) (A := (some ⟨b, o, none⟩)) (c := c) HBK.out HT6.out.kept HNE.out
     obtain ⟨fx0, fx1, fx2, fx3, fx4⟩ := nb HX_x HB6
     obtain ⟨fy0, fy1, fy2, fy3, fy4⟩ := nb HX_y HB6
     obtain ⟨fz0, fz1, fz2, fz3, fz4⟩ := nb HX_z HB6
     obtain ⟨fv0, fv1, fv2, fv3, fv4⟩ := nb HX_v HB6
     obtain ⟨fu0, fu1, fu2, fu3, fu4⟩ := nb HX_u HB6
     obtain ⟨ft0, ft1, ft2, ft3, ft4⟩ := nb HX_t HB6
     obtain ⟨fq0, fq1, fq2, fq3, fq4⟩ := nb HX_q HB6
     go_wp2
     go_roundw
     case rel => exact ⟨j + 1, by omega, by go_num, HB6, HT6, hid (by
      have h := HR6.out
      rw [STEP.out, ← HCC.out, ← ba_assoc]
      exact h)⟩
     case measure => simp [intOf]; omega
    ·skip
     have hr := HRr.out
     rw [List.take_of_length_le (by omega), ← HT_u.out] at hr
     have HRr2 := hid hr
     clear hr HRr
     have HRr := HRr2
     clear HRr2
     go_wp2_with fail
     have hct := line_any w0.heap.size wb _ ((⟨#[66, 69, 71, 73, 78]⟩ : ByteArray)) 0 wr HRr.out
     replace hct := hct (by omega)
     replace hct := hct (by (try simp only [ByteArray.size_append, ba_size, List.size_toArray, List.length_cons, List.length_nil, padT_zero]); omega)
     replace hct := hct HBr.out.size
     with_reducible refine hct.mono ?_
     clear hct
     rintro e V7 ⟨rfl, hw, ht⟩
     have HB7 := hid (HBr.out.trans ht.below)
     have HT7 := hid (HTr.out.trans ht)
     have HR7 := hid hw
     clear hw ht
     clear x0 x1 x2 x3 x4 fx0 fx1 fx2 fx3 fx4 fy0 fy1 fy2 fy3 fy4 fz0 fz1 fz2 fz3 fz4 fv0 fv1 fv2 fv3 fv4 fu0 fu1 fu2 fu3 fu4 ft0 ft1 ft2 ft3 ft4
     obtain ⟨x0, x1, x2, x3, x4⟩ := bKp (n := ⟨k, s, num, pos, [x, y, z, v, u, t]⟩) (A := (some ⟨b, o, none⟩)) (c := c) HBK.out HT7.out.kept HNE.out
     obtain ⟨fx0, fx1, fx2, fx3, fx4⟩ := nb HX_x HB7
     obtain ⟨fy0, fy1, fy2, fy3, fy4⟩ := nb HX_y HB7
     obtain ⟨fz0, fz1, fz2, fz3, fz4⟩ := nb HX_z HB7
     obtain ⟨fv0, fv1, fv2, fv3, fv4⟩ := nb HX_v HB7
     obtain ⟨fu0, fu1, fu2, fu3, fu4⟩ := nb HX_u HB7
     obtain ⟨ft0, ft1, ft2, ft3, ft4⟩ := nb HX_t HB7
     go_wp2_with fail
     have hct := hL t At ct w0 V7 wb _ 0 HL.out HK_t.out HB7.out HR7.out
     replace hct := hct HD_t.out
     replace hct := hct (by rw [show 0 + 1 = 1 from rfl, padT_one, ← HT_t.out]; unfold maxW; (try simp only [ByteArray.size_append, ba_size, List.size_toArray, List.length_cons, List.length_nil, padT_zero]); omega)
     replace hct := hct (by omega)
     with_reducible refine hct.mono ?_
     clear hct
     rintro e V8 ⟨rfl, hw, ht⟩
     have HB8 := hid (HB7.out.trans ht.below)
     have HT8 := hid (HT7.out.trans ht)
     have HR8 := hid hw
     clear hw ht
     clear x0 x1 x2 x3 x4 fx0 fx1 fx2 fx3 fx4 fy0 fy1 fy2 fy3 fy4 fz0 fz1 fz2 fz3 fz4 fv0 fv1 fv2 fv3 fv4 fu0 fu1 fu2 fu3 fu4 ft0 ft1 ft2 ft3 ft4
     obtain ⟨x0, x1, x2, x3, x4⟩ := bKp (n := ⟨k, s, num, pos, [x, y, z, v, u, t]⟩) (A := (some ⟨b, o, none⟩)) (c := c) HBK.out HT8.out.kept HNE.out
     obtain ⟨fx0, fx1, fx2, fx3, fx4⟩ := nb HX_x HB8
     obtain ⟨fy0, fy1, fy2, fy3, fy4⟩ := nb HX_y HB8
     obtain ⟨fz0, fz1, fz2, fz3, fz4⟩ := nb HX_z HB8
     obtain ⟨fv0, fv1, fv2, fv3, fv4⟩ := nb HX_v HB8
     obtain ⟨fu0, fu1, fu2, fu3, fu4⟩ := nb HX_u HB8
     obtain ⟨ft0, ft1, ft2, ft3, ft4⟩ := nb HX_t HB8
     have hr := HR8.out
     try rw [show 0 + 1 = 1 from rfl, padT_one] at hr
     rw [← HT_t.out] at hr
     have HR8' := hid hr
     clear hr HR8
     have HR8 := HR8'
     clear HR8'
     go_wp2_with fail
     have hct := line_any w0.heap.size wb _ ((⟨#[69, 78, 68, 32]⟩ : ByteArray) ++ s ++ (⟨#[46]⟩ : ByteArray)) 0 V8 HR8.out
     replace hct := hct (by omega)
     replace hct := hct (by (try simp only [ByteArray.size_append, ba_size, List.size_toArray, List.length_cons, List.length_nil, padT_zero]); omega)
     replace hct := hct HB8.out.size
     with_reducible refine hct.mono ?_
     clear hct
     rintro e V9 ⟨rfl, hw, ht⟩
     have HB9 := hid (HB8.out.trans ht.below)
     have HT9 := hid (HT8.out.trans ht)
     have HR9 := hid hw
     clear hw ht
     clear x0 x1 x2 x3 x4 fx0 fx1 fx2 fx3 fx4 fy0 fy1 fy2 fy3 fy4 fz0 fz1 fz2 fz3 fz4 fv0 fv1 fv2 fv3 fv4 fu0 fu1 fu2 fu3 fu4 ft0 ft1 ft2 ft3 ft4
     obtain ⟨x0, x1, x2, x3, x4⟩ := bKp (n := ⟨k, s, num, pos, [x, y, z, v, u, t]⟩) (A := (some ⟨b, o, none⟩)) (c := c) HBK.out HT9.out.kept HNE.out
     obtain ⟨fx0, fx1, fx2, fx3, fx4⟩ := nb HX_x HB9
     obtain ⟨fy0, fy1, fy2, fy3, fy4⟩ := nb HX_y HB9
     obtain ⟨fz0, fz1, fz2, fz3, fz4⟩ := nb HX_z HB9
     obtain ⟨fv0, fv1, fv2, fv3, fv4⟩ := nb HX_v HB9
     obtain ⟨fu0, fu1, fu2, fu3, fu4⟩ := nb HX_u HB9
     obtain ⟨ft0, ft1, ft2, ft3, ft4⟩ := nb HX_t HB9
     go_wp2
     go_end0
     exact ⟨rfl, cast_wr (by rw [HS1.out, show (⟨#[59, 10]⟩ : ByteArray) = (⟨#[59]⟩ : ByteArray) ++ (⟨#[10]⟩ : ByteArray) from rfl, show (⟨#[66, 69, 71, 73, 78, 10]⟩ : ByteArray) = (⟨#[66, 69, 71, 73, 78]⟩ : ByteArray) ++ (⟨#[10]⟩ : ByteArray) from rfl, show (⟨#[46, 10]⟩ : ByteArray) = (⟨#[46]⟩ : ByteArray) ++ (⟨#[10]⟩ : ByteArray) from rfl]; simp only [padT, nil_ba, ba_nil, ba_assoc]) HR9.out, HOUT.out.trans HT9.out⟩
  ·skip
   unfold impT bodyT at hsz ⊢
   rw [if_neg hx0] at hsz ⊢
   rw [if_neg ht0] at hsz ⊢
   unfold maxW at hsz
   simp only [ByteArray.size_append, ba_size, List.size_toArray, List.length_cons, List.length_nil, padT_zero] at hsz
   have xb1 : decide ((0 : Int) < (x.subs.length : Int)) = false := decide_eq_false (by omega)
   have xb2 : decide (0 < x.subs.length) = false := decide_eq_false (by omega)
   have tb1 : decide ((0 : Int) < (t.subs.length : Int)) = false := decide_eq_false (by omega)
   have tb2 : decide (0 < t.subs.length) = false := decide_eq_false (by omega)
   clear hx0 ht0
   have HL := hid hl
   clear hl
   have HX_x := hid hx_x
   have HK_x := hid hk_x
   clear hx_x hk_x
   have HX_y := hid hx_y
   have HK_y := hid hk_y
   clear hx_y hk_y
   have HX_z := hid hx_z
   have HK_z := hid hk_z
   clear hx_z hk_z
   have HX_v := hid hx_v
   have HK_v := hid hk_v
   clear hx_v hk_v
   have HX_u := hid hx_u
   have HK_u := hid hk_u
   clear hx_u hk_u
   have HX_t := hid hx_t
   have HK_t := hid hk_t
   clear hx_t hk_t
   have HKX := hid (hkx)
   have HKY := hid (hky)
   have HKZ := hid (hkz)
   have HKV := hid (hkv)
   have HKU := hid (hku)
   clear hk
   have HB0 := hid (hb0.alloc hb0.size (.cells #[.int .i64 k, .string s, .int .i64 num, .int .i64 pos, .slice (some ⟨b, o, none⟩) 6 c] 24))
   have HR0 := hid (hr.below (bBw w (.cells #[.int .i64 k, .string s, .int .i64 num, .int .i64 pos, .slice (some ⟨b, o, none⟩) 6 c] 24)))
   have HT0 := hid (Wrote.refl w0.heap.size wb (w.alloc (.cells #[.int .i64 k, .string s, .int .i64 num, .int .i64 pos, .slice (some ⟨b, o, none⟩) 6 c] 24)))
   have HOUT := hid ((Wrote.refl w0.heap.size wb w).then hb0.size (bBw w (.cells #[.int .i64 k, .string s, .int .i64 num, .int .i64 pos, .slice (some ⟨b, o, none⟩) 6 c] 24)))
   have HBK := hid (heap_new w (.cells #[.int .i64 k, .string s, .int .i64 num, .int .i64 pos, .slice (some ⟨b, o, none⟩) 6 c] 24))
   have HNE := hid (Nat.ne_of_gt hr.lt)
   have HGE := hid hr.ge
   clear hb0 hr
   clear hkx hky hkz hkv hku hkt
   obtain ⟨fx0, fx1, fx2, fx3, fx4⟩ := nb HX_x HB0
   obtain ⟨fy0, fy1, fy2, fy3, fy4⟩ := nb HX_y HB0
   obtain ⟨fz0, fz1, fz2, fz3, fz4⟩ := nb HX_z HB0
   obtain ⟨fv0, fv1, fv2, fv3, fv4⟩ := nb HX_v HB0
   obtain ⟨fu0, fu1, fu2, fu3, fu4⟩ := nb HX_u HB0
   obtain ⟨ft0, ft1, ft2, ft3, ft4⟩ := nb HX_t HB0
   have hdeep := HR0.out.deep_at
   have hfz := HR0.out.unfrozen
   go_enter Tryz.func25, Tryz.ntmps25
   go_wp2_with fail
   generalize hW0 : w.alloc (.cells #[.int .i64 k, .string s, .int .i64 num, .int .i64 pos, .slice (some ⟨b, o, none⟩) 6 c] 24) = W0 at *
   clear hW0
   have hct := line_any w0.heap.size wb _ ((⟨#[77, 79, 68, 85, 76, 69, 32]⟩ : ByteArray) ++ s ++ (⟨#[59]⟩ : ByteArray)) 0 W0 HR0.out
   replace hct := hct (by omega)
   replace hct := hct (by (try simp only [ByteArray.size_append, ba_size, List.size_toArray, List.length_cons, List.length_nil, padT_zero]); omega)
   replace hct := hct HB0.out.size
   with_reducible refine hct.mono ?_
   clear hct
   rintro e V1 ⟨rfl, hw, ht⟩
   have HB1 := hid (HB0.out.trans ht.below)
   have HT1 := hid (HT0.out.trans ht)
   have HR1 := hid hw
   clear hw ht
   clear fx0 fx1 fx2 fx3 fx4 fy0 fy1 fy2 fy3 fy4 fz0 fz1 fz2 fz3 fz4 fv0 fv1 fv2 fv3 fv4 fu0 fu1 fu2 fu3 fu4 ft0 ft1 ft2 ft3 ft4 hdeep hfz
   obtain ⟨x0, x1, x2, x3, x4⟩ := bKp (n := ⟨k, s, num, pos, [x, y, z, v, u, t]⟩) (A := (some ⟨b, o, none⟩)) (c := c) HBK.out HT1.out.kept HNE.out
   obtain ⟨fx0, fx1, fx2, fx3, fx4⟩ := nb HX_x HB1
   obtain ⟨fy0, fy1, fy2, fy3, fy4⟩ := nb HX_y HB1
   obtain ⟨fz0, fz1, fz2, fz3, fz4⟩ := nb HX_z HB1
   obtain ⟨fv0, fv1, fv2, fv3, fv4⟩ := nb HX_v HB1
   obtain ⟨fu0, fu1, fu2, fu3, fu4⟩ := nb HX_u HB1
   obtain ⟨ft0, ft1, ft2, ft3, ft4⟩ := nb HX_t HB1
   go_wp2_with fail
   have hct := section_any _ (d + 3) (okC (d + 2)) (constT (d + 2)) (say_const (d + 2)) y.subs Ay cy (⟨#[67, 79, 78, 83, 84]⟩ : ByteArray) w0 V1 wb _ 0 HL.out HKY.out HB1.out HR1.out
   replace hct := hct HO_y.out
   replace hct := hct (by rw [← HT_y.out]; unfold maxW; (try simp only [ByteArray.size_append, ba_size, List.size_toArray, List.length_cons, List.length_nil, padT_zero]); omega)
   replace hct := hct (by omega)
   with_reducible refine hct.mono ?_
   clear hct
   rintro e V2 ⟨rfl, hw, ht⟩
   have HB2 := hid (HB1.out.trans ht.below)
   have HT2 := hid (HT1.out.trans ht)
   have HR2 := hid hw
   clear hw ht
   clear x0 x1 x2 x3 x4 fx0 fx1 fx2 fx3 fx4 fy0 fy1 fy2 fy3 fy4 fz0 fz1 fz2 fz3 fz4 fv0 fv1 fv2 fv3 fv4 fu0 fu1 fu2 fu3 fu4 ft0 ft1 ft2 ft3 ft4
   obtain ⟨x0, x1, x2, x3, x4⟩ := bKp (n := ⟨k, s, num, pos, [x, y, z, v, u, t]⟩) (A := (some ⟨b, o, none⟩)) (c := c) HBK.out HT2.out.kept HNE.out
   obtain ⟨fx0, fx1, fx2, fx3, fx4⟩ := nb HX_x HB2
   obtain ⟨fy0, fy1, fy2, fy3, fy4⟩ := nb HX_y HB2
   obtain ⟨fz0, fz1, fz2, fz3, fz4⟩ := nb HX_z HB2
   obtain ⟨fv0, fv1, fv2, fv3, fv4⟩ := nb HX_v HB2
   obtain ⟨fu0, fu1, fu2, fu3, fu4⟩ := nb HX_u HB2
   obtain ⟨ft0, ft1, ft2, ft3, ft4⟩ := nb HX_t HB2
   have hr := HR2.out
   try rw [show 0 + 1 = 1 from rfl, padT_one] at hr
   rw [← HT_y.out] at hr
   have HR2' := hid hr
   clear hr HR2
   have HR2 := HR2'
   clear HR2'
   go_wp2_with fail
   have hct := section_any _ (d + 3) okN namedT (say_named (d + 2)) z.subs Az cz (⟨#[84, 89, 80, 69]⟩ : ByteArray) w0 V2 wb _ 0 HL.out HKZ.out HB2.out HR2.out
   replace hct := hct HO_z.out
   replace hct := hct (by rw [← HT_z.out]; unfold maxW; (try simp only [ByteArray.size_append, ba_size, List.size_toArray, List.length_cons, List.length_nil, padT_zero]); omega)
   replace hct := hct (by omega)
   with_reducible refine hct.mono ?_
   clear hct
   rintro e V3 ⟨rfl, hw, ht⟩
   have HB3 := hid (HB2.out.trans ht.below)
   have HT3 := hid (HT2.out.trans ht)
   have HR3 := hid hw
   clear hw ht
   clear x0 x1 x2 x3 x4 fx0 fx1 fx2 fx3 fx4 fy0 fy1 fy2 fy3 fy4 fz0 fz1 fz2 fz3 fz4 fv0 fv1 fv2 fv3 fv4 fu0 fu1 fu2 fu3 fu4 ft0 ft1 ft2 ft3 ft4
   obtain ⟨x0, x1, x2, x3, x4⟩ := bKp (n := ⟨k, s, num, pos, [x, y, z, v, u, t]⟩) (A := (some ⟨b, o, none⟩)) (c := c) HBK.out HT3.out.kept HNE.out
   obtain ⟨fx0, fx1, fx2, fx3, fx4⟩ := nb HX_x HB3
   obtain ⟨fy0, fy1, fy2, fy3, fy4⟩ := nb HX_y HB3
   obtain ⟨fz0, fz1, fz2, fz3, fz4⟩ := nb HX_z HB3
   obtain ⟨fv0, fv1, fv2, fv3, fv4⟩ := nb HX_v HB3
   obtain ⟨fu0, fu1, fu2, fu3, fu4⟩ := nb HX_u HB3
   obtain ⟨ft0, ft1, ft2, ft3, ft4⟩ := nb HX_t HB3
   have hr := HR3.out
   try rw [show 0 + 1 = 1 from rfl, padT_one] at hr
   rw [← HT_z.out] at hr
   have HR3' := hid hr
   clear hr HR3
   have HR3 := HR3'
   clear HR3'
   go_wp2_with fail
   have hct := section_any _ (d + 3) okV varT (say_var (d + 2)) v.subs Av cv (⟨#[86, 65, 82]⟩ : ByteArray) w0 V3 wb _ 0 HL.out HKV.out HB3.out HR3.out
   replace hct := hct HO_v.out
   replace hct := hct (by rw [← HT_v.out]; unfold maxW; (try simp only [ByteArray.size_append, ba_size, List.size_toArray, List.length_cons, List.length_nil, padT_zero]); omega)
   replace hct := hct (by omega)
   with_reducible refine hct.mono ?_
   clear hct
   rintro e V4 ⟨rfl, hw, ht⟩
   have HB4 := hid (HB3.out.trans ht.below)
   have HT4 := hid (HT3.out.trans ht)
   have HR4 := hid hw
   clear hw ht
   clear x0 x1 x2 x3 x4 fx0 fx1 fx2 fx3 fx4 fy0 fy1 fy2 fy3 fy4 fz0 fz1 fz2 fz3 fz4 fv0 fv1 fv2 fv3 fv4 fu0 fu1 fu2 fu3 fu4 ft0 ft1 ft2 ft3 ft4
   obtain ⟨x0, x1, x2, x3, x4⟩ := bKp (n := ⟨k, s, num, pos, [x, y, z, v, u, t]⟩) (A := (some ⟨b, o, none⟩)) (c := c) HBK.out HT4.out.kept HNE.out
   obtain ⟨fx0, fx1, fx2, fx3, fx4⟩ := nb HX_x HB4
   obtain ⟨fy0, fy1, fy2, fy3, fy4⟩ := nb HX_y HB4
   obtain ⟨fz0, fz1, fz2, fz3, fz4⟩ := nb HX_z HB4
   obtain ⟨fv0, fv1, fv2, fv3, fv4⟩ := nb HX_v HB4
   obtain ⟨fu0, fu1, fu2, fu3, fu4⟩ := nb HX_u HB4
   obtain ⟨ft0, ft1, ft2, ft3, ft4⟩ := nb HX_t HB4
   have hr := HR4.out
   try rw [show 0 + 1 = 1 from rfl, padT_one] at hr
   rw [← HT_v.out] at hr
   have HR4' := hid hr
   clear hr HR4
   have HR4 := HR4'
   clear HR4'
   obtain ⟨S1, hS1⟩ : ∃ S1, S1 = S ++ (padT 0 ++ ((⟨#[77, 79, 68, 85, 76, 69, 32]⟩ : ByteArray) ++ s ++ (⟨#[59]⟩ : ByteArray)) ++ ⟨#[10]⟩) ++ Ty ++ Tz ++ Tv := ⟨_, rfl⟩
   have hr := HR4.out
   rw [← hS1] at hr
   have HRa := hid hr
   clear hr HR4
   have hS1z : S1.size = S.size + s.size + Ty.size + Tz.size + Tv.size + 9 := by rw [hS1]; simp only [ByteArray.size_append, ba_size, List.size_toArray, List.length_cons, List.length_nil, padT_zero]; omega
   have HS1 := hid hS1
   clear hS1
   go_wp2
   go_loopw [55] (fun ii wr => ∃ (j : Nat), j ≤ u.subs.length ∧ ii = .int .i64 j ∧ Hid (Below w0.heap.size w0 wr) ∧ Hid (Wrote w0.heap.size wb W0 wr) ∧ Hid (IsWr w0.heap.size wb (S1 ++ catB ((u.subs.take j).map (procT d))) ((0 : Nat) : Int) wr)) (fun ii _ => u.subs.length - (intOf ii).toNat)
   case atStart => exact ⟨0, by omega, rfl, HB4, HT4, hid (by rw [List.take_zero, List.map_nil, catB, ba_nil]; exact HRa.out)⟩
   case round =>
    obtain ⟨j, hj, rfl, HBr, HTr, HRr⟩ := hrel
    clear x0 x1 x2 x3 x4 fx0 fx1 fx2 fx3 fx4 fy0 fy1 fy2 fy3 fy4 fz0 fz1 fz2 fz3 fz4 fv0 fv1 fv2 fv3 fv4 fu0 fu1 fu2 fu3 fu4 ft0 ft1 ft2 ft3 ft4
    obtain ⟨x0, x1, x2, x3, x4⟩ := bKp (n := ⟨k, s, num, pos, [x, y, z, v, u, t]⟩) (A := (some ⟨b, o, none⟩)) (c := c) HBK.out HTr.out.kept HNE.out
    obtain ⟨fx0, fx1, fx2, fx3, fx4⟩ := nb HX_x HBr
    obtain ⟨fy0, fy1, fy2, fy3, fy4⟩ := nb HX_y HBr
    obtain ⟨fz0, fz1, fz2, fz3, fz4⟩ := nb HX_z HBr
    obtain ⟨fv0, fv1, fv2, fv3, fv4⟩ := nb HX_v HBr
    obtain ⟨fu0, fu1, fu2, fu3, fu4⟩ := nb HX_u HBr
    obtain ⟨ft0, ft1, ft2, ft3, ft4⟩ := nb HX_t HBr
    by_cases hlt : j < u.subs.length
    ·skip
     obtain ⟨q, hq⟩ : ∃ q, u.subs[j]? = some q := ⟨_, List.getElem?_eq_getElem hlt⟩
     obtain ⟨bq, oq, Aq, cq, hA, hxq, hkq⟩ := HKU.out.2.2 j q hq
     have HA := hid hA
     have HO_q := hid (all_at HO_u.out hq)
     have hcs := cat_size (f := procT d) hq
     have STEP := hid (cat_step (f := procT d) hq)
     have HX_q := hid hxq
     have HK_q := hid hkq
     clear hxq hkq hq
     rw [← HT_u.out] at hcs
     obtain ⟨Tq, hT_q⟩ : ∃ X, X = procT d q := ⟨_, rfl⟩
     rw [← hT_q] at hcs
     have HT_q := hid hT_q
     clear hT_q
     have fxx := fu4
     rw [HA.out] at fxx
     clear fu4 hA
     have fu4 := fxx
     clear fxx
     try rw [HA.out]
     have hj1 : (0 : Int) ≤ (j : Int) := by omega
     have hj2 : (j : Int) < u.subs.length := by omega
     obtain ⟨CC, hCC⟩ : ∃ CC, CC = catB ((u.subs.take j).map (procT d)) := ⟨_, rfl⟩
     rw [← hCC] at hcs
     have hr := HRr.out
     rw [← hCC] at hr
     have HRr2 := hid hr
     clear hr HRr
     have HRr := HRr2
     clear HRr2
     have HCC := hid hCC
     clear hCC
     obtain ⟨fq0, fq1, fq2, fq3, fq4⟩ := nb HX_q HBr
     go_wp2_with fail
     generalize hV : wr.alloc (.cells #[.int .i64 q.kind, .string q.name, .int .i64 q.num, .int .i64 q.pos, .slice Aq q.subs.length cq] 24) = V5 at *
     have HB5 := hid (show Below w0.heap.size w0 V5 by rw [← hV]; exact HBr.out.alloc HBr.out.size _)
     have HT5 := hid (show Wrote w0.heap.size wb W0 V5 by rw [← hV]; exact HTr.out.then HBr.out.size (bBw _ _))
     have HR5 := hid (show IsWr w0.heap.size wb (S1 ++ CC) ((0 : Nat) : Int) V5 by rw [← hV]; exact HRr.out.below (bBw _ _))
     clear hV
     clear x0 x1 x2 x3 x4 fx0 fx1 fx2 fx3 fx4 fy0 fy1 fy2 fy3 fy4 fz0 fz1 fz2 fz3 fz4 fv0 fv1 fv2 fv3 fv4 fu0 fu1 fu2 fu3 fu4 ft0 ft1 ft2 ft3 ft4 fq0 fq1 fq2 fq3 fq4
     obtain ⟨x0, x1, x2, x3, x4⟩ := bKp (n := ⟨k, s, num, pos, [x, y, z, v, u, t]⟩) (A := (some ⟨b, o, none⟩)) (c := c) HBK.out HT5.out.kept HNE.out
     obtain ⟨fx0, fx1, fx2, fx3, fx4⟩ := nb HX_x HB5
     obtain ⟨fy0, fy1, fy2, fy3, fy4⟩ := nb HX_y HB5
     obtain ⟨fz0, fz1, fz2, fz3, fz4⟩ := nb HX_z HB5
     obtain ⟨fv0, fv1, fv2, fv3, fv4⟩ := nb HX_v HB5
     obtain ⟨fu0, fu1, fu2, fu3, fu4⟩ := nb HX_u HB5
     obtain ⟨ft0, ft1, ft2, ft3, ft4⟩ := nb HX_t HB5
     obtain ⟨fq0, fq1, fq2, fq3, fq4⟩ := nb HX_q HB5
     have hct := hP q Aq cq w0 V5 wb _ HL.out HK_q.out HB5.out HR5.out
     replace hct := hct HO_q.out
     replace hct := hct (by rw [← HT_q.out]; unfold maxW; (try simp only [ByteArray.size_append, ba_size, List.size_toArray, List.length_cons, List.length_nil, padT_zero]); omega)
     with_reducible refine hct.mono ?_
     clear hct
     rintro e V6 ⟨rfl, hw, ht⟩
     have HB6 := hid (HB5.out.trans ht.below)
     have HT6 := hid (HT5.out.trans ht)
     have HR6 := hid hw
     clear hw ht
     clear x0 x1 x2 x3 x4 fx0 fx1 fx2 fx3 fx4 fy0 fy1 fy2 fy3 fy4 fz0 fz1 fz2 fz3 fz4 fv0 fv1 fv2 fv3 fv4 fu0 fu1 fu2 fu3 fu4 ft0 ft1 ft2 ft3 ft4 fq0 fq1 fq2 fq3 fq4
     obtain ⟨x0, x1, x2, x3, x4⟩ := bKp (n := ⟨k, s, num, pos, [x, y, z, v, u, t]⟩) (A := (some ⟨b, o, none⟩)) (c := c) HBK.out HT6.out.kept HNE.out
     obtain ⟨fx0, fx1, fx2, fx3, fx4⟩ := nb HX_x HB6
     obtain ⟨fy0, fy1, fy2, fy3, fy4⟩ := nb HX_y HB6
     obtain ⟨fz0, fz1, fz2, fz3, fz4⟩ := nb HX_z HB6
     obtain ⟨fv0, fv1, fv2, fv3, fv4⟩ := nb HX_v HB6
     obtain ⟨fu0, fu1, fu2, fu3, fu4⟩ := nb HX_u HB6
     obtain ⟨ft0, ft1, ft2, ft3, ft4⟩ := nb HX_t HB6
     obtain ⟨fq0, fq1, fq2, fq3, fq4⟩ := nb HX_q HB6
     go_wp2
     go_roundw
     case rel => exact ⟨j + 1, by omega, by go_num, HB6, HT6, hid (by
      have h := HR6.out
      rw [STEP.out, ← HCC.out, ← ba_assoc]
      exact h)⟩
     case measure => simp [intOf]; omega
    ·skip
     have hr := HRr.out
     rw [List.take_of_length_le (by omega), ← HT_u.out] at hr
     have HRr2 := hid hr
     clear hr HRr
     have HRr := HRr2
     clear HRr2
     go_wp2_with fail
     have hct := line_any w0.heap.size wb _ ((⟨#[69, 78, 68, 32]⟩ : ByteArray) ++ s ++ (⟨#[46]⟩ : ByteArray)) 0 wr HRr.out
     replace hct := hct (by omega)
     replace hct := hct (by (try simp only [ByteArray.size_append, ba_size, List.size_toArray, List.length_cons, List.length_nil, padT_zero]); omega)
     replace hct := hct HBr.out.size
     with_reducible refine hct.mono ?_
     clear hct
     rintro e V7 ⟨rfl, hw, ht⟩
     have HB7 := hid (HBr.out.trans ht.below)
     have HT7 := hid (HTr.out.trans ht)
     have HR7 := hid hw
     clear hw ht
     clear x0 x1 x2 x3 x4 fx0 fx1 fx2 fx3 fx4 fy0 fy1 fy2 fy3 fy4 fz0 fz1 fz2 fz3 fz4 fv0 fv1 fv2 fv3 fv4 fu0 fu1 fu2 fu3 fu4 ft0 ft1 ft2 ft3 ft4
     obtain ⟨x0, x1, x2, x3, x4⟩ := bKp (n := ⟨k, s, num, pos, [x, y, z, v, u, t]⟩) (A := (some ⟨b, o, none⟩)) (c := c) HBK.out HT7.out.kept HNE.out
     obtain ⟨fx0, fx1, fx2, fx3, fx4⟩ := nb HX_x HB7
     obtain ⟨fy0, fy1, fy2, fy3, fy4⟩ := nb HX_y HB7
     obtain ⟨fz0, fz1, fz2, fz3, fz4⟩ := nb HX_z HB7
     obtain ⟨fv0, fv1, fv2, fv3, fv4⟩ := nb HX_v HB7
     obtain ⟨fu0, fu1, fu2, fu3, fu4⟩ := nb HX_u HB7
     obtain ⟨ft0, ft1, ft2, ft3, ft4⟩ := nb HX_t HB7
     go_wp2
     go_end0
     exact ⟨rfl, cast_wr (by rw [HS1.out, show (⟨#[59, 10]⟩ : ByteArray) = (⟨#[59]⟩ : ByteArray) ++ (⟨#[10]⟩ : ByteArray) from rfl, show (⟨#[46, 10]⟩ : ByteArray) = (⟨#[46]⟩ : ByteArray) ++ (⟨#[10]⟩ : ByteArray) from rfl]; simp only [padT, nil_ba, ba_nil, ba_assoc]) HR7.out, HOUT.out.trans HT7.out⟩
end Go.Proofs.YtneohanphabneaaGreatDoor
