/-
The program's text of a tree, the walks: declarations, procedures. Conditions: the tree lies in memory and is shaped; the writer's block holds the writer; the text's length is below a bound.
-/
import Derived.Test.YtneohanphabneaaGreatDoorWrSt2
import Derived.Test.YtneohanphabneaaGreatDoorTextR7
namespace Go.Proofs.YtneohanphabneaaGreatDoor
set_option linter.unusedSimpArgs false
set_option linter.unusedVariables false
open Go.RowKit Go.BigFrame
/-- A section, as the program writes it. -/
def secL (T : Nd → ByteArray) (dp : Nat) (x : Nd) : ByteArray := padT (dp + 1) ++ (T x ++ ⟨#[59]⟩) ++ ⟨#[10]⟩
def secT (T : Nd → ByteArray) (dp : Nat) (wd : ByteArray) (l : List Nd) : ByteArray := if l.length = 0 then ⟨#[]⟩ else padT dp ++ wd ++ ⟨#[10]⟩ ++ catB (l.map (secL T dp))
theorem padT_zero : padT 0 = ⟨#[]⟩ := rfl
theorem padT_one : padT 1 = ⟨#[32, 32]⟩ := nil_ba _
set_option maxRecDepth 100000 in
set_option maxHeartbeats 2000000 in
theorem section_any (g e : Nat) (ok : Nd → Bool) (T : Nd → ByteArray) (hg : SayFn g e ok T) (l : List Nd) (A : Option Addr) (c : Nat) (wd : ByteArray) (w0 w : World) (wb : Nat) (S : ByteArray) (dp : Nat) (hl : PowLaid w0) (hk : KidsL w0 e l A c) (hb0 : Below w0.heap.size w0 w) (hr : IsWr w0.heap.size wb S dp w) (hs : l.all ok = true) (hsz : S.size + (secT T dp wd l).size ≤ maxW) (hdp : dp ≤ 1000) :
  Calls Tryz.prog 65 #[.pointer (some ⟨wb, 0, none⟩), .string wd, .slice A l.length c, .func (.func g) #[] #[]] w fun e w' => e = .returned (.tuple #[]) ∧ IsWr w0.heap.size wb (S ++ secT T dp wd l) dp w' ∧ Wrote w0.heap.size wb w w' := by
 have hlen := hk.len
 unfold maxLen at hlen
 have eg := hg.enters
 have HG := hid hg
 have HAL := hid hs
 have HKL := hid hk
 clear hg hs
 unfold secT at hsz ⊢
 cases h0 : ((l.length : Int) == 0) with
 | true =>
  have h00 : l.length = 0 := by simp only [beq_iff_eq] at h0; omega
  rw [if_pos h00]
  clear hsz
  have H0 := hid h00
  clear h00
  have HL := hid hl
  clear hl
  clear hk
  have HB0 := hid hb0
  have HR0 := hid hr
  have HT0 := hid (Wrote.refl w0.heap.size wb w)
  have HOUT := hid (Wrote.refl w0.heap.size wb w)
  have HGE := hid hr.ge
  clear hb0 hr
  go_enter Tryz.func65, Tryz.ntmps65
  go_wp2
  first | go_end0 | ((try simp only [Exit.inBlock, Exit.then]); refine bodyPost_ret (results_none rfl _ _ _) rfl ?_)
  exact ⟨rfl, by rw [ba_nil]; exact HR0.out, HT0.out⟩
 | false =>
  have h00 : ¬ l.length = 0 := by simp only [beq_eq_false_iff_ne, ne_eq] at h0; omega
  rw [if_neg h00] at hsz ⊢
  clear h00
  obtain ⟨f, hf⟩ : ∃ f, f = catB (l.map (secL T dp)) := ⟨_, rfl⟩
  rw [← hf] at hsz ⊢
  have HF := hid hf
  clear hf
  unfold maxW at hsz
  simp only [ByteArray.size_append, ba_size, List.size_toArray, List.length_cons, List.length_nil, padT_zero] at hsz
  have HL := hid hl
  clear hl
  clear hk
  have HB0 := hid hb0
  have HR0 := hid hr
  have HT0 := hid (Wrote.refl w0.heap.size wb w)
  have HOUT := hid (Wrote.refl w0.heap.size wb w)
  have HGE := hid hr.ge
  clear hb0 hr
  go_enter Tryz.func65, Tryz.ntmps65
  go_wp2_with fail
  have hct := line_any w0.heap.size wb _ (wd) dp w HR0.out
  replace hct := hct (by omega)
  replace hct := hct (by (try simp only [ByteArray.size_append, ba_size, List.size_toArray, List.length_cons, List.length_nil, padT_zero]); omega)
  replace hct := hct HB0.out.size
  with_reducible refine hct.mono ?_
  clear hct
  rintro e V1 ⟨rfl, hw, ht⟩
  have HB1 := hid (HB0.out.trans ht.below)
  have HT1 := hid (HT0.out.trans ht)
  have HR1 := hid hw
  clear hw ht
  have hdeep := HR1.out.deep_at
  have hfz := HR1.out.unfrozen
  go_wp2
  clear hdeep hfz
  generalize hV : (V1).setCell ⟨wb, 2, none⟩ (.int .i64 ((dp : Int) + 1)) = V2 at *
  have HB2 := hid (show Below w0.heap.size w0 V2 by rw [← hV]; exact HB1.out.setCell (p := ⟨wb, 2, none⟩) HGE.out _)
  have HT2 := hid (show Wrote w0.heap.size wb w V2 by rw [← hV]; exact HT1.out.setCell HGE.out 2 _)
  have HR2 := hid (show IsWr w0.heap.size wb (S ++ (padT dp ++ (wd) ++ ⟨#[10]⟩)) (((dp + 1) : Nat) : Int) V2 by rw [← hV, show (((dp + 1) : Nat) : Int) = (dp : Int) + 1 by omega]; exact HR1.out.deeper _)
  clear hV
  obtain ⟨S1, hS1⟩ : ∃ S1, S1 = S ++ (padT dp ++ (wd) ++ ⟨#[10]⟩) := ⟨_, rfl⟩
  have hr := HR2.out
  rw [← hS1] at hr
  have HRa := hid hr
  clear hr HR2
  have hS1z : S1.size = S.size + (padT dp).size + wd.size + 1 := by rw [hS1]; simp only [ByteArray.size_append, ba_size, List.size_toArray, List.length_cons, List.length_nil, padT_zero]; omega
  have HS1 := hid hS1
  clear hS1
  go_loopw [25] (fun ii wr => ∃ (j : Nat), j ≤ l.length ∧ ii = .int .i64 j ∧ Hid (Below w0.heap.size w0 wr) ∧ Hid (Wrote w0.heap.size wb w wr) ∧ Hid (IsWr w0.heap.size wb (S1 ++ catB ((l.take j).map (secL T dp))) ((dp + 1 : Nat) : Int) wr)) (fun ii _ => l.length - (intOf ii).toNat)
  case atStart => exact ⟨0, by omega, rfl, HB2, HT2, hid (by rw [List.take_zero, List.map_nil, catB, ba_nil]; exact HRa.out)⟩
  case round =>
   obtain ⟨j, hj, rfl, HBr, HTr, HRr⟩ := hrel
   by_cases hlt : j < l.length
   ·skip
    obtain ⟨y, hy⟩ : ∃ y, l[j]? = some y := ⟨_, List.getElem?_eq_getElem hlt⟩
    obtain ⟨b, o, Ay, cy, hA, hx, hky⟩ := HKL.out.2.2 j y hy
    subst hA
    have HY := hid (all_at HAL.out hy)
    have hcs := cat_size (f := secL T dp) hy
    have STEP := hid (cat_step (f := secL T dp) hy)
    have HX_y := hid hx
    have HK_y := hid hky
    clear hx hky hy
    obtain ⟨Ty, hT_y⟩ : ∃ X, X = T y := ⟨_, rfl⟩
    have FY := hid (show secL T dp y = padT (dp + 1) ++ (Ty ++ ⟨#[59]⟩) ++ ⟨#[10]⟩ by rw [hT_y]; rfl)
    have HT_y := hid hT_y
    clear hT_y
    rw [FY.out, ← HF.out] at hcs
    simp only [ByteArray.size_append, ba_size, List.size_toArray, List.length_cons, List.length_nil, padT_zero] at hcs
    obtain ⟨CC, hCC⟩ : ∃ CC, CC = catB ((l.take j).map (secL T dp)) := ⟨_, rfl⟩
    rw [← hCC] at hcs
    have hr := HRr.out
    rw [← hCC] at hr
    have HRr2 := hid hr
    clear hr HRr
    have HRr := HRr2
    clear HRr2
    have HCC := hid hCC
    clear hCC
    obtain ⟨fy0, fy1, fy2, fy3, fy4⟩ := nb HX_y HBr
    go_wp2_with fail
    generalize hV : wr.alloc (.cells #[.int .i64 y.kind, .string y.name, .int .i64 y.num, .int .i64 y.pos, .slice Ay y.subs.length cy] 24) = V3 at *
    have HB3 := hid (show Below w0.heap.size w0 V3 by rw [← hV]; exact HBr.out.alloc HBr.out.size _)
    have HT3 := hid (show Wrote w0.heap.size wb w V3 by rw [← hV]; exact HTr.out.then HBr.out.size (bBw _ _))
    have HR3 := hid (show IsWr w0.heap.size wb (S1 ++ CC) ((dp + 1 : Nat) : Int) V3 by rw [← hV]; exact HRr.out.below (bBw _ _))
    clear hV
    clear fy0 fy1 fy2 fy3 fy4
    obtain ⟨fy0, fy1, fy2, fy3, fy4⟩ := nb HX_y HB3
    have hct := HG.out.calls y Ay cy V3 (HL.out.below HB3.out) (kb HK_y HB3) HY.out (by rw [← HT_y.out]; unfold maxT; omega)
    with_reducible refine hct.mono ?_
    clear hct
    rintro e V4 ⟨rfl, hb⟩
    rw [← HT_y.out]
    have HB4 := hid (bTh HB3.out hb)
    have HT4 := hid (HT3.out.then HB3.out.size hb)
    have HR4 := hid (HR3.out.below hb)
    clear hb
    clear fy0 fy1 fy2 fy3 fy4
    obtain ⟨fy0, fy1, fy2, fy3, fy4⟩ := nb HX_y HB4
    go_wp2_with fail
    have hct := line_any w0.heap.size wb _ (Ty ++ ⟨#[59]⟩) (dp + 1) V4 HR4.out
    replace hct := hct (by omega)
    replace hct := hct (by (try simp only [ByteArray.size_append, ba_size, List.size_toArray, List.length_cons, List.length_nil, padT_zero]); omega)
    replace hct := hct HB4.out.size
    with_reducible refine hct.mono ?_
    clear hct
    rintro e V5 ⟨rfl, hw, ht⟩
    have HB5 := hid (HB4.out.trans ht.below)
    have HT5 := hid (HT4.out.trans ht)
    have HR5 := hid hw
    clear hw ht
    clear fy0 fy1 fy2 fy3 fy4
    obtain ⟨fy0, fy1, fy2, fy3, fy4⟩ := nb HX_y HB5
    go_wp2
    go_roundw
    case rel => exact ⟨j + 1, by omega, by go_num, HB5, HT5, hid (by
     have h := HR5.out
     rw [STEP.out, FY.out, ← HCC.out, ← ba_assoc]
     exact h)⟩
    case measure => simp [intOf]; omega
   ·skip
    have HJE := hid (show l.take j = l from List.take_of_length_le (by omega))
    have hdeep := HRr.out.deep_at
    have hfz := HRr.out.unfrozen
    go_wp2
    go_end0
    refine ⟨rfl, ?_, HTr.out.setCell HGE.out 2 _⟩
    have h := HRr.out.deeper (dp : Int)
    rw [HJE.out, ← HF.out, HS1.out] at h
    exact cast_wr (by simp only [ba_assoc]) h
theorem ok_of {p : Nd → Bool} {k : Int} {l : List Nd} (h : ∀ x ∈ l, varS x k = true) : l.all okV = true := by
 rw [List.all_eq_true]
 intro x hx
 have := varS_one (h x hx)
 simp [okV, this.1, this.2]
theorem par_ok {l : List Nd} (h : (l.all fun q => decide (q.kind = 8) && varS q 8) = true) : l.all okV = true :=
 ok_of (p := okV) (k := 8) fun x hx => by have := List.all_eq_true.1 h x hx; simp only [Bool.and_eq_true] at this; exact this.2
theorem var_ok {l : List Nd} (h : (l.all fun q => decide (q.kind = 6) && decide (q.num = 0) && varS q 6) = true) : l.all okV = true :=
 ok_of (p := okV) (k := 6) fun x hx => by have := List.all_eq_true.1 h x hx; simp only [Bool.and_eq_true] at this; exact this.2
theorem sec_eq {T : Nd → ByteArray} {d : Nat} {wd : ByteArray} {l : List Nd} (h : ∀ x ∈ l, secL T 0 x = declLT d x) : secT T 0 wd l = declTT d wd l := by
 unfold secT declTT
 rw [show l.map (secL T 0) = l.map (declLT d) from List.map_congr_left h]
 simp only [padT, nil_ba]
theorem sec_var {d : Nat} {wd : ByteArray} {l : List Nd} (h : (l.all fun q => decide (q.kind = 6) && decide (q.num = 0) && varS q 6) = true) : secT varT 0 wd l = declTT d wd l :=
 sec_eq fun x hx => by
  have := List.all_eq_true.1 h x hx
  simp only [Bool.and_eq_true, decide_eq_true_eq] at this
  simp only [secL, declLT, this.1.1, varT, padT]
  exact ba_ext (by simp)
set_option maxRecDepth 100000 in
set_option maxHeartbeats 1500000 in
theorem wproc_any (d : Nat) (n : Nd) (A : Option Addr) (c : Nat) (w0 w : World) (wb : Nat) (S : ByteArray) (hl : PowLaid w0) (hk : Kids w0 (d + 3) n A c) (hb0 : Below w0.heap.size w0 w) (hr : IsWr w0.heap.size wb S (0 : Nat) w) (hs : procS (d + 2) n = true) (hsz : S.size + (procT d n).size ≤ maxW) (hd : d ≤ 900) :
  Calls Tryz.prog 72 #[.pointer (some ⟨wb, 0, none⟩), .agg #[.int .i64 n.kind, .string n.name, .int .i64 n.num, .int .i64 n.pos, .slice A n.subs.length c]] w fun e w' => e = .returned (.tuple #[]) ∧ IsWr w0.heap.size wb (S ++ procT d n) (0 : Nat) w' ∧ Wrote w0.heap.size wb w w' := by
 obtain ⟨k, s, num, pos, subs⟩ := n
 have hlen := hk.len
 unfold maxLen at hlen
 simp only at hlen
 simp [procS] at hs
 have hL := (ws_any (d + 2)).2
 obtain ⟨x, y, z, v, rfl⟩ := len4 (l := subs) (headB_len hs.1.1.1.1.1.1 (by omega))
 obtain ⟨b, o, Ax, cx, rfl, hx_x, hk_x⟩ := hk.one (x := x) (r := [y, z, v]) rfl
 obtain ⟨Ay, cy, hx_y, hk_y⟩ := hk.nth rfl (i := 1) (x := y) rfl (p := o + 5) (by omega)
 obtain ⟨Az, cz, hx_z, hk_z⟩ := hk.nth rfl (i := 2) (x := z) rfl (p := o + 10) (by omega)
 obtain ⟨Av, cv, hx_v, hk_v⟩ := hk.nth rfl (i := 3) (x := v) rfl (p := o + 15) (by omega)
 simp only [List.length_cons, List.length_nil, Nat.zero_add] at hlen
 simp only [Nd.sub, List.getD_cons_zero, List.getD_cons_succ] at hs
 have HPAR := hid (par_ok (show (x.subs.all fun q => decide (q.kind = 8) && varS q 8) = true by have h := hs.1.1.1.2; simpa using h))
 have HVARS := hid (show (z.subs.all fun q => decide (q.kind = 6) && decide (q.num = 0) && varS q 6) = true by have h := hs.1.1.2; simpa using h)
 have HVAR := hid (var_ok HVARS.out)
 have HD_v := hid hs.2
 have HRES := hid (show y.kind ≠ 0 → nameS y = true from fun h0 => by
  have h := hs.1.2
  rcases h with h | h
  ·simp [headB] at h; exact absurd h.1.1.1.1 h0
  ·exact h)
 clear hs
 have hTT : procT d ⟨k, s, num, pos, [x, y, z, v]⟩ = (⟨#[80, 82, 79, 67, 69, 68, 85, 82, 69, 32]⟩ : ByteArray) ++ starT ⟨k, s, num, pos, [x, y, z, v]⟩ ++ parT ⟨k, s, num, pos, [x, y, z, v]⟩ ++ resT ⟨k, s, num, pos, [x, y, z, v]⟩ ++ (⟨#[59, 10]⟩ : ByteArray) ++ declTT d (⟨#[86, 65, 82]⟩ : ByteArray) z.subs ++ (⟨#[66, 69, 71, 73, 78, 10]⟩ : ByteArray) ++ stmtsT (d + 2) v (⟨#[32, 32]⟩ : ByteArray) ++ (⟨#[69, 78, 68, 32]⟩ : ByteArray) ++ s ++ (⟨#[59, 10]⟩ : ByteArray) := rfl
 rw [hTT, ← sec_var HVARS.out, ← padT_one] at hsz ⊢
 clear hTT
 rw [show starT ⟨k, s, num, pos, [x, y, z, v]⟩ = s ++ starP ⟨k, s, num, pos, [x, y, z, v]⟩ from (star_app ⟨k, s, num, pos, [x, y, z, v]⟩).symm] at hsz ⊢
 obtain ⟨Tn, hT_n⟩ : ∃ T, T = starP ⟨k, s, num, pos, [x, y, z, v]⟩ := ⟨_, rfl⟩
 rw [← hT_n] at hsz ⊢
 have HT_n := hid hT_n
 clear hT_n
 obtain ⟨Tz, hT_z⟩ : ∃ T, T = secT varT 0 (⟨#[86, 65, 82]⟩ : ByteArray) z.subs := ⟨_, rfl⟩
 rw [← hT_z] at hsz ⊢
 have HT_z := hid hT_z
 clear hT_z
 obtain ⟨Tv, hT_v⟩ : ∃ T, T = stmtsT (d + 2) v (padT 1) := ⟨_, rfl⟩
 rw [← hT_v] at hsz ⊢
 have HT_v := hid hT_v
 clear hT_v
 have hPAR : parT ⟨k, s, num, pos, [x, y, z, v]⟩ = if 0 < x.subs.length ∨ y.kind ≠ 0 then ⟨#[40]⟩ ++ joinB ⟨#[59, 32]⟩ (x.subs.map paramT) ++ ⟨#[41]⟩ else ⟨#[]⟩ := rfl
 have hRES : resT ⟨k, s, num, pos, [x, y, z, v]⟩ = if y.kind ≠ 0 then ⟨#[58, 32]⟩ ++ nameT y else ⟨#[]⟩ := rfl
 rw [hPAR, hRES] at hsz ⊢
 clear hPAR hRES
 have hxl := hk_x.len
 have hzl := hk_z.len
 unfold maxLen at hxl hzl
 have hkx := hk_x.list
 have hkz := hk_z.list
 by_cases hx0 : 0 < x.subs.length
 ·skip
  by_cases hy0 : y.kind ≠ 0
  ·skip
   rw [if_pos (Or.inl hx0)] at hsz ⊢
   obtain ⟨JJ, hJJ⟩ : ∃ JJ, JJ = joinB ⟨#[59, 32]⟩ (x.subs.map paramT) := ⟨_, rfl⟩
   rw [← hJJ] at hsz ⊢
   have HJJ := hid hJJ
   clear hJJ
   rw [if_pos hy0] at hsz ⊢
   unfold maxW at hsz
   simp only [ByteArray.size_append, ba_size, List.size_toArray, List.length_cons, List.length_nil, padT_zero] at hsz
   have hxb : decide ((0 : Int) < (x.subs.length : Int)) = true := decide_eq_true (by omega)
   have hxc : decide (0 < x.subs.length) = true := decide_eq_true (by omega)
   have hyb : (y.kind != 0) = true := by simp [hy0]
   have HD_y := hid (HRES.out hy0)
   clear hx0 hy0
   obtain ⟨Ty, hT_y⟩ : ∃ T, T = nameT y := ⟨_, rfl⟩
   rw [← hT_y] at hsz ⊢
   have HT_y := hid hT_y
   clear hT_y
   have HL := hid hl
   clear hl
   have HX_x := hid hx_x
   have HK_x := hid hk_x
   clear hx_x hk_x
   have HX_y := hid hx_y
   have HK_y := hid hk_y
   clear hx_y hk_y
   have HX_z := hid hx_z
   have HK_z := hid hk_z
   clear hx_z hk_z
   have HX_v := hid hx_v
   have HK_v := hid hk_v
   clear hx_v hk_v
   have HKX := hid (hkx)
   have HKZ := hid (hkz)
   clear hk
   have HB0 := hid (hb0.alloc hb0.size (.cells #[.int .i64 k, .string s, .int .i64 num, .int .i64 pos, .slice (some ⟨b, o, none⟩) 4 c] 24))
   have HR0 := hid (hr.below (bBw w (.cells #[.int .i64 k, .string s, .int .i64 num, .int .i64 pos, .slice (some ⟨b, o, none⟩) 4 c] 24)))
   have HT0 := hid (Wrote.refl w0.heap.size wb (w.alloc (.cells #[.int .i64 k, .string s, .int .i64 num, .int .i64 pos, .slice (some ⟨b, o, none⟩) 4 c] 24)))
   have HOUT := hid ((Wrote.refl w0.heap.size wb w).then hb0.size (bBw w (.cells #[.int .i64 k, .string s, .int .i64 num, .int .i64 pos, .slice (some ⟨b, o, none⟩) 4 c] 24)))
   have HBK := hid (heap_new w (.cells #[.int .i64 k, .string s, .int .i64 num, .int .i64 pos, .slice (some ⟨b, o, none⟩) 4 c] 24))
   have HNE := hid (Nat.ne_of_gt hr.lt)
   have HGE := hid hr.ge
   clear hb0 hr
   clear hkx hkz
   obtain ⟨fx0, fx1, fx2, fx3, fx4⟩ := nb HX_x HB0
   obtain ⟨fy0, fy1, fy2, fy3, fy4⟩ := nb HX_y HB0
   obtain ⟨fz0, fz1, fz2, fz3, fz4⟩ := nb HX_z HB0
   obtain ⟨fv0, fv1, fv2, fv3, fv4⟩ := nb HX_v HB0
   have hdeep := HR0.out.deep_at
   have hfz := HR0.out.unfrozen
   go_enter Tryz.func72, Tryz.ntmps72
   go_wp2
   generalize hW0 : w.alloc (.cells #[.int .i64 k, .string s, .int .i64 num, .int .i64 pos, .slice (some ⟨b, o, none⟩) 4 c] 24) = W0 at *
   clear hW0
   clear fx0 fx1 fx2 fx3 fx4 fy0 fy1 fy2 fy3 fy4 fz0 fz1 fz2 fz3 fz4 fv0 fv1 fv2 fv3 fv4 hdeep hfz
   obtain ⟨x0, x1, x2, x3, x4⟩ := bKp (n := ⟨k, s, num, pos, [x, y, z, v]⟩) (A := (some ⟨b, o, none⟩)) (c := c) HBK.out HT0.out.kept HNE.out
   obtain ⟨fx0, fx1, fx2, fx3, fx4⟩ := nb HX_x HB0
   obtain ⟨fy0, fy1, fy2, fy3, fy4⟩ := nb HX_y HB0
   obtain ⟨fz0, fz1, fz2, fz3, fz4⟩ := nb HX_z HB0
   obtain ⟨fv0, fv1, fv2, fv3, fv4⟩ := nb HX_v HB0
   have r_0 := cRg x0
   have r_1 := cRg x1
   have r_2 := cRg x2
   have r_3 := cRg x3
   have r_4 := cRg x4
   have r_5 := cRg fx0
   have r_6 := cRg fx1
   have r_7 := cRg fx2
   have r_8 := cRg fx3
   have r_9 := cRg fx4
   have r_10 := cRg fy0
   have r_11 := cRg fy1
   have r_12 := cRg fy2
   have r_13 := cRg fy3
   have r_14 := cRg fy4
   have r_15 := cRg fz0
   have r_16 := cRg fz1
   have r_17 := cRg fz2
   have r_18 := cRg fz3
   have r_19 := cRg fz4
   have r_20 := cRg fv0
   have r_21 := cRg fv1
   have r_22 := cRg fv2
   have r_23 := cRg fv3
   have r_24 := cRg fv4
   have cP0 : ∀ w', Below W0.heap.size W0 w' → Calls Tryz.prog 67 #[.agg #[.int .i64 k, .string s, .int .i64 num, .int .i64 pos, .slice (some ⟨b, o, none⟩) 4 c]] w' fun e w'' => e = .returned (.string Tn) ∧ Below w'.heap.size w' w'' := fun w' hb => by rw [HT_n.out]; exact star_any ⟨k, s, num, pos, [x, y, z, v]⟩ (some ⟨b, o, none⟩) c _
   have cQ0 : ∀ dd os, Calls Tryz.prog 67 #[.agg #[.int .i64 k, .string s, .int .i64 num, .int .i64 pos, .slice (some ⟨b, o, none⟩) 4 c]] (Go.Sort.grow (redrawn W0 dd) os) fun e w'' => e = .returned (.string Tn) ∧ ∃ p : Regrown, w'' = Go.Sort.grow (redrawn W0 p.d) p.os := fun dd os => Calls.regrown_of (cP0 _ (below_regrown _ _ _))
   clear cP0
   refine wp_region_quiet_below (by kernel_rfl) (by kernel_rfl) ?_
   repeat (go_big_quiet_step (first | with_reducible exact cQ0 _ _))
   refine wpQuiet_nil ?_
   intro _ hw'
   obtain ⟨⟨dq, osq⟩, hw''⟩ := hw'
   subst hw''
   clear cQ0 r_0 r_1 r_2 r_3 r_4 r_5 r_6 r_7 r_8 r_9 r_10 r_11 r_12 r_13 r_14 r_15 r_16 r_17 r_18 r_19 r_20 r_21 r_22 r_23 r_24
   have HB1 := hid (bTh HB0.out (below_regrown W0 dq osq))
   have HT1 := hid (HT0.out.then HB0.out.size (below_regrown W0 dq osq))
   have HR1 := hid (HR0.out.below (below_regrown W0 dq osq))
   have HQ1 := hid (below_regrown W0 dq osq)
   generalize hG : Go.Sort.grow (redrawn W0 dq) osq = V1 at *
   clear hG
   clear x0 x1 x2 x3 x4 fx0 fx1 fx2 fx3 fx4 fy0 fy1 fy2 fy3 fy4 fz0 fz1 fz2 fz3 fz4 fv0 fv1 fv2 fv3 fv4
   obtain ⟨x0, x1, x2, x3, x4⟩ := bKp (n := ⟨k, s, num, pos, [x, y, z, v]⟩) (A := (some ⟨b, o, none⟩)) (c := c) HBK.out HT1.out.kept HNE.out
   obtain ⟨fx0, fx1, fx2, fx3, fx4⟩ := nb HX_x HB1
   obtain ⟨fy0, fy1, fy2, fy3, fy4⟩ := nb HX_y HB1
   obtain ⟨fz0, fz1, fz2, fz3, fz4⟩ := nb HX_z HB1
   obtain ⟨fv0, fv1, fv2, fv3, fv4⟩ := nb HX_v HB1
   go_wp2_with fail
   have hct := join_any _ (d + 1) okV paramT (say_param d) x.subs Ax cx ⟨#[59, 32]⟩ V1 (HL.out.below HB1.out) (HKX.out.below HB1.out) HPAR.out (by rw [← HJJ.out]; unfold maxT; omega) (by simp [ba_size])
   with_reducible refine hct.mono ?_
   clear hct
   rintro e V2 ⟨rfl, hb⟩
   rw [← HJJ.out]
   have HB2 := hid (bTh HB1.out hb)
   have HT2 := hid (HT1.out.then HB1.out.size hb)
   have HR2 := hid (HR1.out.below hb)
   clear hb
   clear x0 x1 x2 x3 x4 fx0 fx1 fx2 fx3 fx4 fy0 fy1 fy2 fy3 fy4 fz0 fz1 fz2 fz3 fz4 fv0 fv1 fv2 fv3 fv4
   obtain ⟨x0, x1, x2, x3, x4⟩ := bKp (n := ⟨k, s, num, pos, [x, y, z, v]⟩) (A := (some ⟨b, o, none⟩)) (c := c) HBK.out HT2.out.kept HNE.out
   obtain ⟨fx0, fx1, fx2, fx3, fx4⟩ := nb HX_x HB2
   obtain ⟨fy0, fy1, fy2, fy3, fy4⟩ := nb HX_y HB2
   obtain ⟨fz0, fz1, fz2, fz3, fz4⟩ := nb HX_z HB2
   obtain ⟨fv0, fv1, fv2, fv3, fv4⟩ := nb HX_v HB2
   go_wp2_with fail
   generalize hV : V2.alloc (.cells #[.int .i64 y.kind, .string y.name, .int .i64 y.num, .int .i64 y.pos, .slice Ay y.subs.length cy] 24) = V3 at *
   have HB3 := hid (show Below w0.heap.size w0 V3 by rw [← hV]; exact HB2.out.alloc HB2.out.size _)
   have HT3 := hid (show Wrote w0.heap.size wb W0 V3 by rw [← hV]; exact HT2.out.then HB2.out.size (bBw _ _))
   have HR3 := hid (show IsWr w0.heap.size wb (S) (0 : Nat) V3 by rw [← hV]; exact HR2.out.below (bBw _ _))
   clear hV
   clear x0 x1 x2 x3 x4 fx0 fx1 fx2 fx3 fx4 fy0 fy1 fy2 fy3 fy4 fz0 fz1 fz2 fz3 fz4 fv0 fv1 fv2 fv3 fv4
   obtain ⟨x0, x1, x2, x3, x4⟩ := bKp (n := ⟨k, s, num, pos, [x, y, z, v]⟩) (A := (some ⟨b, o, none⟩)) (c := c) HBK.out HT3.out.kept HNE.out
   obtain ⟨fx0, fx1, fx2, fx3, fx4⟩ := nb HX_x HB3
   obtain ⟨fy0, fy1, fy2, fy3, fy4⟩ := nb HX_y HB3
   obtain ⟨fz0, fz1, fz2, fz3, fz4⟩ := nb HX_z HB3
   obtain ⟨fv0, fv1, fv2, fv3, fv4⟩ := nb HX_v HB3
   have hct := typeName_any _ y Ay cy V3 (kb HK_y HB3) HD_y.out (by rw [← HT_y.out]; unfold maxT; omega)
   with_reducible refine hct.mono ?_
   clear hct
   rintro e V4 ⟨rfl, hb⟩
   rw [← HT_y.out]
   have HB4 := hid (bTh HB3.out hb)
   have HT4 := hid (HT3.out.then HB3.out.size hb)
   have HR4 := hid (HR3.out.below hb)
   clear hb
   clear x0 x1 x2 x3 x4 fx0 fx1 fx2 fx3 fx4 fy0 fy1 fy2 fy3 fy4 fz0 fz1 fz2 fz3 fz4 fv0 fv1 fv2 fv3 fv4
   obtain ⟨x0, x1, x2, x3, x4⟩ := bKp (n := ⟨k, s, num, pos, [x, y, z, v]⟩) (A := (some ⟨b, o, none⟩)) (c := c) HBK.out HT4.out.kept HNE.out
   obtain ⟨fx0, fx1, fx2, fx3, fx4⟩ := nb HX_x HB4
   obtain ⟨fy0, fy1, fy2, fy3, fy4⟩ := nb HX_y HB4
   obtain ⟨fz0, fz1, fz2, fz3, fz4⟩ := nb HX_z HB4
   obtain ⟨fv0, fv1, fv2, fv3, fv4⟩ := nb HX_v HB4
   go_wp2_with fail
   have hct := line_any w0.heap.size wb _ ((⟨#[80, 82, 79, 67, 69, 68, 85, 82, 69, 32]⟩ : ByteArray) ++ s ++ Tn ++ (⟨#[40]⟩ ++ JJ ++ ⟨#[41]⟩) ++ (⟨#[58, 32]⟩ ++ Ty) ++ ⟨#[59]⟩) 0 V4 HR4.out
   replace hct := hct (by omega)
   replace hct := hct (by (try simp only [ByteArray.size_append, ba_size, List.size_toArray, List.length_cons, List.length_nil, padT_zero]); omega)
   replace hct := hct HB4.out.size
   with_reducible refine hct.mono ?_
   clear hct
   rintro e V5 ⟨rfl, hw, ht⟩
   have HB5 := hid (HB4.out.trans ht.below)
   have HT5 := hid (HT4.out.trans ht)
   have HR5 := hid hw
   clear hw ht
   clear x0 x1 x2 x3 x4 fx0 fx1 fx2 fx3 fx4 fy0 fy1 fy2 fy3 fy4 fz0 fz1 fz2 fz3 fz4 fv0 fv1 fv2 fv3 fv4
   obtain ⟨x0, x1, x2, x3, x4⟩ := bKp (n := ⟨k, s, num, pos, [x, y, z, v]⟩) (A := (some ⟨b, o, none⟩)) (c := c) HBK.out HT5.out.kept HNE.out
   obtain ⟨fx0, fx1, fx2, fx3, fx4⟩ := nb HX_x HB5
   obtain ⟨fy0, fy1, fy2, fy3, fy4⟩ := nb HX_y HB5
   obtain ⟨fz0, fz1, fz2, fz3, fz4⟩ := nb HX_z HB5
   obtain ⟨fv0, fv1, fv2, fv3, fv4⟩ := nb HX_v HB5
   go_wp2_with fail
   have hct := section_any _ (d + 1) okV varT (say_var d) z.subs Az cz (⟨#[86, 65, 82]⟩ : ByteArray) w0 V5 wb _ 0 HL.out HKZ.out HB5.out HR5.out
   replace hct := hct HVAR.out
   replace hct := hct (by rw [← HT_z.out]; unfold maxW; (try simp only [ByteArray.size_append, ba_size, List.size_toArray, List.length_cons, List.length_nil, padT_zero]); omega)
   replace hct := hct (by omega)
   with_reducible refine hct.mono ?_
   clear hct
   rintro e V6 ⟨rfl, hw, ht⟩
   have HB6 := hid (HB5.out.trans ht.below)
   have HT6 := hid (HT5.out.trans ht)
   have HR6 := hid hw
   clear hw ht
   clear x0 x1 x2 x3 x4 fx0 fx1 fx2 fx3 fx4 fy0 fy1 fy2 fy3 fy4 fz0 fz1 fz2 fz3 fz4 fv0 fv1 fv2 fv3 fv4
   obtain ⟨x0, x1, x2, x3, x4⟩ := bKp (n := ⟨k, s, num, pos, [x, y, z, v]⟩) (A := (some ⟨b, o, none⟩)) (c := c) HBK.out HT6.out.kept HNE.out
   obtain ⟨fx0, fx1, fx2, fx3, fx4⟩ := nb HX_x HB6
   obtain ⟨fy0, fy1, fy2, fy3, fy4⟩ := nb HX_y HB6
   obtain ⟨fz0, fz1, fz2, fz3, fz4⟩ := nb HX_z HB6
   obtain ⟨fv0, fv1, fv2, fv3, fv4⟩ := nb HX_v HB6
   have hr := HR6.out
   try rw [show 0 + 1 = 1 from rfl] at hr
   rw [← HT_z.out] at hr
   have HR6' := hid hr
   clear hr HR6
   have HR6 := HR6'
   clear HR6'
   go_wp2_with fail
   have hct := line_any w0.heap.size wb _ ((⟨#[66, 69, 71, 73, 78]⟩ : ByteArray)) 0 V6 HR6.out
   replace hct := hct (by omega)
   replace hct := hct (by (try simp only [ByteArray.size_append, ba_size, List.size_toArray, List.length_cons, List.length_nil, padT_zero]); omega)
   replace hct := hct HB6.out.size
   with_reducible refine hct.mono ?_
   clear hct
   rintro e V7 ⟨rfl, hw, ht⟩
   have HB7 := hid (HB6.out.trans ht.below)
   have HT7 := hid (HT6.out.trans ht)
   have HR7 := hid hw
   clear hw ht
   clear x0 x1 x2 x3 x4 fx0 fx1 fx2 fx3 fx4 fy0 fy1 fy2 fy3 fy4 fz0 fz1 fz2 fz3 fz4 fv0 fv1 fv2 fv3 fv4
   obtain ⟨x0, x1, x2, x3, x4⟩ := bKp (n := ⟨k, s, num, pos, [x, y, z, v]⟩) (A := (some ⟨b, o, none⟩)) (c := c) HBK.out HT7.out.kept HNE.out
   obtain ⟨fx0, fx1, fx2, fx3, fx4⟩ := nb HX_x HB7
   obtain ⟨fy0, fy1, fy2, fy3, fy4⟩ := nb HX_y HB7
   obtain ⟨fz0, fz1, fz2, fz3, fz4⟩ := nb HX_z HB7
   obtain ⟨fv0, fv1, fv2, fv3, fv4⟩ := nb HX_v HB7
   go_wp2_with fail
   have hct := hL v Av cv w0 V7 wb _ 0 HL.out HK_v.out HB7.out HR7.out
   replace hct := hct HD_v.out
   replace hct := hct (by rw [show 0 + 1 = 1 from rfl, ← HT_v.out]; unfold maxW; (try simp only [ByteArray.size_append, ba_size, List.size_toArray, List.length_cons, List.length_nil, padT_zero]); omega)
   replace hct := hct (by omega)
   with_reducible refine hct.mono ?_
   clear hct
   rintro e V8 ⟨rfl, hw, ht⟩
   have HB8 := hid (HB7.out.trans ht.below)
   have HT8 := hid (HT7.out.trans ht)
   have HR8 := hid hw
   clear hw ht
   clear x0 x1 x2 x3 x4 fx0 fx1 fx2 fx3 fx4 fy0 fy1 fy2 fy3 fy4 fz0 fz1 fz2 fz3 fz4 fv0 fv1 fv2 fv3 fv4
   obtain ⟨x0, x1, x2, x3, x4⟩ := bKp (n := ⟨k, s, num, pos, [x, y, z, v]⟩) (A := (some ⟨b, o, none⟩)) (c := c) HBK.out HT8.out.kept HNE.out
   obtain ⟨fx0, fx1, fx2, fx3, fx4⟩ := nb HX_x HB8
   obtain ⟨fy0, fy1, fy2, fy3, fy4⟩ := nb HX_y HB8
   obtain ⟨fz0, fz1, fz2, fz3, fz4⟩ := nb HX_z HB8
   obtain ⟨fv0, fv1, fv2, fv3, fv4⟩ := nb HX_v HB8
   have hr := HR8.out
   try rw [show 0 + 1 = 1 from rfl] at hr
   rw [← HT_v.out] at hr
   have HR8' := hid hr
   clear hr HR8
   have HR8 := HR8'
   clear HR8'
   go_wp2_with fail
   have hct := line_any w0.heap.size wb _ ((⟨#[69, 78, 68, 32]⟩ : ByteArray) ++ s ++ (⟨#[59]⟩ : ByteArray)) 0 V8 HR8.out
   replace hct := hct (by omega)
   replace hct := hct (by (try simp only [ByteArray.size_append, ba_size, List.size_toArray, List.length_cons, List.length_nil, padT_zero]); omega)
   replace hct := hct HB8.out.size
   with_reducible refine hct.mono ?_
   clear hct
   rintro e V9 ⟨rfl, hw, ht⟩
   have HB9 := hid (HB8.out.trans ht.below)
   have HT9 := hid (HT8.out.trans ht)
   have HR9 := hid hw
   clear hw ht
   clear x0 x1 x2 x3 x4 fx0 fx1 fx2 fx3 fx4 fy0 fy1 fy2 fy3 fy4 fz0 fz1 fz2 fz3 fz4 fv0 fv1 fv2 fv3 fv4
   obtain ⟨x0, x1, x2, x3, x4⟩ := bKp (n := ⟨k, s, num, pos, [x, y, z, v]⟩) (A := (some ⟨b, o, none⟩)) (c := c) HBK.out HT9.out.kept HNE.out
   obtain ⟨fx0, fx1, fx2, fx3, fx4⟩ := nb HX_x HB9
   obtain ⟨fy0, fy1, fy2, fy3, fy4⟩ := nb HX_y HB9
   obtain ⟨fz0, fz1, fz2, fz3, fz4⟩ := nb HX_z HB9
   obtain ⟨fv0, fv1, fv2, fv3, fv4⟩ := nb HX_v HB9
   go_wp2
   go_end0
   exact ⟨rfl, cast_wr (by rw [show (⟨#[59, 10]⟩ : ByteArray) = (⟨#[59]⟩ : ByteArray) ++ (⟨#[10]⟩ : ByteArray) from rfl, show (⟨#[66, 69, 71, 73, 78, 10]⟩ : ByteArray) = (⟨#[66, 69, 71, 73, 78]⟩ : ByteArray) ++ (⟨#[10]⟩ : ByteArray) from rfl]; simp only [padT, nil_ba, ba_nil, ba_assoc]) HR9.out, HOUT.out.trans HT9.out⟩
  ·skip
   have hy0' : y.kind = 0 := Decidable.not_not.1 hy0
   clear hy0
   have hy0 := hy0'
   rw [if_pos (Or.inl hx0)] at hsz ⊢
   obtain ⟨JJ, hJJ⟩ : ∃ JJ, JJ = joinB ⟨#[59, 32]⟩ (x.subs.map paramT) := ⟨_, rfl⟩
   rw [← hJJ] at hsz ⊢
   have HJJ := hid hJJ
   clear hJJ
   rw [if_neg (by simp [hy0])] at hsz ⊢
   unfold maxW at hsz
   simp only [ByteArray.size_append, ba_size, List.size_toArray, List.length_cons, List.length_nil, padT_zero] at hsz
   have hxb : decide ((0 : Int) < (x.subs.length : Int)) = true := decide_eq_true (by omega)
   have hxc : decide (0 < x.subs.length) = true := decide_eq_true (by omega)
   have hyb : (y.kind != 0) = false := by simp [hy0]
   clear hx0 hy0
   have HL := hid hl
   clear hl
   have HX_x := hid hx_x
   have HK_x := hid hk_x
   clear hx_x hk_x
   have HX_y := hid hx_y
   have HK_y := hid hk_y
   clear hx_y hk_y
   have HX_z := hid hx_z
   have HK_z := hid hk_z
   clear hx_z hk_z
   have HX_v := hid hx_v
   have HK_v := hid hk_v
   clear hx_v hk_v
   have HKX := hid (hkx)
   have HKZ := hid (hkz)
   clear hk
   have HB0 := hid (hb0.alloc hb0.size (.cells #[.int .i64 k, .string s, .int .i64 num, .int .i64 pos, .slice (some ⟨b, o, none⟩) 4 c] 24))
   have HR0 := hid (hr.below (bBw w (.cells #[.int .i64 k, .string s, .int .i64 num, .int .i64 pos, .slice (some ⟨b, o, none⟩) 4 c] 24)))
   have HT0 := hid (Wrote.refl w0.heap.size wb (w.alloc (.cells #[.int .i64 k, .string s, .int .i64 num, .int .i64 pos, .slice (some ⟨b, o, none⟩) 4 c] 24)))
   have HOUT := hid ((Wrote.refl w0.heap.size wb w).then hb0.size (bBw w (.cells #[.int .i64 k, .string s, .int .i64 num, .int .i64 pos, .slice (some ⟨b, o, none⟩) 4 c] 24)))
   have HBK := hid (heap_new w (.cells #[.int .i64 k, .string s, .int .i64 num, .int .i64 pos, .slice (some ⟨b, o, none⟩) 4 c] 24))
   have HNE := hid (Nat.ne_of_gt hr.lt)
   have HGE := hid hr.ge
   clear hb0 hr
   clear hkx hkz
   obtain ⟨fx0, fx1, fx2, fx3, fx4⟩ := nb HX_x HB0
   obtain ⟨fy0, fy1, fy2, fy3, fy4⟩ := nb HX_y HB0
   obtain ⟨fz0, fz1, fz2, fz3, fz4⟩ := nb HX_z HB0
   obtain ⟨fv0, fv1, fv2, fv3, fv4⟩ := nb HX_v HB0
   have hdeep := HR0.out.deep_at
   have hfz := HR0.out.unfrozen
   go_enter Tryz.func72, Tryz.ntmps72
   go_wp2
   generalize hW0 : w.alloc (.cells #[.int .i64 k, .string s, .int .i64 num, .int .i64 pos, .slice (some ⟨b, o, none⟩) 4 c] 24) = W0 at *
   clear hW0
   clear fx0 fx1 fx2 fx3 fx4 fy0 fy1 fy2 fy3 fy4 fz0 fz1 fz2 fz3 fz4 fv0 fv1 fv2 fv3 fv4 hdeep hfz
   obtain ⟨x0, x1, x2, x3, x4⟩ := bKp (n := ⟨k, s, num, pos, [x, y, z, v]⟩) (A := (some ⟨b, o, none⟩)) (c := c) HBK.out HT0.out.kept HNE.out
   obtain ⟨fx0, fx1, fx2, fx3, fx4⟩ := nb HX_x HB0
   obtain ⟨fy0, fy1, fy2, fy3, fy4⟩ := nb HX_y HB0
   obtain ⟨fz0, fz1, fz2, fz3, fz4⟩ := nb HX_z HB0
   obtain ⟨fv0, fv1, fv2, fv3, fv4⟩ := nb HX_v HB0
   have r_0 := cRg x0
   have r_1 := cRg x1
   have r_2 := cRg x2
   have r_3 := cRg x3
   have r_4 := cRg x4
   have r_5 := cRg fx0
   have r_6 := cRg fx1
   have r_7 := cRg fx2
   have r_8 := cRg fx3
   have r_9 := cRg fx4
   have r_10 := cRg fy0
   have r_11 := cRg fy1
   have r_12 := cRg fy2
   have r_13 := cRg fy3
   have r_14 := cRg fy4
   have r_15 := cRg fz0
   have r_16 := cRg fz1
   have r_17 := cRg fz2
   have r_18 := cRg fz3
   have r_19 := cRg fz4
   have r_20 := cRg fv0
   have r_21 := cRg fv1
   have r_22 := cRg fv2
   have r_23 := cRg fv3
   have r_24 := cRg fv4
   have cP0 : ∀ w', Below W0.heap.size W0 w' → Calls Tryz.prog 67 #[.agg #[.int .i64 k, .string s, .int .i64 num, .int .i64 pos, .slice (some ⟨b, o, none⟩) 4 c]] w' fun e w'' => e = .returned (.string Tn) ∧ Below w'.heap.size w' w'' := fun w' hb => by rw [HT_n.out]; exact star_any ⟨k, s, num, pos, [x, y, z, v]⟩ (some ⟨b, o, none⟩) c _
   have cQ0 : ∀ dd os, Calls Tryz.prog 67 #[.agg #[.int .i64 k, .string s, .int .i64 num, .int .i64 pos, .slice (some ⟨b, o, none⟩) 4 c]] (Go.Sort.grow (redrawn W0 dd) os) fun e w'' => e = .returned (.string Tn) ∧ ∃ p : Regrown, w'' = Go.Sort.grow (redrawn W0 p.d) p.os := fun dd os => Calls.regrown_of (cP0 _ (below_regrown _ _ _))
   clear cP0
   refine wp_region_quiet_below (by kernel_rfl) (by kernel_rfl) ?_
   repeat (go_big_quiet_step (first | with_reducible exact cQ0 _ _))
   refine wpQuiet_nil ?_
   intro _ hw'
   obtain ⟨⟨dq, osq⟩, hw''⟩ := hw'
   subst hw''
   clear cQ0 r_0 r_1 r_2 r_3 r_4 r_5 r_6 r_7 r_8 r_9 r_10 r_11 r_12 r_13 r_14 r_15 r_16 r_17 r_18 r_19 r_20 r_21 r_22 r_23 r_24
   have HB1 := hid (bTh HB0.out (below_regrown W0 dq osq))
   have HT1 := hid (HT0.out.then HB0.out.size (below_regrown W0 dq osq))
   have HR1 := hid (HR0.out.below (below_regrown W0 dq osq))
   have HQ1 := hid (below_regrown W0 dq osq)
   generalize hG : Go.Sort.grow (redrawn W0 dq) osq = V1 at *
   clear hG
   clear x0 x1 x2 x3 x4 fx0 fx1 fx2 fx3 fx4 fy0 fy1 fy2 fy3 fy4 fz0 fz1 fz2 fz3 fz4 fv0 fv1 fv2 fv3 fv4
   obtain ⟨x0, x1, x2, x3, x4⟩ := bKp (n := ⟨k, s, num, pos, [x, y, z, v]⟩) (A := (some ⟨b, o, none⟩)) (c := c) HBK.out HT1.out.kept HNE.out
   obtain ⟨fx0, fx1, fx2, fx3, fx4⟩ := nb HX_x HB1
   obtain ⟨fy0, fy1, fy2, fy3, fy4⟩ := nb HX_y HB1
   obtain ⟨fz0, fz1, fz2, fz3, fz4⟩ := nb HX_z HB1
   obtain ⟨fv0, fv1, fv2, fv3, fv4⟩ := nb HX_v HB1
   go_wp2_with fail
   have hct := join_any _ (d + 1) okV paramT (say_param d) x.subs Ax cx ⟨#[59, 32]⟩ V1 (HL.out.below HB1.out) (HKX.out.below HB1.out) HPAR.out (by rw [← HJJ.out]; unfold maxT; omega) (by simp [ba_size])
   with_reducible refine hct.mono ?_
   clear hct
   rintro e V2 ⟨rfl, hb⟩
   rw [← HJJ.out]
   have HB2 := hid (bTh HB1.out hb)
   have HT2 := hid (HT1.out.then HB1.out.size hb)
   have HR2 := hid (HR1.out.below hb)
   clear hb
   clear x0 x1 x2 x3 x4 fx0 fx1 fx2 fx3 fx4 fy0 fy1 fy2 fy3 fy4 fz0 fz1 fz2 fz3 fz4 fv0 fv1 fv2 fv3 fv4
   obtain ⟨x0, x1, x2, x3, x4⟩ := bKp (n := ⟨k, s, num, pos, [x, y, z, v]⟩) (A := (some ⟨b, o, none⟩)) (c := c) HBK.out HT2.out.kept HNE.out
   obtain ⟨fx0, fx1, fx2, fx3, fx4⟩ := nb HX_x HB2
   obtain ⟨fy0, fy1, fy2, fy3, fy4⟩ := nb HX_y HB2
   obtain ⟨fz0, fz1, fz2, fz3, fz4⟩ := nb HX_z HB2
   obtain ⟨fv0, fv1, fv2, fv3, fv4⟩ := nb HX_v HB2
   go_wp2_with fail
   generalize hV : V2.alloc (.cells #[.int .i64 0, .string y.name, .int .i64 y.num, .int .i64 y.pos, .slice Ay y.subs.length cy] 24) = V3 at *
   have HB3 := hid (show Below w0.heap.size w0 V3 by rw [← hV]; exact HB2.out.alloc HB2.out.size _)
   have HT3 := hid (show Wrote w0.heap.size wb W0 V3 by rw [← hV]; exact HT2.out.then HB2.out.size (bBw _ _))
   have HR3 := hid (show IsWr w0.heap.size wb (S) (0 : Nat) V3 by rw [← hV]; exact HR2.out.below (bBw _ _))
   clear hV
   clear x0 x1 x2 x3 x4 fx0 fx1 fx2 fx3 fx4 fy0 fy1 fy2 fy3 fy4 fz0 fz1 fz2 fz3 fz4 fv0 fv1 fv2 fv3 fv4
   obtain ⟨x0, x1, x2, x3, x4⟩ := bKp (n := ⟨k, s, num, pos, [x, y, z, v]⟩) (A := (some ⟨b, o, none⟩)) (c := c) HBK.out HT3.out.kept HNE.out
   obtain ⟨fx0, fx1, fx2, fx3, fx4⟩ := nb HX_x HB3
   obtain ⟨fy0, fy1, fy2, fy3, fy4⟩ := nb HX_y HB3
   obtain ⟨fz0, fz1, fz2, fz3, fz4⟩ := nb HX_z HB3
   obtain ⟨fv0, fv1, fv2, fv3, fv4⟩ := nb HX_v HB3
   have hct := line_any w0.heap.size wb _ ((⟨#[80, 82, 79, 67, 69, 68, 85, 82, 69, 32]⟩ : ByteArray) ++ s ++ Tn ++ (⟨#[40]⟩ ++ JJ ++ ⟨#[41]⟩) ++ ⟨#[59]⟩) 0 V3 HR3.out
   replace hct := hct (by omega)
   replace hct := hct (by (try simp only [ByteArray.size_append, ba_size, List.size_toArray, List.length_cons, List.length_nil, padT_zero]); omega)
   replace hct := hct HB3.out.size
   with_reducible refine hct.mono ?_
   clear hct
   rintro e V4 ⟨rfl, hw, ht⟩
   have HB4 := hid (HB3.out.trans ht.below)
   have HT4 := hid (HT3.out.trans ht)
   have HR4 := hid hw
   clear hw ht
   clear x0 x1 x2 x3 x4 fx0 fx1 fx2 fx3 fx4 fy0 fy1 fy2 fy3 fy4 fz0 fz1 fz2 fz3 fz4 fv0 fv1 fv2 fv3 fv4
   obtain ⟨x0, x1, x2, x3, x4⟩ := bKp (n := ⟨k, s, num, pos, [x, y, z, v]⟩) (A := (some ⟨b, o, none⟩)) (c := c) HBK.out HT4.out.kept HNE.out
   obtain ⟨fx0, fx1, fx2, fx3, fx4⟩ := nb HX_x HB4
   obtain ⟨fy0, fy1, fy2, fy3, fy4⟩ := nb HX_y HB4
   obtain ⟨fz0, fz1, fz2, fz3, fz4⟩ := nb HX_z HB4
   obtain ⟨fv0, fv1, fv2, fv3, fv4⟩ := nb HX_v HB4
   go_wp2_with fail
   have hct := section_any _ (d + 1) okV varT (say_var d) z.subs Az cz (⟨#[86, 65, 82]⟩ : ByteArray) w0 V4 wb _ 0 HL.out HKZ.out HB4.out HR4.out
   replace hct := hct HVAR.out
   replace hct := hct (by rw [← HT_z.out]; unfold maxW; (try simp only [ByteArray.size_append, ba_size, List.size_toArray, List.length_cons, List.length_nil, padT_zero]); omega)
   replace hct := hct (by omega)
   with_reducible refine hct.mono ?_
   clear hct
   rintro e V5 ⟨rfl, hw, ht⟩
   have HB5 := hid (HB4.out.trans ht.below)
   have HT5 := hid (HT4.out.trans ht)
   have HR5 := hid hw
   clear hw ht
   clear x0 x1 x2 x3 x4 fx0 fx1 fx2 fx3 fx4 fy0 fy1 fy2 fy3 fy4 fz0 fz1 fz2 fz3 fz4 fv0 fv1 fv2 fv3 fv4
   obtain ⟨x0, x1, x2, x3, x4⟩ := bKp (n := ⟨k, s, num, pos, [x, y, z, v]⟩) (A := (some ⟨b, o, none⟩)) (c := c) HBK.out HT5.out.kept HNE.out
   obtain ⟨fx0, fx1, fx2, fx3, fx4⟩ := nb HX_x HB5
   obtain ⟨fy0, fy1, fy2, fy3, fy4⟩ := nb HX_y HB5
   obtain ⟨fz0, fz1, fz2, fz3, fz4⟩ := nb HX_z HB5
   obtain ⟨fv0, fv1, fv2, fv3, fv4⟩ := nb HX_v HB5
   have hr := HR5.out
   try rw [show 0 + 1 = 1 from rfl] at hr
   rw [← HT_z.out] at hr
   have HR5' := hid hr
   clear hr HR5
   have HR5 := HR5'
   clear HR5'
   go_wp2_with fail
   have hct := line_any w0.heap.size wb _ ((⟨#[66, 69, 71, 73, 78]⟩ : ByteArray)) 0 V5 HR5.out
   replace hct := hct (by omega)
   replace hct := hct (by (try simp only [ByteArray.size_append, ba_size, List.size_toArray, List.length_cons, List.length_nil, padT_zero]); omega)
   replace hct := hct HB5.out.size
   with_reducible refine hct.mono ?_
   clear hct
   rintro e V6 ⟨rfl, hw, ht⟩
   have HB6 := hid (HB5.out.trans ht.below)
   have HT6 := hid (HT5.out.trans ht)
   have HR6 := hid hw
   clear hw ht
   clear x0 x1 x2 x3 x4 fx0 fx1 fx2 fx3 fx4 fy0 fy1 fy2 fy3 fy4 fz0 fz1 fz2 fz3 fz4 fv0 fv1 fv2 fv3 fv4
   obtain ⟨x0, x1, x2, x3, x4⟩ := bKp (n := ⟨k, s, num, pos, [x, y, z, v]⟩) (A := (some ⟨b, o, none⟩)) (c := c) HBK.out HT6.out.kept HNE.out
   obtain ⟨fx0, fx1, fx2, fx3, fx4⟩ := nb HX_x HB6
   obtain ⟨fy0, fy1, fy2, fy3, fy4⟩ := nb HX_y HB6
   obtain ⟨fz0, fz1, fz2, fz3, fz4⟩ := nb HX_z HB6
   obtain ⟨fv0, fv1, fv2, fv3, fv4⟩ := nb HX_v HB6
   go_wp2_with fail
   have hct := hL v Av cv w0 V6 wb _ 0 HL.out HK_v.out HB6.out HR6.out
   replace hct := hct HD_v.out
   replace hct := hct (by rw [show 0 + 1 = 1 from rfl, ← HT_v.out]; unfold maxW; (try simp only [ByteArray.size_append, ba_size, List.size_toArray, List.length_cons, List.length_nil, padT_zero]); omega)
   replace hct := hct (by omega)
   with_reducible refine hct.mono ?_
   clear hct
   rintro e V7 ⟨rfl, hw, ht⟩
   have HB7 := hid (HB6.out.trans ht.below)
   have HT7 := hid (HT6.out.trans ht)
   have HR7 := hid hw
   clear hw ht
   clear x0 x1 x2 x3 x4 fx0 fx1 fx2 fx3 fx4 fy0 fy1 fy2 fy3 fy4 fz0 fz1 fz2 fz3 fz4 fv0 fv1 fv2 fv3 fv4
   obtain ⟨x0, x1, x2, x3, x4⟩ := bKp (n := ⟨k, s, num, pos, [x, y, z, v]⟩) (A := (some ⟨b, o, none⟩)) (c := c) HBK.out HT7.out.kept HNE.out
   obtain ⟨fx0, fx1, fx2, fx3, fx4⟩ := nb HX_x HB7
   obtain ⟨fy0, fy1, fy2, fy3, fy4⟩ := nb HX_y HB7
   obtain ⟨fz0, fz1, fz2, fz3, fz4⟩ := nb HX_z HB7
   obtain ⟨fv0, fv1, fv2, fv3, fv4⟩ := nb HX_v HB7
   have hr := HR7.out
   try rw [show 0 + 1 = 1 from rfl] at hr
   rw [← HT_v.out] at hr
   have HR7' := hid hr
   clear hr HR7
   have HR7 := HR7'
   clear HR7'
   go_wp2_with fail
   have hct := line_any w0.heap.size wb _ ((⟨#[69, 78, 68, 32]⟩ : ByteArray) ++ s ++ (⟨#[59]⟩ : ByteArray)) 0 V7 HR7.out
   replace hct := hct (by omega)
   replace hct := hct (by (try simp only [ByteArray.size_append, ba_size, List.size_toArray, List.length_cons, List.length_nil, padT_zero]); omega)
   replace hct := hct HB7.out.size
   with_reducible refine hct.mono ?_
   clear hct
   rintro e V8 ⟨rfl, hw, ht⟩
   have HB8 := hid (HB7.out.trans ht.below)
   have HT8 := hid (HT7.out.trans ht)
   have HR8 := hid hw
   clear hw ht
   clear x0 x1 x2 x3 x4 fx0 fx1 fx2 fx3 fx4 fy0 fy1 fy2 fy3 fy4 fz0 fz1 fz2 fz3 fz4 fv0 fv1 fv2 fv3 fv4
   obtain ⟨x0, x1, x2, x3, x4⟩ := bKp (n := ⟨k, s, num, pos, [x, y, z, v]⟩) (A := (some ⟨b, o, none⟩)) (c := c) HBK.out HT8.out.kept HNE.out
   obtain ⟨fx0, fx1, fx2, fx3, fx4⟩ := nb HX_x HB8
   obtain ⟨fy0, fy1, fy2, fy3, fy4⟩ := nb HX_y HB8
   obtain ⟨fz0, fz1, fz2, fz3, fz4⟩ := nb HX_z HB8
   obtain ⟨fv0, fv1, fv2, fv3, fv4⟩ := nb HX_v HB8
   go_wp2
   go_end0
   exact ⟨rfl, cast_wr (by rw [show (⟨#[59, 10]⟩ : ByteArray) = (⟨#[59]⟩ : ByteArray) ++ (⟨#[10]⟩ : ByteArray) from rfl, show (⟨#[66, 69, 71, 73, 78, 10]⟩ : ByteArray) = (⟨#[66, 69, 71, 73, 78]⟩ : ByteArray) ++ (⟨#[10]⟩ : ByteArray) from rfl]; simp only [padT, nil_ba, ba_nil, ba_assoc]) HR8.out, HOUT.out.trans HT8.out⟩
 ·skip
  by_cases hy0 : y.kind ≠ 0
  ·skip
   rw [if_pos (Or.inr hy0)] at hsz ⊢
   obtain ⟨JJ, hJJ⟩ : ∃ JJ, JJ = joinB ⟨#[59, 32]⟩ (x.subs.map paramT) := ⟨_, rfl⟩
   rw [← hJJ] at hsz ⊢
   have HJJ := hid hJJ
   clear hJJ
   rw [if_pos hy0] at hsz ⊢
   unfold maxW at hsz
   simp only [ByteArray.size_append, ba_size, List.size_toArray, List.length_cons, List.length_nil, padT_zero] at hsz
   have hxb : decide ((0 : Int) < (x.subs.length : Int)) = false := decide_eq_false (by omega)
   have hxc : decide (0 < x.subs.length) = false := decide_eq_false (by omega)
   have hyb : (y.kind != 0) = true := by simp [hy0]
   have HD_y := hid (HRES.out hy0)
   clear hx0 hy0
   obtain ⟨Ty, hT_y⟩ : ∃ T, T = nameT y := ⟨_, rfl⟩
   rw [← hT_y] at hsz ⊢
   have HT_y := hid hT_y
   clear hT_y
   have HL := hid hl
   clear hl
   have HX_x := hid hx_x
   have HK_x := hid hk_x
   clear hx_x hk_x
   have HX_y := hid hx_y
   have HK_y := hid hk_y
   clear hx_y hk_y
   have HX_z := hid hx_z
   have HK_z := hid hk_z
   clear hx_z hk_z
   have HX_v := hid hx_v
   have HK_v := hid hk_v
   clear hx_v hk_v
   have HKX := hid (hkx)
   have HKZ := hid (hkz)
   clear hk
   have HB0 := hid (hb0.alloc hb0.size (.cells #[.int .i64 k, .string s, .int .i64 num, .int .i64 pos, .slice (some ⟨b, o, none⟩) 4 c] 24))
   have HR0 := hid (hr.below (bBw w (.cells #[.int .i64 k, .string s, .int .i64 num, .int .i64 pos, .slice (some ⟨b, o, none⟩) 4 c] 24)))
   have HT0 := hid (Wrote.refl w0.heap.size wb (w.alloc (.cells #[.int .i64 k, .string s, .int .i64 num, .int .i64 pos, .slice (some ⟨b, o, none⟩) 4 c] 24)))
   have HOUT := hid ((Wrote.refl w0.heap.size wb w).then hb0.size (bBw w (.cells #[.int .i64 k, .string s, .int .i64 num, .int .i64 pos, .slice (some ⟨b, o, none⟩) 4 c] 24)))
   have HBK := hid (heap_new w (.cells #[.int .i64 k, .string s, .int .i64 num, .int .i64 pos, .slice (some ⟨b, o, none⟩) 4 c] 24))
   have HNE := hid (Nat.ne_of_gt hr.lt)
   have HGE := hid hr.ge
   clear hb0 hr
   clear hkx hkz
   obtain ⟨fx0, fx1, fx2, fx3, fx4⟩ := nb HX_x HB0
   obtain ⟨fy0, fy1, fy2, fy3, fy4⟩ := nb HX_y HB0
   obtain ⟨fz0, fz1, fz2, fz3, fz4⟩ := nb HX_z HB0
   obtain ⟨fv0, fv1, fv2, fv3, fv4⟩ := nb HX_v HB0
   have hdeep := HR0.out.deep_at
   have hfz := HR0.out.unfrozen
   go_enter Tryz.func72, Tryz.ntmps72
   go_wp2
   generalize hW0 : w.alloc (.cells #[.int .i64 k, .string s, .int .i64 num, .int .i64 pos, .slice (some ⟨b, o, none⟩) 4 c] 24) = W0 at *
   clear hW0
   clear fx0 fx1 fx2 fx3 fx4 fy0 fy1 fy2 fy3 fy4 fz0 fz1 fz2 fz3 fz4 fv0 fv1 fv2 fv3 fv4 hdeep hfz
   obtain ⟨x0, x1, x2, x3, x4⟩ := bKp (n := ⟨k, s, num, pos, [x, y, z, v]⟩) (A := (some ⟨b, o, none⟩)) (c := c) HBK.out HT0.out.kept HNE.out
   obtain ⟨fx0, fx1, fx2, fx3, fx4⟩ := nb HX_x HB0
   obtain ⟨fy0, fy1, fy2, fy3, fy4⟩ := nb HX_y HB0
   obtain ⟨fz0, fz1, fz2, fz3, fz4⟩ := nb HX_z HB0
   obtain ⟨fv0, fv1, fv2, fv3, fv4⟩ := nb HX_v HB0
   have r_0 := cRg x0
   have r_1 := cRg x1
   have r_2 := cRg x2
   have r_3 := cRg x3
   have r_4 := cRg x4
   have r_5 := cRg fx0
   have r_6 := cRg fx1
   have r_7 := cRg fx2
   have r_8 := cRg fx3
   have r_9 := cRg fx4
   have r_10 := cRg fy0
   have r_11 := cRg fy1
   have r_12 := cRg fy2
   have r_13 := cRg fy3
   have r_14 := cRg fy4
   have r_15 := cRg fz0
   have r_16 := cRg fz1
   have r_17 := cRg fz2
   have r_18 := cRg fz3
   have r_19 := cRg fz4
   have r_20 := cRg fv0
   have r_21 := cRg fv1
   have r_22 := cRg fv2
   have r_23 := cRg fv3
   have r_24 := cRg fv4
   have cP0 : ∀ w', Below W0.heap.size W0 w' → Calls Tryz.prog 67 #[.agg #[.int .i64 k, .string s, .int .i64 num, .int .i64 pos, .slice (some ⟨b, o, none⟩) 4 c]] w' fun e w'' => e = .returned (.string Tn) ∧ Below w'.heap.size w' w'' := fun w' hb => by rw [HT_n.out]; exact star_any ⟨k, s, num, pos, [x, y, z, v]⟩ (some ⟨b, o, none⟩) c _
   have cQ0 : ∀ dd os, Calls Tryz.prog 67 #[.agg #[.int .i64 k, .string s, .int .i64 num, .int .i64 pos, .slice (some ⟨b, o, none⟩) 4 c]] (Go.Sort.grow (redrawn W0 dd) os) fun e w'' => e = .returned (.string Tn) ∧ ∃ p : Regrown, w'' = Go.Sort.grow (redrawn W0 p.d) p.os := fun dd os => Calls.regrown_of (cP0 _ (below_regrown _ _ _))
   clear cP0
   refine wp_region_quiet_below (by kernel_rfl) (by kernel_rfl) ?_
   repeat (go_big_quiet_step (first | with_reducible exact cQ0 _ _))
   refine wpQuiet_nil ?_
   intro _ hw'
   obtain ⟨⟨dq, osq⟩, hw''⟩ := hw'
   subst hw''
   clear cQ0 r_0 r_1 r_2 r_3 r_4 r_5 r_6 r_7 r_8 r_9 r_10 r_11 r_12 r_13 r_14 r_15 r_16 r_17 r_18 r_19 r_20 r_21 r_22 r_23 r_24
   have HB1 := hid (bTh HB0.out (below_regrown W0 dq osq))
   have HT1 := hid (HT0.out.then HB0.out.size (below_regrown W0 dq osq))
   have HR1 := hid (HR0.out.below (below_regrown W0 dq osq))
   have HQ1 := hid (below_regrown W0 dq osq)
   generalize hG : Go.Sort.grow (redrawn W0 dq) osq = V1 at *
   clear hG
   clear x0 x1 x2 x3 x4 fx0 fx1 fx2 fx3 fx4 fy0 fy1 fy2 fy3 fy4 fz0 fz1 fz2 fz3 fz4 fv0 fv1 fv2 fv3 fv4
   obtain ⟨x0, x1, x2, x3, x4⟩ := bKp (n := ⟨k, s, num, pos, [x, y, z, v]⟩) (A := (some ⟨b, o, none⟩)) (c := c) HBK.out HT1.out.kept HNE.out
   obtain ⟨fx0, fx1, fx2, fx3, fx4⟩ := nb HX_x HB1
   obtain ⟨fy0, fy1, fy2, fy3, fy4⟩ := nb HX_y HB1
   obtain ⟨fz0, fz1, fz2, fz3, fz4⟩ := nb HX_z HB1
   obtain ⟨fv0, fv1, fv2, fv3, fv4⟩ := nb HX_v HB1
   go_wp2_with fail
   have hct := join_any _ (d + 1) okV paramT (say_param d) x.subs Ax cx ⟨#[59, 32]⟩ V1 (HL.out.below HB1.out) (HKX.out.below HB1.out) HPAR.out (by rw [← HJJ.out]; unfold maxT; omega) (by simp [ba_size])
   with_reducible refine hct.mono ?_
   clear hct
   rintro e V2 ⟨rfl, hb⟩
   rw [← HJJ.out]
   have HB2 := hid (bTh HB1.out hb)
   have HT2 := hid (HT1.out.then HB1.out.size hb)
   have HR2 := hid (HR1.out.below hb)
   clear hb
   clear x0 x1 x2 x3 x4 fx0 fx1 fx2 fx3 fx4 fy0 fy1 fy2 fy3 fy4 fz0 fz1 fz2 fz3 fz4 fv0 fv1 fv2 fv3 fv4
   obtain ⟨x0, x1, x2, x3, x4⟩ := bKp (n := ⟨k, s, num, pos, [x, y, z, v]⟩) (A := (some ⟨b, o, none⟩)) (c := c) HBK.out HT2.out.kept HNE.out
   obtain ⟨fx0, fx1, fx2, fx3, fx4⟩ := nb HX_x HB2
   obtain ⟨fy0, fy1, fy2, fy3, fy4⟩ := nb HX_y HB2
   obtain ⟨fz0, fz1, fz2, fz3, fz4⟩ := nb HX_z HB2
   obtain ⟨fv0, fv1, fv2, fv3, fv4⟩ := nb HX_v HB2
   go_wp2_with fail
   generalize hV : V2.alloc (.cells #[.int .i64 y.kind, .string y.name, .int .i64 y.num, .int .i64 y.pos, .slice Ay y.subs.length cy] 24) = V3 at *
   have HB3 := hid (show Below w0.heap.size w0 V3 by rw [← hV]; exact HB2.out.alloc HB2.out.size _)
   have HT3 := hid (show Wrote w0.heap.size wb W0 V3 by rw [← hV]; exact HT2.out.then HB2.out.size (bBw _ _))
   have HR3 := hid (show IsWr w0.heap.size wb (S) (0 : Nat) V3 by rw [← hV]; exact HR2.out.below (bBw _ _))
   clear hV
   clear x0 x1 x2 x3 x4 fx0 fx1 fx2 fx3 fx4 fy0 fy1 fy2 fy3 fy4 fz0 fz1 fz2 fz3 fz4 fv0 fv1 fv2 fv3 fv4
   obtain ⟨x0, x1, x2, x3, x4⟩ := bKp (n := ⟨k, s, num, pos, [x, y, z, v]⟩) (A := (some ⟨b, o, none⟩)) (c := c) HBK.out HT3.out.kept HNE.out
   obtain ⟨fx0, fx1, fx2, fx3, fx4⟩ := nb HX_x HB3
   obtain ⟨fy0, fy1, fy2, fy3, fy4⟩ := nb HX_y HB3
   obtain ⟨fz0, fz1, fz2, fz3, fz4⟩ := nb HX_z HB3
   obtain ⟨fv0, fv1, fv2, fv3, fv4⟩ := nb HX_v HB3
   have hct := typeName_any _ y Ay cy V3 (kb HK_y HB3) HD_y.out (by rw [← HT_y.out]; unfold maxT; omega)
   with_reducible refine hct.mono ?_
   clear hct
   rintro e V4 ⟨rfl, hb⟩
   rw [← HT_y.out]
   have HB4 := hid (bTh HB3.out hb)
   have HT4 := hid (HT3.out.then HB3.out.size hb)
   have HR4 := hid (HR3.out.below hb)
   clear hb
   clear x0 x1 x2 x3 x4 fx0 fx1 fx2 fx3 fx4 fy0 fy1 fy2 fy3 fy4 fz0 fz1 fz2 fz3 fz4 fv0 fv1 fv2 fv3 fv4
   obtain ⟨x0, x1, x2, x3, x4⟩ := bKp (n := ⟨k, s, num, pos, [x, y, z, v]⟩) (A := (some ⟨b, o, none⟩)) (c := c) HBK.out HT4.out.kept HNE.out
   obtain ⟨fx0, fx1, fx2, fx3, fx4⟩ := nb HX_x HB4
   obtain ⟨fy0, fy1, fy2, fy3, fy4⟩ := nb HX_y HB4
   obtain ⟨fz0, fz1, fz2, fz3, fz4⟩ := nb HX_z HB4
   obtain ⟨fv0, fv1, fv2, fv3, fv4⟩ := nb HX_v HB4
   go_wp2_with fail
   have hct := line_any w0.heap.size wb _ ((⟨#[80, 82, 79, 67, 69, 68, 85, 82, 69, 32]⟩ : ByteArray) ++ s ++ Tn ++ (⟨#[40]⟩ ++ JJ ++ ⟨#[41]⟩) ++ (⟨#[58, 32]⟩ ++ Ty) ++ ⟨#[59]⟩) 0 V4 HR4.out
   replace hct := hct (by omega)
   replace hct := hct (by (try simp only [ByteArray.size_append, ba_size, List.size_toArray, List.length_cons, List.length_nil, padT_zero]); omega)
   replace hct := hct HB4.out.size
   with_reducible refine hct.mono ?_
   clear hct
   rintro e V5 ⟨rfl, hw, ht⟩
   have HB5 := hid (HB4.out.trans ht.below)
   have HT5 := hid (HT4.out.trans ht)
   have HR5 := hid hw
   clear hw ht
   clear x0 x1 x2 x3 x4 fx0 fx1 fx2 fx3 fx4 fy0 fy1 fy2 fy3 fy4 fz0 fz1 fz2 fz3 fz4 fv0 fv1 fv2 fv3 fv4
   obtain ⟨x0, x1, x2, x3, x4⟩ := bKp (n := ⟨k, s, num, pos, [x, y, z, v]⟩) (A := (some ⟨b, o, none⟩)) (c := c) HBK.out HT5.out.kept HNE.out
   obtain ⟨fx0, fx1, fx2, fx3, fx4⟩ := nb HX_x HB5
   obtain ⟨fy0, fy1, fy2, fy3, fy4⟩ := nb HX_y HB5
   obtain ⟨fz0, fz1, fz2, fz3, fz4⟩ := nb HX_z HB5
   obtain ⟨fv0, fv1, fv2, fv3, fv4⟩ := nb HX_v HB5
   go_wp2_with fail
   have hct := section_any _ (d + 1) okV varT (say_var d) z.subs Az cz (⟨#[86, 65, 82]⟩ : ByteArray) w0 V5 wb _ 0 HL.out HKZ.out HB5.out HR5.out
   replace hct := hct HVAR.out
   replace hct := hct (by rw [← HT_z.out]; unfold maxW; (try simp only [ByteArray.size_append, ba_size, List.size_toArray, List.length_cons, List.length_nil, padT_zero]); omega)
   replace hct := hct (by omega)
   with_reducible refine hct.mono ?_
   clear hct
   rintro e V6 ⟨rfl, hw, ht⟩
   have HB6 := hid (HB5.out.trans ht.below)
   have HT6 := hid (HT5.out.trans ht)
   have HR6 := hid hw
   clear hw ht
   clear x0 x1 x2 x3 x4 fx0 fx1 fx2 fx3 fx4 fy0 fy1 fy2 fy3 fy4 fz0 fz1 fz2 fz3 fz4 fv0 fv1 fv2 fv3 fv4
   obtain ⟨x0, x1, x2, x3, x4⟩ := bKp (n := ⟨k, s, num, pos, [x, y, z, v]⟩) (A := (some ⟨b, o, none⟩)) (c := c) HBK.out HT6.out.kept HNE.out
   obtain ⟨fx0, fx1, fx2, fx3, fx4⟩ := nb HX_x HB6
   obtain ⟨fy0, fy1, fy2, fy3, fy4⟩ := nb HX_y HB6
   obtain ⟨fz0, fz1, fz2, fz3, fz4⟩ := nb HX_z HB6
   obtain ⟨fv0, fv1, fv2, fv3, fv4⟩ := nb HX_v HB6
   have hr := HR6.out
   try rw [show 0 + 1 = 1 from rfl] at hr
   rw [← HT_z.out] at hr
   have HR6' := hid hr
   clear hr HR6
   have HR6 := HR6'
   clear HR6'
   go_wp2_with fail
   have hct := line_any w0.heap.size wb _ ((⟨#[66, 69, 71, 73, 78]⟩ : ByteArray)) 0 V6 HR6.out
   replace hct := hct (by omega)
   replace hct := hct (by (try simp only [ByteArray.size_append, ba_size, List.size_toArray, List.length_cons, List.length_nil, padT_zero]); omega)
   replace hct := hct HB6.out.size
   with_reducible refine hct.mono ?_
   clear hct
   rintro e V7 ⟨rfl, hw, ht⟩
   have HB7 := hid (HB6.out.trans ht.below)
   have HT7 := hid (HT6.out.trans ht)
   have HR7 := hid hw
   clear hw ht
   clear x0 x1 x2 x3 x4 fx0 fx1 fx2 fx3 fx4 fy0 fy1 fy2 fy3 fy4 fz0 fz1 fz2 fz3 fz4 fv0 fv1 fv2 fv3 fv4
   obtain ⟨x0, x1, x2, x3, x4⟩ := bKp (n := ⟨k, s, num, pos, [x, y, z, v]⟩) (A := (some ⟨b, o, none⟩)) (c := c) HBK.out HT7.out.kept HNE.out
   obtain ⟨fx0, fx1, fx2, fx3, fx4⟩ := nb HX_x HB7
   obtain ⟨fy0, fy1, fy2, fy3, fy4⟩ := nb HX_y HB7
   obtain ⟨fz0, fz1, fz2, fz3, fz4⟩ := nb HX_z HB7
   obtain ⟨fv0, fv1, fv2, fv3, fv4⟩ := nb HX_v HB7
   go_wp2_with fail
   have hct := hL v Av cv w0 V7 wb _ 0 HL.out HK_v.out HB7.out HR7.out
   replace hct := hct HD_v.out
   replace hct := hct (by rw [show 0 + 1 = 1 from rfl, ← HT_v.out]; unfold maxW; (try simp only [ByteArray.size_append, ba_size, List.size_toArray, List.length_cons, List.length_nil, padT_zero]); omega)
   replace hct := hct (by omega)
   with_reducible refine hct.mono ?_
   clear hct
   rintro e V8 ⟨rfl, hw, ht⟩
   have HB8 := hid (HB7.out.trans ht.below)
   have HT8 := hid (HT7.out.trans ht)
   have HR8 := hid hw
   clear hw ht
   clear x0 x1 x2 x3 x4 fx0 fx1 fx2 fx3 fx4 fy0 fy1 fy2 fy3 fy4 fz0 fz1 fz2 fz3 fz4 fv0 fv1 fv2 fv3 fv4
   obtain ⟨x0, x1, x2, x3, x4⟩ := bKp (n := ⟨k, s, num, pos, [x, y, z, v]⟩) (A := (some ⟨b, o, none⟩)) (c := c) HBK.out HT8.out.kept HNE.out
   obtain ⟨fx0, fx1, fx2, fx3, fx4⟩ := nb HX_x HB8
   obtain ⟨fy0, fy1, fy2, fy3, fy4⟩ := nb HX_y HB8
   obtain ⟨fz0, fz1, fz2, fz3, fz4⟩ := nb HX_z HB8
   obtain ⟨fv0, fv1, fv2, fv3, fv4⟩ := nb HX_v HB8
   have hr := HR8.out
   try rw [show 0 + 1 = 1 from rfl] at hr
   rw [← HT_v.out] at hr
   have HR8' := hid hr
   clear hr HR8
   have HR8 := HR8'
   clear HR8'
   go_wp2_with fail
   have hct := line_any w0.heap.size wb _ ((⟨#[69, 78, 68, 32]⟩ : ByteArray) ++ s ++ (⟨#[59]⟩ : ByteArray)) 0 V8 HR8.out
   replace hct := hct (by omega)
   replace hct := hct (by (try simp only [ByteArray.size_append, ba_size, List.size_toArray, List.length_cons, List.length_nil, padT_zero]); omega)
   replace hct := hct HB8.out.size
   with_reducible refine hct.mono ?_
   clear hct
   rintro e V9 ⟨rfl, hw, ht⟩
   have HB9 := hid (HB8.out.trans ht.below)
   have HT9 := hid (HT8.out.trans ht)
   have HR9 := hid hw
   clear hw ht
   clear x0 x1 x2 x3 x4 fx0 fx1 fx2 fx3 fx4 fy0 fy1 fy2 fy3 fy4 fz0 fz1 fz2 fz3 fz4 fv0 fv1 fv2 fv3 fv4
   obtain ⟨x0, x1, x2, x3, x4⟩ := bKp (n := ⟨k, s, num, pos, [x, y, z, v]⟩) (A := (some ⟨b, o, none⟩)) (c := c) HBK.out HT9.out.kept HNE.out
   obtain ⟨fx0, fx1, fx2, fx3, fx4⟩ := nb HX_x HB9
   obtain ⟨fy0, fy1, fy2, fy3, fy4⟩ := nb HX_y HB9
   obtain ⟨fz0, fz1, fz2, fz3, fz4⟩ := nb HX_z HB9
   obtain ⟨fv0, fv1, fv2, fv3, fv4⟩ := nb HX_v HB9
   go_wp2
   go_end0
   exact ⟨rfl, cast_wr (by rw [show (⟨#[59, 10]⟩ : ByteArray) = (⟨#[59]⟩ : ByteArray) ++ (⟨#[10]⟩ : ByteArray) from rfl, show (⟨#[66, 69, 71, 73, 78, 10]⟩ : ByteArray) = (⟨#[66, 69, 71, 73, 78]⟩ : ByteArray) ++ (⟨#[10]⟩ : ByteArray) from rfl]; simp only [padT, nil_ba, ba_nil, ba_assoc]) HR9.out, HOUT.out.trans HT9.out⟩
  ·skip
   have hy0' : y.kind = 0 := Decidable.not_not.1 hy0
   clear hy0
   have hy0 := hy0'
   rw [if_neg (by intro h; rcases h with h | h; exact hx0 h; exact h hy0)] at hsz ⊢
   rw [if_neg (by simp [hy0])] at hsz ⊢
   unfold maxW at hsz
   simp only [ByteArray.size_append, ba_size, List.size_toArray, List.length_cons, List.length_nil, padT_zero] at hsz
   have hxb : decide ((0 : Int) < (x.subs.length : Int)) = false := decide_eq_false (by omega)
   have hxc : decide (0 < x.subs.length) = false := decide_eq_false (by omega)
   have hyb : (y.kind != 0) = false := by simp [hy0]
   clear hx0 hy0
   have HL := hid hl
   clear hl
   have HX_x := hid hx_x
   have HK_x := hid hk_x
   clear hx_x hk_x
   have HX_y := hid hx_y
   have HK_y := hid hk_y
   clear hx_y hk_y
   have HX_z := hid hx_z
   have HK_z := hid hk_z
   clear hx_z hk_z
   have HX_v := hid hx_v
   have HK_v := hid hk_v
   clear hx_v hk_v
   have HKX := hid (hkx)
   have HKZ := hid (hkz)
   clear hk
   have HB0 := hid (hb0.alloc hb0.size (.cells #[.int .i64 k, .string s, .int .i64 num, .int .i64 pos, .slice (some ⟨b, o, none⟩) 4 c] 24))
   have HR0 := hid (hr.below (bBw w (.cells #[.int .i64 k, .string s, .int .i64 num, .int .i64 pos, .slice (some ⟨b, o, none⟩) 4 c] 24)))
   have HT0 := hid (Wrote.refl w0.heap.size wb (w.alloc (.cells #[.int .i64 k, .string s, .int .i64 num, .int .i64 pos, .slice (some ⟨b, o, none⟩) 4 c] 24)))
   have HOUT := hid ((Wrote.refl w0.heap.size wb w).then hb0.size (bBw w (.cells #[.int .i64 k, .string s, .int .i64 num, .int .i64 pos, .slice (some ⟨b, o, none⟩) 4 c] 24)))
   have HBK := hid (heap_new w (.cells #[.int .i64 k, .string s, .int .i64 num, .int .i64 pos, .slice (some ⟨b, o, none⟩) 4 c] 24))
   have HNE := hid (Nat.ne_of_gt hr.lt)
   have HGE := hid hr.ge
   clear hb0 hr
   clear hkx hkz
   obtain ⟨fx0, fx1, fx2, fx3, fx4⟩ := nb HX_x HB0
   obtain ⟨fy0, fy1, fy2, fy3, fy4⟩ := nb HX_y HB0
   obtain ⟨fz0, fz1, fz2, fz3, fz4⟩ := nb HX_z HB0
   obtain ⟨fv0, fv1, fv2, fv3, fv4⟩ := nb HX_v HB0
   have hdeep := HR0.out.deep_at
   have hfz := HR0.out.unfrozen
   go_enter Tryz.func72, Tryz.ntmps72
   go_wp2
   generalize hW0 : w.alloc (.cells #[.int .i64 k, .string s, .int .i64 num, .int .i64 pos, .slice (some ⟨b, o, none⟩) 4 c] 24) = W0 at *
   clear hW0
   clear fx0 fx1 fx2 fx3 fx4 fy0 fy1 fy2 fy3 fy4 fz0 fz1 fz2 fz3 fz4 fv0 fv1 fv2 fv3 fv4 hdeep hfz
   obtain ⟨x0, x1, x2, x3, x4⟩ := bKp (n := ⟨k, s, num, pos, [x, y, z, v]⟩) (A := (some ⟨b, o, none⟩)) (c := c) HBK.out HT0.out.kept HNE.out
   obtain ⟨fx0, fx1, fx2, fx3, fx4⟩ := nb HX_x HB0
   obtain ⟨fy0, fy1, fy2, fy3, fy4⟩ := nb HX_y HB0
   obtain ⟨fz0, fz1, fz2, fz3, fz4⟩ := nb HX_z HB0
   obtain ⟨fv0, fv1, fv2, fv3, fv4⟩ := nb HX_v HB0
   have r_0 := cRg x0
   have r_1 := cRg x1
   have r_2 := cRg x2
   have r_3 := cRg x3
   have r_4 := cRg x4
   have r_5 := cRg fx0
   have r_6 := cRg fx1
   have r_7 := cRg fx2
   have r_8 := cRg fx3
   have r_9 := cRg fx4
   have r_10 := cRg fy0
   have r_11 := cRg fy1
   have r_12 := cRg fy2
   have r_13 := cRg fy3
   have r_14 := cRg fy4
   have r_15 := cRg fz0
   have r_16 := cRg fz1
   have r_17 := cRg fz2
   have r_18 := cRg fz3
   have r_19 := cRg fz4
   have r_20 := cRg fv0
   have r_21 := cRg fv1
   have r_22 := cRg fv2
   have r_23 := cRg fv3
   have r_24 := cRg fv4
   have cP0 : ∀ w', Below W0.heap.size W0 w' → Calls Tryz.prog 67 #[.agg #[.int .i64 k, .string s, .int .i64 num, .int .i64 pos, .slice (some ⟨b, o, none⟩) 4 c]] w' fun e w'' => e = .returned (.string Tn) ∧ Below w'.heap.size w' w'' := fun w' hb => by rw [HT_n.out]; exact star_any ⟨k, s, num, pos, [x, y, z, v]⟩ (some ⟨b, o, none⟩) c _
   have cQ0 : ∀ dd os, Calls Tryz.prog 67 #[.agg #[.int .i64 k, .string s, .int .i64 num, .int .i64 pos, .slice (some ⟨b, o, none⟩) 4 c]] (Go.Sort.grow (redrawn W0 dd) os) fun e w'' => e = .returned (.string Tn) ∧ ∃ p : Regrown, w'' = Go.Sort.grow (redrawn W0 p.d) p.os := fun dd os => Calls.regrown_of (cP0 _ (below_regrown _ _ _))
   clear cP0
   refine wp_region_quiet_below (by kernel_rfl) (by kernel_rfl) ?_
   repeat (go_big_quiet_step (first | with_reducible exact cQ0 _ _))
   refine wpQuiet_nil ?_
   intro _ hw'
   obtain ⟨⟨dq, osq⟩, hw''⟩ := hw'
   subst hw''
   clear cQ0 r_0 r_1 r_2 r_3 r_4 r_5 r_6 r_7 r_8 r_9 r_10 r_11 r_12 r_13 r_14 r_15 r_16 r_17 r_18 r_19 r_20 r_21 r_22 r_23 r_24
   have HB1 := hid (bTh HB0.out (below_regrown W0 dq osq))
   have HT1 := hid (HT0.out.then HB0.out.size (below_regrown W0 dq osq))
   have HR1 := hid (HR0.out.below (below_regrown W0 dq osq))
   have HQ1 := hid (below_regrown W0 dq osq)
   generalize hG : Go.Sort.grow (redrawn W0 dq) osq = V1 at *
   clear hG
   clear x0 x1 x2 x3 x4 fx0 fx1 fx2 fx3 fx4 fy0 fy1 fy2 fy3 fy4 fz0 fz1 fz2 fz3 fz4 fv0 fv1 fv2 fv3 fv4
   obtain ⟨x0, x1, x2, x3, x4⟩ := bKp (n := ⟨k, s, num, pos, [x, y, z, v]⟩) (A := (some ⟨b, o, none⟩)) (c := c) HBK.out HT1.out.kept HNE.out
   obtain ⟨fx0, fx1, fx2, fx3, fx4⟩ := nb HX_x HB1
   obtain ⟨fy0, fy1, fy2, fy3, fy4⟩ := nb HX_y HB1
   obtain ⟨fz0, fz1, fz2, fz3, fz4⟩ := nb HX_z HB1
   obtain ⟨fv0, fv1, fv2, fv3, fv4⟩ := nb HX_v HB1
   go_wp2_with fail
   generalize hV : V1.alloc (.cells #[.int .i64 0, .string y.name, .int .i64 y.num, .int .i64 y.pos, .slice Ay y.subs.length cy] 24) = V2 at *
   have HB2 := hid (show Below w0.heap.size w0 V2 by rw [← hV]; exact HB1.out.alloc HB1.out.size _)
   have HT2 := hid (show Wrote w0.heap.size wb W0 V2 by rw [← hV]; exact HT1.out.then HB1.out.size (bBw _ _))
   have HR2 := hid (show IsWr w0.heap.size wb (S) (0 : Nat) V2 by rw [← hV]; exact HR1.out.below (bBw _ _))
   clear hV
   clear x0 x1 x2 x3 x4 fx0 fx1 fx2 fx3 fx4 fy0 fy1 fy2 fy3 fy4 fz0 fz1 fz2 fz3 fz4 fv0 fv1 fv2 fv3 fv4
   obtain ⟨x0, x1, x2, x3, x4⟩ := bKp (n := ⟨k, s, num, pos, [x, y, z, v]⟩) (A := (some ⟨b, o, none⟩)) (c := c) HBK.out HT2.out.kept HNE.out
   obtain ⟨fx0, fx1, fx2, fx3, fx4⟩ := nb HX_x HB2
   obtain ⟨fy0, fy1, fy2, fy3, fy4⟩ := nb HX_y HB2
   obtain ⟨fz0, fz1, fz2, fz3, fz4⟩ := nb HX_z HB2
   obtain ⟨fv0, fv1, fv2, fv3, fv4⟩ := nb HX_v HB2
   have hct := line_any w0.heap.size wb _ ((⟨#[80, 82, 79, 67, 69, 68, 85, 82, 69, 32]⟩ : ByteArray) ++ s ++ Tn ++ ⟨#[59]⟩) 0 V2 HR2.out
   replace hct := hct (by omega)
   replace hct := hct (by (try simp only [ByteArray.size_append, ba_size, List.size_toArray, List.length_cons, List.length_nil, padT_zero]); omega)
   replace hct := hct HB2.out.size
   with_reducible refine hct.mono ?_
   clear hct
   rintro e V3 ⟨rfl, hw, ht⟩
   have HB3 := hid (HB2.out.trans ht.below)
   have HT3 := hid (HT2.out.trans ht)
   have HR3 := hid hw
   clear hw ht
   clear x0 x1 x2 x3 x4 fx0 fx1 fx2 fx3 fx4 fy0 fy1 fy2 fy3 fy4 fz0 fz1 fz2 fz3 fz4 fv0 fv1 fv2 fv3 fv4
   obtain ⟨x0, x1, x2, x3, x4⟩ := bKp (n := ⟨k, s, num, pos, [x, y, z, v]⟩) (A := (some ⟨b, o, none⟩)) (c := c) HBK.out HT3.out.kept HNE.out
   obtain ⟨fx0, fx1, fx2, fx3, fx4⟩ := nb HX_x HB3
   obtain ⟨fy0, fy1, fy2, fy3, fy4⟩ := nb HX_y HB3
   obtain ⟨fz0, fz1, fz2, fz3, fz4⟩ := nb HX_z HB3
   obtain ⟨fv0, fv1, fv2, fv3, fv4⟩ := nb HX_v HB3
   go_wp2_with fail
   have hct := section_any _ (d + 1) okV varT (say_var d) z.subs Az cz (⟨#[86, 65, 82]⟩ : ByteArray) w0 V3 wb _ 0 HL.out HKZ.out HB3.out HR3.out
   replace hct := hct HVAR.out
   replace hct := hct (by rw [← HT_z.out]; unfold maxW; (try simp only [ByteArray.size_append, ba_size, List.size_toArray, List.length_cons, List.length_nil, padT_zero]); omega)
   replace hct := hct (by omega)
   with_reducible refine hct.mono ?_
   clear hct
   rintro e V4 ⟨rfl, hw, ht⟩
   have HB4 := hid (HB3.out.trans ht.below)
   have HT4 := hid (HT3.out.trans ht)
   have HR4 := hid hw
   clear hw ht
   clear x0 x1 x2 x3 x4 fx0 fx1 fx2 fx3 fx4 fy0 fy1 fy2 fy3 fy4 fz0 fz1 fz2 fz3 fz4 fv0 fv1 fv2 fv3 fv4
   obtain ⟨x0, x1, x2, x3, x4⟩ := bKp (n := ⟨k, s, num, pos, [x, y, z, v]⟩) (A := (some ⟨b, o, none⟩)) (c := c) HBK.out HT4.out.kept HNE.out
   obtain ⟨fx0, fx1, fx2, fx3, fx4⟩ := nb HX_x HB4
   obtain ⟨fy0, fy1, fy2, fy3, fy4⟩ := nb HX_y HB4
   obtain ⟨fz0, fz1, fz2, fz3, fz4⟩ := nb HX_z HB4
   obtain ⟨fv0, fv1, fv2, fv3, fv4⟩ := nb HX_v HB4
   have hr := HR4.out
   try rw [show 0 + 1 = 1 from rfl] at hr
   rw [← HT_z.out] at hr
   have HR4' := hid hr
   clear hr HR4
   have HR4 := HR4'
   clear HR4'
   go_wp2_with fail
   have hct := line_any w0.heap.size wb _ ((⟨#[66, 69, 71, 73, 78]⟩ : ByteArray)) 0 V4 HR4.out
   replace hct := hct (by omega)
   replace hct := hct (by (try simp only [ByteArray.size_append, ba_size, List.size_toArray, List.length_cons, List.length_nil, padT_zero]); omega)
   replace hct := hct HB4.out.size
   with_reducible refine hct.mono ?_
   clear hct
   rintro e V5 ⟨rfl, hw, ht⟩
   have HB5 := hid (HB4.out.trans ht.below)
   have HT5 := hid (HT4.out.trans ht)
   have HR5 := hid hw
   clear hw ht
   clear x0 x1 x2 x3 x4 fx0 fx1 fx2 fx3 fx4 fy0 fy1 fy2 fy3 fy4 fz0 fz1 fz2 fz3 fz4 fv0 fv1 fv2 fv3 fv4
   obtain ⟨x0, x1, x2, x3, x4⟩ := bKp (n := ⟨k, s, num, pos, [x, y, z, v]⟩) (A := (some ⟨b, o, none⟩)) (c := c) HBK.out HT5.out.kept HNE.out
   obtain ⟨fx0, fx1, fx2, fx3, fx4⟩ := nb HX_x HB5
   obtain ⟨fy0, fy1, fy2, fy3, fy4⟩ := nb HX_y HB5
   obtain ⟨fz0, fz1, fz2, fz3, fz4⟩ := nb HX_z HB5
   obtain ⟨fv0, fv1, fv2, fv3, fv4⟩ := nb HX_v HB5
   go_wp2_with fail
   have hct := hL v Av cv w0 V5 wb _ 0 HL.out HK_v.out HB5.out HR5.out
   replace hct := hct HD_v.out
   replace hct := hct (by rw [show 0 + 1 = 1 from rfl, ← HT_v.out]; unfold maxW; (try simp only [ByteArray.size_append, ba_size, List.size_toArray, List.length_cons, List.length_nil, padT_zero]); omega)
   replace hct := hct (by omega)
   with_reducible refine hct.mono ?_
   clear hct
   rintro e V6 ⟨rfl, hw, ht⟩
   have HB6 := hid (HB5.out.trans ht.below)
   have HT6 := hid (HT5.out.trans ht)
   have HR6 := hid hw
   clear hw ht
   clear x0 x1 x2 x3 x4 fx0 fx1 fx2 fx3 fx4 fy0 fy1 fy2 fy3 fy4 fz0 fz1 fz2 fz3 fz4 fv0 fv1 fv2 fv3 fv4
   obtain ⟨x0, x1, x2, x3, x4⟩ := bKp (n := ⟨k, s, num, pos, [x, y, z, v]⟩) (A := (some ⟨b, o, none⟩)) (c := c) HBK.out HT6.out.kept HNE.out
   obtain ⟨fx0, fx1, fx2, fx3, fx4⟩ := nb HX_x HB6
   obtain ⟨fy0, fy1, fy2, fy3, fy4⟩ := nb HX_y HB6
   obtain ⟨fz0, fz1, fz2, fz3, fz4⟩ := nb HX_z HB6
   obtain ⟨fv0, fv1, fv2, fv3, fv4⟩ := nb HX_v HB6
   have hr := HR6.out
   try rw [show 0 + 1 = 1 from rfl] at hr
   rw [← HT_v.out] at hr
   have HR6' := hid hr
   clear hr HR6
   have HR6 := HR6'
   clear HR6'
   go_wp2_with fail
   have hct := line_any w0.heap.size wb _ ((⟨#[69, 78, 68, 32]⟩ : ByteArray) ++ s ++ (⟨#[59]⟩ : ByteArray)) 0 V6 HR6.out
   replace hct := hct (by omega)
   replace hct := hct (by (try simp only [ByteArray.size_append, ba_size, List.size_toArray, List.length_cons, List.length_nil, padT_zero]); omega)
   replace hct := hct HB6.out.size
   with_reducible refine hct.mono ?_
   clear hct
   rintro e V7 ⟨rfl, hw, ht⟩
   have HB7 := hid (HB6.out.trans ht.below)
   have HT7 := hid (HT6.out.trans ht)
   have HR7 := hid hw
   clear hw ht
   clear x0 x1 x2 x3 x4 fx0 fx1 fx2 fx3 fx4 fy0 fy1 fy2 fy3 fy4 fz0 fz1 fz2 fz3 fz4 fv0 fv1 fv2 fv3 fv4
   obtain ⟨x0, x1, x2, x3, x4⟩ := bKp (n := ⟨k, s, num, pos, [x, y, z, v]⟩) (A := (some ⟨b, o, none⟩)) (c := c) HBK.out HT7.out.kept HNE.out
   obtain ⟨fx0, fx1, fx2, fx3, fx4⟩ := nb HX_x HB7
   obtain ⟨fy0, fy1, fy2, fy3, fy4⟩ := nb HX_y HB7
   obtain ⟨fz0, fz1, fz2, fz3, fz4⟩ := nb HX_z HB7
   obtain ⟨fv0, fv1, fv2, fv3, fv4⟩ := nb HX_v HB7
   go_wp2
   go_end0
   exact ⟨rfl, cast_wr (by rw [show (⟨#[59, 10]⟩ : ByteArray) = (⟨#[59]⟩ : ByteArray) ++ (⟨#[10]⟩ : ByteArray) from rfl, show (⟨#[66, 69, 71, 73, 78, 10]⟩ : ByteArray) = (⟨#[66, 69, 71, 73, 78]⟩ : ByteArray) ++ (⟨#[10]⟩ : ByteArray) from rfl]; simp only [padT, nil_ba, ba_nil, ba_assoc]) HR7.out, HOUT.out.trans HT7.out⟩
end Go.Proofs.YtneohanphabneaaGreatDoor
