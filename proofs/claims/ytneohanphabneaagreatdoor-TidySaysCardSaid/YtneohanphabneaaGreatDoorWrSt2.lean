/-
The program's text of a tree, the walks: one statement. Conditions: the tree lies in memory and is shaped; the writer's block holds the writer; the text's length is below a bound.
-/
import Derived.Test.YtneohanphabneaaGreatDoorWrSt
import Derived.Test.YtneohanphabneaaGreatDoorTextR6
namespace Go.Proofs.YtneohanphabneaaGreatDoor
set_option linter.unusedSimpArgs false
set_option linter.unusedVariables false
open Go.RowKit Go.BigFrame Go.MapKept
theorem built_any (w : World) :
  Calls Tryz.prog 142 #[] w fun e w' => e = .returned (.map (some w.heap.size)) ∧ w.alloc (litMap [kv20, kv21, kv22, kv23]) = w' := by
 have hmm := @run_makeLit Tryz.prog
 go_enter Tryz.func142, Tryz.ntmps142
 go_wp2_with (refine wpList_insert rfl 101 (.tmp 1) _ _ rfl w.heap.size rfl w _ rfl rfl 3 9 (.int .i64) Tryz.underlying101 Tryz.underlying3 ?_ ?_ ?_; (· rfl); (· rfl))
 go_ret
 exact ⟨rfl, rfl⟩
/-- A look-up in the map of 'built', and where that map lies. -/
theorem built_look {k : Int} (h : k = 20 ∨ k = 21 ∨ k = 22 ∨ k = 23) {W : World} {b : Nat} (hb : W.heap[b]? = some (litMap [kv20, kv21, kv22, kv23])) :
  (Instr.lookup 101 (.map (some b)) (.int .i64 k) false).run Tryz.prog W = .ok (.string (builtT k)) W := isBuilt h _ (Or.inr rfl) hb
theorem cast_wr {B b : Nat} {S S' : ByteArray} {d : Int} {w : World} (h : S = S') (hw : IsWr B b S d w) : IsWr B b S' d w := h ▸ hw
set_option maxRecDepth 100000 in
set_option maxHeartbeats 2000000 in
theorem built_step (d : Nat) (k : Int) (hk4 : k = 20 ∨ k = 21 ∨ k = 22 ∨ k = 23) (s : ByteArray) (num pos : Int) (x : Nd) (b o c : Nat) (w0 w : World) (wb : Nat) (S : ByteArray) (dp : Nat) (en : ByteArray) (hl : PowLaid w0) (hk : Kids w0 (d + 1) ⟨k, s, num, pos, [x]⟩ (some ⟨b, o, none⟩) c) (hb0 : Below w0.heap.size w0 w) (hr : IsWr w0.heap.size wb S dp w) (hx : exprS d x = true) (hsz : S.size + (stmtT (d + 1) ⟨k, s, num, pos, [x]⟩ (padT dp)).size + en.size + 1 ≤ maxW) (hdp : dp + (d + 1) ≤ 1000) :
  Calls Tryz.prog 119 #[.pointer (some ⟨wb, 0, none⟩), .agg #[.int .i64 k, .string s, .int .i64 num, .int .i64 pos, .slice (some ⟨b, o, none⟩) 1 c], .string en] w fun e w' => e = .returned (.tuple #[]) ∧ IsWr w0.heap.size wb (S ++ (stmtT (d + 1) ⟨k, s, num, pos, [x]⟩ (padT dp) ++ en ++ ⟨#[10]⟩)) dp w' ∧ Wrote w0.heap.size wb w w' := by
 have hE0 := fun n A c V hl hk hs hz => expr0_any d n A c V hl hk hs hz
 have hTT : stmtT (d + 1) ⟨k, s, num, pos, [x]⟩ (padT dp) = padT dp ++ (builtT k ++ (⟨#[40]⟩ : ByteArray) ++ exprT d x ++ (⟨#[41]⟩ : ByteArray)) := by
  rw [stmtT_succ]
  rcases hk4 with rfl | rfl | rfl | rfl <;> simp only [stmtTStep, Nd.sub, List.getD_cons_zero] <;> exact ba_ext (by simp)
 rw [hTT] at hsz ⊢
 clear hTT
 obtain ⟨Bk, hB⟩ : ∃ B, B = builtT k := ⟨_, rfl⟩
 obtain ⟨Tx, hT⟩ : ∃ T, T = exprT d x := ⟨_, rfl⟩
 rw [← hB, ← hT] at hsz ⊢
 unfold maxW at hsz
 simp only [ByteArray.size_append, ba_size, List.size_toArray, List.length_cons, List.length_nil] at hsz
 have HB := hid hB
 have HT_x := hid hT
 clear hB hT
 have hlen : 1 ≤ c := hk.list.1
 obtain ⟨b', o', Ax, cx, hA, hx_x, hk_x⟩ := hk.one (x := x) (r := []) rfl
 injection hA with hA
 injection hA with h3 h4
 subst h3
 subst h4
 have HD_x := hid hx
 clear hx
 have b14 : (k == 14) = false := by rcases hk4 with rfl | rfl | rfl | rfl <;> rfl
 have b15 : (k == 15) = false := by rcases hk4 with rfl | rfl | rfl | rfl <;> rfl
 have b16 : (k == 16) = false := by rcases hk4 with rfl | rfl | rfl | rfl <;> rfl
 have b17 : (k == 17) = false := by rcases hk4 with rfl | rfl | rfl | rfl <;> rfl
 have b18 : (k == 18) = false := by rcases hk4 with rfl | rfl | rfl | rfl <;> rfl
 have b19 : (k == 19) = false := by rcases hk4 with rfl | rfl | rfl | rfl <;> rfl
 have HK4 := hid hk4
 clear hk4
 have HL := hid hl
 clear hl
 have HX_x := hid hx_x
 have HK_x := hid hk_x
 clear hx_x hk_x
 clear hk
 have HB0 := hid (hb0.alloc hb0.size (.cells #[.int .i64 k, .string s, .int .i64 num, .int .i64 pos, .slice (some ⟨b, o, none⟩) 1 c] 24))
 have HR0 := hid (hr.below (bBw w (.cells #[.int .i64 k, .string s, .int .i64 num, .int .i64 pos, .slice (some ⟨b, o, none⟩) 1 c] 24)))
 have HT0 := hid (Wrote.refl w0.heap.size wb (w.alloc (.cells #[.int .i64 k, .string s, .int .i64 num, .int .i64 pos, .slice (some ⟨b, o, none⟩) 1 c] 24)))
 have HOUT := hid ((Wrote.refl w0.heap.size wb w).then hb0.size (bBw w (.cells #[.int .i64 k, .string s, .int .i64 num, .int .i64 pos, .slice (some ⟨b, o, none⟩) 1 c] 24)))
 have HBK := hid (heap_new w (.cells #[.int .i64 k, .string s, .int .i64 num, .int .i64 pos, .slice (some ⟨b, o, none⟩) 1 c] 24))
 have HNE := hid (Nat.ne_of_gt hr.lt)
 have HGE := hid hr.ge
 clear hb0 hr
 obtain ⟨fx0, fx1, fx2, fx3, fx4⟩ := nb HX_x HB0
 have hdeep := HR0.out.deep_at
 have hfz := HR0.out.unfrozen
 go_enter Tryz.func119, Tryz.ntmps119
 go_wp2
 generalize hW0 : w.alloc (.cells #[.int .i64 k, .string s, .int .i64 num, .int .i64 pos, .slice (some ⟨b, o, none⟩) 1 c] 24) = W0 at *
 clear hW0
 refine wp_region_held_drew (S := RegS w0.heap.size wb w0 W0) (by kernel_rfl) ⟨HB0.out.drew, HT0.out.drewn⟩ (fun hHeld => ?_)
 have HB1 := hid HB0.out.drew
 have HT1 := hid HT0.out.drewn
 have HR1 := hid (show IsWr w0.heap.size wb (S) dp W0.drew from HR0.out)
 generalize hd0 : W0.drew = V1 at *
 clear hd0
 clear fx0 fx1 fx2 fx3 fx4 hdeep hfz
 refine wpAnyH_take (i := 0) (oi := ⟨some 11, _, _, _, _, _⟩) (v := .pointer (some ⟨wb, 0, none⟩)) rfl (by kernel_rfl) (by kernel_rfl) (by kernel_rfl) (fun _ _ _ h => h) (Or.inl ⟨by rfl, by intro wx hSx; clear hSx; (try go_simp); (try omega)⟩) hHeld ?_
 simp only [Act.put, List.setIfInBounds_toArray, List.set_cons_zero, List.set_cons_succ]
 refine wpAnyH_take (i := 2) (oi := ⟨some 13, _, _, _, _, _⟩) (v := .pointer (some ⟨w.heap.size, 0, none⟩)) rfl (by kernel_rfl) (by kernel_rfl) (by kernel_rfl) (fun _ _ _ h => h) (Or.inl ⟨by rfl, by intro wx hSx; clear hSx; (try go_simp); (try omega)⟩) hHeld ?_
 simp only [Act.put, List.setIfInBounds_toArray, List.set_cons_zero, List.set_cons_succ]
 refine wpAnyH_take (i := 3) (oi := ⟨some 14, _, _, _, _, _⟩) (v := .int .i64 k) rfl (by kernel_rfl) (by kernel_rfl) (by kernel_rfl) (fun _ _ _ h => h) (Or.inl ⟨by rfl, by intro wx hSx; have z0 := (bKp (n := ⟨k, s, num, pos, [x]⟩) (A := (some ⟨b, o, none⟩)) (c := c) HBK.out hSx.2.kept HNE.out).c0; clear hSx; (try go_simp); (try omega)⟩) hHeld ?_
 simp only [Act.put, List.setIfInBounds_toArray, List.set_cons_zero, List.set_cons_succ]
 refine wpAnyH_take (i := 6) (oi := ⟨some 17, _, _, _, _, _⟩) (v := .pointer (some ⟨w.heap.size, 4, none⟩)) rfl (by kernel_rfl) (by kernel_rfl) (by kernel_rfl) (fun _ _ _ h => h) (Or.inl ⟨by rfl, by intro wx hSx; clear hSx; (try go_simp); (try omega)⟩) hHeld ?_
 simp only [Act.put, List.setIfInBounds_toArray, List.set_cons_zero, List.set_cons_succ]
 refine wpAnyH_take (i := 7) (oi := ⟨some 18, _, _, _, _, _⟩) (v := .slice (some ⟨b, o, none⟩) 1 c) rfl (by kernel_rfl) (by kernel_rfl) (by kernel_rfl) (fun _ _ _ h => h) (Or.inl ⟨by rfl, by intro wx hSx; have z0 := (bKp (n := ⟨k, s, num, pos, [x]⟩) (A := (some ⟨b, o, none⟩)) (c := c) HBK.out hSx.2.kept HNE.out).c4; clear hSx; (try go_simp); (try omega)⟩) hHeld ?_
 simp only [Act.put, List.setIfInBounds_toArray, List.set_cons_zero, List.set_cons_succ]
 refine wpAnyH_take (i := 8) (oi := ⟨some 19, _, _, _, _, _⟩) (v := .pointer (some ⟨b, o, none⟩)) rfl (by kernel_rfl) (by kernel_rfl) (by kernel_rfl) (fun _ _ _ h => h) (Or.inl ⟨by rfl, by intro wx hSx; clear hSx; (try go_simp); (try omega)⟩) hHeld ?_
 simp only [Act.put, List.setIfInBounds_toArray, List.set_cons_zero, List.set_cons_succ]
 refine wpAnyH_take (i := 9) (oi := ⟨some 20, _, _, _, _, _⟩) (v := (.agg #[.int .i64 x.kind, .string x.name, .int .i64 x.num, .int .i64 x.pos, .slice Ax x.subs.length cx])) rfl (by kernel_rfl) (by kernel_rfl) (by kernel_rfl) (fun _ _ _ h => h) (Or.inl ⟨by rfl, by intro wx hSx; have z0 := (HX_x.out.below hSx.1).c0; have z1 := (HX_x.out.below hSx.1).c1; have z2 := (HX_x.out.below hSx.1).c2; have z3 := (HX_x.out.below hSx.1).c3; have z4 := (HX_x.out.below hSx.1).c4; clear hSx; (try go_simp); (try omega)⟩) hHeld ?_
 simp only [Act.put, List.setIfInBounds_toArray, List.set_cons_zero, List.set_cons_succ]
 refine wpAnyH_take (i := 13) (oi := ⟨some 24, _, _, _, _, _⟩) (v := .string en) rfl (by kernel_rfl) (by kernel_rfl) (by kernel_rfl) (fun _ _ _ h => h) (Or.inl ⟨by rfl, by intro wx hSx; clear hSx; (try go_simp); (try omega)⟩) hHeld ?_
 simp only [Act.put, List.setIfInBounds_toArray, List.set_cons_zero, List.set_cons_succ]
 refine wpAnyH_ready (rs := [1]) (by kernel_rfl) (by simp) (AllReadyH.cons rfl (fun K hK => ?_) AllReadyH.nil)
 rw [if_pos (by rfl)]
 go_simp
 have hct := built_any V1
 with_reducible refine hct.mono ?_
 clear hct
 rintro e w' ⟨rfl, rfl⟩
 have hb := bBw V1 (litMap [kv20, kv21, kv22, kv23])
 have hm := heap_new V1 (litMap [kv20, kv21, kv22, kv23])
 go_simp
 generalize hv : V1.alloc (litMap [kv20, kv21, kv22, kv23]) = V2 at *
 clear hv
 have HB2 := hid (bTh HB1.out hb)
 have HT2 := hid (HT1.out.then HB1.out.size hb)
 have HR2 := hid (HR1.out.below hb)
 clear hb
 obtain ⟨mb, hmb⟩ : ∃ mb, mb = V1.heap.size := ⟨_, rfl⟩
 rw [← hmb] at hm ⊢
 clear hmb
 clear hHeld
 refine hK.out _ _ ⟨HB2.out, HT2.out⟩ (fun hHeld => ?_)
 clear hK K
 try simp only [Act.put, List.setIfInBounds_toArray, List.set_cons_zero, List.set_cons_succ]
 refine wpAnyH_ready (rs := [4, 10]) (by kernel_rfl) (by simp) (AllReadyH.cons rfl (fun K hK => ?_) (AllReadyH.cons rfl (fun K hK => ?_) AllReadyH.nil))
 ·skip
  rw [if_pos (by rfl)]
  have hlk := built_look HK4.out hm
  rw [← HB.out] at hlk
  go_simp
  clear hlk hm
  clear hHeld
  refine hK.out _ _ ⟨HB2.out, HT2.out⟩ (fun hHeld => ?_)
  clear hK K
  try simp only [Act.put, List.setIfInBounds_toArray, List.set_cons_zero, List.set_cons_succ]
  refine wpAnyH_take (i := 5) (oi := ⟨some 16, _, _, _, _, _⟩) (v := .string (Bk ++ (⟨#[40]⟩ : ByteArray))) rfl (by kernel_rfl) (by kernel_rfl) (by kernel_rfl) (fun _ _ _ h => h) (Or.inl ⟨by rfl, by intro wx hSx; clear hSx; (try go_simp); (try omega)⟩) hHeld ?_
  simp only [Act.put, List.setIfInBounds_toArray, List.set_cons_zero, List.set_cons_succ]
  refine wpAnyH_ready (rs := [10]) (by kernel_rfl) (by simp) (AllReadyH.cons rfl (fun K hK => ?_) AllReadyH.nil)
  rw [if_pos (by rfl)]
  go_simp
  have hct := hE0 x Ax cx V2 (HL.out.below HB2.out) (kb HK_x HB2) HD_x.out (by rw [← HT_x.out]; unfold maxT; omega)
  with_reducible refine hct.mono ?_
  clear hct
  rintro e V3 ⟨rfl, hb⟩
  rw [← HT_x.out]
  have HB3 := hid (bTh HB2.out hb)
  have HT3 := hid (HT2.out.then HB2.out.size hb)
  have HR3 := hid (HR2.out.below hb)
  clear hb
  go_simp
  clear hHeld
  refine hK.out _ _ ⟨HB3.out, HT3.out⟩ (fun hHeld => ?_)
  clear hK K
  try simp only [Act.put, List.setIfInBounds_toArray, List.set_cons_zero, List.set_cons_succ]
  refine wpAnyH_take (i := 11) (oi := ⟨some 22, _, _, _, _, _⟩) (v := .string (Bk ++ (⟨#[40]⟩ : ByteArray) ++ Tx)) rfl (by kernel_rfl) (by kernel_rfl) (by kernel_rfl) (fun _ _ _ h => h) (Or.inl ⟨by rfl, by intro wx hSx; clear hSx; (try go_simp); (try omega)⟩) hHeld ?_
  simp only [Act.put, List.setIfInBounds_toArray, List.set_cons_zero, List.set_cons_succ]
  refine wpAnyH_take (i := 12) (oi := ⟨some 23, _, _, _, _, _⟩) (v := .string (Bk ++ (⟨#[40]⟩ : ByteArray) ++ Tx ++ (⟨#[41]⟩ : ByteArray))) rfl (by kernel_rfl) (by kernel_rfl) (by kernel_rfl) (fun _ _ _ h => h) (Or.inl ⟨by rfl, by intro wx hSx; clear hSx; (try go_simp); (try omega)⟩) hHeld ?_
  simp only [Act.put, List.setIfInBounds_toArray, List.set_cons_zero, List.set_cons_succ]
  refine wpAnyH_take (i := 14) (oi := ⟨some 25, _, _, _, _, _⟩) (v := .string (Bk ++ (⟨#[40]⟩ : ByteArray) ++ Tx ++ (⟨#[41]⟩ : ByteArray) ++ en)) rfl (by kernel_rfl) (by kernel_rfl) (by kernel_rfl) (fun _ _ _ h => h) (Or.inl ⟨by rfl, by intro wx hSx; clear hSx; (try go_simp); (try omega)⟩) hHeld ?_
  simp only [Act.put, List.setIfInBounds_toArray, List.set_cons_zero, List.set_cons_succ]
  refine wpAnyH_ready (rs := [15]) (by kernel_rfl) (by simp) (AllReadyH.cons rfl (fun K hK => ?_) AllReadyH.nil)
  rw [if_pos (by rfl)]
  go_simp
  have hct := line_any w0.heap.size wb (S) (Bk ++ (⟨#[40]⟩ : ByteArray) ++ Tx ++ (⟨#[41]⟩ : ByteArray) ++ en) dp V3 HR3.out (by omega) (by (try simp only [ByteArray.size_append, ba_size, List.size_toArray, List.length_cons, List.length_nil]); omega) HB3.out.size
  with_reducible refine hct.mono ?_
  clear hct
  rintro e V4 ⟨rfl, hw, ht⟩
  have HB4 := hid (HB3.out.trans ht.below)
  have HT4 := hid (HT3.out.trans ht)
  have HR4 := hid hw
  clear hw ht
  go_simp
  clear hHeld
  refine hK.out _ _ ⟨HB4.out, HT4.out⟩ (fun hHeld => ?_)
  clear hK K
  try simp only [Act.put, List.setIfInBounds_toArray, List.set_cons_zero, List.set_cons_succ]
  refine wpAnyH_done (by kernel_rfl) ?_ _
  clear hHeld
  obtain ⟨x0, x1, x2, x3, x4⟩ := bKp (n := ⟨k, s, num, pos, [x]⟩) (A := (some ⟨b, o, none⟩)) (c := c) HBK.out HT4.out.kept HNE.out
  obtain ⟨fx0, fx1, fx2, fx3, fx4⟩ := nb HX_x HB4
  go_wp2
  go_end0
  exact ⟨rfl, cast_wr (by simp only [ba_assoc]) HR4.out, HOUT.out.trans HT4.out⟩
 ·skip
  rw [if_pos (by rfl)]
  go_simp
  have hct := hE0 x Ax cx V2 (HL.out.below HB2.out) (kb HK_x HB2) HD_x.out (by rw [← HT_x.out]; unfold maxT; omega)
  with_reducible refine hct.mono ?_
  clear hct
  rintro e V5 ⟨rfl, hb⟩
  rw [← HT_x.out]
  have hm2 := heap_below hb (heap_lt hm) hm
  clear hm
  have hm := hm2
  clear hm2
  have HB5 := hid (bTh HB2.out hb)
  have HT5 := hid (HT2.out.then HB2.out.size hb)
  have HR5 := hid (HR2.out.below hb)
  clear hb
  go_simp
  clear hHeld
  refine hK.out _ _ ⟨HB5.out, HT5.out⟩ (fun hHeld => ?_)
  clear hK K
  try simp only [Act.put, List.setIfInBounds_toArray, List.set_cons_zero, List.set_cons_succ]
  refine wpAnyH_ready (rs := [4]) (by kernel_rfl) (by simp) (AllReadyH.cons rfl (fun K hK => ?_) AllReadyH.nil)
  rw [if_pos (by rfl)]
  have hlk := built_look HK4.out hm
  rw [← HB.out] at hlk
  go_simp
  clear hlk hm
  clear hHeld
  refine hK.out _ _ ⟨HB5.out, HT5.out⟩ (fun hHeld => ?_)
  clear hK K
  try simp only [Act.put, List.setIfInBounds_toArray, List.set_cons_zero, List.set_cons_succ]
  refine wpAnyH_take (i := 5) (oi := ⟨some 16, _, _, _, _, _⟩) (v := .string (Bk ++ (⟨#[40]⟩ : ByteArray))) rfl (by kernel_rfl) (by kernel_rfl) (by kernel_rfl) (fun _ _ _ h => h) (Or.inl ⟨by rfl, by intro wx hSx; clear hSx; (try go_simp); (try omega)⟩) hHeld ?_
  simp only [Act.put, List.setIfInBounds_toArray, List.set_cons_zero, List.set_cons_succ]
  refine wpAnyH_take (i := 11) (oi := ⟨some 22, _, _, _, _, _⟩) (v := .string (Bk ++ (⟨#[40]⟩ : ByteArray) ++ Tx)) rfl (by kernel_rfl) (by kernel_rfl) (by kernel_rfl) (fun _ _ _ h => h) (Or.inl ⟨by rfl, by intro wx hSx; clear hSx; (try go_simp); (try omega)⟩) hHeld ?_
  simp only [Act.put, List.setIfInBounds_toArray, List.set_cons_zero, List.set_cons_succ]
  refine wpAnyH_take (i := 12) (oi := ⟨some 23, _, _, _, _, _⟩) (v := .string (Bk ++ (⟨#[40]⟩ : ByteArray) ++ Tx ++ (⟨#[41]⟩ : ByteArray))) rfl (by kernel_rfl) (by kernel_rfl) (by kernel_rfl) (fun _ _ _ h => h) (Or.inl ⟨by rfl, by intro wx hSx; clear hSx; (try go_simp); (try omega)⟩) hHeld ?_
  simp only [Act.put, List.setIfInBounds_toArray, List.set_cons_zero, List.set_cons_succ]
  refine wpAnyH_take (i := 14) (oi := ⟨some 25, _, _, _, _, _⟩) (v := .string (Bk ++ (⟨#[40]⟩ : ByteArray) ++ Tx ++ (⟨#[41]⟩ : ByteArray) ++ en)) rfl (by kernel_rfl) (by kernel_rfl) (by kernel_rfl) (fun _ _ _ h => h) (Or.inl ⟨by rfl, by intro wx hSx; clear hSx; (try go_simp); (try omega)⟩) hHeld ?_
  simp only [Act.put, List.setIfInBounds_toArray, List.set_cons_zero, List.set_cons_succ]
  refine wpAnyH_ready (rs := [15]) (by kernel_rfl) (by simp) (AllReadyH.cons rfl (fun K hK => ?_) AllReadyH.nil)
  rw [if_pos (by rfl)]
  go_simp
  have hct := line_any w0.heap.size wb (S) (Bk ++ (⟨#[40]⟩ : ByteArray) ++ Tx ++ (⟨#[41]⟩ : ByteArray) ++ en) dp V5 HR5.out (by omega) (by (try simp only [ByteArray.size_append, ba_size, List.size_toArray, List.length_cons, List.length_nil]); omega) HB5.out.size
  with_reducible refine hct.mono ?_
  clear hct
  rintro e V6 ⟨rfl, hw, ht⟩
  have HB6 := hid (HB5.out.trans ht.below)
  have HT6 := hid (HT5.out.trans ht)
  have HR6 := hid hw
  clear hw ht
  go_simp
  clear hHeld
  refine hK.out _ _ ⟨HB6.out, HT6.out⟩ (fun hHeld => ?_)
  clear hK K
  try simp only [Act.put, List.setIfInBounds_toArray, List.set_cons_zero, List.set_cons_succ]
  refine wpAnyH_done (by kernel_rfl) ?_ _
  clear hHeld
  obtain ⟨x0, x1, x2, x3, x4⟩ := bKp (n := ⟨k, s, num, pos, [x]⟩) (A := (some ⟨b, o, none⟩)) (c := c) HBK.out HT6.out.kept HNE.out
  obtain ⟨fx0, fx1, fx2, fx3, fx4⟩ := nb HX_x HB6
  go_wp2
  go_end0
  exact ⟨rfl, cast_wr (by simp only [ba_assoc]) HR6.out, HOUT.out.trans HT6.out⟩
set_option maxRecDepth 100000 in
set_option maxHeartbeats 4000000 in
theorem wstmt_step (d : Nat) (hL : Says_wstmts d) : Says_wstmt (d + 1) := by
 intro n A c w0 w wb S dp en hl hk hb0 hr hs hsz hdp
 have hE0 := fun n A c V hl hk hs hz => expr0_any d n A c V hl hk hs hz
 have hE3 := fun n A c V hl hk hs hz => sayE_any d n A c 3 V hl hk hs hz
 obtain ⟨k, s, num, pos, subs⟩ := n
 have hlen := hk.len
 unfold maxLen at hlen
 simp only at hlen
 by_cases k16 : k = 16
 ·subst k16
  obtain ⟨hnum, h2, hmod, hif⟩ := if_shape hs
  clear hs
  rcases hnum with rfl | rfl
  ·skip
   obtain ⟨f, hf⟩ : ∃ f, f = ifPiece (exprT d) (stmtsT d) subs (padT dp) := ⟨_, rfl⟩
   have hTT : stmtT (d + 1) ⟨16, s, 0, pos, subs⟩ (padT dp) = upB f (subs.length / 2) ++ padT dp ++ (⟨#[69, 78, 68]⟩ : ByteArray) := by rw [hf]; simp [stmtT_succ, stmtTStep, ba_nil]
   rw [hTT] at hsz ⊢
   clear hTT
   unfold maxW at hsz
   simp only [ByteArray.size_append, ba_size, List.size_toArray, List.length_cons, List.length_nil] at hsz
   have hml : subs.length ≤ 2199023255560 := by
    have h1 := upB_many f (fun t => by rw [hf]; exact ifPiece_one _ _ _ _ t) (subs.length / 2)
    omega
   have HF := hid hf
   have HIF := hid hif
   have HMOD := hid hmod
   clear hf hif hmod
   have HL := hid hl
   clear hl
   have HKL := hid (hk.list)
   clear hk
   have HB0 := hid (hb0.alloc hb0.size (.cells #[.int .i64 16, .string s, .int .i64 0, .int .i64 pos, .slice A subs.length c] 24))
   have HR0 := hid (hr.below (bBw w (.cells #[.int .i64 16, .string s, .int .i64 0, .int .i64 pos, .slice A subs.length c] 24)))
   have HT0 := hid (Wrote.refl w0.heap.size wb (w.alloc (.cells #[.int .i64 16, .string s, .int .i64 0, .int .i64 pos, .slice A subs.length c] 24)))
   have HOUT := hid ((Wrote.refl w0.heap.size wb w).then hb0.size (bBw w (.cells #[.int .i64 16, .string s, .int .i64 0, .int .i64 pos, .slice A subs.length c] 24)))
   have HBK := hid (heap_new w (.cells #[.int .i64 16, .string s, .int .i64 0, .int .i64 pos, .slice A subs.length c] 24))
   have HNE := hid (Nat.ne_of_gt hr.lt)
   have HGE := hid hr.ge
   clear hb0 hr
   have hdeep := HR0.out.deep_at
   have hfz := HR0.out.unfrozen
   go_enter Tryz.func119, Tryz.ntmps119
   go_wp2
   generalize hW0 : w.alloc (.cells #[.int .i64 16, .string s, .int .i64 0, .int .i64 pos, .slice A subs.length c] 24) = W0 at *
   clear hW0
   go_loopw [6, 7] (fun ss ii wr => ∃ (j t : Nat) (Wd : ByteArray), Hid (j = t + t) ∧ j ≤ subs.length ∧ ii = .int .i64 j ∧ ss = .string Wd ∧ Hid (Wd = if t = 0 then (⟨#[73, 70, 32]⟩ : ByteArray) else (⟨#[69, 76, 83, 73, 70, 32]⟩ : ByteArray)) ∧ Hid (Below w0.heap.size w0 wr) ∧ Hid (Wrote w0.heap.size wb W0 wr) ∧ Hid (IsWr w0.heap.size wb (S ++ upB f t) dp wr)) (fun _ ii _ => subs.length - (intOf ii).toNat)
   case atStart => exact ⟨0, 0, _, hid rfl, by omega, rfl, rfl, hid rfl, HB0, HT0, hid (by rw [upB, ba_nil]; exact HR0.out)⟩
   case round =>
    obtain ⟨j, t, Wd, HJT, hj, rfl, rfl, HWD, HBr, HTr, HRr⟩ := hrel
    clear hdeep hfz
    obtain ⟨x0, x1, x2, x3, x4⟩ := bKp (n := ⟨16, s, 0, pos, subs⟩) (A := A) (c := c) HBK.out HTr.out.kept HNE.out
    by_cases hlt : j + 1 < subs.length
    ·skip
     obtain ⟨y, hy⟩ : ∃ y, subs[j]? = some y := ⟨_, List.getElem?_eq_getElem (by omega)⟩
     obtain ⟨z, hz⟩ : ∃ z, subs[j + 1]? = some z := ⟨_, List.getElem?_eq_getElem hlt⟩
     obtain ⟨b, o, Ay, cy, hA, hxy, hky⟩ := HKL.out.2.2 j y hy
     subst hA
     obtain ⟨b', o', Az, cz, hA, hxz, hkz⟩ := HKL.out.2.2 (j + 1) z hz
     injection hA with hA
     injection hA with h3 h4
     subst h3
     subst h4
     have HD_y := hid (show exprS d y = true by have := HIF.out _ _ hy; rwa [if_neg (by have := HJT.out; omega)] at this)
     have HD_z := hid (show stmtsS d z = true by have := HIF.out _ _ hz; rwa [if_pos (Or.inl (by have := HJT.out; omega))] at this)
     have htl : t < subs.length / 2 := by have := HJT.out; omega
     have hus := upB_size f htl
     have FT := hid (show f t = padT dp ++ (if t = 0 then (⟨#[73, 70, 32]⟩ : ByteArray) else (⟨#[69, 76, 83, 73, 70, 32]⟩ : ByteArray)) ++ exprT d y ++ (⟨#[32, 84, 72, 69, 78, 10]⟩ : ByteArray) ++ stmtsT d z (padT (dp + 1)) by rw [HF.out]; have e1 : 2 * t = j := (by have := HJT.out; omega); simp only [ifPiece, e1, getD_at hy, getD_at hz, padT])
     have HX_y := hid hxy
     have HK_y := hid hky
     have HX_z := hid hxz
     have HK_z := hid hkz
     clear hxy hky hxz hkz hy hz htl
     rw [FT.out, ← HWD.out] at hus
     obtain ⟨Ty, hT_y⟩ : ∃ T, T = exprT d y := ⟨_, rfl⟩
     obtain ⟨Tz, hT_z⟩ : ∃ T, T = stmtsT d z (padT (dp + 1)) := ⟨_, rfl⟩
     rw [← hT_y, ← hT_z] at hus
     have HT_y := hid hT_y
     have HT_z := hid hT_z
     clear hT_y hT_z
     have hzz : S.size + (upB f t).size + (padT dp).size + Wd.size + Ty.size + Tz.size + 6 ≤ 1099510000000 := by
      simp only [ByteArray.size_append, ba_size, List.size_toArray, List.length_cons, List.length_nil] at hus
      omega
     clear hus
     clear x0 x1 x2 x3 x4
     obtain ⟨x0, x1, x2, x3, x4⟩ := bKp (n := ⟨16, s, 0, pos, subs⟩) (A := (some ⟨b, o, none⟩)) (c := c) HBK.out HTr.out.kept HNE.out
     obtain ⟨fy0, fy1, fy2, fy3, fy4⟩ := nb HX_y HBr
     obtain ⟨fz0, fz1, fz2, fz3, fz4⟩ := nb HX_z HBr
     have a1 : IntKind.i64.wrap ((j : Int) + 1) = (j : Int) + 1 := IntWalk.i64_in _ (by omega)
     have a2 : (0 : Int) ≤ (j : Int) + 1 := by omega
     have a3 : ((j : Int) + 1).toNat = j + 1 := by omega
     have a4 : (j : Int) < subs.length := by omega
     have a5 : (j : Int) + 1 < subs.length := by omega
     go_wp2_with fail
     have hct := hE0 y Ay cy wr (HL.out.below HBr.out) (kb HK_y HBr) HD_y.out (by rw [← HT_y.out]; unfold maxT; omega)
     with_reducible refine hct.mono ?_
     clear hct
     rintro e V1 ⟨rfl, hb⟩
     rw [← HT_y.out]
     have HB1 := hid (bTh HBr.out hb)
     have HT1 := hid (HTr.out.then HBr.out.size hb)
     have HR1 := hid (HRr.out.below hb)
     clear hb
     clear x0 x1 x2 x3 x4 fy0 fy1 fy2 fy3 fy4 fz0 fz1 fz2 fz3 fz4
     obtain ⟨x0, x1, x2, x3, x4⟩ := bKp (n := ⟨16, s, 0, pos, subs⟩) (A := (some ⟨b, o, none⟩)) (c := c) HBK.out HT1.out.kept HNE.out
     obtain ⟨fy0, fy1, fy2, fy3, fy4⟩ := nb HX_y HB1
     obtain ⟨fz0, fz1, fz2, fz3, fz4⟩ := nb HX_z HB1
     go_wp2_with fail
     have hct := line_any w0.heap.size wb (S ++ upB f t) (Wd ++ Ty ++ (⟨#[32, 84, 72, 69, 78]⟩ : ByteArray)) dp V1 HR1.out (by omega) (by (try simp only [ByteArray.size_append, ba_size, List.size_toArray, List.length_cons, List.length_nil]); omega) HB1.out.size
     with_reducible refine hct.mono ?_
     clear hct
     rintro e V2 ⟨rfl, hw, ht⟩
     have HB2 := hid (HB1.out.trans ht.below)
     have HT2 := hid (HT1.out.trans ht)
     have HR2 := hid hw
     clear hw ht
     clear x0 x1 x2 x3 x4 fy0 fy1 fy2 fy3 fy4 fz0 fz1 fz2 fz3 fz4
     obtain ⟨x0, x1, x2, x3, x4⟩ := bKp (n := ⟨16, s, 0, pos, subs⟩) (A := (some ⟨b, o, none⟩)) (c := c) HBK.out HT2.out.kept HNE.out
     obtain ⟨fy0, fy1, fy2, fy3, fy4⟩ := nb HX_y HB2
     obtain ⟨fz0, fz1, fz2, fz3, fz4⟩ := nb HX_z HB2
     go_wp2_with fail
     have hct := hL z Az cz w0 V2 wb (S ++ upB f t ++ (padT dp ++ (Wd ++ Ty ++ (⟨#[32, 84, 72, 69, 78]⟩ : ByteArray)) ++ ⟨#[10]⟩)) dp HL.out HK_z.out HB2.out HR2.out HD_z.out (by rw [← HT_z.out]; unfold maxW; (try simp only [ByteArray.size_append, ba_size, List.size_toArray, List.length_cons, List.length_nil]); omega) (by omega)
     with_reducible refine hct.mono ?_
     clear hct
     rintro e V3 ⟨rfl, hw, ht⟩
     have HB3 := hid (HB2.out.trans ht.below)
     have HT3 := hid (HT2.out.trans ht)
     have HR3 := hid hw
     clear hw ht
     clear x0 x1 x2 x3 x4 fy0 fy1 fy2 fy3 fy4 fz0 fz1 fz2 fz3 fz4
     obtain ⟨x0, x1, x2, x3, x4⟩ := bKp (n := ⟨16, s, 0, pos, subs⟩) (A := (some ⟨b, o, none⟩)) (c := c) HBK.out HT3.out.kept HNE.out
     obtain ⟨fy0, fy1, fy2, fy3, fy4⟩ := nb HX_y HB3
     obtain ⟨fz0, fz1, fz2, fz3, fz4⟩ := nb HX_z HB3
     have hr := HR3.out
     rw [← HT_z.out] at hr
     have HR3' := hid hr
     clear hr HR3
     have HR3 := HR3'
     clear HR3'
     go_wp2
     go_roundw
     case rel => exact ⟨j + 2, t + 1, _, hid (by have := HJT.out; omega), by omega, by go_num, rfl, hid (by rw [if_neg (by omega)]), HB3, HT3, hid (by
      have h := HR3.out
      rw [upB, FT.out, ← HWD.out, ← HT_y.out, ← HT_z.out]
      rw [show S ++ (upB f t ++ (padT dp ++ Wd ++ Ty ++ (⟨#[32, 84, 72, 69, 78, 10]⟩ : ByteArray) ++ Tz)) = S ++ upB f t ++ (padT dp ++ (Wd ++ Ty ++ (⟨#[32, 84, 72, 69, 78]⟩ : ByteArray)) ++ ⟨#[10]⟩) ++ Tz from ba_ext (by simp)]
      exact h)⟩
     case measure => simp [intOf]; omega
    ·skip
     have HJE := hid (show t = subs.length / 2 by have := HJT.out; omega)
     have hus : (upB f t).size = (upB f (subs.length / 2)).size := by rw [HJE.out]
     go_wp2_with fail
     have hct := line_any w0.heap.size wb (S ++ upB f t) ((⟨#[69, 78, 68]⟩ : ByteArray) ++ en) dp wr HRr.out (by omega) (by (try simp only [ByteArray.size_append, ba_size, List.size_toArray, List.length_cons, List.length_nil]); omega) HBr.out.size
     with_reducible refine hct.mono ?_
     clear hct
     rintro e V4 ⟨rfl, hw, ht⟩
     have HB4 := hid (HBr.out.trans ht.below)
     have HT4 := hid (HTr.out.trans ht)
     have HR4 := hid hw
     clear hw ht
     clear x0 x1 x2 x3 x4
     obtain ⟨x0, x1, x2, x3, x4⟩ := bKp (n := ⟨16, s, 0, pos, subs⟩) (A := A) (c := c) HBK.out HT4.out.kept HNE.out
     go_wp2
     go_end0
     exact ⟨rfl, cast_wr (by rw [HJE.out]; simp only [ba_assoc]) HR4.out, HOUT.out.trans HT4.out⟩
  ·skip
   obtain ⟨f, hf⟩ : ∃ f, f = ifPiece (exprT d) (stmtsT d) subs (padT dp) := ⟨_, rfl⟩
   obtain ⟨u, hu⟩ : ∃ u, subs[subs.length - 1]? = some u := ⟨_, List.getElem?_eq_getElem (by omega)⟩
   have hTT : stmtT (d + 1) ⟨16, s, 1, pos, subs⟩ (padT dp) = upB f (subs.length / 2) ++ (padT dp ++ (⟨#[69, 76, 83, 69]⟩ : ByteArray) ++ (⟨#[10]⟩ : ByteArray) ++ stmtsT d u (padT (dp + 1))) ++ padT dp ++ (⟨#[69, 78, 68]⟩ : ByteArray) := by
    rw [hf]; simp only [stmtT_succ, stmtTStep]; simp only [getD_at hu, if_true, padT]; exact ba_ext (by simp)
   have HD_u := hid (show stmtsS d u = true by have := hif _ _ hu; rwa [if_pos (Or.inr ⟨by omega, rfl⟩)] at this)
   have HU := hid hu
   clear hu
   rw [hTT] at hsz ⊢
   clear hTT
   obtain ⟨Tu, hT_u⟩ : ∃ T, T = stmtsT d u (padT (dp + 1)) := ⟨_, rfl⟩
   rw [← hT_u] at hsz ⊢
   have HT_u := hid hT_u
   clear hT_u
   unfold maxW at hsz
   simp only [ByteArray.size_append, ba_size, List.size_toArray, List.length_cons, List.length_nil] at hsz
   have hml : subs.length ≤ 2199023255560 := by
    have h1 := upB_many f (fun t => by rw [hf]; exact ifPiece_one _ _ _ _ t) (subs.length / 2)
    omega
   have HF := hid hf
   have HIF := hid hif
   have HMOD := hid hmod
   clear hf hif hmod
   have HL := hid hl
   clear hl
   have HKL := hid (hk.list)
   clear hk
   have HB0 := hid (hb0.alloc hb0.size (.cells #[.int .i64 16, .string s, .int .i64 1, .int .i64 pos, .slice A subs.length c] 24))
   have HR0 := hid (hr.below (bBw w (.cells #[.int .i64 16, .string s, .int .i64 1, .int .i64 pos, .slice A subs.length c] 24)))
   have HT0 := hid (Wrote.refl w0.heap.size wb (w.alloc (.cells #[.int .i64 16, .string s, .int .i64 1, .int .i64 pos, .slice A subs.length c] 24)))
   have HOUT := hid ((Wrote.refl w0.heap.size wb w).then hb0.size (bBw w (.cells #[.int .i64 16, .string s, .int .i64 1, .int .i64 pos, .slice A subs.length c] 24)))
   have HBK := hid (heap_new w (.cells #[.int .i64 16, .string s, .int .i64 1, .int .i64 pos, .slice A subs.length c] 24))
   have HNE := hid (Nat.ne_of_gt hr.lt)
   have HGE := hid hr.ge
   clear hb0 hr
   have hdeep := HR0.out.deep_at
   have hfz := HR0.out.unfrozen
   go_enter Tryz.func119, Tryz.ntmps119
   go_wp2
   generalize hW0 : w.alloc (.cells #[.int .i64 16, .string s, .int .i64 1, .int .i64 pos, .slice A subs.length c] 24) = W0 at *
   clear hW0
   go_loopw [6, 7] (fun ss ii wr => ∃ (j t : Nat) (Wd : ByteArray), Hid (j = t + t) ∧ j ≤ subs.length ∧ ii = .int .i64 j ∧ ss = .string Wd ∧ Hid (Wd = if t = 0 then (⟨#[73, 70, 32]⟩ : ByteArray) else (⟨#[69, 76, 83, 73, 70, 32]⟩ : ByteArray)) ∧ Hid (Below w0.heap.size w0 wr) ∧ Hid (Wrote w0.heap.size wb W0 wr) ∧ Hid (IsWr w0.heap.size wb (S ++ upB f t) dp wr)) (fun _ ii _ => subs.length - (intOf ii).toNat)
   case atStart => exact ⟨0, 0, _, hid rfl, by omega, rfl, rfl, hid rfl, HB0, HT0, hid (by rw [upB, ba_nil]; exact HR0.out)⟩
   case round =>
    obtain ⟨j, t, Wd, HJT, hj, rfl, rfl, HWD, HBr, HTr, HRr⟩ := hrel
    clear hdeep hfz
    obtain ⟨x0, x1, x2, x3, x4⟩ := bKp (n := ⟨16, s, 1, pos, subs⟩) (A := A) (c := c) HBK.out HTr.out.kept HNE.out
    by_cases hlt : j + 1 < subs.length
    ·skip
     obtain ⟨y, hy⟩ : ∃ y, subs[j]? = some y := ⟨_, List.getElem?_eq_getElem (by omega)⟩
     obtain ⟨z, hz⟩ : ∃ z, subs[j + 1]? = some z := ⟨_, List.getElem?_eq_getElem hlt⟩
     obtain ⟨b, o, Ay, cy, hA, hxy, hky⟩ := HKL.out.2.2 j y hy
     subst hA
     obtain ⟨b', o', Az, cz, hA, hxz, hkz⟩ := HKL.out.2.2 (j + 1) z hz
     injection hA with hA
     injection hA with h3 h4
     subst h3
     subst h4
     have HD_y := hid (show exprS d y = true by have := HIF.out _ _ hy; rwa [if_neg (by have := HJT.out; omega)] at this)
     have HD_z := hid (show stmtsS d z = true by have := HIF.out _ _ hz; rwa [if_pos (Or.inl (by have := HJT.out; omega))] at this)
     have htl : t < subs.length / 2 := by have := HJT.out; omega
     have hus := upB_size f htl
     have FT := hid (show f t = padT dp ++ (if t = 0 then (⟨#[73, 70, 32]⟩ : ByteArray) else (⟨#[69, 76, 83, 73, 70, 32]⟩ : ByteArray)) ++ exprT d y ++ (⟨#[32, 84, 72, 69, 78, 10]⟩ : ByteArray) ++ stmtsT d z (padT (dp + 1)) by rw [HF.out]; have e1 : 2 * t = j := (by have := HJT.out; omega); simp only [ifPiece, e1, getD_at hy, getD_at hz, padT])
     have HX_y := hid hxy
     have HK_y := hid hky
     have HX_z := hid hxz
     have HK_z := hid hkz
     clear hxy hky hxz hkz hy hz htl
     rw [FT.out, ← HWD.out] at hus
     obtain ⟨Ty, hT_y⟩ : ∃ T, T = exprT d y := ⟨_, rfl⟩
     obtain ⟨Tz, hT_z⟩ : ∃ T, T = stmtsT d z (padT (dp + 1)) := ⟨_, rfl⟩
     rw [← hT_y, ← hT_z] at hus
     have HT_y := hid hT_y
     have HT_z := hid hT_z
     clear hT_y hT_z
     have hzz : S.size + (upB f t).size + (padT dp).size + Wd.size + Ty.size + Tz.size + 6 ≤ 1099510000000 := by
      simp only [ByteArray.size_append, ba_size, List.size_toArray, List.length_cons, List.length_nil] at hus
      omega
     clear hus
     clear x0 x1 x2 x3 x4
     obtain ⟨x0, x1, x2, x3, x4⟩ := bKp (n := ⟨16, s, 1, pos, subs⟩) (A := (some ⟨b, o, none⟩)) (c := c) HBK.out HTr.out.kept HNE.out
     obtain ⟨fy0, fy1, fy2, fy3, fy4⟩ := nb HX_y HBr
     obtain ⟨fz0, fz1, fz2, fz3, fz4⟩ := nb HX_z HBr
     have a1 : IntKind.i64.wrap ((j : Int) + 1) = (j : Int) + 1 := IntWalk.i64_in _ (by omega)
     have a2 : (0 : Int) ≤ (j : Int) + 1 := by omega
     have a3 : ((j : Int) + 1).toNat = j + 1 := by omega
     have a4 : (j : Int) < subs.length := by omega
     have a5 : (j : Int) + 1 < subs.length := by omega
     go_wp2_with fail
     have hct := hE0 y Ay cy wr (HL.out.below HBr.out) (kb HK_y HBr) HD_y.out (by rw [← HT_y.out]; unfold maxT; omega)
     with_reducible refine hct.mono ?_
     clear hct
     rintro e V1 ⟨rfl, hb⟩
     rw [← HT_y.out]
     have HB1 := hid (bTh HBr.out hb)
     have HT1 := hid (HTr.out.then HBr.out.size hb)
     have HR1 := hid (HRr.out.below hb)
     clear hb
     clear x0 x1 x2 x3 x4 fy0 fy1 fy2 fy3 fy4 fz0 fz1 fz2 fz3 fz4
     obtain ⟨x0, x1, x2, x3, x4⟩ := bKp (n := ⟨16, s, 1, pos, subs⟩) (A := (some ⟨b, o, none⟩)) (c := c) HBK.out HT1.out.kept HNE.out
     obtain ⟨fy0, fy1, fy2, fy3, fy4⟩ := nb HX_y HB1
     obtain ⟨fz0, fz1, fz2, fz3, fz4⟩ := nb HX_z HB1
     go_wp2_with fail
     have hct := line_any w0.heap.size wb (S ++ upB f t) (Wd ++ Ty ++ (⟨#[32, 84, 72, 69, 78]⟩ : ByteArray)) dp V1 HR1.out (by omega) (by (try simp only [ByteArray.size_append, ba_size, List.size_toArray, List.length_cons, List.length_nil]); omega) HB1.out.size
     with_reducible refine hct.mono ?_
     clear hct
     rintro e V2 ⟨rfl, hw, ht⟩
     have HB2 := hid (HB1.out.trans ht.below)
     have HT2 := hid (HT1.out.trans ht)
     have HR2 := hid hw
     clear hw ht
     clear x0 x1 x2 x3 x4 fy0 fy1 fy2 fy3 fy4 fz0 fz1 fz2 fz3 fz4
     obtain ⟨x0, x1, x2, x3, x4⟩ := bKp (n := ⟨16, s, 1, pos, subs⟩) (A := (some ⟨b, o, none⟩)) (c := c) HBK.out HT2.out.kept HNE.out
     obtain ⟨fy0, fy1, fy2, fy3, fy4⟩ := nb HX_y HB2
     obtain ⟨fz0, fz1, fz2, fz3, fz4⟩ := nb HX_z HB2
     go_wp2_with fail
     have hct := hL z Az cz w0 V2 wb (S ++ upB f t ++ (padT dp ++ (Wd ++ Ty ++ (⟨#[32, 84, 72, 69, 78]⟩ : ByteArray)) ++ ⟨#[10]⟩)) dp HL.out HK_z.out HB2.out HR2.out HD_z.out (by rw [← HT_z.out]; unfold maxW; (try simp only [ByteArray.size_append, ba_size, List.size_toArray, List.length_cons, List.length_nil]); omega) (by omega)
     with_reducible refine hct.mono ?_
     clear hct
     rintro e V3 ⟨rfl, hw, ht⟩
     have HB3 := hid (HB2.out.trans ht.below)
     have HT3 := hid (HT2.out.trans ht)
     have HR3 := hid hw
     clear hw ht
     clear x0 x1 x2 x3 x4 fy0 fy1 fy2 fy3 fy4 fz0 fz1 fz2 fz3 fz4
     obtain ⟨x0, x1, x2, x3, x4⟩ := bKp (n := ⟨16, s, 1, pos, subs⟩) (A := (some ⟨b, o, none⟩)) (c := c) HBK.out HT3.out.kept HNE.out
     obtain ⟨fy0, fy1, fy2, fy3, fy4⟩ := nb HX_y HB3
     obtain ⟨fz0, fz1, fz2, fz3, fz4⟩ := nb HX_z HB3
     have hr := HR3.out
     rw [← HT_z.out] at hr
     have HR3' := hid hr
     clear hr HR3
     have HR3 := HR3'
     clear HR3'
     go_wp2
     go_roundw
     case rel => exact ⟨j + 2, t + 1, _, hid (by have := HJT.out; omega), by omega, by go_num, rfl, hid (by rw [if_neg (by omega)]), HB3, HT3, hid (by
      have h := HR3.out
      rw [upB, FT.out, ← HWD.out, ← HT_y.out, ← HT_z.out]
      rw [show S ++ (upB f t ++ (padT dp ++ Wd ++ Ty ++ (⟨#[32, 84, 72, 69, 78, 10]⟩ : ByteArray) ++ Tz)) = S ++ upB f t ++ (padT dp ++ (Wd ++ Ty ++ (⟨#[32, 84, 72, 69, 78]⟩ : ByteArray)) ++ ⟨#[10]⟩) ++ Tz from ba_ext (by simp)]
      exact h)⟩
     case measure => simp [intOf]; omega
    ·skip
     have HJE := hid (show t = subs.length / 2 by have := HJT.out; omega)
     have hus : (upB f t).size = (upB f (subs.length / 2)).size := by rw [HJE.out]
     obtain ⟨b, o, Au, cu, hA, hxu, hku⟩ := HKL.out.2.2 (subs.length - 1) u HU.out
     subst hA
     have HX_u := hid hxu
     have HK_u := hid hku
     clear hxu hku
     have a1 : IntKind.i64.wrap ((subs.length : Int) - 1) = (subs.length : Int) - 1 := IntWalk.i64_in _ (by omega)
     have a2 : (0 : Int) ≤ (subs.length : Int) - 1 := by omega
     have a3 : ((subs.length : Int) - 1).toNat = subs.length - 1 := by omega
     clear x0 x1 x2 x3 x4
     obtain ⟨x0, x1, x2, x3, x4⟩ := bKp (n := ⟨16, s, 1, pos, subs⟩) (A := (some ⟨b, o, none⟩)) (c := c) HBK.out HTr.out.kept HNE.out
     obtain ⟨fu0, fu1, fu2, fu3, fu4⟩ := nb HX_u HBr
     go_wp2_with fail
     have hct := line_any w0.heap.size wb (S ++ upB f t) ((⟨#[69, 76, 83, 69]⟩ : ByteArray)) dp wr HRr.out (by omega) (by (try simp only [ByteArray.size_append, ba_size, List.size_toArray, List.length_cons, List.length_nil]); omega) HBr.out.size
     with_reducible refine hct.mono ?_
     clear hct
     rintro e V4 ⟨rfl, hw, ht⟩
     have HB4 := hid (HBr.out.trans ht.below)
     have HT4 := hid (HTr.out.trans ht)
     have HR4 := hid hw
     clear hw ht
     clear x0 x1 x2 x3 x4 fu0 fu1 fu2 fu3 fu4
     obtain ⟨x0, x1, x2, x3, x4⟩ := bKp (n := ⟨16, s, 1, pos, subs⟩) (A := (some ⟨b, o, none⟩)) (c := c) HBK.out HT4.out.kept HNE.out
     obtain ⟨fu0, fu1, fu2, fu3, fu4⟩ := nb HX_u HB4
     go_wp2_with fail
     have hct := hL u Au cu w0 V4 wb (S ++ upB f t ++ (padT dp ++ ((⟨#[69, 76, 83, 69]⟩ : ByteArray)) ++ ⟨#[10]⟩)) dp HL.out HK_u.out HB4.out HR4.out HD_u.out (by rw [← HT_u.out]; unfold maxW; (try simp only [ByteArray.size_append, ba_size, List.size_toArray, List.length_cons, List.length_nil]); omega) (by omega)
     with_reducible refine hct.mono ?_
     clear hct
     rintro e V5 ⟨rfl, hw, ht⟩
     have HB5 := hid (HB4.out.trans ht.below)
     have HT5 := hid (HT4.out.trans ht)
     have HR5 := hid hw
     clear hw ht
     clear x0 x1 x2 x3 x4 fu0 fu1 fu2 fu3 fu4
     obtain ⟨x0, x1, x2, x3, x4⟩ := bKp (n := ⟨16, s, 1, pos, subs⟩) (A := (some ⟨b, o, none⟩)) (c := c) HBK.out HT5.out.kept HNE.out
     obtain ⟨fu0, fu1, fu2, fu3, fu4⟩ := nb HX_u HB5
     have hr := HR5.out
     rw [← HT_u.out] at hr
     have HR5' := hid hr
     clear hr HR5
     have HR5 := HR5'
     clear HR5'
     go_wp2_with fail
     have hct := line_any w0.heap.size wb (S ++ upB f t ++ (padT dp ++ ((⟨#[69, 76, 83, 69]⟩ : ByteArray)) ++ ⟨#[10]⟩) ++ Tu) ((⟨#[69, 78, 68]⟩ : ByteArray) ++ en) dp V5 HR5.out (by omega) (by (try simp only [ByteArray.size_append, ba_size, List.size_toArray, List.length_cons, List.length_nil]); omega) HB5.out.size
     with_reducible refine hct.mono ?_
     clear hct
     rintro e V6 ⟨rfl, hw, ht⟩
     have HB6 := hid (HB5.out.trans ht.below)
     have HT6 := hid (HT5.out.trans ht)
     have HR6 := hid hw
     clear hw ht
     clear x0 x1 x2 x3 x4 fu0 fu1 fu2 fu3 fu4
     obtain ⟨x0, x1, x2, x3, x4⟩ := bKp (n := ⟨16, s, 1, pos, subs⟩) (A := (some ⟨b, o, none⟩)) (c := c) HBK.out HT6.out.kept HNE.out
     obtain ⟨fu0, fu1, fu2, fu3, fu4⟩ := nb HX_u HB6
     go_wp2
     go_end0
     exact ⟨rfl, cast_wr (by rw [HJE.out]; simp only [ba_assoc]) HR6.out, HOUT.out.trans HT6.out⟩
 ·have b16 : (k == 16) = false := by simpa using k16
  by_cases k17 : k = 17
  ·subst k17
   simp [stmtS_succ, stmtStep] at hs
   obtain ⟨x, y, rfl⟩ := len2 (l := subs) (headB_len hs.1.1 (by omega))
   obtain ⟨b, o, Ax, cx, rfl, hx_x, hk_x⟩ := hk.one (x := x) (r := [y]) rfl
   obtain ⟨Ay, cy, hx_y, hk_y⟩ := hk.nth rfl (i := 1) (x := y) rfl (p := o + 5) (by omega)
   simp only [List.length_cons, List.length_nil, Nat.zero_add] at hlen
   simp only [Nd.sub, List.getD_cons_zero, List.getD_cons_succ] at hs
   have HD_x := hid hs.1.2
   have HD_y := hid hs.2
   clear hs
   have hTT : stmtT (d + 1) ⟨17, s, num, pos, [x, y]⟩ (padT dp) = padT dp ++ ((⟨#[87, 72, 73, 76, 69, 32]⟩ : ByteArray) ++ exprT d x ++ (⟨#[32, 68, 79]⟩ : ByteArray)) ++ (⟨#[10]⟩ : ByteArray) ++ stmtsT d y (padT (dp + 1)) ++ padT dp ++ (⟨#[69, 78, 68]⟩ : ByteArray) := by
    rw [stmtT_succ]
    simp only [stmtTStep, Nd.sub, List.getD_cons_zero, List.getD_cons_succ, padT]
    exact ba_ext (by simp)
   rw [hTT] at hsz ⊢
   clear hTT
   obtain ⟨Tx, hT_x⟩ : ∃ T, T = exprT d x := ⟨_, rfl⟩
   rw [← hT_x] at hsz ⊢
   have HT_x := hid hT_x
   clear hT_x
   obtain ⟨Ty, hT_y⟩ : ∃ T, T = stmtsT d y (padT (dp + 1)) := ⟨_, rfl⟩
   rw [← hT_y] at hsz ⊢
   have HT_y := hid hT_y
   clear hT_y
   unfold maxW at hsz
   simp only [ByteArray.size_append, ba_size, List.size_toArray, List.length_cons, List.length_nil] at hsz
   have HL := hid hl
   clear hl
   have HX_x := hid hx_x
   have HK_x := hid hk_x
   clear hx_x hk_x
   have HX_y := hid hx_y
   have HK_y := hid hk_y
   clear hx_y hk_y
   clear hk
   have HB0 := hid (hb0.alloc hb0.size (.cells #[.int .i64 17, .string s, .int .i64 num, .int .i64 pos, .slice (some ⟨b, o, none⟩) 2 c] 24))
   have HR0 := hid (hr.below (bBw w (.cells #[.int .i64 17, .string s, .int .i64 num, .int .i64 pos, .slice (some ⟨b, o, none⟩) 2 c] 24)))
   have HT0 := hid (Wrote.refl w0.heap.size wb (w.alloc (.cells #[.int .i64 17, .string s, .int .i64 num, .int .i64 pos, .slice (some ⟨b, o, none⟩) 2 c] 24)))
   have HOUT := hid ((Wrote.refl w0.heap.size wb w).then hb0.size (bBw w (.cells #[.int .i64 17, .string s, .int .i64 num, .int .i64 pos, .slice (some ⟨b, o, none⟩) 2 c] 24)))
   have HBK := hid (heap_new w (.cells #[.int .i64 17, .string s, .int .i64 num, .int .i64 pos, .slice (some ⟨b, o, none⟩) 2 c] 24))
   have HNE := hid (Nat.ne_of_gt hr.lt)
   have HGE := hid hr.ge
   clear hb0 hr
   obtain ⟨fx0, fx1, fx2, fx3, fx4⟩ := nb HX_x HB0
   obtain ⟨fy0, fy1, fy2, fy3, fy4⟩ := nb HX_y HB0
   have hdeep := HR0.out.deep_at
   have hfz := HR0.out.unfrozen
   go_enter Tryz.func119, Tryz.ntmps119
   go_wp2_with fail
   generalize hW0 : w.alloc (.cells #[.int .i64 17, .string s, .int .i64 num, .int .i64 pos, .slice (some ⟨b, o, none⟩) 2 c] 24) = W0 at *
   clear hW0
   have hct := hE0 x Ax cx W0 (HL.out.below HB0.out) (kb HK_x HB0) HD_x.out (by rw [← HT_x.out]; unfold maxT; omega)
   with_reducible refine hct.mono ?_
   clear hct
   rintro e V1 ⟨rfl, hb⟩
   rw [← HT_x.out]
   have HB1 := hid (bTh HB0.out hb)
   have HT1 := hid (HT0.out.then HB0.out.size hb)
   have HR1 := hid (HR0.out.below hb)
   clear hb
   clear fx0 fx1 fx2 fx3 fx4 fy0 fy1 fy2 fy3 fy4 hdeep hfz
   obtain ⟨x0, x1, x2, x3, x4⟩ := bKp (n := ⟨17, s, num, pos, [x, y]⟩) (A := (some ⟨b, o, none⟩)) (c := c) HBK.out HT1.out.kept HNE.out
   obtain ⟨fx0, fx1, fx2, fx3, fx4⟩ := nb HX_x HB1
   obtain ⟨fy0, fy1, fy2, fy3, fy4⟩ := nb HX_y HB1
   go_wp2_with fail
   have hct := line_any w0.heap.size wb (S) ((⟨#[87, 72, 73, 76, 69, 32]⟩ : ByteArray) ++ Tx ++ (⟨#[32, 68, 79]⟩ : ByteArray)) dp V1 HR1.out (by omega) (by (try simp only [ByteArray.size_append, ba_size, List.size_toArray, List.length_cons, List.length_nil]); omega) HB1.out.size
   with_reducible refine hct.mono ?_
   clear hct
   rintro e V2 ⟨rfl, hw, ht⟩
   have HB2 := hid (HB1.out.trans ht.below)
   have HT2 := hid (HT1.out.trans ht)
   have HR2 := hid hw
   clear hw ht
   clear x0 x1 x2 x3 x4 fx0 fx1 fx2 fx3 fx4 fy0 fy1 fy2 fy3 fy4
   obtain ⟨x0, x1, x2, x3, x4⟩ := bKp (n := ⟨17, s, num, pos, [x, y]⟩) (A := (some ⟨b, o, none⟩)) (c := c) HBK.out HT2.out.kept HNE.out
   obtain ⟨fx0, fx1, fx2, fx3, fx4⟩ := nb HX_x HB2
   obtain ⟨fy0, fy1, fy2, fy3, fy4⟩ := nb HX_y HB2
   go_wp2_with fail
   have hct := hL y Ay cy w0 V2 wb (S ++ (padT dp ++ ((⟨#[87, 72, 73, 76, 69, 32]⟩ : ByteArray) ++ Tx ++ (⟨#[32, 68, 79]⟩ : ByteArray)) ++ ⟨#[10]⟩)) dp HL.out HK_y.out HB2.out HR2.out HD_y.out (by rw [← HT_y.out]; unfold maxW; (try simp only [ByteArray.size_append, ba_size, List.size_toArray, List.length_cons, List.length_nil]); omega) (by omega)
   with_reducible refine hct.mono ?_
   clear hct
   rintro e V3 ⟨rfl, hw, ht⟩
   have HB3 := hid (HB2.out.trans ht.below)
   have HT3 := hid (HT2.out.trans ht)
   have HR3 := hid hw
   clear hw ht
   clear x0 x1 x2 x3 x4 fx0 fx1 fx2 fx3 fx4 fy0 fy1 fy2 fy3 fy4
   obtain ⟨x0, x1, x2, x3, x4⟩ := bKp (n := ⟨17, s, num, pos, [x, y]⟩) (A := (some ⟨b, o, none⟩)) (c := c) HBK.out HT3.out.kept HNE.out
   obtain ⟨fx0, fx1, fx2, fx3, fx4⟩ := nb HX_x HB3
   obtain ⟨fy0, fy1, fy2, fy3, fy4⟩ := nb HX_y HB3
   have hr := HR3.out
   rw [← HT_y.out] at hr
   have HR3' := hid hr
   clear hr HR3
   have HR3 := HR3'
   clear HR3'
   go_wp2_with fail
   have hct := line_any w0.heap.size wb (S ++ (padT dp ++ ((⟨#[87, 72, 73, 76, 69, 32]⟩ : ByteArray) ++ Tx ++ (⟨#[32, 68, 79]⟩ : ByteArray)) ++ ⟨#[10]⟩) ++ Ty) ((⟨#[69, 78, 68]⟩ : ByteArray) ++ en) dp V3 HR3.out (by omega) (by (try simp only [ByteArray.size_append, ba_size, List.size_toArray, List.length_cons, List.length_nil]); omega) HB3.out.size
   with_reducible refine hct.mono ?_
   clear hct
   rintro e V4 ⟨rfl, hw, ht⟩
   have HB4 := hid (HB3.out.trans ht.below)
   have HT4 := hid (HT3.out.trans ht)
   have HR4 := hid hw
   clear hw ht
   clear x0 x1 x2 x3 x4 fx0 fx1 fx2 fx3 fx4 fy0 fy1 fy2 fy3 fy4
   obtain ⟨x0, x1, x2, x3, x4⟩ := bKp (n := ⟨17, s, num, pos, [x, y]⟩) (A := (some ⟨b, o, none⟩)) (c := c) HBK.out HT4.out.kept HNE.out
   obtain ⟨fx0, fx1, fx2, fx3, fx4⟩ := nb HX_x HB4
   obtain ⟨fy0, fy1, fy2, fy3, fy4⟩ := nb HX_y HB4
   go_wp2
   go_end0
   exact ⟨rfl, cast_wr (by simp only [ba_assoc]) HR4.out, HOUT.out.trans HT4.out⟩
  ·have b17 : (k == 17) = false := by simpa using k17
   by_cases k18 : k = 18
   ·subst k18
    simp [stmtS_succ, stmtStep] at hs
    obtain ⟨x, y, rfl⟩ := len2 (l := subs) (headB_len hs.1.1 (by omega))
    obtain ⟨b, o, Ax, cx, rfl, hx_x, hk_x⟩ := hk.one (x := x) (r := [y]) rfl
    obtain ⟨Ay, cy, hx_y, hk_y⟩ := hk.nth rfl (i := 1) (x := y) rfl (p := o + 5) (by omega)
    simp only [List.length_cons, List.length_nil, Nat.zero_add] at hlen
    simp only [Nd.sub, List.getD_cons_zero, List.getD_cons_succ] at hs
    have HD_x := hid hs.1.2
    have HD_y := hid hs.2
    clear hs
    have hTT : stmtT (d + 1) ⟨18, s, num, pos, [x, y]⟩ (padT dp) = padT dp ++ (⟨#[82, 69, 80, 69, 65, 84]⟩ : ByteArray) ++ (⟨#[10]⟩ : ByteArray) ++ stmtsT d x (padT (dp + 1)) ++ padT dp ++ ((⟨#[85, 78, 84, 73, 76, 32]⟩ : ByteArray) ++ exprT d y) := by
     rw [stmtT_succ]
     simp only [stmtTStep, Nd.sub, List.getD_cons_zero, List.getD_cons_succ, padT]
     exact ba_ext (by simp)
    rw [hTT] at hsz ⊢
    clear hTT
    obtain ⟨Tx, hT_x⟩ : ∃ T, T = stmtsT d x (padT (dp + 1)) := ⟨_, rfl⟩
    rw [← hT_x] at hsz ⊢
    have HT_x := hid hT_x
    clear hT_x
    obtain ⟨Ty, hT_y⟩ : ∃ T, T = exprT d y := ⟨_, rfl⟩
    rw [← hT_y] at hsz ⊢
    have HT_y := hid hT_y
    clear hT_y
    unfold maxW at hsz
    simp only [ByteArray.size_append, ba_size, List.size_toArray, List.length_cons, List.length_nil] at hsz
    have HL := hid hl
    clear hl
    have HX_x := hid hx_x
    have HK_x := hid hk_x
    clear hx_x hk_x
    have HX_y := hid hx_y
    have HK_y := hid hk_y
    clear hx_y hk_y
    clear hk
    have HB0 := hid (hb0.alloc hb0.size (.cells #[.int .i64 18, .string s, .int .i64 num, .int .i64 pos, .slice (some ⟨b, o, none⟩) 2 c] 24))
    have HR0 := hid (hr.below (bBw w (.cells #[.int .i64 18, .string s, .int .i64 num, .int .i64 pos, .slice (some ⟨b, o, none⟩) 2 c] 24)))
    have HT0 := hid (Wrote.refl w0.heap.size wb (w.alloc (.cells #[.int .i64 18, .string s, .int .i64 num, .int .i64 pos, .slice (some ⟨b, o, none⟩) 2 c] 24)))
    have HOUT := hid ((Wrote.refl w0.heap.size wb w).then hb0.size (bBw w (.cells #[.int .i64 18, .string s, .int .i64 num, .int .i64 pos, .slice (some ⟨b, o, none⟩) 2 c] 24)))
    have HBK := hid (heap_new w (.cells #[.int .i64 18, .string s, .int .i64 num, .int .i64 pos, .slice (some ⟨b, o, none⟩) 2 c] 24))
    have HNE := hid (Nat.ne_of_gt hr.lt)
    have HGE := hid hr.ge
    clear hb0 hr
    obtain ⟨fx0, fx1, fx2, fx3, fx4⟩ := nb HX_x HB0
    obtain ⟨fy0, fy1, fy2, fy3, fy4⟩ := nb HX_y HB0
    have hdeep := HR0.out.deep_at
    have hfz := HR0.out.unfrozen
    go_enter Tryz.func119, Tryz.ntmps119
    go_wp2_with fail
    generalize hW0 : w.alloc (.cells #[.int .i64 18, .string s, .int .i64 num, .int .i64 pos, .slice (some ⟨b, o, none⟩) 2 c] 24) = W0 at *
    clear hW0
    have hct := line_any w0.heap.size wb (S) ((⟨#[82, 69, 80, 69, 65, 84]⟩ : ByteArray)) dp W0 HR0.out (by omega) (by (try simp only [ByteArray.size_append, ba_size, List.size_toArray, List.length_cons, List.length_nil]); omega) HB0.out.size
    with_reducible refine hct.mono ?_
    clear hct
    rintro e V1 ⟨rfl, hw, ht⟩
    have HB1 := hid (HB0.out.trans ht.below)
    have HT1 := hid (HT0.out.trans ht)
    have HR1 := hid hw
    clear hw ht
    clear fx0 fx1 fx2 fx3 fx4 fy0 fy1 fy2 fy3 fy4 hdeep hfz
    obtain ⟨x0, x1, x2, x3, x4⟩ := bKp (n := ⟨18, s, num, pos, [x, y]⟩) (A := (some ⟨b, o, none⟩)) (c := c) HBK.out HT1.out.kept HNE.out
    obtain ⟨fx0, fx1, fx2, fx3, fx4⟩ := nb HX_x HB1
    obtain ⟨fy0, fy1, fy2, fy3, fy4⟩ := nb HX_y HB1
    go_wp2_with fail
    have hct := hL x Ax cx w0 V1 wb (S ++ (padT dp ++ ((⟨#[82, 69, 80, 69, 65, 84]⟩ : ByteArray)) ++ ⟨#[10]⟩)) dp HL.out HK_x.out HB1.out HR1.out HD_x.out (by rw [← HT_x.out]; unfold maxW; (try simp only [ByteArray.size_append, ba_size, List.size_toArray, List.length_cons, List.length_nil]); omega) (by omega)
    with_reducible refine hct.mono ?_
    clear hct
    rintro e V2 ⟨rfl, hw, ht⟩
    have HB2 := hid (HB1.out.trans ht.below)
    have HT2 := hid (HT1.out.trans ht)
    have HR2 := hid hw
    clear hw ht
    clear x0 x1 x2 x3 x4 fx0 fx1 fx2 fx3 fx4 fy0 fy1 fy2 fy3 fy4
    obtain ⟨x0, x1, x2, x3, x4⟩ := bKp (n := ⟨18, s, num, pos, [x, y]⟩) (A := (some ⟨b, o, none⟩)) (c := c) HBK.out HT2.out.kept HNE.out
    obtain ⟨fx0, fx1, fx2, fx3, fx4⟩ := nb HX_x HB2
    obtain ⟨fy0, fy1, fy2, fy3, fy4⟩ := nb HX_y HB2
    have hr := HR2.out
    rw [← HT_x.out] at hr
    have HR2' := hid hr
    clear hr HR2
    have HR2 := HR2'
    clear HR2'
    go_wp2_with fail
    have hct := hE0 y Ay cy V2 (HL.out.below HB2.out) (kb HK_y HB2) HD_y.out (by rw [← HT_y.out]; unfold maxT; omega)
    with_reducible refine hct.mono ?_
    clear hct
    rintro e V3 ⟨rfl, hb⟩
    rw [← HT_y.out]
    have HB3 := hid (bTh HB2.out hb)
    have HT3 := hid (HT2.out.then HB2.out.size hb)
    have HR3 := hid (HR2.out.below hb)
    clear hb
    clear x0 x1 x2 x3 x4 fx0 fx1 fx2 fx3 fx4 fy0 fy1 fy2 fy3 fy4
    obtain ⟨x0, x1, x2, x3, x4⟩ := bKp (n := ⟨18, s, num, pos, [x, y]⟩) (A := (some ⟨b, o, none⟩)) (c := c) HBK.out HT3.out.kept HNE.out
    obtain ⟨fx0, fx1, fx2, fx3, fx4⟩ := nb HX_x HB3
    obtain ⟨fy0, fy1, fy2, fy3, fy4⟩ := nb HX_y HB3
    go_wp2_with fail
    have hct := line_any w0.heap.size wb (S ++ (padT dp ++ ((⟨#[82, 69, 80, 69, 65, 84]⟩ : ByteArray)) ++ ⟨#[10]⟩) ++ Tx) ((⟨#[85, 78, 84, 73, 76, 32]⟩ : ByteArray) ++ Ty ++ en) dp V3 HR3.out (by omega) (by (try simp only [ByteArray.size_append, ba_size, List.size_toArray, List.length_cons, List.length_nil]); omega) HB3.out.size
    with_reducible refine hct.mono ?_
    clear hct
    rintro e V4 ⟨rfl, hw, ht⟩
    have HB4 := hid (HB3.out.trans ht.below)
    have HT4 := hid (HT3.out.trans ht)
    have HR4 := hid hw
    clear hw ht
    clear x0 x1 x2 x3 x4 fx0 fx1 fx2 fx3 fx4 fy0 fy1 fy2 fy3 fy4
    obtain ⟨x0, x1, x2, x3, x4⟩ := bKp (n := ⟨18, s, num, pos, [x, y]⟩) (A := (some ⟨b, o, none⟩)) (c := c) HBK.out HT4.out.kept HNE.out
    obtain ⟨fx0, fx1, fx2, fx3, fx4⟩ := nb HX_x HB4
    obtain ⟨fy0, fy1, fy2, fy3, fy4⟩ := nb HX_y HB4
    go_wp2
    go_end0
    exact ⟨rfl, cast_wr (by simp only [ba_assoc]) HR4.out, HOUT.out.trans HT4.out⟩
   ·have b18 : (k == 18) = false := by simpa using k18
    by_cases k19 : k = 19
    ·subst k19
     simp [stmtS_succ, stmtStep] at hs
     rcases subs with _ | ⟨x, _ | ⟨y, r⟩⟩
     ·skip
      clear hs
      have hTT : stmtT (d + 1) ⟨19, s, num, pos, []⟩ (padT dp) = padT dp ++ (⟨#[82, 69, 84, 85, 82, 78]⟩ : ByteArray) := by
       rw [stmtT_succ]
       simp only [stmtTStep, Nd.sub, List.getD_cons_zero, List.getD_cons_succ, List.length_nil, if_true]
       exact ba_ext (by simp)
      rw [hTT] at hsz ⊢
      clear hTT
      unfold maxW at hsz
      simp only [ByteArray.size_append, ba_size, List.size_toArray, List.length_cons, List.length_nil] at hsz
      have HL := hid hl
      clear hl
      clear hk
      have HB0 := hid (hb0.alloc hb0.size (.cells #[.int .i64 19, .string s, .int .i64 num, .int .i64 pos, .slice A 0 c] 24))
      have HR0 := hid (hr.below (bBw w (.cells #[.int .i64 19, .string s, .int .i64 num, .int .i64 pos, .slice A 0 c] 24)))
      have HT0 := hid (Wrote.refl w0.heap.size wb (w.alloc (.cells #[.int .i64 19, .string s, .int .i64 num, .int .i64 pos, .slice A 0 c] 24)))
      have HOUT := hid ((Wrote.refl w0.heap.size wb w).then hb0.size (bBw w (.cells #[.int .i64 19, .string s, .int .i64 num, .int .i64 pos, .slice A 0 c] 24)))
      have HBK := hid (heap_new w (.cells #[.int .i64 19, .string s, .int .i64 num, .int .i64 pos, .slice A 0 c] 24))
      have HNE := hid (Nat.ne_of_gt hr.lt)
      have HGE := hid hr.ge
      clear hb0 hr
      have hdeep := HR0.out.deep_at
      have hfz := HR0.out.unfrozen
      go_enter Tryz.func119, Tryz.ntmps119
      go_wp2_with fail
      generalize hW0 : w.alloc (.cells #[.int .i64 19, .string s, .int .i64 num, .int .i64 pos, .slice A 0 c] 24) = W0 at *
      clear hW0
      have hct := line_any w0.heap.size wb (S) ((⟨#[82, 69, 84, 85, 82, 78]⟩ : ByteArray) ++ en) dp W0 HR0.out (by omega) (by (try simp only [ByteArray.size_append, ba_size, List.size_toArray, List.length_cons, List.length_nil]); omega) HB0.out.size
      with_reducible refine hct.mono ?_
      clear hct
      rintro e V1 ⟨rfl, hw, ht⟩
      have HB1 := hid (HB0.out.trans ht.below)
      have HT1 := hid (HT0.out.trans ht)
      have HR1 := hid hw
      clear hw ht
      clear hdeep hfz
      obtain ⟨x0, x1, x2, x3, x4⟩ := bKp (n := ⟨19, s, num, pos, []⟩) (A := A) (c := c) HBK.out HT1.out.kept HNE.out
      go_wp2
      go_end0
      exact ⟨rfl, cast_wr (by simp only [ba_assoc]) HR1.out, HOUT.out.trans HT1.out⟩
     ·skip
      simp only [List.length_cons, List.length_nil, Nat.zero_add] at hlen
      obtain ⟨b, o, Ax, cx, rfl, hx_x, hk_x⟩ := hk.one (x := x) (r := []) rfl
      have HD_x := hid (show exprS d x = true by have h := hs.2; simpa using h)
      clear hs
      have hTT : stmtT (d + 1) ⟨19, s, num, pos, [x]⟩ (padT dp) = padT dp ++ ((⟨#[82, 69, 84, 85, 82, 78, 32]⟩ : ByteArray) ++ exprT d x) := by
       rw [stmtT_succ]
       simp only [stmtTStep, Nd.sub, List.getD_cons_zero, List.getD_cons_succ, List.length_cons, List.length_nil, Nat.zero_add, show ¬ (1 : Nat) = 0 by omega, if_false]
       exact ba_ext (by simp)
      rw [hTT] at hsz ⊢
      clear hTT
      obtain ⟨Tx, hT_x⟩ : ∃ T, T = exprT d x := ⟨_, rfl⟩
      rw [← hT_x] at hsz ⊢
      have HT_x := hid hT_x
      clear hT_x
      unfold maxW at hsz
      simp only [ByteArray.size_append, ba_size, List.size_toArray, List.length_cons, List.length_nil] at hsz
      have HL := hid hl
      clear hl
      have HX_x := hid hx_x
      have HK_x := hid hk_x
      clear hx_x hk_x
      clear hk
      have HB0 := hid (hb0.alloc hb0.size (.cells #[.int .i64 19, .string s, .int .i64 num, .int .i64 pos, .slice (some ⟨b, o, none⟩) 1 c] 24))
      have HR0 := hid (hr.below (bBw w (.cells #[.int .i64 19, .string s, .int .i64 num, .int .i64 pos, .slice (some ⟨b, o, none⟩) 1 c] 24)))
      have HT0 := hid (Wrote.refl w0.heap.size wb (w.alloc (.cells #[.int .i64 19, .string s, .int .i64 num, .int .i64 pos, .slice (some ⟨b, o, none⟩) 1 c] 24)))
      have HOUT := hid ((Wrote.refl w0.heap.size wb w).then hb0.size (bBw w (.cells #[.int .i64 19, .string s, .int .i64 num, .int .i64 pos, .slice (some ⟨b, o, none⟩) 1 c] 24)))
      have HBK := hid (heap_new w (.cells #[.int .i64 19, .string s, .int .i64 num, .int .i64 pos, .slice (some ⟨b, o, none⟩) 1 c] 24))
      have HNE := hid (Nat.ne_of_gt hr.lt)
      have HGE := hid hr.ge
      clear hb0 hr
      obtain ⟨fx0, fx1, fx2, fx3, fx4⟩ := nb HX_x HB0
      have hdeep := HR0.out.deep_at
      have hfz := HR0.out.unfrozen
      go_enter Tryz.func119, Tryz.ntmps119
      go_wp2_with fail
      generalize hW0 : w.alloc (.cells #[.int .i64 19, .string s, .int .i64 num, .int .i64 pos, .slice (some ⟨b, o, none⟩) 1 c] 24) = W0 at *
      clear hW0
      have hct := hE0 x Ax cx W0 (HL.out.below HB0.out) (kb HK_x HB0) HD_x.out (by rw [← HT_x.out]; unfold maxT; omega)
      with_reducible refine hct.mono ?_
      clear hct
      rintro e V1 ⟨rfl, hb⟩
      rw [← HT_x.out]
      have HB1 := hid (bTh HB0.out hb)
      have HT1 := hid (HT0.out.then HB0.out.size hb)
      have HR1 := hid (HR0.out.below hb)
      clear hb
      clear fx0 fx1 fx2 fx3 fx4 hdeep hfz
      obtain ⟨x0, x1, x2, x3, x4⟩ := bKp (n := ⟨19, s, num, pos, [x]⟩) (A := (some ⟨b, o, none⟩)) (c := c) HBK.out HT1.out.kept HNE.out
      obtain ⟨fx0, fx1, fx2, fx3, fx4⟩ := nb HX_x HB1
      go_wp2_with fail
      have hct := line_any w0.heap.size wb (S) ((⟨#[82, 69, 84, 85, 82, 78, 32]⟩ : ByteArray) ++ Tx ++ en) dp V1 HR1.out (by omega) (by (try simp only [ByteArray.size_append, ba_size, List.size_toArray, List.length_cons, List.length_nil]); omega) HB1.out.size
      with_reducible refine hct.mono ?_
      clear hct
      rintro e V2 ⟨rfl, hw, ht⟩
      have HB2 := hid (HB1.out.trans ht.below)
      have HT2 := hid (HT1.out.trans ht)
      have HR2 := hid hw
      clear hw ht
      clear x0 x1 x2 x3 x4 fx0 fx1 fx2 fx3 fx4
      obtain ⟨x0, x1, x2, x3, x4⟩ := bKp (n := ⟨19, s, num, pos, [x]⟩) (A := (some ⟨b, o, none⟩)) (c := c) HBK.out HT2.out.kept HNE.out
      obtain ⟨fx0, fx1, fx2, fx3, fx4⟩ := nb HX_x HB2
      go_wp2
      go_end0
      exact ⟨rfl, cast_wr (by simp only [ba_assoc]) HR2.out, HOUT.out.trans HT2.out⟩
     ·skip
      exfalso
      have h := hs.1.2
      simp at h
      try omega
    ·have b19 : (k == 19) = false := by simpa using k19
     by_cases k14 : k = 14
     ·subst k14
      simp [stmtS_succ, stmtStep] at hs
      obtain ⟨x, y, rfl⟩ := len2 (l := subs) (headB_len hs.1.1 (by omega))
      obtain ⟨b, o, Ax, cx, rfl, hx_x, hk_x⟩ := hk.one (x := x) (r := [y]) rfl
      obtain ⟨Ay, cy, hx_y, hk_y⟩ := hk.nth rfl (i := 1) (x := y) rfl (p := o + 5) (by omega)
      simp only [List.length_cons, List.length_nil, Nat.zero_add] at hlen
      simp only [Nd.sub, List.getD_cons_zero, List.getD_cons_succ] at hs
      have HA3_x := hid (atL3 (e := d) hs.1.2)
      have HD_x := hid (desig_expr hs.1.2)
      have HD_y := hid hs.2
      clear hs
      have hTT : stmtT (d + 1) ⟨14, s, num, pos, [x, y]⟩ (padT dp) = padT dp ++ (exprT d x ++ (⟨#[32, 58, 61, 32]⟩ : ByteArray) ++ exprT d y) := by
       rw [stmtT_succ]
       simp only [stmtTStep, Nd.sub, List.getD_cons_zero, List.getD_cons_succ]
       exact ba_ext (by simp)
      rw [hTT] at hsz ⊢
      clear hTT
      obtain ⟨Tx, hT_x⟩ : ∃ T, T = exprT d x := ⟨_, rfl⟩
      rw [← hT_x] at hsz ⊢
      have HT_x := hid hT_x
      clear hT_x
      obtain ⟨Ty, hT_y⟩ : ∃ T, T = exprT d y := ⟨_, rfl⟩
      rw [← hT_y] at hsz ⊢
      have HT_y := hid hT_y
      clear hT_y
      unfold maxW at hsz
      simp only [ByteArray.size_append, ba_size, List.size_toArray, List.length_cons, List.length_nil] at hsz
      rw [← HT_x.out] at HA3_x
      have HL := hid hl
      clear hl
      have HX_x := hid hx_x
      have HK_x := hid hk_x
      clear hx_x hk_x
      have HX_y := hid hx_y
      have HK_y := hid hk_y
      clear hx_y hk_y
      clear hk
      have HB0 := hid (hb0.alloc hb0.size (.cells #[.int .i64 14, .string s, .int .i64 num, .int .i64 pos, .slice (some ⟨b, o, none⟩) 2 c] 24))
      have HR0 := hid (hr.below (bBw w (.cells #[.int .i64 14, .string s, .int .i64 num, .int .i64 pos, .slice (some ⟨b, o, none⟩) 2 c] 24)))
      have HT0 := hid (Wrote.refl w0.heap.size wb (w.alloc (.cells #[.int .i64 14, .string s, .int .i64 num, .int .i64 pos, .slice (some ⟨b, o, none⟩) 2 c] 24)))
      have HOUT := hid ((Wrote.refl w0.heap.size wb w).then hb0.size (bBw w (.cells #[.int .i64 14, .string s, .int .i64 num, .int .i64 pos, .slice (some ⟨b, o, none⟩) 2 c] 24)))
      have HBK := hid (heap_new w (.cells #[.int .i64 14, .string s, .int .i64 num, .int .i64 pos, .slice (some ⟨b, o, none⟩) 2 c] 24))
      have HNE := hid (Nat.ne_of_gt hr.lt)
      have HGE := hid hr.ge
      clear hb0 hr
      obtain ⟨fx0, fx1, fx2, fx3, fx4⟩ := nb HX_x HB0
      obtain ⟨fy0, fy1, fy2, fy3, fy4⟩ := nb HX_y HB0
      have hdeep := HR0.out.deep_at
      have hfz := HR0.out.unfrozen
      go_enter Tryz.func119, Tryz.ntmps119
      go_wp2
      generalize hW0 : w.alloc (.cells #[.int .i64 14, .string s, .int .i64 num, .int .i64 pos, .slice (some ⟨b, o, none⟩) 2 c] 24) = W0 at *
      clear hW0
      refine wp_region_held_drew (S := RegS w0.heap.size wb w0 W0) (by kernel_rfl) ⟨HB0.out.drew, HT0.out.drewn⟩ (fun hHeld => ?_)
      have HB1 := hid HB0.out.drew
      have HT1 := hid HT0.out.drewn
      have HR1 := hid (show IsWr w0.heap.size wb (S) dp W0.drew from HR0.out)
      generalize hd0 : W0.drew = V1 at *
      clear hd0
      clear fx0 fx1 fx2 fx3 fx4 fy0 fy1 fy2 fy3 fy4 hdeep hfz
      refine wpAnyH_take (i := 0) (oi := ⟨some 138, _, _, _, _, _⟩) (v := .pointer (some ⟨wb, 0, none⟩)) rfl (by kernel_rfl) (by kernel_rfl) (by kernel_rfl) (fun _ _ _ h => h) (Or.inl ⟨by rfl, by intro wx hSx; clear hSx; (try go_simp); (try omega)⟩) hHeld ?_
      simp only [Act.put, List.setIfInBounds_toArray, List.set_cons_zero, List.set_cons_succ]
      refine wpAnyH_take (i := 1) (oi := ⟨some 139, _, _, _, _, _⟩) (v := .pointer (some ⟨w.heap.size, 4, none⟩)) rfl (by kernel_rfl) (by kernel_rfl) (by kernel_rfl) (fun _ _ _ h => h) (Or.inl ⟨by rfl, by intro wx hSx; clear hSx; (try go_simp); (try omega)⟩) hHeld ?_
      simp only [Act.put, List.setIfInBounds_toArray, List.set_cons_zero, List.set_cons_succ]
      refine wpAnyH_take (i := 2) (oi := ⟨some 140, _, _, _, _, _⟩) (v := .slice (some ⟨b, o, none⟩) 2 c) rfl (by kernel_rfl) (by kernel_rfl) (by kernel_rfl) (fun _ _ _ h => h) (Or.inl ⟨by rfl, by intro wx hSx; have z0 := (bKp (n := ⟨14, s, num, pos, [x, y]⟩) (A := (some ⟨b, o, none⟩)) (c := c) HBK.out hSx.2.kept HNE.out).c4; clear hSx; (try go_simp); (try omega)⟩) hHeld ?_
      simp only [Act.put, List.setIfInBounds_toArray, List.set_cons_zero, List.set_cons_succ]
      refine wpAnyH_take (i := 3) (oi := ⟨some 141, _, _, _, _, _⟩) (v := .pointer (some ⟨b, o, none⟩)) rfl (by kernel_rfl) (by kernel_rfl) (by kernel_rfl) (fun _ _ _ h => h) (Or.inl ⟨by rfl, by intro wx hSx; clear hSx; (try go_simp); (try omega)⟩) hHeld ?_
      simp only [Act.put, List.setIfInBounds_toArray, List.set_cons_zero, List.set_cons_succ]
      refine wpAnyH_take (i := 4) (oi := ⟨some 142, _, _, _, _, _⟩) (v := (.agg #[.int .i64 x.kind, .string x.name, .int .i64 x.num, .int .i64 x.pos, .slice Ax x.subs.length cx])) rfl (by kernel_rfl) (by kernel_rfl) (by kernel_rfl) (fun _ _ _ h => h) (Or.inl ⟨by rfl, by intro wx hSx; have z0 := (HX_x.out.below hSx.1).c0; have z1 := (HX_x.out.below hSx.1).c1; have z2 := (HX_x.out.below hSx.1).c2; have z3 := (HX_x.out.below hSx.1).c3; have z4 := (HX_x.out.below hSx.1).c4; clear hSx; (try go_simp); (try omega)⟩) hHeld ?_
      simp only [Act.put, List.setIfInBounds_toArray, List.set_cons_zero, List.set_cons_succ]
      refine wpAnyH_take (i := 7) (oi := ⟨some 145, _, _, _, _, _⟩) (v := .pointer (some ⟨w.heap.size, 4, none⟩)) rfl (by kernel_rfl) (by kernel_rfl) (by kernel_rfl) (fun _ _ _ h => h) (Or.inl ⟨by rfl, by intro wx hSx; clear hSx; (try go_simp); (try omega)⟩) hHeld ?_
      simp only [Act.put, List.setIfInBounds_toArray, List.set_cons_zero, List.set_cons_succ]
      refine wpAnyH_take (i := 8) (oi := ⟨some 146, _, _, _, _, _⟩) (v := .slice (some ⟨b, o, none⟩) 2 c) rfl (by kernel_rfl) (by kernel_rfl) (by kernel_rfl) (fun _ _ _ h => h) (Or.inl ⟨by rfl, by intro wx hSx; have z0 := (bKp (n := ⟨14, s, num, pos, [x, y]⟩) (A := (some ⟨b, o, none⟩)) (c := c) HBK.out hSx.2.kept HNE.out).c4; clear hSx; (try go_simp); (try omega)⟩) hHeld ?_
      simp only [Act.put, List.setIfInBounds_toArray, List.set_cons_zero, List.set_cons_succ]
      refine wpAnyH_take (i := 9) (oi := ⟨some 147, _, _, _, _, _⟩) (v := .pointer (some ⟨b, o + 5, none⟩)) rfl (by kernel_rfl) (by kernel_rfl) (by kernel_rfl) (fun _ _ _ h => h) (Or.inl ⟨by rfl, by intro wx hSx; clear hSx; (try go_simp); (try omega)⟩) hHeld ?_
      simp only [Act.put, List.setIfInBounds_toArray, List.set_cons_zero, List.set_cons_succ]
      refine wpAnyH_take (i := 10) (oi := ⟨some 148, _, _, _, _, _⟩) (v := (.agg #[.int .i64 y.kind, .string y.name, .int .i64 y.num, .int .i64 y.pos, .slice Ay y.subs.length cy])) rfl (by kernel_rfl) (by kernel_rfl) (by kernel_rfl) (fun _ _ _ h => h) (Or.inl ⟨by rfl, by intro wx hSx; have z0 := (HX_y.out.below hSx.1).c0; have z1 := (HX_y.out.below hSx.1).c1; have z2 := (HX_y.out.below hSx.1).c2; have z3 := (HX_y.out.below hSx.1).c3; have z4 := (HX_y.out.below hSx.1).c4; clear hSx; (try go_simp); (try omega)⟩) hHeld ?_
      simp only [Act.put, List.setIfInBounds_toArray, List.set_cons_zero, List.set_cons_succ]
      refine wpAnyH_take (i := 13) (oi := ⟨some 151, _, _, _, _, _⟩) (v := .string en) rfl (by kernel_rfl) (by kernel_rfl) (by kernel_rfl) (fun _ _ _ h => h) (Or.inl ⟨by rfl, by intro wx hSx; clear hSx; (try go_simp); (try omega)⟩) hHeld ?_
      simp only [Act.put, List.setIfInBounds_toArray, List.set_cons_zero, List.set_cons_succ]
      refine wpAnyH_ready (rs := [5]) (by kernel_rfl) (by simp) (AllReadyH.cons rfl (fun K hK => ?_) AllReadyH.nil)
      rw [if_pos (by rfl)]
      go_simp
      have hct := hE3 x Ax cx V1 (HL.out.below HB1.out) (kb HK_x HB1) HD_x.out (by rw [HA3_x.out]; unfold maxT; omega)
      with_reducible refine hct.mono ?_
      clear hct
      rintro e V2 ⟨rfl, hb⟩
      rw [HA3_x.out]
      have HB2 := hid (bTh HB1.out hb)
      have HT2 := hid (HT1.out.then HB1.out.size hb)
      have HR2 := hid (HR1.out.below hb)
      clear hb
      go_simp
      clear hHeld
      refine hK.out _ _ ⟨HB2.out, HT2.out⟩ (fun hHeld => ?_)
      clear hK K
      try simp only [Act.put, List.setIfInBounds_toArray, List.set_cons_zero, List.set_cons_succ]
      refine wpAnyH_take (i := 6) (oi := ⟨some 144, _, _, _, _, _⟩) (v := .string (Tx ++ (⟨#[32, 58, 61, 32]⟩ : ByteArray))) rfl (by kernel_rfl) (by kernel_rfl) (by kernel_rfl) (fun _ _ _ h => h) (Or.inl ⟨by rfl, by intro wx hSx; clear hSx; (try go_simp); (try omega)⟩) hHeld ?_
      simp only [Act.put, List.setIfInBounds_toArray, List.set_cons_zero, List.set_cons_succ]
      refine wpAnyH_ready (rs := [11]) (by kernel_rfl) (by simp) (AllReadyH.cons rfl (fun K hK => ?_) AllReadyH.nil)
      rw [if_pos (by rfl)]
      go_simp
      have hct := hE0 y Ay cy V2 (HL.out.below HB2.out) (kb HK_y HB2) HD_y.out (by rw [← HT_y.out]; unfold maxT; omega)
      with_reducible refine hct.mono ?_
      clear hct
      rintro e V3 ⟨rfl, hb⟩
      rw [← HT_y.out]
      have HB3 := hid (bTh HB2.out hb)
      have HT3 := hid (HT2.out.then HB2.out.size hb)
      have HR3 := hid (HR2.out.below hb)
      clear hb
      go_simp
      clear hHeld
      refine hK.out _ _ ⟨HB3.out, HT3.out⟩ (fun hHeld => ?_)
      clear hK K
      try simp only [Act.put, List.setIfInBounds_toArray, List.set_cons_zero, List.set_cons_succ]
      refine wpAnyH_take (i := 12) (oi := ⟨some 150, _, _, _, _, _⟩) (v := .string (Tx ++ (⟨#[32, 58, 61, 32]⟩ : ByteArray) ++ Ty)) rfl (by kernel_rfl) (by kernel_rfl) (by kernel_rfl) (fun _ _ _ h => h) (Or.inl ⟨by rfl, by intro wx hSx; clear hSx; (try go_simp); (try omega)⟩) hHeld ?_
      simp only [Act.put, List.setIfInBounds_toArray, List.set_cons_zero, List.set_cons_succ]
      refine wpAnyH_take (i := 14) (oi := ⟨some 152, _, _, _, _, _⟩) (v := .string (Tx ++ (⟨#[32, 58, 61, 32]⟩ : ByteArray) ++ Ty ++ en)) rfl (by kernel_rfl) (by kernel_rfl) (by kernel_rfl) (fun _ _ _ h => h) (Or.inl ⟨by rfl, by intro wx hSx; clear hSx; (try go_simp); (try omega)⟩) hHeld ?_
      simp only [Act.put, List.setIfInBounds_toArray, List.set_cons_zero, List.set_cons_succ]
      refine wpAnyH_ready (rs := [15]) (by kernel_rfl) (by simp) (AllReadyH.cons rfl (fun K hK => ?_) AllReadyH.nil)
      rw [if_pos (by rfl)]
      go_simp
      have hct := line_any w0.heap.size wb (S) (Tx ++ (⟨#[32, 58, 61, 32]⟩ : ByteArray) ++ Ty ++ en) dp V3 HR3.out (by omega) (by (try simp only [ByteArray.size_append, ba_size, List.size_toArray, List.length_cons, List.length_nil]); omega) HB3.out.size
      with_reducible refine hct.mono ?_
      clear hct
      rintro e V4 ⟨rfl, hw, ht⟩
      have HB4 := hid (HB3.out.trans ht.below)
      have HT4 := hid (HT3.out.trans ht)
      have HR4 := hid hw
      clear hw ht
      go_simp
      clear hHeld
      refine hK.out _ _ ⟨HB4.out, HT4.out⟩ (fun hHeld => ?_)
      clear hK K
      try simp only [Act.put, List.setIfInBounds_toArray, List.set_cons_zero, List.set_cons_succ]
      refine wpAnyH_done (by kernel_rfl) ?_ _
      clear hHeld
      obtain ⟨x0, x1, x2, x3, x4⟩ := bKp (n := ⟨14, s, num, pos, [x, y]⟩) (A := (some ⟨b, o, none⟩)) (c := c) HBK.out HT4.out.kept HNE.out
      obtain ⟨fx0, fx1, fx2, fx3, fx4⟩ := nb HX_x HB4
      obtain ⟨fy0, fy1, fy2, fy3, fy4⟩ := nb HX_y HB4
      go_wp2
      go_end0
      exact ⟨rfl, cast_wr (by simp only [ba_assoc]) HR4.out, HOUT.out.trans HT4.out⟩
     ·have b14 : (k == 14) = false := by simpa using k14
      by_cases k15 : k = 15
      ·subst k15
       simp [stmtS_succ, stmtStep] at hs
       rcases subs with _ | ⟨x, _ | ⟨y, r⟩⟩
       ·skip
        simp at hs
       ·skip
        simp only [List.length_cons, List.length_nil, Nat.zero_add] at hlen
        obtain ⟨b, o, Ax, cx, rfl, hx_x, hk_x⟩ := hk.one (x := x) (r := []) rfl
        simp only [Nd.sub, List.getD_cons_zero] at hs
        have HA3_x := hid (atL3 (e := d) hs.1.2)
        have HD_x := hid (desig_expr hs.1.2)
        clear hs
        have hTT : stmtT (d + 1) ⟨15, s, num, pos, [x]⟩ (padT dp) = padT dp ++ exprT d x := by
         rw [stmtT_succ]
         simp only [stmtTStep, Nd.sub, List.getD_cons_zero, List.getD_cons_succ, List.length_cons, List.length_nil, Nat.zero_add, show ¬ (1 : Nat) < 1 by omega, if_false]
         exact ba_ext (by simp)
        rw [hTT] at hsz ⊢
        clear hTT
        obtain ⟨Tx, hT_x⟩ : ∃ T, T = exprT d x := ⟨_, rfl⟩
        rw [← hT_x] at hsz ⊢
        have HT_x := hid hT_x
        clear hT_x
        unfold maxW at hsz
        simp only [ByteArray.size_append, ba_size, List.size_toArray, List.length_cons, List.length_nil] at hsz
        rw [← HT_x.out] at HA3_x
        have HL := hid hl
        clear hl
        have HX_x := hid hx_x
        have HK_x := hid hk_x
        clear hx_x hk_x
        clear hk
        have HB0 := hid (hb0.alloc hb0.size (.cells #[.int .i64 15, .string s, .int .i64 num, .int .i64 pos, .slice (some ⟨b, o, none⟩) 1 c] 24))
        have HR0 := hid (hr.below (bBw w (.cells #[.int .i64 15, .string s, .int .i64 num, .int .i64 pos, .slice (some ⟨b, o, none⟩) 1 c] 24)))
        have HT0 := hid (Wrote.refl w0.heap.size wb (w.alloc (.cells #[.int .i64 15, .string s, .int .i64 num, .int .i64 pos, .slice (some ⟨b, o, none⟩) 1 c] 24)))
        have HOUT := hid ((Wrote.refl w0.heap.size wb w).then hb0.size (bBw w (.cells #[.int .i64 15, .string s, .int .i64 num, .int .i64 pos, .slice (some ⟨b, o, none⟩) 1 c] 24)))
        have HBK := hid (heap_new w (.cells #[.int .i64 15, .string s, .int .i64 num, .int .i64 pos, .slice (some ⟨b, o, none⟩) 1 c] 24))
        have HNE := hid (Nat.ne_of_gt hr.lt)
        have HGE := hid hr.ge
        clear hb0 hr
        obtain ⟨fx0, fx1, fx2, fx3, fx4⟩ := nb HX_x HB0
        have hdeep := HR0.out.deep_at
        have hfz := HR0.out.unfrozen
        go_enter Tryz.func119, Tryz.ntmps119
        go_wp2_with fail
        generalize hW0 : w.alloc (.cells #[.int .i64 15, .string s, .int .i64 num, .int .i64 pos, .slice (some ⟨b, o, none⟩) 1 c] 24) = W0 at *
        clear hW0
        have hct := hE3 x Ax cx W0 (HL.out.below HB0.out) (kb HK_x HB0) HD_x.out (by rw [HA3_x.out]; unfold maxT; omega)
        with_reducible refine hct.mono ?_
        clear hct
        rintro e V1 ⟨rfl, hb⟩
        rw [HA3_x.out]
        have HB1 := hid (bTh HB0.out hb)
        have HT1 := hid (HT0.out.then HB0.out.size hb)
        have HR1 := hid (HR0.out.below hb)
        clear hb
        clear fx0 fx1 fx2 fx3 fx4 hdeep hfz
        obtain ⟨x0, x1, x2, x3, x4⟩ := bKp (n := ⟨15, s, num, pos, [x]⟩) (A := (some ⟨b, o, none⟩)) (c := c) HBK.out HT1.out.kept HNE.out
        obtain ⟨fx0, fx1, fx2, fx3, fx4⟩ := nb HX_x HB1
        go_wp2_with fail
        have hct := line_any w0.heap.size wb (S) (Tx ++ en) dp V1 HR1.out (by omega) (by (try simp only [ByteArray.size_append, ba_size, List.size_toArray, List.length_cons, List.length_nil]); omega) HB1.out.size
        with_reducible refine hct.mono ?_
        clear hct
        rintro e V2 ⟨rfl, hw, ht⟩
        have HB2 := hid (HB1.out.trans ht.below)
        have HT2 := hid (HT1.out.trans ht)
        have HR2 := hid hw
        clear hw ht
        clear x0 x1 x2 x3 x4 fx0 fx1 fx2 fx3 fx4
        obtain ⟨x0, x1, x2, x3, x4⟩ := bKp (n := ⟨15, s, num, pos, [x]⟩) (A := (some ⟨b, o, none⟩)) (c := c) HBK.out HT2.out.kept HNE.out
        obtain ⟨fx0, fx1, fx2, fx3, fx4⟩ := nb HX_x HB2
        go_wp2
        go_end0
        exact ⟨rfl, cast_wr (by simp only [ba_assoc]) HR2.out, HOUT.out.trans HT2.out⟩
       ·skip
        simp only [List.length_cons] at hlen
        obtain ⟨b, o, Ax, cx, rfl, hx_x, hk_x⟩ := hk.one (x := x) (r := y :: r) rfl
        obtain ⟨A', hA', hsl⟩ := slice_tail b o (r.length + 1) c (by have := hk.list.1; simpa using this)
        simp only [Nd.sub, List.getD_cons_zero] at hs
        have HA3_x := hid (atL3 (e := d) hs.1.2)
        have HD_x := hid (desig_expr hs.1.2)
        have HD_r := hid (show (y :: r).all (exprS d) = true by have h := hs.2; simpa using h)
        clear hs
        have hTT : stmtT (d + 1) ⟨15, s, num, pos, x :: y :: r⟩ (padT dp) = padT dp ++ (exprT d x ++ argsT (exprT d) (y :: r)) := by
         rw [stmtT_succ]
         simp only [stmtTStep, Nd.sub, List.getD_cons_zero, List.getD_cons_succ, List.length_cons, List.drop_succ_cons, List.drop_zero, show 1 < r.length + 1 + 1 by omega, if_true]
         exact ba_ext (by simp)
        rw [hTT] at hsz ⊢
        clear hTT
        obtain ⟨Tx, hT_x⟩ : ∃ T, T = exprT d x := ⟨_, rfl⟩
        rw [← hT_x] at hsz ⊢
        have HT_x := hid hT_x
        clear hT_x
        obtain ⟨Tr, hT_r⟩ : ∃ T, T = argsT (exprT d) (y :: r) := ⟨_, rfl⟩
        rw [← hT_r] at hsz ⊢
        have HT_r := hid hT_r
        clear hT_r
        unfold maxW at hsz
        simp only [ByteArray.size_append, ba_size, List.size_toArray, List.length_cons, List.length_nil] at hsz
        rw [← HT_x.out] at HA3_x
        have HL := hid hl
        clear hl
        have HX_x := hid hx_x
        have HK_x := hid hk_x
        clear hx_x hk_x
        have HRR := hid (hk.list.tail hA')
        clear hk
        have HB0 := hid (hb0.alloc hb0.size (.cells #[.int .i64 15, .string s, .int .i64 num, .int .i64 pos, .slice (some ⟨b, o, none⟩) (r.length + 1 + 1) c] 24))
        have HR0 := hid (hr.below (bBw w (.cells #[.int .i64 15, .string s, .int .i64 num, .int .i64 pos, .slice (some ⟨b, o, none⟩) (r.length + 1 + 1) c] 24)))
        have HT0 := hid (Wrote.refl w0.heap.size wb (w.alloc (.cells #[.int .i64 15, .string s, .int .i64 num, .int .i64 pos, .slice (some ⟨b, o, none⟩) (r.length + 1 + 1) c] 24)))
        have HOUT := hid ((Wrote.refl w0.heap.size wb w).then hb0.size (bBw w (.cells #[.int .i64 15, .string s, .int .i64 num, .int .i64 pos, .slice (some ⟨b, o, none⟩) (r.length + 1 + 1) c] 24)))
        have HBK := hid (heap_new w (.cells #[.int .i64 15, .string s, .int .i64 num, .int .i64 pos, .slice (some ⟨b, o, none⟩) (r.length + 1 + 1) c] 24))
        have HNE := hid (Nat.ne_of_gt hr.lt)
        have HGE := hid hr.ge
        clear hb0 hr
        clear hA'
        obtain ⟨fx0, fx1, fx2, fx3, fx4⟩ := nb HX_x HB0
        have hdeep := HR0.out.deep_at
        have hfz := HR0.out.unfrozen
        go_enter Tryz.func119, Tryz.ntmps119
        go_wp2_with fail
        generalize hW0 : w.alloc (.cells #[.int .i64 15, .string s, .int .i64 num, .int .i64 pos, .slice (some ⟨b, o, none⟩) (r.length + 1 + 1) c] 24) = W0 at *
        clear hW0
        have hct := hE3 x Ax cx W0 (HL.out.below HB0.out) (kb HK_x HB0) HD_x.out (by rw [HA3_x.out]; unfold maxT; omega)
        with_reducible refine hct.mono ?_
        clear hct
        rintro e V1 ⟨rfl, hb⟩
        rw [HA3_x.out]
        have HB1 := hid (bTh HB0.out hb)
        have HT1 := hid (HT0.out.then HB0.out.size hb)
        have HR1 := hid (HR0.out.below hb)
        clear hb
        clear fx0 fx1 fx2 fx3 fx4 hdeep hfz
        obtain ⟨x0, x1, x2, x3, x4⟩ := bKp (n := ⟨15, s, num, pos, x :: y :: r⟩) (A := (some ⟨b, o, none⟩)) (c := c) HBK.out HT1.out.kept HNE.out
        obtain ⟨fx0, fx1, fx2, fx3, fx4⟩ := nb HX_x HB1
        go_wp2_with fail
        have hct := sayArgs_any d (sayE_any d) (y :: r) A' (c - 1) V1 (HL.out.below HB1.out) (HRR.out.below HB1.out) HD_r.out (by rw [← HT_r.out]; unfold maxT; omega)
        simp only [List.length_cons] at hct
        with_reducible refine hct.mono ?_
        clear hct
        rintro e V2 ⟨rfl, hb⟩
        rw [← HT_r.out]
        have HB2 := hid (bTh HB1.out hb)
        have HT2 := hid (HT1.out.then HB1.out.size hb)
        have HR2 := hid (HR1.out.below hb)
        clear hb
        clear x0 x1 x2 x3 x4 fx0 fx1 fx2 fx3 fx4
        obtain ⟨x0, x1, x2, x3, x4⟩ := bKp (n := ⟨15, s, num, pos, x :: y :: r⟩) (A := (some ⟨b, o, none⟩)) (c := c) HBK.out HT2.out.kept HNE.out
        obtain ⟨fx0, fx1, fx2, fx3, fx4⟩ := nb HX_x HB2
        go_wp2_with fail
        have hct := line_any w0.heap.size wb (S) (Tx ++ Tr ++ en) dp V2 HR2.out (by omega) (by (try simp only [ByteArray.size_append, ba_size, List.size_toArray, List.length_cons, List.length_nil]); omega) HB2.out.size
        with_reducible refine hct.mono ?_
        clear hct
        rintro e V3 ⟨rfl, hw, ht⟩
        have HB3 := hid (HB2.out.trans ht.below)
        have HT3 := hid (HT2.out.trans ht)
        have HR3 := hid hw
        clear hw ht
        clear x0 x1 x2 x3 x4 fx0 fx1 fx2 fx3 fx4
        obtain ⟨x0, x1, x2, x3, x4⟩ := bKp (n := ⟨15, s, num, pos, x :: y :: r⟩) (A := (some ⟨b, o, none⟩)) (c := c) HBK.out HT3.out.kept HNE.out
        obtain ⟨fx0, fx1, fx2, fx3, fx4⟩ := nb HX_x HB3
        go_wp2
        go_end0
        exact ⟨rfl, cast_wr (by simp only [ba_assoc]) HR3.out, HOUT.out.trans HT3.out⟩
      ·have b15 : (k == 15) = false := by simpa using k15
       by_cases k20 : k = 20
       ·subst k20
        simp [stmtS_succ, stmtStep] at hs
        obtain ⟨x, rfl⟩ := len1 (l := subs) (headB_len hs.1 (by omega))
        obtain ⟨b, o, Ax, cx, rfl, hx_x, hk_x⟩ := hk.one (x := x) (r := []) rfl
        simp only [List.length_cons, List.length_nil, Nat.zero_add] at hlen
        simp only [Nd.sub, List.getD_cons_zero, List.getD_cons_succ] at hs
        exact built_step d 20 (by omega) s num pos x b o c w0 w wb S dp en hl hk hb0 hr (desig_expr hs.2) hsz hdp
       ·have b20 : (k == 20) = false := by simpa using k20
        by_cases k22 : k = 22
        ·subst k22
         simp [stmtS_succ, stmtStep] at hs
         obtain ⟨x, rfl⟩ := len1 (l := subs) (headB_len hs.1 (by omega))
         obtain ⟨b, o, Ax, cx, rfl, hx_x, hk_x⟩ := hk.one (x := x) (r := []) rfl
         simp only [List.length_cons, List.length_nil, Nat.zero_add] at hlen
         simp only [Nd.sub, List.getD_cons_zero, List.getD_cons_succ] at hs
         exact built_step d 22 (by omega) s num pos x b o c w0 w wb S dp en hl hk hb0 hr (desig_expr hs.2) hsz hdp
        ·have b22 : (k == 22) = false := by simpa using k22
         by_cases k21 : k = 21
         ·subst k21
          simp [stmtS_succ, stmtStep] at hs
          obtain ⟨x, rfl⟩ := len1 (l := subs) (headB_len hs.1 (by omega))
          obtain ⟨b, o, Ax, cx, rfl, hx_x, hk_x⟩ := hk.one (x := x) (r := []) rfl
          simp only [List.length_cons, List.length_nil, Nat.zero_add] at hlen
          simp only [Nd.sub, List.getD_cons_zero, List.getD_cons_succ] at hs
          exact built_step d 21 (by omega) s num pos x b o c w0 w wb S dp en hl hk hb0 hr (hs.2) hsz hdp
         ·have b21 : (k == 21) = false := by simpa using k21
          by_cases k23 : k = 23
          ·subst k23
           simp [stmtS_succ, stmtStep] at hs
           obtain ⟨x, rfl⟩ := len1 (l := subs) (headB_len hs.1 (by omega))
           obtain ⟨b, o, Ax, cx, rfl, hx_x, hk_x⟩ := hk.one (x := x) (r := []) rfl
           simp only [List.length_cons, List.length_nil, Nat.zero_add] at hlen
           simp only [Nd.sub, List.getD_cons_zero, List.getD_cons_succ] at hs
           exact built_step d 23 (by omega) s num pos x b o c w0 w wb S dp en hl hk hb0 hr (hs.2) hsz hdp
          ·have b23 : (k == 23) = false := by simpa using k23
           exfalso
           simp [stmtS_succ, stmtStep, k14, k15, k17, k18, k19, k20, k22, k21, k23, k16] at hs
theorem ws_any : ∀ d : Nat, Says_wstmt d ∧ Says_wstmts d
 | 0 => ⟨fun _ _ _ _ _ _ _ _ _ _ hk => hk.elim, fun _ _ _ _ _ _ _ _ _ hk => hk.elim⟩
 | d + 1 => ⟨wstmt_step d (ws_any d).2, wstmts_step d (ws_any d).1⟩
end Go.Proofs.YtneohanphabneaaGreatDoor
