/-
The document's text of a tree, the walks: the four statements that are written as calls. Conditions: the tree lies in memory and is shaped; the text's length is below a bound.
-/
import Derived.Test.YtneohanphabneaaGreatDoorPut
import Derived.Test.YtneohanphabneaaGreatDoorTextR5
import Derived.Deep.RegionHeld3
namespace Go.Proofs.YtneohanphabneaaGreatDoor
set_option linter.unusedSimpArgs false
set_option linter.unusedVariables false
open Go.RowKit Go.BigFrame
theorem name_goal {P : Program} {md : Region.Mode} {ops : Array Oper} {Q : Exit → Act → World → Prop} {S : World → Prop} {fuel : Nat} {listed : Array Bool} {a : Act} {w : World}
  (h : ∀ OPS QQ A0 LS, OPS = ops → QQ = Q → A0 = a → LS = listed → wpAnyH P md OPS QQ S fuel LS A0 w) : wpAnyH P md ops Q S fuel listed a w := h _ _ _ _ rfl rfl rfl rfl
def cntB (b : Bool) : Nat := if b then 0 else 1
def LST0 (m c : Bool) : Array Bool := #[true, m, false, false, false, false, false, true, true, false, false, false, true, true, true, true, c, false, false, false]
def LST (b2 b3 b4 b5 b16 : Bool) : Array Bool := #[true, true, b2, b3, b4, b5, false, true, true, false, false, false, true, true, true, true, b16, false, false, false]
def rdyL (b2 b3 b4 b5 b16 : Bool) : List Nat := (if b2 then [] else [2]) ++ (if b3 then [] else [3]) ++ (if b4 then [] else [4]) ++ (if b5 then [] else [5]) ++ (if b16 then [] else [16])
set_option maxRecDepth 100000 in
set_option maxHeartbeats 2000000 in
theorem built_text (d : Nat) (k : Int) (hk4 : k = 20 ∨ k = 21 ∨ k = 22 ∨ k = 23) (s : ByteArray) (num pos : Int) (x : Nd) (b o c : Nat) (pad : ByteArray) (w : World) (hk : Kids w (d + 1) ⟨k, s, num, pos, [x]⟩ (some ⟨b, o, none⟩) c) (hx : exprS d x = true) (hsz : (pad ++ builtT k ++ ⟨#[40]⟩ ++ exprT d x ++ ⟨#[41]⟩).size ≤ maxT) :
  Calls Tryz.prog 48 #[.agg #[.int .i64 k, .string s, .int .i64 num, .int .i64 pos, .slice (some ⟨b, o, none⟩) 1 c], .string pad] w fun e w' => e = .returned (.string (pad ++ builtT k ++ ⟨#[40]⟩ ++ exprT d x ++ ⟨#[41]⟩)) ∧ Below w.heap.size w w' := by
 have hE := exprText_any d
 have b14 : (k == 14) = false := by rcases hk4 with rfl | rfl | rfl | rfl <;> rfl
 have b15 : (k == 15) = false := by rcases hk4 with rfl | rfl | rfl | rfl <;> rfl
 have b16 : (k == 16) = false := by rcases hk4 with rfl | rfl | rfl | rfl <;> rfl
 have b17 : (k == 17) = false := by rcases hk4 with rfl | rfl | rfl | rfl <;> rfl
 have b18 : (k == 18) = false := by rcases hk4 with rfl | rfl | rfl | rfl <;> rfl
 have b19 : (k == 19) = false := by rcases hk4 with rfl | rfl | rfl | rfl <;> rfl
 have HK4 := hid hk4
 clear hk4
 obtain ⟨B, hB⟩ : ∃ B, B = builtT k := ⟨_, rfl⟩
 obtain ⟨Tx, hT⟩ : ∃ T, T = exprT d x := ⟨_, rfl⟩
 rw [← hB, ← hT] at hsz ⊢
 unfold maxT at hsz
 simp only [ByteArray.size_append, ba_size, List.size_toArray, List.length_cons, List.length_nil] at hsz
 have HB := hid hB
 have HT_x := hid hT
 clear hB hT
 have hlen : 1 ≤ c := hk.list.1
 obtain ⟨b', o', Ax, cx, hA, hx_x, hk_x⟩ := hk.one (x := x) (r := []) rfl
 injection hA with hA
 injection hA with h3 h4
 subst h3
 subst h4
 have HD_x := hid hx
 clear hx
 have HAT := hid (bAt w ⟨k, s, num, pos, [x]⟩ (some ⟨b, o, none⟩) c 24)
 have HX_x := hid (hx_x.below (bBw w (.cells #[.int .i64 k, .string s, .int .i64 num, .int .i64 pos, .slice (some ⟨b, o, none⟩) 1 c] 24)))
 have HK_x := hid (hk_x.below (bBw w (.cells #[.int .i64 k, .string s, .int .i64 num, .int .i64 pos, .slice (some ⟨b, o, none⟩) 1 c] 24)))
 clear hx_x hk_x
 clear hk
 obtain ⟨fx0, fx1, fx2, fx3, fx4⟩ := HX_x.out
 go_enter Tryz.func48, Tryz.ntmps48
 go_wp2
 generalize hW0 : w.alloc (.cells #[.int .i64 k, .string s, .int .i64 num, .int .i64 pos, .slice (some ⟨b, o, none⟩) 1 c] 24) = W0 at *
 have HBOX := hid (show Below w.heap.size w W0 by rw [← hW0]; exact bBw _ _)
 clear hW0
 obtain ⟨x0, x1, x2, x3, x4⟩ := HAT.out
 obtain ⟨fx0, fx1, fx2, fx3, fx4⟩ := HX_x.out
 refine wp_region_held_drew (S := fun w' => Below W0.heap.size W0 w') (by kernel_rfl) (Below.refl _ _).drew (fun hHeld => ?_)
 generalize hd0 : W0.drew = V0 at *
 clear hd0
 refine wpAnyH_take (i := 0) (oi := ⟨some 166, _, _, _, _, _⟩) (v := .string pad) rfl (by kernel_rfl) (by kernel_rfl) (by kernel_rfl) (fun _ _ _ h => h) (Or.inl ⟨by rfl, by intro wx hSx; clear hSx; (try go_simp); (try omega)⟩) hHeld ?_
 simp only [Act.put, List.setIfInBounds_toArray, List.set_cons_zero, List.set_cons_succ]
 refine wpAnyH_take (i := 7) (oi := ⟨some 169, _, _, _, _, _⟩) (v := .pointer (some ⟨w.heap.size, 0, none⟩)) rfl (by kernel_rfl) (by kernel_rfl) (by kernel_rfl) (fun _ _ _ h => h) (Or.inl ⟨by rfl, by intro wx hSx; clear hSx; (try go_simp); (try omega)⟩) hHeld ?_
 simp only [Act.put, List.setIfInBounds_toArray, List.set_cons_zero, List.set_cons_succ]
 refine wpAnyH_take (i := 8) (oi := ⟨some 170, _, _, _, _, _⟩) (v := .int .i64 k) rfl (by kernel_rfl) (by kernel_rfl) (by kernel_rfl) (fun _ _ _ h => h) (Or.inl ⟨by rfl, by intro wx hSx; (try dsimp only at hSx); have z0 := (HAT.out.below hSx).c0; clear hSx; (try go_simp); (try omega)⟩) hHeld ?_
 simp only [Act.put, List.setIfInBounds_toArray, List.set_cons_zero, List.set_cons_succ]
 refine wpAnyH_take (i := 12) (oi := ⟨some 174, _, _, _, _, _⟩) (v := .pointer (some ⟨w.heap.size, 4, none⟩)) rfl (by kernel_rfl) (by kernel_rfl) (by kernel_rfl) (fun _ _ _ h => h) (Or.inl ⟨by rfl, by intro wx hSx; clear hSx; (try go_simp); (try omega)⟩) hHeld ?_
 simp only [Act.put, List.setIfInBounds_toArray, List.set_cons_zero, List.set_cons_succ]
 refine wpAnyH_take (i := 13) (oi := ⟨some 175, _, _, _, _, _⟩) (v := .slice (some ⟨b, o, none⟩) 1 c) rfl (by kernel_rfl) (by kernel_rfl) (by kernel_rfl) (fun _ _ _ h => h) (Or.inl ⟨by rfl, by intro wx hSx; (try dsimp only at hSx); have z0 := (HAT.out.below hSx).c4; clear hSx; (try go_simp); (try omega)⟩) hHeld ?_
 simp only [Act.put, List.setIfInBounds_toArray, List.set_cons_zero, List.set_cons_succ]
 refine wpAnyH_take (i := 14) (oi := ⟨some 176, _, _, _, _, _⟩) (v := .pointer (some ⟨b, o, none⟩)) rfl (by kernel_rfl) (by kernel_rfl) (by kernel_rfl) (fun _ _ _ h => h) (Or.inl ⟨by rfl, by intro wx hSx; clear hSx; (try go_simp); (try omega)⟩) hHeld ?_
 simp only [Act.put, List.setIfInBounds_toArray, List.set_cons_zero, List.set_cons_succ]
 refine wpAnyH_take (i := 15) (oi := ⟨some 177, _, _, _, _, _⟩) (v := (.agg #[.int .i64 x.kind, .string x.name, .int .i64 x.num, .int .i64 x.pos, .slice Ax x.subs.length cx])) rfl (by kernel_rfl) (by kernel_rfl) (by kernel_rfl) (fun _ _ _ h => h) (Or.inl ⟨by rfl, by intro wx hSx; (try dsimp only at hSx); have z0 := (HX_x.out.below hSx).c0; have z1 := (HX_x.out.below hSx).c1; have z2 := (HX_x.out.below hSx).c2; have z3 := (HX_x.out.below hSx).c3; have z4 := (HX_x.out.below hSx).c4; clear hSx; (try go_simp); (try omega)⟩) hHeld ?_
 simp only [Act.put, List.setIfInBounds_toArray, List.set_cons_zero, List.set_cons_succ]
 refine name_goal (fun OPS QQ A0 LS hO hQ hA hL => ?_)
 have hL0 : LS = LST0 false false := by rw [hL]; kernel_rfl
 rw [hL0]
 clear hL hL0
 have tailT : ∀ (mb : Nat) (V : World), Below W0.heap.size W0 V → MapHas V mb true true true true → wpAnyH Tryz.prog .any OPS QQ (fun w' => Below W0.heap.size W0 w') 7 (LST true true true true true) ((A0.put (some 167) (.map (some mb))).put (some 178) (.string Tx)) V := by
  intro mb V hHeld hm
  subst hO
  subst hQ
  subst hA
  unfold LST
  simp only [Act.put, List.setIfInBounds_toArray, List.set_cons_zero, List.set_cons_succ]
  refine wpAnyH_take (i := 6) (oi := ⟨some 168, _, _, _, _, _⟩) (v := .map (some mb)) rfl (by kernel_rfl) (by kernel_rfl) (by kernel_rfl) (fun _ _ _ h => h) (Or.inl ⟨by rfl, by intro wx hSx; clear hSx; (try go_simp); (try omega)⟩) hHeld ?_
  simp only [Act.put, List.setIfInBounds_toArray, List.set_cons_zero, List.set_cons_succ]
  refine wpAnyH_ready (rs := [9]) (by kernel_rfl) (by simp) (AllReadyH.cons rfl (fun K hK => ?_) AllReadyH.nil)
  rw [if_pos (by rfl)]
  have hlk := mapHas_look HK4.out hm
  rw [← HB.out] at hlk
  go_simp
  clear hlk hm
  refine hK.out _ _ hHeld (fun hHeld' => ?_)
  clear hK K hHeld'
  try simp only [Act.put, List.setIfInBounds_toArray, List.set_cons_zero, List.set_cons_succ]
  refine wpAnyH_take (i := 10) (oi := ⟨some 172, _, _, _, _, _⟩) (v := .string (pad ++ B)) rfl (by kernel_rfl) (by kernel_rfl) (by kernel_rfl) (fun _ _ _ h => h) (Or.inl ⟨by rfl, by intro wx hSx; clear hSx; (try go_simp); (try omega)⟩) hHeld ?_
  simp only [Act.put, List.setIfInBounds_toArray, List.set_cons_zero, List.set_cons_succ]
  refine wpAnyH_take (i := 11) (oi := ⟨some 173, _, _, _, _, _⟩) (v := .string (pad ++ B ++ ⟨#[40]⟩)) rfl (by kernel_rfl) (by kernel_rfl) (by kernel_rfl) (fun _ _ _ h => h) (Or.inl ⟨by rfl, by intro wx hSx; clear hSx; (try go_simp); (try omega)⟩) hHeld ?_
  simp only [Act.put, List.setIfInBounds_toArray, List.set_cons_zero, List.set_cons_succ]
  refine wpAnyH_take (i := 17) (oi := ⟨some 179, _, _, _, _, _⟩) (v := .string (pad ++ B ++ ⟨#[40]⟩ ++ Tx)) rfl (by kernel_rfl) (by kernel_rfl) (by kernel_rfl) (fun _ _ _ h => h) (Or.inl ⟨by rfl, by intro wx hSx; clear hSx; (try go_simp); (try omega)⟩) hHeld ?_
  simp only [Act.put, List.setIfInBounds_toArray, List.set_cons_zero, List.set_cons_succ]
  refine wpAnyH_take (i := 18) (oi := ⟨some 180, _, _, _, _, _⟩) (v := .string (pad ++ B ++ ⟨#[40]⟩ ++ Tx ++ ⟨#[41]⟩)) rfl (by kernel_rfl) (by kernel_rfl) (by kernel_rfl) (fun _ _ _ h => h) (Or.inl ⟨by rfl, by intro wx hSx; clear hSx; (try go_simp); (try omega)⟩) hHeld ?_
  simp only [Act.put, List.setIfInBounds_toArray, List.set_cons_zero, List.set_cons_succ]
  refine wpAnyH_ready (rs := [19]) (by kernel_rfl) (by simp) (AllReadyH.cons rfl (fun K hK => ?_) AllReadyH.nil)
  go_simp
  refine hK.out _ _ hHeld (fun _ => ?_)
  clear hK K
  refine wpAnyH_done (by kernel_rfl) ?_ _
  have HG := hid hHeld
  clear hHeld
  go_wp2
  go_ret
  exact ⟨rfl, bTh HBOX.out HG.out⟩
 have tailF : ∀ (mb : Nat) (V : World), Below W0.heap.size W0 V → MapHas V mb true true true true → wpAnyH Tryz.prog .any OPS QQ (fun w' => Below W0.heap.size W0 w') 8 (LST true true true true false) (A0.put (some 167) (.map (some mb))) V := by
  intro mb V hHeld hm
  have TT := tailT mb
  clear tailT
  subst hO
  subst hQ
  subst hA
  unfold LST
  simp only [Act.put, List.setIfInBounds_toArray, List.set_cons_zero, List.set_cons_succ]
  refine wpAnyH_take (i := 6) (oi := ⟨some 168, _, _, _, _, _⟩) (v := .map (some mb)) rfl (by kernel_rfl) (by kernel_rfl) (by kernel_rfl) (fun _ _ _ h => h) (Or.inl ⟨by rfl, by intro wx hSx; clear hSx; (try go_simp); (try omega)⟩) hHeld ?_
  simp only [Act.put, List.setIfInBounds_toArray, List.set_cons_zero, List.set_cons_succ]
  refine wpAnyH_ready (rs := [9, 16]) (by kernel_rfl) (by simp) (AllReadyH.cons rfl (fun K hK => ?_) (AllReadyH.cons rfl (fun K hK => ?_) AllReadyH.nil))
  ·skip
   rw [if_pos (by rfl)]
   have hlk := mapHas_look HK4.out hm
   rw [← HB.out] at hlk
   go_simp
   clear hlk hm
   refine hK.out _ _ hHeld (fun hHeld' => ?_)
   clear hK K hHeld'
   try simp only [Act.put, List.setIfInBounds_toArray, List.set_cons_zero, List.set_cons_succ]
   refine wpAnyH_take (i := 10) (oi := ⟨some 172, _, _, _, _, _⟩) (v := .string (pad ++ B)) rfl (by kernel_rfl) (by kernel_rfl) (by kernel_rfl) (fun _ _ _ h => h) (Or.inl ⟨by rfl, by intro wx hSx; clear hSx; (try go_simp); (try omega)⟩) hHeld ?_
   simp only [Act.put, List.setIfInBounds_toArray, List.set_cons_zero, List.set_cons_succ]
   refine wpAnyH_take (i := 11) (oi := ⟨some 173, _, _, _, _, _⟩) (v := .string (pad ++ B ++ ⟨#[40]⟩)) rfl (by kernel_rfl) (by kernel_rfl) (by kernel_rfl) (fun _ _ _ h => h) (Or.inl ⟨by rfl, by intro wx hSx; clear hSx; (try go_simp); (try omega)⟩) hHeld ?_
   simp only [Act.put, List.setIfInBounds_toArray, List.set_cons_zero, List.set_cons_succ]
   refine wpAnyH_ready (rs := [16]) (by kernel_rfl) (by simp) (AllReadyH.cons rfl (fun K hK => ?_) AllReadyH.nil)
   rw [if_pos (by rfl)]
   go_simp
   refine (hE x Ax cx _ (HK_x.out.below hHeld) HD_x.out (by rw [← HT_x.out]; unfold maxT; omega)).mono ?_
   rintro e V1 ⟨rfl, hb1⟩
   rw [← HT_x.out]
   go_simp
   have hS1 : Below W0.heap.size W0 V1 := bTh hHeld hb1
   clear hb1 hHeld
   refine hK.out _ _ hS1 (fun hHeld => ?_)
   clear hK K hS1
   try simp only [Act.put, List.setIfInBounds_toArray, List.set_cons_zero, List.set_cons_succ]
   refine wpAnyH_take (i := 17) (oi := ⟨some 179, _, _, _, _, _⟩) (v := .string (pad ++ B ++ ⟨#[40]⟩ ++ Tx)) rfl (by kernel_rfl) (by kernel_rfl) (by kernel_rfl) (fun _ _ _ h => h) (Or.inl ⟨by rfl, by intro wx hSx; clear hSx; (try go_simp); (try omega)⟩) hHeld ?_
   simp only [Act.put, List.setIfInBounds_toArray, List.set_cons_zero, List.set_cons_succ]
   refine wpAnyH_take (i := 18) (oi := ⟨some 180, _, _, _, _, _⟩) (v := .string (pad ++ B ++ ⟨#[40]⟩ ++ Tx ++ ⟨#[41]⟩)) rfl (by kernel_rfl) (by kernel_rfl) (by kernel_rfl) (fun _ _ _ h => h) (Or.inl ⟨by rfl, by intro wx hSx; clear hSx; (try go_simp); (try omega)⟩) hHeld ?_
   simp only [Act.put, List.setIfInBounds_toArray, List.set_cons_zero, List.set_cons_succ]
   refine wpAnyH_ready (rs := [19]) (by kernel_rfl) (by simp) (AllReadyH.cons rfl (fun K hK => ?_) AllReadyH.nil)
   go_simp
   refine hK.out _ _ hHeld (fun _ => ?_)
   clear hK K
   refine wpAnyH_done (by kernel_rfl) ?_ _
   have HG := hid hHeld
   clear hHeld
   go_wp2
   go_ret
   exact ⟨rfl, bTh HBOX.out HG.out⟩
  ·skip
   rw [if_pos (by rfl)]
   go_simp
   refine (hE x Ax cx _ (HK_x.out.below hHeld) HD_x.out (by rw [← HT_x.out]; unfold maxT; omega)).mono ?_
   rintro e V2 ⟨rfl, hb2⟩
   rw [← HT_x.out]
   go_simp
   have hS2 : Below W0.heap.size W0 V2 := bTh hHeld hb2
   have hm2 := hm.below hb2
   clear hm
   have hm := hm2
   clear hm2
   clear hb2 hHeld
   refine hK.out _ _ hS2 (fun hHeld => ?_)
   clear hK K hS2
   try simp only [Act.put, List.setIfInBounds_toArray, List.set_cons_zero, List.set_cons_succ]
   clear TT
   refine wpAnyH_ready (rs := [9]) (by kernel_rfl) (by simp) (AllReadyH.cons rfl (fun K hK => ?_) AllReadyH.nil)
   rw [if_pos (by rfl)]
   have hlk := mapHas_look HK4.out hm
   rw [← HB.out] at hlk
   go_simp
   clear hlk hm
   refine hK.out _ _ hHeld (fun hHeld' => ?_)
   clear hK K hHeld'
   try simp only [Act.put, List.setIfInBounds_toArray, List.set_cons_zero, List.set_cons_succ]
   refine wpAnyH_take (i := 10) (oi := ⟨some 172, _, _, _, _, _⟩) (v := .string (pad ++ B)) rfl (by kernel_rfl) (by kernel_rfl) (by kernel_rfl) (fun _ _ _ h => h) (Or.inl ⟨by rfl, by intro wx hSx; clear hSx; (try go_simp); (try omega)⟩) hHeld ?_
   simp only [Act.put, List.setIfInBounds_toArray, List.set_cons_zero, List.set_cons_succ]
   refine wpAnyH_take (i := 11) (oi := ⟨some 173, _, _, _, _, _⟩) (v := .string (pad ++ B ++ ⟨#[40]⟩)) rfl (by kernel_rfl) (by kernel_rfl) (by kernel_rfl) (fun _ _ _ h => h) (Or.inl ⟨by rfl, by intro wx hSx; clear hSx; (try go_simp); (try omega)⟩) hHeld ?_
   simp only [Act.put, List.setIfInBounds_toArray, List.set_cons_zero, List.set_cons_succ]
   refine wpAnyH_take (i := 17) (oi := ⟨some 179, _, _, _, _, _⟩) (v := .string (pad ++ B ++ ⟨#[40]⟩ ++ Tx)) rfl (by kernel_rfl) (by kernel_rfl) (by kernel_rfl) (fun _ _ _ h => h) (Or.inl ⟨by rfl, by intro wx hSx; clear hSx; (try go_simp); (try omega)⟩) hHeld ?_
   simp only [Act.put, List.setIfInBounds_toArray, List.set_cons_zero, List.set_cons_succ]
   refine wpAnyH_take (i := 18) (oi := ⟨some 180, _, _, _, _, _⟩) (v := .string (pad ++ B ++ ⟨#[40]⟩ ++ Tx ++ ⟨#[41]⟩)) rfl (by kernel_rfl) (by kernel_rfl) (by kernel_rfl) (fun _ _ _ h => h) (Or.inl ⟨by rfl, by intro wx hSx; clear hSx; (try go_simp); (try omega)⟩) hHeld ?_
   simp only [Act.put, List.setIfInBounds_toArray, List.set_cons_zero, List.set_cons_succ]
   refine wpAnyH_ready (rs := [19]) (by kernel_rfl) (by simp) (AllReadyH.cons rfl (fun K hK => ?_) AllReadyH.nil)
   go_simp
   refine hK.out _ _ hHeld (fun _ => ?_)
   clear hK K
   refine wpAnyH_done (by kernel_rfl) ?_ _
   have HG := hid hHeld
   clear hHeld
   go_wp2
   go_ret
   exact ⟨rfl, bTh HBOX.out HG.out⟩
 clear hQ
 have key : ∀ (n : Nat) (mb : Nat) (b2 b3 b4 b5 b16 : Bool) (V : World), W0.heap.size ≤ mb → cntB b2 + cntB b3 + cntB b4 + cntB b5 + cntB b16 = n → Below W0.heap.size W0 V → MapHas V mb b2 b3 b4 b5 → wpAnyH Tryz.prog .any OPS QQ (fun w' => Below W0.heap.size W0 w') (n + 7) (LST b2 b3 b4 b5 b16) (if b16 then (A0.put (some 167) (.map (some mb))).put (some 178) (.string Tx) else A0.put (some 167) (.map (some mb))) V := by
  intro n
  induction n with
  | zero =>
   intro mb b2 b3 b4 b5 b16 V hge hn hHeld hm
   have : b2 = true ∧ b3 = true ∧ b4 = true ∧ b5 = true ∧ b16 = true := by cases b2 <;> cases b3 <;> cases b4 <;> cases b5 <;> cases b16 <;> simp [cntB] at hn ⊢
   obtain ⟨rfl, rfl, rfl, rfl, rfl⟩ := this
   exact tailT mb V hHeld hm
  | succ n ih =>
   intro mb b2 b3 b4 b5 b16 V hge hn hHeld hm
   by_cases hall : b2 = true ∧ b3 = true ∧ b4 = true ∧ b5 = true
   ·skip
    obtain ⟨rfl, rfl, rfl, rfl⟩ := hall
    cases b16 with
    | true => simp [cntB] at hn
    | false =>
     have hn1 : n = 0 := by simpa [cntB] using hn.symm
     subst hn1
     exact tailF mb V hHeld hm
   ·skip
    have IH := hid ih
    have HN := hid hn
    have HGE := hid hge
    clear ih tailT tailF hn hge
    have hrd : Region.ready .any OPS (LST b2 b3 b4 b5 b16) = rdyL b2 b3 b4 b5 b16 := by subst hO; revert hall; cases b2 <;> cases b3 <;> cases b4 <;> cases b5 <;> cases b16 <;> intro hall <;> first | (exfalso; exact hall ⟨rfl, rfl, rfl, rfl⟩; done) | kernel_rfl
    refine wpAnyH_all hrd (by revert hall; cases b2 <;> cases b3 <;> cases b4 <;> cases b5 <;> simp [rdyL]) ?_
    clear hrd hall
    intro i hi
    have hcase : (i = 2 ∧ b2 = false) ∨ (i = 3 ∧ b3 = false) ∨ (i = 4 ∧ b4 = false) ∨ (i = 5 ∧ b5 = false) ∨ (i = 16 ∧ b16 = false) := by revert hi; cases b2 <;> cases b3 <;> cases b4 <;> cases b5 <;> cases b16 <;> simp [rdyL]
    clear hi
    rcases hcase with ⟨rfl, rfl⟩ | ⟨rfl, rfl⟩ | ⟨rfl, rfl⟩ | ⟨rfl, rfl⟩ | ⟨rfl, rfl⟩
    ·skip
     obtain ⟨V', hrun, hm', hB'⟩ := mapHas_ins20 hm
     have hS := hB' _ _ hHeld HGE.out
     have HST := hid (IH.out mb true b3 b4 b5 b16 V' HGE.out (by have := HN.out; simp only [cntB] at this ⊢; simp at this ⊢; omega) hS hm')
     clear hB' hm' hm hHeld
     have HS := hid hS
     clear hS
     cases b16 with
     | false =>
      have hst := HST.out
      clear HST IH HN
      rw [show LST true b3 b4 b5 false = (LST false b3 b4 b5 false).setIfInBounds 2 true from rfl] at hst
      simp only [Bool.false_eq_true, if_false, if_true] at hst ⊢
      subst hO
      subst hA
      simp only [Act.put, List.setIfInBounds_toArray, List.set_cons_zero, List.set_cons_succ] at hst ⊢
      refine (AllReadyH.cons rfl (fun K hK => ?_) AllReadyH.nil : AllReadyH _ _ _ _ _ _ _ _ _ [2]) 2 (by simp)
      have HST := hid hst
      clear hst
      rw [if_pos (by rfl)]
      unfold kv20 at hrun
      go_simp
      exact hK.out _ _ HS.out (fun _ => HST.out)
     | true =>
      have hst := HST.out
      clear HST IH HN
      rw [show LST true b3 b4 b5 true = (LST false b3 b4 b5 true).setIfInBounds 2 true from rfl] at hst
      simp only [Bool.false_eq_true, if_false, if_true] at hst ⊢
      subst hO
      subst hA
      simp only [Act.put, List.setIfInBounds_toArray, List.set_cons_zero, List.set_cons_succ] at hst ⊢
      refine (AllReadyH.cons rfl (fun K hK => ?_) AllReadyH.nil : AllReadyH _ _ _ _ _ _ _ _ _ [2]) 2 (by simp)
      have HST := hid hst
      clear hst
      rw [if_pos (by rfl)]
      unfold kv20 at hrun
      go_simp
      exact hK.out _ _ HS.out (fun _ => HST.out)
    ·skip
     obtain ⟨V', hrun, hm', hB'⟩ := mapHas_ins22 hm
     have hS := hB' _ _ hHeld HGE.out
     have HST := hid (IH.out mb b2 true b4 b5 b16 V' HGE.out (by have := HN.out; simp only [cntB] at this ⊢; simp at this ⊢; omega) hS hm')
     clear hB' hm' hm hHeld
     have HS := hid hS
     clear hS
     cases b16 with
     | false =>
      have hst := HST.out
      clear HST IH HN
      rw [show LST b2 true b4 b5 false = (LST b2 false b4 b5 false).setIfInBounds 3 true from rfl] at hst
      simp only [Bool.false_eq_true, if_false, if_true] at hst ⊢
      subst hO
      subst hA
      simp only [Act.put, List.setIfInBounds_toArray, List.set_cons_zero, List.set_cons_succ] at hst ⊢
      refine (AllReadyH.cons rfl (fun K hK => ?_) AllReadyH.nil : AllReadyH _ _ _ _ _ _ _ _ _ [3]) 3 (by simp)
      have HST := hid hst
      clear hst
      rw [if_pos (by rfl)]
      unfold kv22 at hrun
      go_simp
      exact hK.out _ _ HS.out (fun _ => HST.out)
     | true =>
      have hst := HST.out
      clear HST IH HN
      rw [show LST b2 true b4 b5 true = (LST b2 false b4 b5 true).setIfInBounds 3 true from rfl] at hst
      simp only [Bool.false_eq_true, if_false, if_true] at hst ⊢
      subst hO
      subst hA
      simp only [Act.put, List.setIfInBounds_toArray, List.set_cons_zero, List.set_cons_succ] at hst ⊢
      refine (AllReadyH.cons rfl (fun K hK => ?_) AllReadyH.nil : AllReadyH _ _ _ _ _ _ _ _ _ [3]) 3 (by simp)
      have HST := hid hst
      clear hst
      rw [if_pos (by rfl)]
      unfold kv22 at hrun
      go_simp
      exact hK.out _ _ HS.out (fun _ => HST.out)
    ·skip
     obtain ⟨V', hrun, hm', hB'⟩ := mapHas_ins21 hm
     have hS := hB' _ _ hHeld HGE.out
     have HST := hid (IH.out mb b2 b3 true b5 b16 V' HGE.out (by have := HN.out; simp only [cntB] at this ⊢; simp at this ⊢; omega) hS hm')
     clear hB' hm' hm hHeld
     have HS := hid hS
     clear hS
     cases b16 with
     | false =>
      have hst := HST.out
      clear HST IH HN
      rw [show LST b2 b3 true b5 false = (LST b2 b3 false b5 false).setIfInBounds 4 true from rfl] at hst
      simp only [Bool.false_eq_true, if_false, if_true] at hst ⊢
      subst hO
      subst hA
      simp only [Act.put, List.setIfInBounds_toArray, List.set_cons_zero, List.set_cons_succ] at hst ⊢
      refine (AllReadyH.cons rfl (fun K hK => ?_) AllReadyH.nil : AllReadyH _ _ _ _ _ _ _ _ _ [4]) 4 (by simp)
      have HST := hid hst
      clear hst
      rw [if_pos (by rfl)]
      unfold kv21 at hrun
      go_simp
      exact hK.out _ _ HS.out (fun _ => HST.out)
     | true =>
      have hst := HST.out
      clear HST IH HN
      rw [show LST b2 b3 true b5 true = (LST b2 b3 false b5 true).setIfInBounds 4 true from rfl] at hst
      simp only [Bool.false_eq_true, if_false, if_true] at hst ⊢
      subst hO
      subst hA
      simp only [Act.put, List.setIfInBounds_toArray, List.set_cons_zero, List.set_cons_succ] at hst ⊢
      refine (AllReadyH.cons rfl (fun K hK => ?_) AllReadyH.nil : AllReadyH _ _ _ _ _ _ _ _ _ [4]) 4 (by simp)
      have HST := hid hst
      clear hst
      rw [if_pos (by rfl)]
      unfold kv21 at hrun
      go_simp
      exact hK.out _ _ HS.out (fun _ => HST.out)
    ·skip
     obtain ⟨V', hrun, hm', hB'⟩ := mapHas_ins23 hm
     have hS := hB' _ _ hHeld HGE.out
     have HST := hid (IH.out mb b2 b3 b4 true b16 V' HGE.out (by have := HN.out; simp only [cntB] at this ⊢; simp at this ⊢; omega) hS hm')
     clear hB' hm' hm hHeld
     have HS := hid hS
     clear hS
     cases b16 with
     | false =>
      have hst := HST.out
      clear HST IH HN
      rw [show LST b2 b3 b4 true false = (LST b2 b3 b4 false false).setIfInBounds 5 true from rfl] at hst
      simp only [Bool.false_eq_true, if_false, if_true] at hst ⊢
      subst hO
      subst hA
      simp only [Act.put, List.setIfInBounds_toArray, List.set_cons_zero, List.set_cons_succ] at hst ⊢
      refine (AllReadyH.cons rfl (fun K hK => ?_) AllReadyH.nil : AllReadyH _ _ _ _ _ _ _ _ _ [5]) 5 (by simp)
      have HST := hid hst
      clear hst
      rw [if_pos (by rfl)]
      unfold kv23 at hrun
      go_simp
      exact hK.out _ _ HS.out (fun _ => HST.out)
     | true =>
      have hst := HST.out
      clear HST IH HN
      rw [show LST b2 b3 b4 true true = (LST b2 b3 b4 false true).setIfInBounds 5 true from rfl] at hst
      simp only [Bool.false_eq_true, if_false, if_true] at hst ⊢
      subst hO
      subst hA
      simp only [Act.put, List.setIfInBounds_toArray, List.set_cons_zero, List.set_cons_succ] at hst ⊢
      refine (AllReadyH.cons rfl (fun K hK => ?_) AllReadyH.nil : AllReadyH _ _ _ _ _ _ _ _ _ [5]) 5 (by simp)
      have HST := hid hst
      clear hst
      rw [if_pos (by rfl)]
      unfold kv23 at hrun
      go_simp
      exact hK.out _ _ HS.out (fun _ => HST.out)
    ·skip
     have HM := hid hm
     clear hm
     have hst := fun V' hS hM => IH.out mb b2 b3 b4 b5 true V' HGE.out (by have := HN.out; simp only [cntB] at this ⊢; simp at this ⊢; omega) hS hM
     clear IH HN
     rw [show LST b2 b3 b4 b5 true = (LST b2 b3 b4 b5 false).setIfInBounds 16 true from rfl] at hst
     simp only [Bool.false_eq_true, if_false, if_true] at hst ⊢
     subst hO
     subst hA
     simp only [Act.put, List.setIfInBounds_toArray, List.set_cons_zero, List.set_cons_succ] at hst ⊢
     have HST0 := hid hst
     clear hst
     refine (AllReadyH.cons rfl (fun K hK => ?_) AllReadyH.nil : AllReadyH _ _ _ _ _ _ _ _ _ [16]) 16 (by simp)
     rw [if_pos (by rfl)]
     go_simp
     refine (hE x Ax cx _ (HK_x.out.below hHeld) HD_x.out (by rw [← HT_x.out]; unfold maxT; omega)).mono ?_
     rintro e V' ⟨rfl, hb⟩
     rw [← HT_x.out]
     have HS := hid (bTh hHeld hb)
     have HST := hid (HST0.out V' HS.out (HM.out.below hb))
     clear hb hHeld HST0
     go_simp
     exact hK.out _ _ HS.out (fun _ => HST.out)
 clear tailT tailF
 have KEY := hid key
 clear key
 subst hO
 subst hA
 unfold LST0
 refine wpAnyH_ready (rs := [1, 16]) (by kernel_rfl) (by simp) (AllReadyH.cons rfl (fun K hK => ?_) (AllReadyH.cons rfl (fun K hK => ?_) AllReadyH.nil))
 ·skip
  rw [if_pos (by rfl)]
  have hmk := run_makeLit (P := Tryz.prog) 101 V0
  have HS := hid (show Below W0.heap.size W0 (V0.alloc (litMap [])) from hHeld.alloc hHeld.size _)
  have HST := hid (KEY.out 5 V0.heap.size false false false false false (V0.alloc (litMap [])) hHeld.size rfl HS.out (mapHas_new _))
  have hst := HST.out
  clear HST KEY
  rw [show LST false false false false false = (LST0 false false).setIfInBounds 1 true from rfl] at hst
  simp only [Bool.false_eq_true, if_false, if_true] at hst
  simp only [Act.put, List.setIfInBounds_toArray, List.set_cons_zero, List.set_cons_succ] at hst
  have HST := hid hst
  clear hst
  go_simp
  exact hK.out _ _ HS.out (fun _ => HST.out)
 ·skip
  rw [if_pos (by rfl)]
  go_simp
  refine (hE x Ax cx _ (HK_x.out.below hHeld) HD_x.out (by rw [← HT_x.out]; unfold maxT; omega)).mono ?_
  rintro e V9 ⟨rfl, hb9⟩
  rw [← HT_x.out]
  go_simp
  have hS9 : Below W0.heap.size W0 V9 := bTh hHeld hb9
  clear hb9 hHeld
  refine hK.out _ _ hS9 (fun hHeld => ?_)
  clear hK K hS9
  try simp only [Act.put, List.setIfInBounds_toArray, List.set_cons_zero, List.set_cons_succ]
  refine wpAnyH_ready (rs := [1]) (by kernel_rfl) (by simp) (AllReadyH.cons rfl (fun K hK => ?_) AllReadyH.nil)
  rw [if_pos (by rfl)]
  have hmk := run_makeLit (P := Tryz.prog) 101 V9
  have HS := hid (show Below W0.heap.size W0 (V9.alloc (litMap [])) from hHeld.alloc hHeld.size _)
  have HST := hid (KEY.out 4 V9.heap.size false false false false true (V9.alloc (litMap [])) hHeld.size rfl HS.out (mapHas_new _))
  have hst := HST.out
  clear HST KEY
  rw [show LST false false false false true = (LST0 false true).setIfInBounds 1 true from rfl] at hst
  simp only [Bool.false_eq_true, if_false, if_true] at hst
  simp only [Act.put, List.setIfInBounds_toArray, List.set_cons_zero, List.set_cons_succ] at hst
  have HST := hid hst
  clear hst
  go_simp
  exact hK.out _ _ HS.out (fun _ => HST.out)
end Go.Proofs.YtneohanphabneaaGreatDoor
