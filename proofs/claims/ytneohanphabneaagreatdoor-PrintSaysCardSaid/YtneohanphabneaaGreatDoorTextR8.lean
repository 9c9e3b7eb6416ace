/-
The document's text of a tree, the walks: the whole. Conditions: the tree lies in memory and is shaped; the text's length is below a bound.
-/
import Derived.Test.YtneohanphabneaaGreatDoorTextR7
namespace Go.Proofs.YtneohanphabneaaGreatDoor
set_option linter.unusedSimpArgs false
set_option linter.unusedVariables false
open Go.RowKit Go.BigFrame
def impT (l : List Nd) : ByteArray := if 0 < l.length then (⟨#[73, 77, 80, 79, 82, 84, 32]⟩ : ByteArray) ++ joinB ⟨#[44, 32]⟩ (l.map (·.name)) ++ (⟨#[59, 10]⟩ : ByteArray) else ⟨#[]⟩
def bodyT (d : Nat) (n : Nd) : ByteArray := if 0 < n.subs.length then (⟨#[66, 69, 71, 73, 78, 10]⟩ : ByteArray) ++ stmtsT d n (⟨#[32, 32]⟩ : ByteArray) else ⟨#[]⟩
/-- 'Printed'; the tree is d + 5 levels deep at most. -/
def printedT (d : Nat) (n : Nd) : ByteArray := (⟨#[77, 79, 68, 85, 76, 69, 32]⟩ : ByteArray) ++ n.name ++ (⟨#[59, 10]⟩ : ByteArray) ++ impT (n.sub 0).subs ++ declTT (d + 2) (⟨#[67, 79, 78, 83, 84]⟩ : ByteArray) (n.sub 1).subs ++ declTT (d + 2) (⟨#[84, 89, 80, 69]⟩ : ByteArray) (n.sub 2).subs ++ declTT (d + 2) (⟨#[86, 65, 82]⟩ : ByteArray) (n.sub 3).subs ++ catB ((n.sub 4).subs.map (procT d)) ++ bodyT (d + 4) (n.sub 5) ++ (⟨#[69, 78, 68, 32]⟩ : ByteArray) ++ n.name ++ (⟨#[46, 10]⟩ : ByteArray)
theorem cell_word {V w' : World} {g j : Nat} {cs : Array Value} {T : TypeId} {fr : Nat × Nat} {v : Value} (h : V.heap[g]? = some (.cells cs T fr)) (hb : Below V.heap.size V w') (hj : cs[j]? = some v) : w'.cell? ⟨g, j, none⟩ = some v := by
 have h1 := (hb.block g (heapLt h)).trans h
 simp [World.cell?, h1, hj]
theorem part_all {d : Nat} {kind : Int} {l : Nd} (h : partS d kind l = true) : (l.subs.all fun x => decide (x.kind = kind) && declS d x) = true := by
 simp only [partS, Bool.and_eq_true] at h
 exact h.2
theorem part_ok {d : Nat} {kind : Int} {l : Nd} (hk : kind = 4 ∨ kind = 5 ∨ kind = 6) (h : partS (d + 1) kind l = true) : l.subs.all (declOK d) = true := by
 have h := part_all h
 rw [List.all_eq_true] at h ⊢
 intro x hx
 have := h x hx
 simp only [Bool.and_eq_true, decide_eq_true_eq] at this
 obtain ⟨h1, h2⟩ := this
 rw [declS_succ] at h2
 rcases hk with rfl | rfl | rfl <;> simp [declStep, h1] at h2 <;> simp [declOK, h1, h2]
theorem part_proc {d : Nat} {l : Nd} (h : partS (d + 1) 7 l = true) : l.subs.all (procS d) = true := by
 have h := part_all h
 rw [List.all_eq_true] at h ⊢
 intro x hx
 have := h x hx
 simp only [Bool.and_eq_true, decide_eq_true_eq] at this
 obtain ⟨h1, h2⟩ := this
 rw [declS_succ] at h2
 simpa [declStep, h1] using h2
theorem shapedS_at (d : Nat) (n : Nd) : shapedS (d + 2) n = (headB n 2 true 0 6 && partS d 3 (n.sub 0) && partS d 4 (n.sub 1) && partS d 5 (n.sub 2) && partS d 6 (n.sub 3) && partS d 7 (n.sub 4) && stmtsS (d + 1) (n.sub 5)) := rfl
set_option maxRecDepth 100000 in
set_option maxHeartbeats 4000000 in
theorem Printed_any (d : Nat) (n : Nd) (A : Option Addr) (c : Nat) (w : World) (hk : Kids w (d + 5) n A c) (hs : shapedS (d + 5) n = true) (hsz : (printedT d n).size ≤ maxT) :
  Calls Tryz.prog 8 #[.agg #[.int .i64 n.kind, .string n.name, .int .i64 n.num, .int .i64 n.pos, .slice A n.subs.length c]] w fun e w' => e = .returned (.string (printedT d n)) ∧ Below w.heap.size w w' := by
 obtain ⟨k, s, num, pos, subs⟩ := n
 have hlen := hk.len
 unfold maxLen at hlen
 simp only at hlen
 rw [shapedS_at (d + 3)] at hs
 simp only [Bool.and_eq_true] at hs
 have hD := fun wd l A c V hk hs hz => declText_any (d + 2) wd l A c V hk hs hz
 have hP := fun n A c V hk hs hz => procText_any d n A c V hk hs hz
 have hL := (st_texts (d + 4)).2
 obtain ⟨x, y, z, v, u, t, rfl⟩ := len6 (l := subs) (headB_len hs.1.1.1.1.1.1 (by omega))
 obtain ⟨b, o, Ax, cx, rfl, hx_x, hk_x⟩ := hk.one (x := x) (r := [y, z, v, u, t]) rfl
 obtain ⟨Ay, cy, hx_y, hk_y⟩ := hk.nth rfl (i := 1) (x := y) rfl (p := o + 5) (by omega)
 obtain ⟨Az, cz, hx_z, hk_z⟩ := hk.nth rfl (i := 2) (x := z) rfl (p := o + 10) (by omega)
 obtain ⟨Av, cv, hx_v, hk_v⟩ := hk.nth rfl (i := 3) (x := v) rfl (p := o + 15) (by omega)
 obtain ⟨Au, cu, hx_u, hk_u⟩ := hk.nth rfl (i := 4) (x := u) rfl (p := o + 20) (by omega)
 obtain ⟨At, ct, hx_t, hk_t⟩ := hk.nth rfl (i := 5) (x := t) rfl (p := o + 25) (by omega)
 simp only [List.length_cons, List.length_nil, Nat.zero_add] at hlen
 simp only [Nd.sub, List.getD_cons_zero, List.getD_cons_succ] at hs
 have HO_y := hid (part_ok (.inl rfl) hs.1.1.1.1.2)
 have HO_z := hid (part_ok (.inr (.inl rfl)) hs.1.1.1.2)
 have HO_v := hid (part_ok (.inr (.inr rfl)) hs.1.1.2)
 have HO_u := hid (part_proc hs.1.2)
 have HD_t := hid hs.2
 clear hs
 have hTT : printedT d ⟨k, s, num, pos, [x, y, z, v, u, t]⟩ = (⟨#[77, 79, 68, 85, 76, 69, 32]⟩ : ByteArray) ++ s ++ (⟨#[59, 10]⟩ : ByteArray) ++ impT x.subs ++ declTT (d + 2) (⟨#[67, 79, 78, 83, 84]⟩ : ByteArray) y.subs ++ declTT (d + 2) (⟨#[84, 89, 80, 69]⟩ : ByteArray) z.subs ++ declTT (d + 2) (⟨#[86, 65, 82]⟩ : ByteArray) v.subs ++ catB (u.subs.map (procT d)) ++ bodyT (d + 4) t ++ (⟨#[69, 78, 68, 32]⟩ : ByteArray) ++ s ++ (⟨#[46, 10]⟩ : ByteArray) := rfl
 rw [hTT] at hsz ⊢
 clear hTT
 obtain ⟨Ty, hT_y⟩ : ∃ T, T = declTT (d + 2) (⟨#[67, 79, 78, 83, 84]⟩ : ByteArray) y.subs := ⟨_, rfl⟩
 rw [← hT_y] at hsz ⊢
 have HT_y := hid hT_y
 clear hT_y
 obtain ⟨Tz, hT_z⟩ : ∃ T, T = declTT (d + 2) (⟨#[84, 89, 80, 69]⟩ : ByteArray) z.subs := ⟨_, rfl⟩
 rw [← hT_z] at hsz ⊢
 have HT_z := hid hT_z
 clear hT_z
 obtain ⟨Tv, hT_v⟩ : ∃ T, T = declTT (d + 2) (⟨#[86, 65, 82]⟩ : ByteArray) v.subs := ⟨_, rfl⟩
 rw [← hT_v] at hsz ⊢
 have HT_v := hid hT_v
 clear hT_v
 obtain ⟨Tu, hT_u⟩ : ∃ T, T = catB (u.subs.map (procT d)) := ⟨_, rfl⟩
 rw [← hT_u] at hsz ⊢
 have HT_u := hid hT_u
 clear hT_u
 have hlx := hk_x.len
 unfold maxLen at hlx
 have hkx := hk_x.list
 have hly := hk_y.len
 unfold maxLen at hly
 have hky := hk_y.list
 have hlz := hk_z.len
 unfold maxLen at hlz
 have hkz := hk_z.list
 have hlv := hk_v.len
 unfold maxLen at hlv
 have hkv := hk_v.list
 have hlu := hk_u.len
 unfold maxLen at hlu
 have hku := hk_u.list
 have hlt := hk_t.len
 unfold maxLen at hlt
 have hkt := hk_t.list
 by_cases hx0 : 0 < x.subs.length
 ·skip
  by_cases ht0 : 0 < t.subs.length
  ·skip
   unfold impT bodyT at hsz ⊢
   rw [if_pos hx0] at hsz ⊢
   rw [if_pos ht0] at hsz ⊢
   obtain ⟨JJ, hJJ⟩ : ∃ JJ, JJ = joinB ⟨#[44, 32]⟩ (x.subs.map (·.name)) := ⟨_, rfl⟩
   rw [← hJJ] at hsz ⊢
   have HJJ := hid hJJ
   clear hJJ
   obtain ⟨Tt, hT_t⟩ : ∃ T, T = stmtsT (d + 4) t (⟨#[32, 32]⟩ : ByteArray) := ⟨_, rfl⟩
   rw [← hT_t] at hsz ⊢
   have HT_t := hid hT_t
   clear hT_t
   unfold maxT at hsz
   simp only [ByteArray.size_append, ba_size, List.size_toArray, List.length_cons, List.length_nil] at hsz
   have xb1 : decide ((0 : Int) < (x.subs.length : Int)) = true := decide_eq_true (by omega)
   have xb2 : decide (0 < x.subs.length) = true := decide_eq_true (by omega)
   have tb1 : decide ((0 : Int) < (t.subs.length : Int)) = true := decide_eq_true (by omega)
   have tb2 : decide (0 < t.subs.length) = true := decide_eq_true (by omega)
   have HX1 := hid hx0
   clear hx0 ht0
   have HAT := hid (bAt w ⟨k, s, num, pos, [x, y, z, v, u, t]⟩ (some ⟨b, o, none⟩) c 24)
   have HX_x := hid (hx_x.below (bBw w (.cells #[.int .i64 k, .string s, .int .i64 num, .int .i64 pos, .slice (some ⟨b, o, none⟩) 6 c] 24)))
   have HK_x := hid (hk_x.below (bBw w (.cells #[.int .i64 k, .string s, .int .i64 num, .int .i64 pos, .slice (some ⟨b, o, none⟩) 6 c] 24)))
   clear hx_x hk_x
   have HX_y := hid (hx_y.below (bBw w (.cells #[.int .i64 k, .string s, .int .i64 num, .int .i64 pos, .slice (some ⟨b, o, none⟩) 6 c] 24)))
   have HK_y := hid (hk_y.below (bBw w (.cells #[.int .i64 k, .string s, .int .i64 num, .int .i64 pos, .slice (some ⟨b, o, none⟩) 6 c] 24)))
   clear hx_y hk_y
   have HX_z := hid (hx_z.below (bBw w (.cells #[.int .i64 k, .string s, .int .i64 num, .int .i64 pos, .slice (some ⟨b, o, none⟩) 6 c] 24)))
   have HK_z := hid (hk_z.below (bBw w (.cells #[.int .i64 k, .string s, .int .i64 num, .int .i64 pos, .slice (some ⟨b, o, none⟩) 6 c] 24)))
   clear hx_z hk_z
   have HX_v := hid (hx_v.below (bBw w (.cells #[.int .i64 k, .string s, .int .i64 num, .int .i64 pos, .slice (some ⟨b, o, none⟩) 6 c] 24)))
   have HK_v := hid (hk_v.below (bBw w (.cells #[.int .i64 k, .string s, .int .i64 num, .int .i64 pos, .slice (some ⟨b, o, none⟩) 6 c] 24)))
   clear hx_v hk_v
   have HX_u := hid (hx_u.below (bBw w (.cells #[.int .i64 k, .string s, .int .i64 num, .int .i64 pos, .slice (some ⟨b, o, none⟩) 6 c] 24)))
   have HK_u := hid (hk_u.below (bBw w (.cells #[.int .i64 k, .string s, .int .i64 num, .int .i64 pos, .slice (some ⟨b, o, none⟩) 6 c] 24)))
   clear hx_u hk_u
   have HX_t := hid (hx_t.below (bBw w (.cells #[.int .i64 k, .string s, .int .i64 num, .int .i64 pos, .slice (some ⟨b, o, none⟩) 6 c] 24)))
   have HK_t := hid (hk_t.below (bBw w (.cells #[.int .i64 k, .string s, .int .i64 num, .int .i64 pos, .slice (some ⟨b, o, none⟩) 6 c] 24)))
   clear hx_t hk_t
   have HKX := hid ((hkx).below (bBw w (.cells #[.int .i64 k, .string s, .int .i64 num, .int .i64 pos, .slice (some ⟨b, o, none⟩) 6 c] 24)))
   have HKY := hid ((hky).below (bBw w (.cells #[.int .i64 k, .string s, .int .i64 num, .int .i64 pos, .slice (some ⟨b, o, none⟩) 6 c] 24)))
   have HKZ := hid ((hkz).below (bBw w (.cells #[.int .i64 k, .string s, .int .i64 num, .int .i64 pos, .slice (some ⟨b, o, none⟩) 6 c] 24)))
   have HKV := hid ((hkv).below (bBw w (.cells #[.int .i64 k, .string s, .int .i64 num, .int .i64 pos, .slice (some ⟨b, o, none⟩) 6 c] 24)))
   have HKU := hid ((hku).below (bBw w (.cells #[.int .i64 k, .string s, .int .i64 num, .int .i64 pos, .slice (some ⟨b, o, none⟩) 6 c] 24)))
   clear hk
   clear hkx hky hkz hkv hku hkt
   obtain ⟨fx0, fx1, fx2, fx3, fx4⟩ := HX_x.out
   obtain ⟨fy0, fy1, fy2, fy3, fy4⟩ := HX_y.out
   obtain ⟨fz0, fz1, fz2, fz3, fz4⟩ := HX_z.out
   obtain ⟨fv0, fv1, fv2, fv3, fv4⟩ := HX_v.out
   obtain ⟨fu0, fu1, fu2, fu3, fu4⟩ := HX_u.out
   obtain ⟨ft0, ft1, ft2, ft3, ft4⟩ := HX_t.out
   go_enter Tryz.func8, Tryz.ntmps8
   go_wp2
   generalize hW0 : w.alloc (.cells #[.int .i64 k, .string s, .int .i64 num, .int .i64 pos, .slice (some ⟨b, o, none⟩) 6 c] 24) = W0 at *
   have HBOX := hid (show Below w.heap.size w W0 by rw [← hW0]; exact bBw _ _)
   clear hW0
   obtain ⟨x0, x1, x2, x3, x4⟩ := HAT.out
   obtain ⟨fx0, fx1, fx2, fx3, fx4⟩ := HX_x.out
   obtain ⟨fy0, fy1, fy2, fy3, fy4⟩ := HX_y.out
   obtain ⟨fz0, fz1, fz2, fz3, fz4⟩ := HX_z.out
   obtain ⟨fv0, fv1, fv2, fv3, fv4⟩ := HX_v.out
   obtain ⟨fu0, fu1, fu2, fu3, fu4⟩ := HX_u.out
   obtain ⟨ft0, ft1, ft2, ft3, ft4⟩ := HX_t.out
   obtain ⟨P0, hP0⟩ : ∃ P0 : ByteArray, P0 = (⟨#[77, 79, 68, 85, 76, 69, 32]⟩ : ByteArray) ++ s ++ (⟨#[59, 10]⟩ : ByteArray) := ⟨_, rfl⟩
   try rw [← hP0]
   have HP0 := hid hP0
   have hP0z : P0.size = s.size + 9 := by rw [hP0]; simp only [ByteArray.size_append, ba_size, List.size_toArray, List.length_cons, List.length_nil]; omega
   clear hP0
   go_loopw [3, 5] (fun ss ii wr => ∃ (j : Nat) (S : ByteArray), j ≤ x.subs.length ∧ ii = .int .i64 j ∧ ss = .string S ∧ Hid (S = P0 ++ (if j = 0 then ⟨#[]⟩ else (⟨#[73, 77, 80, 79, 82, 84, 32]⟩ : ByteArray) ++ joinB ⟨#[44, 32]⟩ ((x.subs.take j).map (·.name)))) ∧ Hid (Below W0.heap.size W0 wr)) (fun _ ii _ => x.subs.length - (intOf ii).toNat)
   case atStart => exact ⟨0, _, Nat.zero_le _, rfl, rfl, hid (by rw [if_pos rfl, ba_nil]), hid (Below.refl _ _)⟩
   case round =>
    obtain ⟨j, S, hj, rfl, rfl, HSS, HCR⟩ := hrel
    clear x0 x1 x2 x3 x4 fx0 fx1 fx2 fx3 fx4 fy0 fy1 fy2 fy3 fy4 fz0 fz1 fz2 fz3 fz4 fv0 fv1 fv2 fv3 fv4 fu0 fu1 fu2 fu3 fu4 ft0 ft1 ft2 ft3 ft4
    obtain ⟨x0, x1, x2, x3, x4⟩ := nb HAT HCR
    obtain ⟨fx0, fx1, fx2, fx3, fx4⟩ := nb HX_x HCR
    obtain ⟨fy0, fy1, fy2, fy3, fy4⟩ := nb HX_y HCR
    obtain ⟨fz0, fz1, fz2, fz3, fz4⟩ := nb HX_z HCR
    obtain ⟨fv0, fv1, fv2, fv3, fv4⟩ := nb HX_v HCR
    obtain ⟨fu0, fu1, fu2, fu3, fu4⟩ := nb HX_u HCR
    obtain ⟨ft0, ft1, ft2, ft3, ft4⟩ := nb HX_t HCR
    by_cases hlt : j < x.subs.length
    ·skip
     obtain ⟨q, hq⟩ : ∃ q, x.subs[j]? = some q := ⟨_, List.getElem?_eq_getElem hlt⟩
     obtain ⟨bq, oq, Aq, cq, hA, hxq, hkq⟩ := HKX.out.2.2 j q hq
     have HA := hid hA
     have STEP := hid (joinB_step ⟨#[44, 32]⟩ (·.name) hq)
     have hle := join_le ⟨#[44, 32]⟩ (·.name) x.subs (j + 1)
     rw [STEP.out, ← HJJ.out] at hle
     have HX_q := hid hxq
     clear hxq hkq hq hA
     have fxx := fx4
     rw [HA.out] at fxx
     clear fx4
     have fx4 := fxx
     clear fxx
     have hz : S.size + q.name.size + 10 ≤ 1099511627799 := by
      rw [HSS.out]
      split at hle <;> rename_i h0
      ·rw [if_pos h0]
       simp only [ByteArray.size_append, ba_size, List.size_toArray, List.length_cons, List.length_nil] at hle ⊢
       omega
      ·rw [if_neg h0]
       simp only [ByteArray.size_append, ba_size, List.size_toArray, List.length_cons, List.length_nil] at hle ⊢
       omega
     clear hle
     obtain ⟨fq0, fq1, fq2, fq3, fq4⟩ := nb HX_q HCR
     by_cases h0 : j = 0
     ·skip
      have h0b : ((j : Int) == 0) = true := by simpa using h0
      have H0 := hid h0
      clear h0
      have hj1 : (0 : Int) ≤ (j : Int) := by omega
      have hj2 : (j : Int) < x.subs.length := by omega
      rw [HA.out]
      go_wp2
      go_roundw
      case rel => exact ⟨j + 1, _, by omega, by go_num, rfl, hid (by rw [if_neg (by omega), STEP.out, if_pos H0.out, HSS.out, if_pos H0.out]; simp only [ba_assoc, nil_ba, ba_nil]), HCR⟩
      case measure => simp [intOf]; omega
     ·skip
      have h0b : ((j : Int) == 0) = false := by simpa using h0
      have H0 := hid h0
      clear h0
      have hj1 : (0 : Int) ≤ (j : Int) := by omega
      have hj2 : (j : Int) < x.subs.length := by omega
      rw [HA.out]
      go_wp2
      go_roundw
      case rel => exact ⟨j + 1, _, by omega, by go_num, rfl, hid (by rw [if_neg (by omega), STEP.out, if_neg H0.out, HSS.out, if_neg H0.out]; simp only [ba_assoc, nil_ba, ba_nil]), HCR⟩
      case measure => simp [intOf]; omega
    ·skip
     have HSE := hid (show S ++ (⟨#[59, 10]⟩ : ByteArray) = P0 ++ ((⟨#[73, 77, 80, 79, 82, 84, 32]⟩ : ByteArray) ++ JJ ++ (⟨#[59, 10]⟩ : ByteArray)) by rw [HSS.out, if_neg (by have := HX1.out; omega), List.take_of_length_le (by omega), HJJ.out]; simp only [ba_assoc])
     have hz : S.size + 2 = P0.size + JJ.size + 9 := by have h := congrArg ByteArray.size HSE.out; simp only [ByteArray.size_append, ba_size, List.size_toArray, List.length_cons, List.length_nil] at h; omega
     go_wp2
     obtain ⟨S1, hS1⟩ : ∃ S1 : ByteArray, S1 = S ++ (⟨#[59, 10]⟩ : ByteArray) := ⟨_, rfl⟩
     try rw [← hS1]
     have HS1 := hid hS1
     have hS1z : S1.size = S.size + 2 := by rw [hS1]; simp only [ByteArray.size_append, ba_size, List.size_toArray, List.length_cons, List.length_nil]
     clear hS1
     have HW0 := hid (heap_new wr (.cells #[.string ⟨#[67, 79, 78, 83, 84]⟩, .string ⟨#[84, 89, 80, 69]⟩, .string ⟨#[86, 65, 82]⟩] 9))
     generalize hV : wr.alloc (.cells #[.string ⟨#[67, 79, 78, 83, 84]⟩, .string ⟨#[84, 89, 80, 69]⟩, .string ⟨#[86, 65, 82]⟩] 9) = V at *
     have HCV := hid (show Below W0.heap.size W0 V by rw [← hV]; exact bTh HCR.out (bBw _ _))
     clear hV
     refine wp_loop_rounds 4 ?_
     clear x0 x1 x2 x3 x4 fx0 fx1 fx2 fx3 fx4 fy0 fy1 fy2 fy3 fy4 fz0 fz1 fz2 fz3 fz4 fv0 fv1 fv2 fv3 fv4 fu0 fu1 fu2 fu3 fu4 ft0 ft1 ft2 ft3 ft4
     obtain ⟨x0, x1, x2, x3, x4⟩ := nb HAT HCV
     obtain ⟨fx0, fx1, fx2, fx3, fx4⟩ := nb HX_x HCV
     obtain ⟨fy0, fy1, fy2, fy3, fy4⟩ := nb HX_y HCV
     obtain ⟨fz0, fz1, fz2, fz3, fz4⟩ := nb HX_z HCV
     obtain ⟨fv0, fv1, fv2, fv3, fv4⟩ := nb HX_v HCV
     obtain ⟨fu0, fu1, fu2, fu3, fu4⟩ := nb HX_u HCV
     obtain ⟨ft0, ft1, ft2, ft3, ft4⟩ := nb HX_t HCV
     have g0 := cell_word HW0.out (Below.refl _ _) (j := 0) rfl
     have g1 := cell_word HW0.out (Below.refl _ _) (j := 1) rfl
     have g2 := cell_word HW0.out (Below.refl _ _) (j := 2) rfl
     rw [rounds_succ]
     go_wp2
     have r_0 := cRg x0
     have r_1 := cRg x1
     have r_2 := cRg x2
     have r_3 := cRg x3
     have r_4 := cRg x4
     have r_5 := cRg fx0
     have r_6 := cRg fx1
     have r_7 := cRg fx2
     have r_8 := cRg fx3
     have r_9 := cRg fx4
     have r_10 := cRg fy0
     have r_11 := cRg fy1
     have r_12 := cRg fy2
     have r_13 := cRg fy3
     have r_14 := cRg fy4
     have r_15 := cRg fz0
     have r_16 := cRg fz1
     have r_17 := cRg fz2
     have r_18 := cRg fz3
     have r_19 := cRg fz4
     have r_20 := cRg fv0
     have r_21 := cRg fv1
     have r_22 := cRg fv2
     have r_23 := cRg fv3
     have r_24 := cRg fv4
     have r_25 := cRg fu0
     have r_26 := cRg fu1
     have r_27 := cRg fu2
     have r_28 := cRg fu3
     have r_29 := cRg fu4
     have r_30 := cRg ft0
     have r_31 := cRg ft1
     have r_32 := cRg ft2
     have r_33 := cRg ft3
     have r_34 := cRg ft4
     have r_35 := cRg g0
     have r_36 := cRg g1
     have r_37 := cRg g2
     have cP0 : ∀ w', Below V.heap.size V w' → Calls Tryz.prog 21 #[.string (⟨#[67, 79, 78, 83, 84]⟩ : ByteArray), .slice Ay y.subs.length cy] w' fun e w'' => e = .returned (.string Ty) ∧ Below w'.heap.size w' w'' := fun w' hb => by rw [HT_y.out]; exact hD (⟨#[67, 79, 78, 83, 84]⟩ : ByteArray) y.subs Ay cy _ (HKY.out.below (bTh HCV.out hb)) HO_y.out (by rw [← HT_y.out]; unfold maxT; omega)
     have cQ0 : ∀ dd os, Calls Tryz.prog 21 #[.string (⟨#[67, 79, 78, 83, 84]⟩ : ByteArray), .slice Ay y.subs.length cy] (Go.Sort.grow (redrawn V dd) os) fun e w'' => e = .returned (.string Ty) ∧ ∃ p : Regrown, w'' = Go.Sort.grow (redrawn V p.d) p.os := fun dd os => Calls.regrown_of (cP0 _ (below_regrown _ _ _))
     clear cP0
     refine wp_region_quiet_below (by kernel_rfl) (by kernel_rfl) ?_
     repeat (go_big_quiet_step (first | with_reducible exact cQ0 _ _))
     refine wpQuiet_nil ?_
     intro _ hw'
     obtain ⟨⟨dq, osq⟩, hw''⟩ := hw'
     subst hw''
     clear cQ0 r_0 r_1 r_2 r_3 r_4 r_5 r_6 r_7 r_8 r_9 r_10 r_11 r_12 r_13 r_14 r_15 r_16 r_17 r_18 r_19 r_20 r_21 r_22 r_23 r_24 r_25 r_26 r_27 r_28 r_29 r_30 r_31 r_32 r_33 r_34 r_35 r_36 r_37
     have HX1 := hid (below_regrown V dq osq)
     have HG0 := hid (bTh HCV.out (below_regrown V dq osq))
     generalize hG : Go.Sort.grow (redrawn V dq) osq = G0 at *
     clear hG
     clear x0 x1 x2 x3 x4 fx0 fx1 fx2 fx3 fx4 fy0 fy1 fy2 fy3 fy4 fz0 fz1 fz2 fz3 fz4 fv0 fv1 fv2 fv3 fv4 fu0 fu1 fu2 fu3 fu4 ft0 ft1 ft2 ft3 ft4 g0 g1 g2
     obtain ⟨x0, x1, x2, x3, x4⟩ := nb HAT HG0
     obtain ⟨fx0, fx1, fx2, fx3, fx4⟩ := nb HX_x HG0
     obtain ⟨fy0, fy1, fy2, fy3, fy4⟩ := nb HX_y HG0
     obtain ⟨fz0, fz1, fz2, fz3, fz4⟩ := nb HX_z HG0
     obtain ⟨fv0, fv1, fv2, fv3, fv4⟩ := nb HX_v HG0
     obtain ⟨fu0, fu1, fu2, fu3, fu4⟩ := nb HX_u HG0
     obtain ⟨ft0, ft1, ft2, ft3, ft4⟩ := nb HX_t HG0
     have g0 := cell_word HW0.out HX1.out (j := 0) rfl
     have g1 := cell_word HW0.out HX1.out (j := 1) rfl
     have g2 := cell_word HW0.out HX1.out (j := 2) rfl
     go_wp2
     rw [rounds_succ]
     go_wp2
     have r_0 := cRg x0
     have r_1 := cRg x1
     have r_2 := cRg x2
     have r_3 := cRg x3
     have r_4 := cRg x4
     have r_5 := cRg fx0
     have r_6 := cRg fx1
     have r_7 := cRg fx2
     have r_8 := cRg fx3
     have r_9 := cRg fx4
     have r_10 := cRg fy0
     have r_11 := cRg fy1
     have r_12 := cRg fy2
     have r_13 := cRg fy3
     have r_14 := cRg fy4
     have r_15 := cRg fz0
     have r_16 := cRg fz1
     have r_17 := cRg fz2
     have r_18 := cRg fz3
     have r_19 := cRg fz4
     have r_20 := cRg fv0
     have r_21 := cRg fv1
     have r_22 := cRg fv2
     have r_23 := cRg fv3
     have r_24 := cRg fv4
     have r_25 := cRg fu0
     have r_26 := cRg fu1
     have r_27 := cRg fu2
     have r_28 := cRg fu3
     have r_29 := cRg fu4
     have r_30 := cRg ft0
     have r_31 := cRg ft1
     have r_32 := cRg ft2
     have r_33 := cRg ft3
     have r_34 := cRg ft4
     have r_35 := cRg g0
     have r_36 := cRg g1
     have r_37 := cRg g2
     have cP0 : ∀ w', Below G0.heap.size G0 w' → Calls Tryz.prog 21 #[.string (⟨#[84, 89, 80, 69]⟩ : ByteArray), .slice Az z.subs.length cz] w' fun e w'' => e = .returned (.string Tz) ∧ Below w'.heap.size w' w'' := fun w' hb => by rw [HT_z.out]; exact hD (⟨#[84, 89, 80, 69]⟩ : ByteArray) z.subs Az cz _ (HKZ.out.below (bTh HG0.out hb)) HO_z.out (by rw [← HT_z.out]; unfold maxT; omega)
     have cQ0 : ∀ dd os, Calls Tryz.prog 21 #[.string (⟨#[84, 89, 80, 69]⟩ : ByteArray), .slice Az z.subs.length cz] (Go.Sort.grow (redrawn G0 dd) os) fun e w'' => e = .returned (.string Tz) ∧ ∃ p : Regrown, w'' = Go.Sort.grow (redrawn G0 p.d) p.os := fun dd os => Calls.regrown_of (cP0 _ (below_regrown _ _ _))
     clear cP0
     refine wp_region_quiet_below (by kernel_rfl) (by kernel_rfl) ?_
     repeat (go_big_quiet_step (first | with_reducible exact cQ0 _ _))
     refine wpQuiet_nil ?_
     intro _ hw'
     obtain ⟨⟨dq, osq⟩, hw''⟩ := hw'
     subst hw''
     clear cQ0 r_0 r_1 r_2 r_3 r_4 r_5 r_6 r_7 r_8 r_9 r_10 r_11 r_12 r_13 r_14 r_15 r_16 r_17 r_18 r_19 r_20 r_21 r_22 r_23 r_24 r_25 r_26 r_27 r_28 r_29 r_30 r_31 r_32 r_33 r_34 r_35 r_36 r_37
     have HX2 := hid (bTh HX1.out (below_regrown G0 dq osq))
     have HG1 := hid (bTh HG0.out (below_regrown G0 dq osq))
     generalize hG : Go.Sort.grow (redrawn G0 dq) osq = G1 at *
     clear hG
     clear x0 x1 x2 x3 x4 fx0 fx1 fx2 fx3 fx4 fy0 fy1 fy2 fy3 fy4 fz0 fz1 fz2 fz3 fz4 fv0 fv1 fv2 fv3 fv4 fu0 fu1 fu2 fu3 fu4 ft0 ft1 ft2 ft3 ft4 g0 g1 g2
     obtain ⟨x0, x1, x2, x3, x4⟩ := nb HAT HG1
     obtain ⟨fx0, fx1, fx2, fx3, fx4⟩ := nb HX_x HG1
     obtain ⟨fy0, fy1, fy2, fy3, fy4⟩ := nb HX_y HG1
     obtain ⟨fz0, fz1, fz2, fz3, fz4⟩ := nb HX_z HG1
     obtain ⟨fv0, fv1, fv2, fv3, fv4⟩ := nb HX_v HG1
     obtain ⟨fu0, fu1, fu2, fu3, fu4⟩ := nb HX_u HG1
     obtain ⟨ft0, ft1, ft2, ft3, ft4⟩ := nb HX_t HG1
     have g0 := cell_word HW0.out HX2.out (j := 0) rfl
     have g1 := cell_word HW0.out HX2.out (j := 1) rfl
     have g2 := cell_word HW0.out HX2.out (j := 2) rfl
     go_wp2
     rw [rounds_succ]
     go_wp2
     have r_0 := cRg x0
     have r_1 := cRg x1
     have r_2 := cRg x2
     have r_3 := cRg x3
     have r_4 := cRg x4
     have r_5 := cRg fx0
     have r_6 := cRg fx1
     have r_7 := cRg fx2
     have r_8 := cRg fx3
     have r_9 := cRg fx4
     have r_10 := cRg fy0
     have r_11 := cRg fy1
     have r_12 := cRg fy2
     have r_13 := cRg fy3
     have r_14 := cRg fy4
     have r_15 := cRg fz0
     have r_16 := cRg fz1
     have r_17 := cRg fz2
     have r_18 := cRg fz3
     have r_19 := cRg fz4
     have r_20 := cRg fv0
     have r_21 := cRg fv1
     have r_22 := cRg fv2
     have r_23 := cRg fv3
     have r_24 := cRg fv4
     have r_25 := cRg fu0
     have r_26 := cRg fu1
     have r_27 := cRg fu2
     have r_28 := cRg fu3
     have r_29 := cRg fu4
     have r_30 := cRg ft0
     have r_31 := cRg ft1
     have r_32 := cRg ft2
     have r_33 := cRg ft3
     have r_34 := cRg ft4
     have r_35 := cRg g0
     have r_36 := cRg g1
     have r_37 := cRg g2
     have cP0 : ∀ w', Below G1.heap.size G1 w' → Calls Tryz.prog 21 #[.string (⟨#[86, 65, 82]⟩ : ByteArray), .slice Av v.subs.length cv] w' fun e w'' => e = .returned (.string Tv) ∧ Below w'.heap.size w' w'' := fun w' hb => by rw [HT_v.out]; exact hD (⟨#[86, 65, 82]⟩ : ByteArray) v.subs Av cv _ (HKV.out.below (bTh HG1.out hb)) HO_v.out (by rw [← HT_v.out]; unfold maxT; omega)
     have cQ0 : ∀ dd os, Calls Tryz.prog 21 #[.string (⟨#[86, 65, 82]⟩ : ByteArray), .slice Av v.subs.length cv] (Go.Sort.grow (redrawn G1 dd) os) fun e w'' => e = .returned (.string Tv) ∧ ∃ p : Regrown, w'' = Go.Sort.grow (redrawn G1 p.d) p.os := fun dd os => Calls.regrown_of (cP0 _ (below_regrown _ _ _))
     clear cP0
     refine wp_region_quiet_below (by kernel_rfl) (by kernel_rfl) ?_
     repeat (go_big_quiet_step (first | with_reducible exact cQ0 _ _))
     refine wpQuiet_nil ?_
     intro _ hw'
     obtain ⟨⟨dq, osq⟩, hw''⟩ := hw'
     subst hw''
     clear cQ0 r_0 r_1 r_2 r_3 r_4 r_5 r_6 r_7 r_8 r_9 r_10 r_11 r_12 r_13 r_14 r_15 r_16 r_17 r_18 r_19 r_20 r_21 r_22 r_23 r_24 r_25 r_26 r_27 r_28 r_29 r_30 r_31 r_32 r_33 r_34 r_35 r_36 r_37
     have HX3 := hid (bTh HX2.out (below_regrown G1 dq osq))
     have HG2 := hid (bTh HG1.out (below_regrown G1 dq osq))
     generalize hG : Go.Sort.grow (redrawn G1 dq) osq = G2 at *
     clear hG
     clear x0 x1 x2 x3 x4 fx0 fx1 fx2 fx3 fx4 fy0 fy1 fy2 fy3 fy4 fz0 fz1 fz2 fz3 fz4 fv0 fv1 fv2 fv3 fv4 fu0 fu1 fu2 fu3 fu4 ft0 ft1 ft2 ft3 ft4 g0 g1 g2
     obtain ⟨x0, x1, x2, x3, x4⟩ := nb HAT HG2
     obtain ⟨fx0, fx1, fx2, fx3, fx4⟩ := nb HX_x HG2
     obtain ⟨fy0, fy1, fy2, fy3, fy4⟩ := nb HX_y HG2
     obtain ⟨fz0, fz1, fz2, fz3, fz4⟩ := nb HX_z HG2
     obtain ⟨fv0, fv1, fv2, fv3, fv4⟩ := nb HX_v HG2
     obtain ⟨fu0, fu1, fu2, fu3, fu4⟩ := nb HX_u HG2
     obtain ⟨ft0, ft1, ft2, ft3, ft4⟩ := nb HX_t HG2
     go_wp2
     rw [rounds_succ]
     go_wp2
     obtain ⟨S2, hS2⟩ : ∃ S2 : ByteArray, S2 = S1 ++ Ty ++ Tz ++ Tv := ⟨_, rfl⟩
     try rw [← hS2]
     have HS2 := hid hS2
     have hS2z : S2.size = S1.size + Ty.size + Tz.size + Tv.size := by rw [hS2]; simp only [ByteArray.size_append, ba_size, List.size_toArray, List.length_cons, List.length_nil]
     clear hS2
     go_loopw [3, 8] (fun ss ii wr => ∃ (j : Nat) (S : ByteArray), j ≤ u.subs.length ∧ ii = .int .i64 j ∧ ss = .string S ∧ Hid (S = S2 ++ catB ((u.subs.take j).map (procT d))) ∧ Hid (Below W0.heap.size W0 wr)) (fun _ ii _ => u.subs.length - (intOf ii).toNat)
     case atStart => exact ⟨0, _, Nat.zero_le _, rfl, rfl, hid (by simp [catB, ba_nil]), HG2⟩
     case round =>
      obtain ⟨j, S', hj', rfl, rfl, HSS', HCR'⟩ := hrel
      clear x0 x1 x2 x3 x4 fx0 fx1 fx2 fx3 fx4 fy0 fy1 fy2 fy3 fy4 fz0 fz1 fz2 fz3 fz4 fv0 fv1 fv2 fv3 fv4 fu0 fu1 fu2 fu3 fu4 ft0 ft1 ft2 ft3 ft4
      obtain ⟨x0, x1, x2, x3, x4⟩ := HAT.out.below HCR'.out
      obtain ⟨fx0, fx1, fx2, fx3, fx4⟩ := HX_x.out.below HCR'.out
      obtain ⟨fy0, fy1, fy2, fy3, fy4⟩ := HX_y.out.below HCR'.out
      obtain ⟨fz0, fz1, fz2, fz3, fz4⟩ := HX_z.out.below HCR'.out
      obtain ⟨fv0, fv1, fv2, fv3, fv4⟩ := HX_v.out.below HCR'.out
      obtain ⟨fu0, fu1, fu2, fu3, fu4⟩ := HX_u.out.below HCR'.out
      obtain ⟨ft0, ft1, ft2, ft3, ft4⟩ := HX_t.out.below HCR'.out
      by_cases hlt' : j < u.subs.length
      ·skip
       obtain ⟨q, hq⟩ : ∃ q, u.subs[j]? = some q := ⟨_, List.getElem?_eq_getElem hlt'⟩
       obtain ⟨bq, oq, Aq, cq, hA, hxq, hkq⟩ := HKU.out.2.2 j q hq
       have HA := hid hA
       have HO_q := hid (all_at HO_u.out hq)
       have hcs := cat_size (f := procT d) hq
       have STEP := hid (cat_step (f := procT d) hq)
       have HX_q := hid hxq
       have HK_q := hid hkq
       clear hxq hkq hq hA
       have fxx := fu4
       rw [HA.out] at fxx
       clear fu4
       have fu4 := fxx
       clear fxx
       obtain ⟨Tq, hT_q⟩ : ∃ T, T = procT d q := ⟨_, rfl⟩
       rw [← hT_q, ← HT_u.out] at hcs
       have HT_q := hid hT_q
       clear hT_q
       have hz' : S'.size + Tq.size ≤ S2.size + Tu.size := by
        rw [HSS'.out]
        simp only [ByteArray.size_append]
        omega
       clear hcs
       obtain ⟨fq0, fq1, fq2, fq3, fq4⟩ := HX_q.out.below HCR'.out
       have hj1 : (0 : Int) ≤ (j : Int) := by omega
       have hj2 : (j : Int) < u.subs.length := by omega
       try rw [HA.out]
       go_wp2_with fail
       have hct := hP q Aq cq _ (HK_q.out.below HCR'.out) HO_q.out (by rw [← HT_q.out]; unfold maxT; omega)
       with_reducible refine hct.mono ?_
       clear hct
       rintro e w1 ⟨rfl, hb1⟩
       have HC1 := hid (bTh HCR'.out hb1)
       clear hb1
       clear x0 x1 x2 x3 x4 fx0 fx1 fx2 fx3 fx4 fy0 fy1 fy2 fy3 fy4 fz0 fz1 fz2 fz3 fz4 fv0 fv1 fv2 fv3 fv4 fu0 fu1 fu2 fu3 fu4 ft0 ft1 ft2 ft3 ft4 fq0 fq1 fq2 fq3 fq4
       obtain ⟨x0, x1, x2, x3, x4⟩ := nb HAT HC1
       obtain ⟨fx0, fx1, fx2, fx3, fx4⟩ := nb HX_x HC1
       obtain ⟨fy0, fy1, fy2, fy3, fy4⟩ := nb HX_y HC1
       obtain ⟨fz0, fz1, fz2, fz3, fz4⟩ := nb HX_z HC1
       obtain ⟨fv0, fv1, fv2, fv3, fv4⟩ := nb HX_v HC1
       obtain ⟨fu0, fu1, fu2, fu3, fu4⟩ := nb HX_u HC1
       obtain ⟨ft0, ft1, ft2, ft3, ft4⟩ := nb HX_t HC1
       obtain ⟨fq0, fq1, fq2, fq3, fq4⟩ := nb HX_q HC1
       rw [← HT_q.out]
       go_wp2
       go_roundw
       case rel => exact ⟨j + 1, _, by omega, by go_num, rfl, hid (by rw [STEP.out, HSS'.out, ← HT_q.out]; simp only [ba_assoc]), HC1⟩
       case measure => simp [intOf]; omega
      ·skip
       have HSE' := hid (show S' = S2 ++ Tu by rw [HSS'.out, List.take_of_length_le (by omega), HT_u.out])
       have hz' : S'.size = S2.size + Tu.size := by rw [HSE'.out]; simp only [ByteArray.size_append]
       go_wp2_with fail
       have hct := hL t At ct (⟨#[32, 32]⟩ : ByteArray) _ (HK_t.out.below HCR'.out) HD_t.out (by rw [← HT_t.out]; unfold maxT; omega) (by unfold maxT; simp [ba_size])
       with_reducible refine hct.mono ?_
       clear hct
       rintro e w2 ⟨rfl, hb2⟩
       have HC2 := hid (bTh HCR'.out hb2)
       clear hb2
       clear x0 x1 x2 x3 x4 fx0 fx1 fx2 fx3 fx4 fy0 fy1 fy2 fy3 fy4 fz0 fz1 fz2 fz3 fz4 fv0 fv1 fv2 fv3 fv4 fu0 fu1 fu2 fu3 fu4 ft0 ft1 ft2 ft3 ft4
       obtain ⟨x0, x1, x2, x3, x4⟩ := nb HAT HC2
       obtain ⟨fx0, fx1, fx2, fx3, fx4⟩ := nb HX_x HC2
       obtain ⟨fy0, fy1, fy2, fy3, fy4⟩ := nb HX_y HC2
       obtain ⟨fz0, fz1, fz2, fz3, fz4⟩ := nb HX_z HC2
       obtain ⟨fv0, fv1, fv2, fv3, fv4⟩ := nb HX_v HC2
       obtain ⟨fu0, fu1, fu2, fu3, fu4⟩ := nb HX_u HC2
       obtain ⟨ft0, ft1, ft2, ft3, ft4⟩ := nb HX_t HC2
       rw [← HT_t.out]
       go_wp2
       go_ret
       exact ⟨ret_str (by rw [HSE'.out, HS2.out, HS1.out, HSE.out, HP0.out]; simp only [ba_assoc, nil_ba, ba_nil]), bTh HBOX.out HC2.out⟩
  ·skip
   unfold impT bodyT at hsz ⊢
   rw [if_pos hx0] at hsz ⊢
   rw [if_neg ht0] at hsz ⊢
   obtain ⟨JJ, hJJ⟩ : ∃ JJ, JJ = joinB ⟨#[44, 32]⟩ (x.subs.map (·.name)) := ⟨_, rfl⟩
   rw [← hJJ] at hsz ⊢
   have HJJ := hid hJJ
   clear hJJ
   unfold maxT at hsz
   simp only [ByteArray.size_append, ba_size, List.size_toArray, List.length_cons, List.length_nil] at hsz
   have xb1 : decide ((0 : Int) < (x.subs.length : Int)) = true := decide_eq_true (by omega)
   have xb2 : decide (0 < x.subs.length) = true := decide_eq_true (by omega)
   have tb1 : decide ((0 : Int) < (t.subs.length : Int)) = false := decide_eq_false (by omega)
   have tb2 : decide (0 < t.subs.length) = false := decide_eq_false (by omega)
   have HX1 := hid hx0
   clear hx0 ht0
   have HAT := hid (bAt w ⟨k, s, num, pos, [x, y, z, v, u, t]⟩ (some ⟨b, o, none⟩) c 24)
   have HX_x := hid (hx_x.below (bBw w (.cells #[.int .i64 k, .string s, .int .i64 num, .int .i64 pos, .slice (some ⟨b, o, none⟩) 6 c] 24)))
   have HK_x := hid (hk_x.below (bBw w (.cells #[.int .i64 k, .string s, .int .i64 num, .int .i64 pos, .slice (some ⟨b, o, none⟩) 6 c] 24)))
   clear hx_x hk_x
   have HX_y := hid (hx_y.below (bBw w (.cells #[.int .i64 k, .string s, .int .i64 num, .int .i64 pos, .slice (some ⟨b, o, none⟩) 6 c] 24)))
   have HK_y := hid (hk_y.below (bBw w (.cells #[.int .i64 k, .string s, .int .i64 num, .int .i64 pos, .slice (some ⟨b, o, none⟩) 6 c] 24)))
   clear hx_y hk_y
   have HX_z := hid (hx_z.below (bBw w (.cells #[.int .i64 k, .string s, .int .i64 num, .int .i64 pos, .slice (some ⟨b, o, none⟩) 6 c] 24)))
   have HK_z := hid (hk_z.below (bBw w (.cells #[.int .i64 k, .string s, .int .i64 num, .int .i64 pos, .slice (some ⟨b, o, none⟩) 6 c] 24)))
   clear hx_z hk_z
   have HX_v := hid (hx_v.below (bBw w (.cells #[.int .i64 k, .string s, .int .i64 num, .int .i64 pos, .slice (some ⟨b, o, none⟩) 6 c] 24)))
   have HK_v := hid (hk_v.below (bBw w (.cells #[.int .i64 k, .string s, .int .i64 num, .int .i64 pos, .slice (some ⟨b, o, none⟩) 6 c] 24)))
   clear hx_v hk_v
   have HX_u := hid (hx_u.below (bBw w (.cells #[.int .i64 k, .string s, .int .i64 num, .int .i64 pos, .slice (some ⟨b, o, none⟩) 6 c] 24)))
   have HK_u := hid (hk_u.below (bBw w (.cells #[.int .i64 k, .string s, .int .i64 num, .int .i64 pos, .slice (some ⟨b, o, none⟩) 6 c] 24)))
   clear hx_u hk_u
   have HX_t := hid (hx_t.below (bBw w (.cells #[.int .i64 k, .string s, .int .i64 num, .int .i64 pos, .slice (some ⟨b, o, none⟩) 6 c] 24)))
   have HK_t := hid (hk_t.below (bBw w (.cells #[.int .i64 k, .string s, .int .i64 num, .int .i64 pos, .slice (some ⟨b, o, none⟩) 6 c] 24)))
   clear hx_t hk_t
   have HKX := hid ((hkx).below (bBw w (.cells #[.int .i64 k, .string s, .int .i64 num, .int .i64 pos, .slice (some ⟨b, o, none⟩) 6 c] 24)))
   have HKY := hid ((hky).below (bBw w (.cells #[.int .i64 k, .string s, .int .i64 num, .int .i64 pos, .slice (some ⟨b, o, none⟩) 6 c] 24)))
   have HKZ := hid ((hkz).below (bBw w (.cells #[.int .i64 k, .string s, .int .i64 num, .int .i64 pos, .slice (some ⟨b, o, none⟩) 6 c] 24)))
   have HKV := hid ((hkv).below (bBw w (.cells #[.int .i64 k, .string s, .int .i64 num, .int .i64 pos, .slice (some ⟨b, o, none⟩) 6 c] 24)))
   have HKU := hid ((hku).below (bBw w (.cells #[.int .i64 k, .string s, .int .i64 num, .int .i64 pos, .slice (some ⟨b, o, none⟩) 6 c] 24)))
   clear hk
   clear hkx hky hkz hkv hku hkt
   obtain ⟨fx0, fx1, fx2, fx3, fx4⟩ := HX_x.out
   obtain ⟨fy0, fy1, fy2, fy3, fy4⟩ := HX_y.out
   obtain ⟨fz0, fz1, fz2, fz3, fz4⟩ := HX_z.out
   obtain ⟨fv0, fv1, fv2, fv3, fv4⟩ := HX_v.out
   obtain ⟨fu0, fu1, fu2, fu3, fu4⟩ := HX_u.out
   obtain ⟨ft0, ft1, ft2, ft3, ft4⟩ := HX_t.out
   go_enter Tryz.func8, Tryz.ntmps8
   go_wp2
   generalize hW0 : w.alloc (.cells #[.int .i64 k, .string s, .int .i64 num, .int .i64 pos, .slice (some ⟨b, o, none⟩) 6 c] 24) = W0 at *
   have HBOX := hid (show Below w.heap.size w W0 by rw [← hW0]; exact bBw _ _)
   clear hW0
   obtain ⟨x0, x1, x2, x3, x4⟩ := HAT.out
   obtain ⟨fx0, fx1, fx2, fx3, fx4⟩ := HX_x.out
   obtain ⟨fy0, fy1, fy2, fy3, fy4⟩ := HX_y.out
   obtain ⟨fz0, fz1, fz2, fz3, fz4⟩ := HX_z.out
   obtain ⟨fv0, fv1, fv2, fv3, fv4⟩ := HX_v.out
   obtain ⟨fu0, fu1, fu2, fu3, fu4⟩ := HX_u.out
   obtain ⟨ft0, ft1, ft2, ft3, ft4⟩ := HX_t.out
   obtain ⟨P0, hP0⟩ : ∃ P0 : ByteArray, P0 = (⟨#[77, 79, 68, 85, 76, 69, 32]⟩ : ByteArray) ++ s ++ (⟨#[59, 10]⟩ : ByteArray) := ⟨_, rfl⟩
   try rw [← hP0]
   have HP0 := hid hP0
   have hP0z : P0.size = s.size + 9 := by rw [hP0]; simp only [ByteArray.size_append, ba_size, List.size_toArray, List.length_cons, List.length_nil]; omega
   clear hP0
   go_loopw [3, 5] (fun ss ii wr => ∃ (j : Nat) (S : ByteArray), j ≤ x.subs.length ∧ ii = .int .i64 j ∧ ss = .string S ∧ Hid (S = P0 ++ (if j = 0 then ⟨#[]⟩ else (⟨#[73, 77, 80, 79, 82, 84, 32]⟩ : ByteArray) ++ joinB ⟨#[44, 32]⟩ ((x.subs.take j).map (·.name)))) ∧ Hid (Below W0.heap.size W0 wr)) (fun _ ii _ => x.subs.length - (intOf ii).toNat)
   case atStart => exact ⟨0, _, Nat.zero_le _, rfl, rfl, hid (by rw [if_pos rfl, ba_nil]), hid (Below.refl _ _)⟩
   case round =>
    obtain ⟨j, S, hj, rfl, rfl, HSS, HCR⟩ := hrel
    clear x0 x1 x2 x3 x4 fx0 fx1 fx2 fx3 fx4 fy0 fy1 fy2 fy3 fy4 fz0 fz1 fz2 fz3 fz4 fv0 fv1 fv2 fv3 fv4 fu0 fu1 fu2 fu3 fu4 ft0 ft1 ft2 ft3 ft4
    obtain ⟨x0, x1, x2, x3, x4⟩ := nb HAT HCR
    obtain ⟨fx0, fx1, fx2, fx3, fx4⟩ := nb HX_x HCR
    obtain ⟨fy0, fy1, fy2, fy3, fy4⟩ := nb HX_y HCR
    obtain ⟨fz0, fz1, fz2, fz3, fz4⟩ := nb HX_z HCR
    obtain ⟨fv0, fv1, fv2, fv3, fv4⟩ := nb HX_v HCR
    obtain ⟨fu0, fu1, fu2, fu3, fu4⟩ := nb HX_u HCR
    obtain ⟨ft0, ft1, ft2, ft3, ft4⟩ := nb HX_t HCR
    by_cases hlt : j < x.subs.length
    ·skip
     obtain ⟨q, hq⟩ : ∃ q, x.subs[j]? = some q := ⟨_, List.getElem?_eq_getElem hlt⟩
     obtain ⟨bq, oq, Aq, cq, hA, hxq, hkq⟩ := HKX.out.2.2 j q hq
     have HA := hid hA
     have STEP := hid (joinB_step ⟨#[44, 32]⟩ (·.name) hq)
     have hle := join_le ⟨#[44, 32]⟩ (·.name) x.subs (j + 1)
     rw [STEP.out, ← HJJ.out] at hle
     have HX_q := hid hxq
     clear hxq hkq hq hA
     have fxx := fx4
     rw [HA.out] at fxx
     clear fx4
     have fx4 := fxx
     clear fxx
     have hz : S.size + q.name.size + 10 ≤ 1099511627799 := by
      rw [HSS.out]
      split at hle <;> rename_i h0
      ·rw [if_pos h0]
       simp only [ByteArray.size_append, ba_size, List.size_toArray, List.length_cons, List.length_nil] at hle ⊢
       omega
      ·rw [if_neg h0]
       simp only [ByteArray.size_append, ba_size, List.size_toArray, List.length_cons, List.length_nil] at hle ⊢
       omega
     clear hle
     obtain ⟨fq0, fq1, fq2, fq3, fq4⟩ := nb HX_q HCR
     by_cases h0 : j = 0
     ·skip
      have h0b : ((j : Int) == 0) = true := by simpa using h0
      have H0 := hid h0
      clear h0
      have hj1 : (0 : Int) ≤ (j : Int) := by omega
      have hj2 : (j : Int) < x.subs.length := by omega
      rw [HA.out]
      go_wp2
      go_roundw
      case rel => exact ⟨j + 1, _, by omega, by go_num, rfl, hid (by rw [if_neg (by omega), STEP.out, if_pos H0.out, HSS.out, if_pos H0.out]; simp only [ba_assoc, nil_ba, ba_nil]), HCR⟩
      case measure => simp [intOf]; omega
     ·skip
      have h0b : ((j : Int) == 0) = false := by simpa using h0
      have H0 := hid h0
      clear h0
      have hj1 : (0 : Int) ≤ (j : Int) := by omega
      have hj2 : (j : Int) < x.subs.length := by omega
      rw [HA.out]
      go_wp2
      go_roundw
      case rel => exact ⟨j + 1, _, by omega, by go_num, rfl, hid (by rw [if_neg (by omega), STEP.out, if_neg H0.out, HSS.out, if_neg H0.out]; simp only [ba_assoc, nil_ba, ba_nil]), HCR⟩
      case measure => simp [intOf]; omega
    ·skip
     have HSE := hid (show S ++ (⟨#[59, 10]⟩ : ByteArray) = P0 ++ ((⟨#[73, 77, 80, 79, 82, 84, 32]⟩ : ByteArray) ++ JJ ++ (⟨#[59, 10]⟩ : ByteArray)) by rw [HSS.out, if_neg (by have := HX1.out; omega), List.take_of_length_le (by omega), HJJ.out]; simp only [ba_assoc])
     have hz : S.size + 2 = P0.size + JJ.size + 9 := by have h := congrArg ByteArray.size HSE.out; simp only [ByteArray.size_append, ba_size, List.size_toArray, List.length_cons, List.length_nil] at h; omega
     go_wp2
     obtain ⟨S1, hS1⟩ : ∃ S1 : ByteArray, S1 = S ++ (⟨#[59, 10]⟩ : ByteArray) := ⟨_, rfl⟩
     try rw [← hS1]
     have HS1 := hid hS1
     have hS1z : S1.size = S.size + 2 := by rw [hS1]; simp only [ByteArray.size_append, ba_size, List.size_toArray, List.length_cons, List.length_nil]
     clear hS1
     have HW0 := hid (heap_new wr (.cells #[.string ⟨#[67, 79, 78, 83, 84]⟩, .string ⟨#[84, 89, 80, 69]⟩, .string ⟨#[86, 65, 82]⟩] 9))
     generalize hV : wr.alloc (.cells #[.string ⟨#[67, 79, 78, 83, 84]⟩, .string ⟨#[84, 89, 80, 69]⟩, .string ⟨#[86, 65, 82]⟩] 9) = V at *
     have HCV := hid (show Below W0.heap.size W0 V by rw [← hV]; exact bTh HCR.out (bBw _ _))
     clear hV
     refine wp_loop_rounds 4 ?_
     clear x0 x1 x2 x3 x4 fx0 fx1 fx2 fx3 fx4 fy0 fy1 fy2 fy3 fy4 fz0 fz1 fz2 fz3 fz4 fv0 fv1 fv2 fv3 fv4 fu0 fu1 fu2 fu3 fu4 ft0 ft1 ft2 ft3 ft4
     obtain ⟨x0, x1, x2, x3, x4⟩ := nb HAT HCV
     obtain ⟨fx0, fx1, fx2, fx3, fx4⟩ := nb HX_x HCV
     obtain ⟨fy0, fy1, fy2, fy3, fy4⟩ := nb HX_y HCV
     obtain ⟨fz0, fz1, fz2, fz3, fz4⟩ := nb HX_z HCV
     obtain ⟨fv0, fv1, fv2, fv3, fv4⟩ := nb HX_v HCV
     obtain ⟨fu0, fu1, fu2, fu3, fu4⟩ := nb HX_u HCV
     obtain ⟨ft0, ft1, ft2, ft3, ft4⟩ := nb HX_t HCV
     have g0 := cell_word HW0.out (Below.refl _ _) (j := 0) rfl
     have g1 := cell_word HW0.out (Below.refl _ _) (j := 1) rfl
     have g2 := cell_word HW0.out (Below.refl _ _) (j := 2) rfl
     rw [rounds_succ]
     go_wp2
     have r_0 := cRg x0
     have r_1 := cRg x1
     have r_2 := cRg x2
     have r_3 := cRg x3
     have r_4 := cRg x4
     have r_5 := cRg fx0
     have r_6 := cRg fx1
     have r_7 := cRg fx2
     have r_8 := cRg fx3
     have r_9 := cRg fx4
     have r_10 := cRg fy0
     have r_11 := cRg fy1
     have r_12 := cRg fy2
     have r_13 := cRg fy3
     have r_14 := cRg fy4
     have r_15 := cRg fz0
     have r_16 := cRg fz1
     have r_17 := cRg fz2
     have r_18 := cRg fz3
     have r_19 := cRg fz4
     have r_20 := cRg fv0
     have r_21 := cRg fv1
     have r_22 := cRg fv2
     have r_23 := cRg fv3
     have r_24 := cRg fv4
     have r_25 := cRg fu0
     have r_26 := cRg fu1
     have r_27 := cRg fu2
     have r_28 := cRg fu3
     have r_29 := cRg fu4
     have r_30 := cRg ft0
     have r_31 := cRg ft1
     have r_32 := cRg ft2
     have r_33 := cRg ft3
     have r_34 := cRg ft4
     have r_35 := cRg g0
     have r_36 := cRg g1
     have r_37 := cRg g2
     have cP0 : ∀ w', Below V.heap.size V w' → Calls Tryz.prog 21 #[.string (⟨#[67, 79, 78, 83, 84]⟩ : ByteArray), .slice Ay y.subs.length cy] w' fun e w'' => e = .returned (.string Ty) ∧ Below w'.heap.size w' w'' := fun w' hb => by rw [HT_y.out]; exact hD (⟨#[67, 79, 78, 83, 84]⟩ : ByteArray) y.subs Ay cy _ (HKY.out.below (bTh HCV.out hb)) HO_y.out (by rw [← HT_y.out]; unfold maxT; omega)
     have cQ0 : ∀ dd os, Calls Tryz.prog 21 #[.string (⟨#[67, 79, 78, 83, 84]⟩ : ByteArray), .slice Ay y.subs.length cy] (Go.Sort.grow (redrawn V dd) os) fun e w'' => e = .returned (.string Ty) ∧ ∃ p : Regrown, w'' = Go.Sort.grow (redrawn V p.d) p.os := fun dd os => Calls.regrown_of (cP0 _ (below_regrown _ _ _))
     clear cP0
     refine wp_region_quiet_below (by kernel_rfl) (by kernel_rfl) ?_
     repeat (go_big_quiet_step (first | with_reducible exact cQ0 _ _))
     refine wpQuiet_nil ?_
     intro _ hw'
     obtain ⟨⟨dq, osq⟩, hw''⟩ := hw'
     subst hw''
     clear cQ0 r_0 r_1 r_2 r_3 r_4 r_5 r_6 r_7 r_8 r_9 r_10 r_11 r_12 r_13 r_14 r_15 r_16 r_17 r_18 r_19 r_20 r_21 r_22 r_23 r_24 r_25 r_26 r_27 r_28 r_29 r_30 r_31 r_32 r_33 r_34 r_35 r_36 r_37
     have HX1 := hid (below_regrown V dq osq)
     have HG0 := hid (bTh HCV.out (below_regrown V dq osq))
     generalize hG : Go.Sort.grow (redrawn V dq) osq = G0 at *
     clear hG
     clear x0 x1 x2 x3 x4 fx0 fx1 fx2 fx3 fx4 fy0 fy1 fy2 fy3 fy4 fz0 fz1 fz2 fz3 fz4 fv0 fv1 fv2 fv3 fv4 fu0 fu1 fu2 fu3 fu4 ft0 ft1 ft2 ft3 ft4 g0 g1 g2
     obtain ⟨x0, x1, x2, x3, x4⟩ := nb HAT HG0
     obtain ⟨fx0, fx1, fx2, fx3, fx4⟩ := nb HX_x HG0
     obtain ⟨fy0, fy1, fy2, fy3, fy4⟩ := nb HX_y HG0
     obtain ⟨fz0, fz1, fz2, fz3, fz4⟩ := nb HX_z HG0
     obtain ⟨fv0, fv1, fv2, fv3, fv4⟩ := nb HX_v HG0
     obtain ⟨fu0, fu1, fu2, fu3, fu4⟩ := nb HX_u HG0
     obtain ⟨ft0, ft1, ft2, ft3, ft4⟩ := nb HX_t HG0
     have g0 := cell_word HW0.out HX1.out (j := 0) rfl
     have g1 := cell_word HW0.out HX1.out (j := 1) rfl
     have g2 := cell_word HW0.out HX1.out (j := 2) rfl
     go_wp2
     rw [rounds_succ]
     go_wp2
     have r_0 := cRg x0
     have r_1 := cRg x1
     have r_2 := cRg x2
     have r_3 := cRg x3
     have r_4 := cRg x4
     have r_5 := cRg fx0
     have r_6 := cRg fx1
     have r_7 := cRg fx2
     have r_8 := cRg fx3
     have r_9 := cRg fx4
     have r_10 := cRg fy0
     have r_11 := cRg fy1
     have r_12 := cRg fy2
     have r_13 := cRg fy3
     have r_14 := cRg fy4
     have r_15 := cRg fz0
     have r_16 := cRg fz1
     have r_17 := cRg fz2
     have r_18 := cRg fz3
     have r_19 := cRg fz4
     have r_20 := cRg fv0
     have r_21 := cRg fv1
     have r_22 := cRg fv2
     have r_23 := cRg fv3
     have r_24 := cRg fv4
     have r_25 := cRg fu0
     have r_26 := cRg fu1
     have r_27 := cRg fu2
     have r_28 := cRg fu3
     have r_29 := cRg fu4
     have r_30 := cRg ft0
     have r_31 := cRg ft1
     have r_32 := cRg ft2
     have r_33 := cRg ft3
     have r_34 := cRg ft4
     have r_35 := cRg g0
     have r_36 := cRg g1
     have r_37 := cRg g2
     have cP0 : ∀ w', Below G0.heap.size G0 w' → Calls Tryz.prog 21 #[.string (⟨#[84, 89, 80, 69]⟩ : ByteArray), .slice Az z.subs.length cz] w' fun e w'' => e = .returned (.string Tz) ∧ Below w'.heap.size w' w'' := fun w' hb => by rw [HT_z.out]; exact hD (⟨#[84, 89, 80, 69]⟩ : ByteArray) z.subs Az cz _ (HKZ.out.below (bTh HG0.out hb)) HO_z.out (by rw [← HT_z.out]; unfold maxT; omega)
     have cQ0 : ∀ dd os, Calls Tryz.prog 21 #[.string (⟨#[84, 89, 80, 69]⟩ : ByteArray), .slice Az z.subs.length cz] (Go.Sort.grow (redrawn G0 dd) os) fun e w'' => e = .returned (.string Tz) ∧ ∃ p : Regrown, w'' = Go.Sort.grow (redrawn G0 p.d) p.os := fun dd os => Calls.regrown_of (cP0 _ (below_regrown _ _ _))
     clear cP0
     refine wp_region_quiet_below (by kernel_rfl) (by kernel_rfl) ?_
     repeat (go_big_quiet_step (first | with_reducible exact cQ0 _ _))
     refine wpQuiet_nil ?_
     intro _ hw'
     obtain ⟨⟨dq, osq⟩, hw''⟩ := hw'
     subst hw''
     clear cQ0 r_0 r_1 r_2 r_3 r_4 r_5 r_6 r_7 r_8 r_9 r_10 r_11 r_12 r_13 r_14 r_15 r_16 r_17 r_18 r_19 r_20 r_21 r_22 r_23 r_24 r_25 r_26 r_27 r_28 r_29 r_30 r_31 r_32 r_33 r_34 r_35 r_36 r_37
     have HX2 := hid (bTh HX1.out (below_regrown G0 dq osq))
     have HG1 := hid (bTh HG0.out (below_regrown G0 dq osq))
     generalize hG : Go.Sort.grow (redrawn G0 dq) osq = G1 at *
     clear hG
     clear x0 x1 x2 x3 x4 fx0 fx1 fx2 fx3 fx4 fy0 fy1 fy2 fy3 fy4 fz0 fz1 fz2 fz3 fz4 fv0 fv1 fv2 fv3 fv4 fu0 fu1 fu2 fu3 fu4 ft0 ft1 ft2 ft3 ft4 g0 g1 g2
     obtain ⟨x0, x1, x2, x3, x4⟩ := nb HAT HG1
     obtain ⟨fx0, fx1, fx2, fx3, fx4⟩ := nb HX_x HG1
     obtain ⟨fy0, fy1, fy2, fy3, fy4⟩ := nb HX_y HG1
     obtain ⟨fz0, fz1, fz2, fz3, fz4⟩ := nb HX_z HG1
     obtain ⟨fv0, fv1, fv2, fv3, fv4⟩ := nb HX_v HG1
     obtain ⟨fu0, fu1, fu2, fu3, fu4⟩ := nb HX_u HG1
     obtain ⟨ft0, ft1, ft2, ft3, ft4⟩ := nb HX_t HG1
     have g0 := cell_word HW0.out HX2.out (j := 0) rfl
     have g1 := cell_word HW0.out HX2.out (j := 1) rfl
     have g2 := cell_word HW0.out HX2.out (j := 2) rfl
     go_wp2
     rw [rounds_succ]
     go_wp2
     have r_0 := cRg x0
     have r_1 := cRg x1
     have r_2 := cRg x2
     have r_3 := cRg x3
     have r_4 := cRg x4
     have r_5 := cRg fx0
     have r_6 := cRg fx1
     have r_7 := cRg fx2
     have r_8 := cRg fx3
     have r_9 := cRg fx4
     have r_10 := cRg fy0
     have r_11 := cRg fy1
     have r_12 := cRg fy2
     have r_13 := cRg fy3
     have r_14 := cRg fy4
     have r_15 := cRg fz0
     have r_16 := cRg fz1
     have r_17 := cRg fz2
     have r_18 := cRg fz3
     have r_19 := cRg fz4
     have r_20 := cRg fv0
     have r_21 := cRg fv1
     have r_22 := cRg fv2
     have r_23 := cRg fv3
     have r_24 := cRg fv4
     have r_25 := cRg fu0
     have r_26 := cRg fu1
     have r_27 := cRg fu2
     have r_28 := cRg fu3
     have r_29 := cRg fu4
     have r_30 := cRg ft0
     have r_31 := cRg ft1
     have r_32 := cRg ft2
     have r_33 := cRg ft3
     have r_34 := cRg ft4
     have r_35 := cRg g0
     have r_36 := cRg g1
     have r_37 := cRg g2
     have cP0 : ∀ w', Below G1.heap.size G1 w' → Calls Tryz.prog 21 #[.string (⟨#[86, 65, 82]⟩ : ByteArray), .slice Av v.subs.length cv] w' fun e w'' => e = .returned (.string Tv) ∧ Below w'.heap.size w' w'' := fun w' hb => by rw [HT_v.out]; exact hD (⟨#[86, 65, 82]⟩ : ByteArray) v.subs Av cv _ (HKV.out.below (bTh HG1.out hb)) HO_v.out (by rw [← HT_v.out]; unfold maxT; omega)
     have cQ0 : ∀ dd os, Calls Tryz.prog 21 #[.string (⟨#[86, 65, 82]⟩ : ByteArray), .slice Av v.subs.length cv] (Go.Sort.grow (redrawn G1 dd) os) fun e w'' => e = .returned (.string Tv) ∧ ∃ p : Regrown, w'' = Go.Sort.grow (redrawn G1 p.d) p.os := fun dd os => Calls.regrown_of (cP0 _ (below_regrown _ _ _))
     clear cP0
     refine wp_region_quiet_below (by kernel_rfl) (by kernel_rfl) ?_
     repeat (go_big_quiet_step (first | with_reducible exact cQ0 _ _))
     refine wpQuiet_nil ?_
     intro _ hw'
     obtain ⟨⟨dq, osq⟩, hw''⟩ := hw'
     subst hw''
     clear cQ0 r_0 r_1 r_2 r_3 r_4 r_5 r_6 r_7 r_8 r_9 r_10 r_11 r_12 r_13 r_14 r_15 r_16 r_17 r_18 r_19 r_20 r_21 r_22 r_23 r_24 r_25 r_26 r_27 r_28 r_29 r_30 r_31 r_32 r_33 r_34 r_35 r_36 r_37
     have HX3 := hid (bTh HX2.out (below_regrown G1 dq osq))
     have HG2 := hid (bTh HG1.out (below_regrown G1 dq osq))
     generalize hG : Go.Sort.grow (redrawn G1 dq) osq = G2 at *
     clear hG
     clear x0 x1 x2 x3 x4 fx0 fx1 fx2 fx3 fx4 fy0 fy1 fy2 fy3 fy4 fz0 fz1 fz2 fz3 fz4 fv0 fv1 fv2 fv3 fv4 fu0 fu1 fu2 fu3 fu4 ft0 ft1 ft2 ft3 ft4 g0 g1 g2
     obtain ⟨x0, x1, x2, x3, x4⟩ := nb HAT HG2
     obtain ⟨fx0, fx1, fx2, fx3, fx4⟩ := nb HX_x HG2
     obtain ⟨fy0, fy1, fy2, fy3, fy4⟩ := nb HX_y HG2
     obtain ⟨fz0, fz1, fz2, fz3, fz4⟩ := nb HX_z HG2
     obtain ⟨fv0, fv1, fv2, fv3, fv4⟩ := nb HX_v HG2
     obtain ⟨fu0, fu1, fu2, fu3, fu4⟩ := nb HX_u HG2
     obtain ⟨ft0, ft1, ft2, ft3, ft4⟩ := nb HX_t HG2
     go_wp2
     rw [rounds_succ]
     go_wp2
     obtain ⟨S2, hS2⟩ : ∃ S2 : ByteArray, S2 = S1 ++ Ty ++ Tz ++ Tv := ⟨_, rfl⟩
     try rw [← hS2]
     have HS2 := hid hS2
     have hS2z : S2.size = S1.size + Ty.size + Tz.size + Tv.size := by rw [hS2]; simp only [ByteArray.size_append, ba_size, List.size_toArray, List.length_cons, List.length_nil]
     clear hS2
     go_loopw [3, 8] (fun ss ii wr => ∃ (j : Nat) (S : ByteArray), j ≤ u.subs.length ∧ ii = .int .i64 j ∧ ss = .string S ∧ Hid (S = S2 ++ catB ((u.subs.take j).map (procT d))) ∧ Hid (Below W0.heap.size W0 wr)) (fun _ ii _ => u.subs.length - (intOf ii).toNat)
     case atStart => exact ⟨0, _, Nat.zero_le _, rfl, rfl, hid (by simp [catB, ba_nil]), HG2⟩
     case round =>
      obtain ⟨j, S', hj', rfl, rfl, HSS', HCR'⟩ := hrel
      clear x0 x1 x2 x3 x4 fx0 fx1 fx2 fx3 fx4 fy0 fy1 fy2 fy3 fy4 fz0 fz1 fz2 fz3 fz4 fv0 fv1 fv2 fv3 fv4 fu0 fu1 fu2 fu3 fu4 ft0 ft1 ft2 ft3 ft4
      obtain ⟨x0, x1, x2, x3, x4⟩ := HAT.out.below HCR'.out
      obtain ⟨fx0, fx1, fx2, fx3, fx4⟩ := HX_x.out.below HCR'.out
      obtain ⟨fy0, fy1, fy2, fy3, fy4⟩ := HX_y.out.below HCR'.out
      obtain ⟨fz0, fz1, fz2, fz3, fz4⟩ := HX_z.out.below HCR'.out
      obtain ⟨fv0, fv1, fv2, fv3, fv4⟩ := HX_v.out.below HCR'.out
      obtain ⟨fu0, fu1, fu2, fu3, fu4⟩ := HX_u.out.below HCR'.out
      obtain ⟨ft0, ft1, ft2, ft3, ft4⟩ := HX_t.out.below HCR'.out
      by_cases hlt' : j < u.subs.length
      ·skip
       obtain ⟨q, hq⟩ : ∃ q, u.subs[j]? = some q := ⟨_, List.getElem?_eq_getElem hlt'⟩
       obtain ⟨bq, oq, Aq, cq, hA, hxq, hkq⟩ := HKU.out.2.2 j q hq
       have HA := hid hA
       have HO_q := hid (all_at HO_u.out hq)
       have hcs := cat_size (f := procT d) hq
       have STEP := hid (cat_step (f := procT d) hq)
       have HX_q := hid hxq
       have HK_q := hid hkq
       clear hxq hkq hq hA
       have fxx := fu4
       rw [HA.out] at fxx
       clear fu4
       have fu4 := fxx
       clear fxx
       obtain ⟨Tq, hT_q⟩ : ∃ T, T = procT d q := ⟨_, rfl⟩
       rw [← hT_q, ← HT_u.out] at hcs
       have HT_q := hid hT_q
       clear hT_q
       have hz' : S'.size + Tq.size ≤ S2.size + Tu.size := by
        rw [HSS'.out]
        simp only [ByteArray.size_append]
        omega
       clear hcs
       obtain ⟨fq0, fq1, fq2, fq3, fq4⟩ := HX_q.out.below HCR'.out
       have hj1 : (0 : Int) ≤ (j : Int) := by omega
       have hj2 : (j : Int) < u.subs.length := by omega
       try rw [HA.out]
       go_wp2_with fail
       have hct := hP q Aq cq _ (HK_q.out.below HCR'.out) HO_q.out (by rw [← HT_q.out]; unfold maxT; omega)
       with_reducible refine hct.mono ?_
       clear hct
       rintro e w1 ⟨rfl, hb1⟩
       have HC1 := hid (bTh HCR'.out hb1)
       clear hb1
       clear x0 x1 x2 x3 x4 fx0 fx1 fx2 fx3 fx4 fy0 fy1 fy2 fy3 fy4 fz0 fz1 fz2 fz3 fz4 fv0 fv1 fv2 fv3 fv4 fu0 fu1 fu2 fu3 fu4 ft0 ft1 ft2 ft3 ft4 fq0 fq1 fq2 fq3 fq4
       obtain ⟨x0, x1, x2, x3, x4⟩ := nb HAT HC1
       obtain ⟨fx0, fx1, fx2, fx3, fx4⟩ := nb HX_x HC1
       obtain ⟨fy0, fy1, fy2, fy3, fy4⟩ := nb HX_y HC1
       obtain ⟨fz0, fz1, fz2, fz3, fz4⟩ := nb HX_z HC1
       obtain ⟨fv0, fv1, fv2, fv3, fv4⟩ := nb HX_v HC1
       obtain ⟨fu0, fu1, fu2, fu3, fu4⟩ := nb HX_u HC1
       obtain ⟨ft0, ft1, ft2, ft3, ft4⟩ := nb HX_t HC1
       obtain ⟨fq0, fq1, fq2, fq3, fq4⟩ := nb HX_q HC1
       rw [← HT_q.out]
       go_wp2
       go_roundw
       case rel => exact ⟨j + 1, _, by omega, by go_num, rfl, hid (by rw [STEP.out, HSS'.out, ← HT_q.out]; simp only [ba_assoc]), HC1⟩
       case measure => simp [intOf]; omega
      ·skip
       have HSE' := hid (show S' = S2 ++ Tu by rw [HSS'.out, List.take_of_length_le (by omega), HT_u.out])
       have hz' : S'.size = S2.size + Tu.size := by rw [HSE'.out]; simp only [ByteArray.size_append]
       go_wp2
       go_ret
       exact ⟨ret_str (by rw [HSE'.out, HS2.out, HS1.out, HSE.out, HP0.out]; simp only [ba_assoc, nil_ba, ba_nil]), bTh HBOX.out HCR'.out⟩
 ·skip
  by_cases ht0 : 0 < t.subs.length
  ·skip
   unfold impT bodyT at hsz ⊢
   rw [if_neg hx0] at hsz ⊢
   rw [if_pos ht0] at hsz ⊢
   obtain ⟨Tt, hT_t⟩ : ∃ T, T = stmtsT (d + 4) t (⟨#[32, 32]⟩ : ByteArray) := ⟨_, rfl⟩
   rw [← hT_t] at hsz ⊢
   have HT_t := hid hT_t
   clear hT_t
   unfold maxT at hsz
   simp only [ByteArray.size_append, ba_size, List.size_toArray, List.length_cons, List.length_nil] at hsz
   have xb1 : decide ((0 : Int) < (x.subs.length : Int)) = false := decide_eq_false (by omega)
   have xb2 : decide (0 < x.subs.length) = false := decide_eq_false (by omega)
   have tb1 : decide ((0 : Int) < (t.subs.length : Int)) = true := decide_eq_true (by omega)
   have tb2 : decide (0 < t.subs.length) = true := decide_eq_true (by omega)
   have HX0 := hid (show x.subs.length = 0 by omega)
   clear hx0 ht0
   have HAT := hid (bAt w ⟨k, s, num, pos, [x, y, z, v, u, t]⟩ (some ⟨b, o, none⟩) c 24)
   have HX_x := hid (hx_x.below (bBw w (.cells #[.int .i64 k, .string s, .int .i64 num, .int .i64 pos, .slice (some ⟨b, o, none⟩) 6 c] 24)))
   have HK_x := hid (hk_x.below (bBw w (.cells #[.int .i64 k, .string s, .int .i64 num, .int .i64 pos, .slice (some ⟨b, o, none⟩) 6 c] 24)))
   clear hx_x hk_x
   have HX_y := hid (hx_y.below (bBw w (.cells #[.int .i64 k, .string s, .int .i64 num, .int .i64 pos, .slice (some ⟨b, o, none⟩) 6 c] 24)))
   have HK_y := hid (hk_y.below (bBw w (.cells #[.int .i64 k, .string s, .int .i64 num, .int .i64 pos, .slice (some ⟨b, o, none⟩) 6 c] 24)))
   clear hx_y hk_y
   have HX_z := hid (hx_z.below (bBw w (.cells #[.int .i64 k, .string s, .int .i64 num, .int .i64 pos, .slice (some ⟨b, o, none⟩) 6 c] 24)))
   have HK_z := hid (hk_z.below (bBw w (.cells #[.int .i64 k, .string s, .int .i64 num, .int .i64 pos, .slice (some ⟨b, o, none⟩) 6 c] 24)))
   clear hx_z hk_z
   have HX_v := hid (hx_v.below (bBw w (.cells #[.int .i64 k, .string s, .int .i64 num, .int .i64 pos, .slice (some ⟨b, o, none⟩) 6 c] 24)))
   have HK_v := hid (hk_v.below (bBw w (.cells #[.int .i64 k, .string s, .int .i64 num, .int .i64 pos, .slice (some ⟨b, o, none⟩) 6 c] 24)))
   clear hx_v hk_v
   have HX_u := hid (hx_u.below (bBw w (.cells #[.int .i64 k, .string s, .int .i64 num, .int .i64 pos, .slice (some ⟨b, o, none⟩) 6 c] 24)))
   have HK_u := hid (hk_u.below (bBw w (.cells #[.int .i64 k, .string s, .int .i64 num, .int .i64 pos, .slice (some ⟨b, o, none⟩) 6 c] 24)))
   clear hx_u hk_u
   have HX_t := hid (hx_t.below (bBw w (.cells #[.int .i64 k, .string s, .int .i64 num, .int .i64 pos, .slice (some ⟨b, o, none⟩) 6 c] 24)))
   have HK_t := hid (hk_t.below (bBw w (.cells #[.int .i64 k, .string s, .int .i64 num, .int .i64 pos, .slice (some ⟨b, o, none⟩) 6 c] 24)))
   clear hx_t hk_t
   have HKX := hid ((hkx).below (bBw w (.cells #[.int .i64 k, .string s, .int .i64 num, .int .i64 pos, .slice (some ⟨b, o, none⟩) 6 c] 24)))
   have HKY := hid ((hky).below (bBw w (.cells #[.int .i64 k, .string s, .int .i64 num, .int .i64 pos, .slice (some ⟨b, o, none⟩) 6 c] 24)))
   have HKZ := hid ((hkz).below (bBw w (.cells #[.int .i64 k, .string s, .int .i64 num, .int .i64 pos, .slice (some ⟨b, o, none⟩) 6 c] 24)))
   have HKV := hid ((hkv).below (bBw w (.cells #[.int .i64 k, .string s, .int .i64 num, .int .i64 pos, .slice (some ⟨b, o, none⟩) 6 c] 24)))
   have HKU := hid ((hku).below (bBw w (.cells #[.int .i64 k, .string s, .int .i64 num, .int .i64 pos, .slice (some ⟨b, o, none⟩) 6 c] 24)))
   clear hk
   clear hkx hky hkz hkv hku hkt
   obtain ⟨fx0, fx1, fx2, fx3, fx4⟩ := HX_x.out
   obtain ⟨fy0, fy1, fy2, fy3, fy4⟩ := HX_y.out
   obtain ⟨fz0, fz1, fz2, fz3, fz4⟩ := HX_z.out
   obtain ⟨fv0, fv1, fv2, fv3, fv4⟩ := HX_v.out
   obtain ⟨fu0, fu1, fu2, fu3, fu4⟩ := HX_u.out
   obtain ⟨ft0, ft1, ft2, ft3, ft4⟩ := HX_t.out
   go_enter Tryz.func8, Tryz.ntmps8
   go_wp2
   generalize hW0 : w.alloc (.cells #[.int .i64 k, .string s, .int .i64 num, .int .i64 pos, .slice (some ⟨b, o, none⟩) 6 c] 24) = W0 at *
   have HBOX := hid (show Below w.heap.size w W0 by rw [← hW0]; exact bBw _ _)
   clear hW0
   obtain ⟨x0, x1, x2, x3, x4⟩ := HAT.out
   obtain ⟨fx0, fx1, fx2, fx3, fx4⟩ := HX_x.out
   obtain ⟨fy0, fy1, fy2, fy3, fy4⟩ := HX_y.out
   obtain ⟨fz0, fz1, fz2, fz3, fz4⟩ := HX_z.out
   obtain ⟨fv0, fv1, fv2, fv3, fv4⟩ := HX_v.out
   obtain ⟨fu0, fu1, fu2, fu3, fu4⟩ := HX_u.out
   obtain ⟨ft0, ft1, ft2, ft3, ft4⟩ := HX_t.out
   obtain ⟨P0, hP0⟩ : ∃ P0 : ByteArray, P0 = (⟨#[77, 79, 68, 85, 76, 69, 32]⟩ : ByteArray) ++ s ++ (⟨#[59, 10]⟩ : ByteArray) := ⟨_, rfl⟩
   try rw [← hP0]
   have HP0 := hid hP0
   have hP0z : P0.size = s.size + 9 := by rw [hP0]; simp only [ByteArray.size_append, ba_size, List.size_toArray, List.length_cons, List.length_nil]; omega
   clear hP0
   go_loopw [3, 5] (fun ss ii wr => ∃ (j : Nat) (S : ByteArray), j ≤ x.subs.length ∧ ii = .int .i64 j ∧ ss = .string S ∧ Hid (S = P0 ++ (if j = 0 then ⟨#[]⟩ else (⟨#[73, 77, 80, 79, 82, 84, 32]⟩ : ByteArray) ++ joinB ⟨#[44, 32]⟩ ((x.subs.take j).map (·.name)))) ∧ Hid (Below W0.heap.size W0 wr)) (fun _ ii _ => x.subs.length - (intOf ii).toNat)
   case atStart => exact ⟨0, _, Nat.zero_le _, rfl, rfl, hid (by rw [if_pos rfl, ba_nil]), hid (Below.refl _ _)⟩
   case round =>
    obtain ⟨j, S, hj, rfl, rfl, HSS, HCR⟩ := hrel
    clear x0 x1 x2 x3 x4 fx0 fx1 fx2 fx3 fx4 fy0 fy1 fy2 fy3 fy4 fz0 fz1 fz2 fz3 fz4 fv0 fv1 fv2 fv3 fv4 fu0 fu1 fu2 fu3 fu4 ft0 ft1 ft2 ft3 ft4
    obtain ⟨x0, x1, x2, x3, x4⟩ := nb HAT HCR
    obtain ⟨fx0, fx1, fx2, fx3, fx4⟩ := nb HX_x HCR
    obtain ⟨fy0, fy1, fy2, fy3, fy4⟩ := nb HX_y HCR
    obtain ⟨fz0, fz1, fz2, fz3, fz4⟩ := nb HX_z HCR
    obtain ⟨fv0, fv1, fv2, fv3, fv4⟩ := nb HX_v HCR
    obtain ⟨fu0, fu1, fu2, fu3, fu4⟩ := nb HX_u HCR
    obtain ⟨ft0, ft1, ft2, ft3, ft4⟩ := nb HX_t HCR
    by_cases hlt : j < x.subs.length
    ·skip
     exact absurd hlt (by have := HX0.out; omega)
    ·skip
     have HSE := hid (show S = P0 by rw [HSS.out, if_pos (by have := HX0.out; omega), ba_nil])
     have hz : S.size = P0.size := by rw [HSE.out]
     go_wp2
     obtain ⟨S1, hS1⟩ : ∃ S1 : ByteArray, S1 = S := ⟨_, rfl⟩
     try rw [← hS1]
     have HS1 := hid hS1
     have hS1z : S1.size = S.size + 0 := by rw [hS1]; omega
     clear hS1
     have HW0 := hid (heap_new wr (.cells #[.string ⟨#[67, 79, 78, 83, 84]⟩, .string ⟨#[84, 89, 80, 69]⟩, .string ⟨#[86, 65, 82]⟩] 9))
     generalize hV : wr.alloc (.cells #[.string ⟨#[67, 79, 78, 83, 84]⟩, .string ⟨#[84, 89, 80, 69]⟩, .string ⟨#[86, 65, 82]⟩] 9) = V at *
     have HCV := hid (show Below W0.heap.size W0 V by rw [← hV]; exact bTh HCR.out (bBw _ _))
     clear hV
     refine wp_loop_rounds 4 ?_
     clear x0 x1 x2 x3 x4 fx0 fx1 fx2 fx3 fx4 fy0 fy1 fy2 fy3 fy4 fz0 fz1 fz2 fz3 fz4 fv0 fv1 fv2 fv3 fv4 fu0 fu1 fu2 fu3 fu4 ft0 ft1 ft2 ft3 ft4
     obtain ⟨x0, x1, x2, x3, x4⟩ := nb HAT HCV
     obtain ⟨fx0, fx1, fx2, fx3, fx4⟩ := nb HX_x HCV
     obtain ⟨fy0, fy1, fy2, fy3, fy4⟩ := nb HX_y HCV
     obtain ⟨fz0, fz1, fz2, fz3, fz4⟩ := nb HX_z HCV
     obtain ⟨fv0, fv1, fv2, fv3, fv4⟩ := nb HX_v HCV
     obtain ⟨fu0, fu1, fu2, fu3, fu4⟩ := nb HX_u HCV
     obtain ⟨ft0, ft1, ft2, ft3, ft4⟩ := nb HX_t HCV
     have g0 := cell_word HW0.out (Below.refl _ _) (j := 0) rfl
     have g1 := cell_word HW0.out (Below.refl _ _) (j := 1) rfl
     have g2 := cell_word HW0.out (Below.refl _ _) (j := 2) rfl
     rw [rounds_succ]
     go_wp2
     have r_0 := cRg x0
     have r_1 := cRg x1
     have r_2 := cRg x2
     have r_3 := cRg x3
     have r_4 := cRg x4
     have r_5 := cRg fx0
     have r_6 := cRg fx1
     have r_7 := cRg fx2
     have r_8 := cRg fx3
     have r_9 := cRg fx4
     have r_10 := cRg fy0
     have r_11 := cRg fy1
     have r_12 := cRg fy2
     have r_13 := cRg fy3
     have r_14 := cRg fy4
     have r_15 := cRg fz0
     have r_16 := cRg fz1
     have r_17 := cRg fz2
     have r_18 := cRg fz3
     have r_19 := cRg fz4
     have r_20 := cRg fv0
     have r_21 := cRg fv1
     have r_22 := cRg fv2
     have r_23 := cRg fv3
     have r_24 := cRg fv4
     have r_25 := cRg fu0
     have r_26 := cRg fu1
     have r_27 := cRg fu2
     have r_28 := cRg fu3
     have r_29 := cRg fu4
     have r_30 := cRg ft0
     have r_31 := cRg ft1
     have r_32 := cRg ft2
     have r_33 := cRg ft3
     have r_34 := cRg ft4
     have r_35 := cRg g0
     have r_36 := cRg g1
     have r_37 := cRg g2
     have cP0 : ∀ w', Below V.heap.size V w' → Calls Tryz.prog 21 #[.string (⟨#[67, 79, 78, 83, 84]⟩ : ByteArray), .slice Ay y.subs.length cy] w' fun e w'' => e = .returned (.string Ty) ∧ Below w'.heap.size w' w'' := fun w' hb => by rw [HT_y.out]; exact hD (⟨#[67, 79, 78, 83, 84]⟩ : ByteArray) y.subs Ay cy _ (HKY.out.below (bTh HCV.out hb)) HO_y.out (by rw [← HT_y.out]; unfold maxT; omega)
     have cQ0 : ∀ dd os, Calls Tryz.prog 21 #[.string (⟨#[67, 79, 78, 83, 84]⟩ : ByteArray), .slice Ay y.subs.length cy] (Go.Sort.grow (redrawn V dd) os) fun e w'' => e = .returned (.string Ty) ∧ ∃ p : Regrown, w'' = Go.Sort.grow (redrawn V p.d) p.os := fun dd os => Calls.regrown_of (cP0 _ (below_regrown _ _ _))
     clear cP0
     refine wp_region_quiet_below (by kernel_rfl) (by kernel_rfl) ?_
     repeat (go_big_quiet_step (first | with_reducible exact cQ0 _ _))
     refine wpQuiet_nil ?_
     intro _ hw'
     obtain ⟨⟨dq, osq⟩, hw''⟩ := hw'
     subst hw''
     clear cQ0 r_0 r_1 r_2 r_3 r_4 r_5 r_6 r_7 r_8 r_9 r_10 r_11 r_12 r_13 r_14 r_15 r_16 r_17 r_18 r_19 r_20 r_21 r_22 r_23 r_24 r_25 r_26 r_27 r_28 r_29 r_30 r_31 r_32 r_33 r_34 r_35 r_36 r_37
     have HX1 := hid (below_regrown V dq osq)
     have HG0 := hid (bTh HCV.out (below_regrown V dq osq))
     generalize hG : Go.Sort.grow (redrawn V dq) osq = G0 at *
     clear hG
     clear x0 x1 x2 x3 x4 fx0 fx1 fx2 fx3 fx4 fy0 fy1 fy2 fy3 fy4 fz0 fz1 fz2 fz3 fz4 fv0 fv1 fv2 fv3 fv4 fu0 fu1 fu2 fu3 fu4 ft0 ft1 ft2 ft3 ft4 g0 g1 g2
     obtain ⟨x0, x1, x2, x3, x4⟩ := nb HAT HG0
     obtain ⟨fx0, fx1, fx2, fx3, fx4⟩ := nb HX_x HG0
     obtain ⟨fy0, fy1, fy2, fy3, fy4⟩ := nb HX_y HG0
     obtain ⟨fz0, fz1, fz2, fz3, fz4⟩ := nb HX_z HG0
     obtain ⟨fv0, fv1, fv2, fv3, fv4⟩ := nb HX_v HG0
     obtain ⟨fu0, fu1, fu2, fu3, fu4⟩ := nb HX_u HG0
     obtain ⟨ft0, ft1, ft2, ft3, ft4⟩ := nb HX_t HG0
     have g0 := cell_word HW0.out HX1.out (j := 0) rfl
     have g1 := cell_word HW0.out HX1.out (j := 1) rfl
     have g2 := cell_word HW0.out HX1.out (j := 2) rfl
     go_wp2
     rw [rounds_succ]
     go_wp2
     have r_0 := cRg x0
     have r_1 := cRg x1
     have r_2 := cRg x2
     have r_3 := cRg x3
     have r_4 := cRg x4
     have r_5 := cRg fx0
     have r_6 := cRg fx1
     have r_7 := cRg fx2
     have r_8 := cRg fx3
     have r_9 := cRg fx4
     have r_10 := cRg fy0
     have r_11 := cRg fy1
     have r_12 := cRg fy2
     have r_13 := cRg fy3
     have r_14 := cRg fy4
     have r_15 := cRg fz0
     have r_16 := cRg fz1
     have r_17 := cRg fz2
     have r_18 := cRg fz3
     have r_19 := cRg fz4
     have r_20 := cRg fv0
     have r_21 := cRg fv1
     have r_22 := cRg fv2
     have r_23 := cRg fv3
     have r_24 := cRg fv4
     have r_25 := cRg fu0
     have r_26 := cRg fu1
     have r_27 := cRg fu2
     have r_28 := cRg fu3
     have r_29 := cRg fu4
     have r_30 := cRg ft0
     have r_31 := cRg ft1
     have r_32 := cRg ft2
     have r_33 := cRg ft3
     have r_34 := cRg ft4
     have r_35 := cRg g0
     have r_36 := cRg g1
     have r_37 := cRg g2
     have cP0 : ∀ w', Below G0.heap.size G0 w' → Calls Tryz.prog 21 #[.string (⟨#[84, 89, 80, 69]⟩ : ByteArray), .slice Az z.subs.length cz] w' fun e w'' => e = .returned (.string Tz) ∧ Below w'.heap.size w' w'' := fun w' hb => by rw [HT_z.out]; exact hD (⟨#[84, 89, 80, 69]⟩ : ByteArray) z.subs Az cz _ (HKZ.out.below (bTh HG0.out hb)) HO_z.out (by rw [← HT_z.out]; unfold maxT; omega)
     have cQ0 : ∀ dd os, Calls Tryz.prog 21 #[.string (⟨#[84, 89, 80, 69]⟩ : ByteArray), .slice Az z.subs.length cz] (Go.Sort.grow (redrawn G0 dd) os) fun e w'' => e = .returned (.string Tz) ∧ ∃ p : Regrown, w'' = Go.Sort.grow (redrawn G0 p.d) p.os := fun dd os => Calls.regrown_of (cP0 _ (below_regrown _ _ _))
     clear cP0
     refine wp_region_quiet_below (by kernel_rfl) (by kernel_rfl) ?_
     repeat (go_big_quiet_step (first | with_reducible exact cQ0 _ _))
     refine wpQuiet_nil ?_
     intro _ hw'
     obtain ⟨⟨dq, osq⟩, hw''⟩ := hw'
     subst hw''
     clear cQ0 r_0 r_1 r_2 r_3 r_4 r_5 r_6 r_7 r_8 r_9 r_10 r_11 r_12 r_13 r_14 r_15 r_16 r_17 r_18 r_19 r_20 r_21 r_22 r_23 r_24 r_25 r_26 r_27 r_28 r_29 r_30 r_31 r_32 r_33 r_34 r_35 r_36 r_37
     have HX2 := hid (bTh HX1.out (below_regrown G0 dq osq))
     have HG1 := hid (bTh HG0.out (below_regrown G0 dq osq))
     generalize hG : Go.Sort.grow (redrawn G0 dq) osq = G1 at *
     clear hG
     clear x0 x1 x2 x3 x4 fx0 fx1 fx2 fx3 fx4 fy0 fy1 fy2 fy3 fy4 fz0 fz1 fz2 fz3 fz4 fv0 fv1 fv2 fv3 fv4 fu0 fu1 fu2 fu3 fu4 ft0 ft1 ft2 ft3 ft4 g0 g1 g2
     obtain ⟨x0, x1, x2, x3, x4⟩ := nb HAT HG1
     obtain ⟨fx0, fx1, fx2, fx3, fx4⟩ := nb HX_x HG1
     obtain ⟨fy0, fy1, fy2, fy3, fy4⟩ := nb HX_y HG1
     obtain ⟨fz0, fz1, fz2, fz3, fz4⟩ := nb HX_z HG1
     obtain ⟨fv0, fv1, fv2, fv3, fv4⟩ := nb HX_v HG1
     obtain ⟨fu0, fu1, fu2, fu3, fu4⟩ := nb HX_u HG1
     obtain ⟨ft0, ft1, ft2, ft3, ft4⟩ := nb HX_t HG1
     have g0 := cell_word HW0.out HX2.out (j := 0) rfl
     have g1 := cell_word HW0.out HX2.out (j := 1) rfl
     have g2 := cell_word HW0.out HX2.out (j := 2) rfl
     go_wp2
     rw [rounds_succ]
     go_wp2
     have r_0 := cRg x0
     have r_1 := cRg x1
     have r_2 := cRg x2
     have r_3 := cRg x3
     have r_4 := cRg x4
     have r_5 := cRg fx0
     have r_6 := cRg fx1
     have r_7 := cRg fx2
     have r_8 := cRg fx3
     have r_9 := cRg fx4
     have r_10 := cRg fy0
     have r_11 := cRg fy1
     have r_12 := cRg fy2
     have r_13 := cRg fy3
     have r_14 := cRg fy4
     have r_15 := cRg fz0
     have r_16 := cRg fz1
     have r_17 := cRg fz2
     have r_18 := cRg fz3
     have r_19 := cRg fz4
     have r_20 := cRg fv0
     have r_21 := cRg fv1
     have r_22 := cRg fv2
     have r_23 := cRg fv3
     have r_24 := cRg fv4
     have r_25 := cRg fu0
     have r_26 := cRg fu1
     have r_27 := cRg fu2
     have r_28 := cRg fu3
     have r_29 := cRg fu4
     have r_30 := cRg ft0
     have r_31 := cRg ft1
     have r_32 := cRg ft2
     have r_33 := cRg ft3
     have r_34 := cRg ft4
     have r_35 := cRg g0
     have r_36 := cRg g1
     have r_37 := cRg g2
     have cP0 : ∀ w', Below G1.heap.size G1 w' → Calls Tryz.prog 21 #[.string (⟨#[86, 65, 82]⟩ : ByteArray), .slice Av v.subs.length cv] w' fun e w'' => e = .returned (.string Tv) ∧ Below w'.heap.size w' w'' := fun w' hb => by rw [HT_v.out]; exact hD (⟨#[86, 65, 82]⟩ : ByteArray) v.subs Av cv _ (HKV.out.below (bTh HG1.out hb)) HO_v.out (by rw [← HT_v.out]; unfold maxT; omega)
     have cQ0 : ∀ dd os, Calls Tryz.prog 21 #[.string (⟨#[86, 65, 82]⟩ : ByteArray), .slice Av v.subs.length cv] (Go.Sort.grow (redrawn G1 dd) os) fun e w'' => e = .returned (.string Tv) ∧ ∃ p : Regrown, w'' = Go.Sort.grow (redrawn G1 p.d) p.os := fun dd os => Calls.regrown_of (cP0 _ (below_regrown _ _ _))
     clear cP0
     refine wp_region_quiet_below (by kernel_rfl) (by kernel_rfl) ?_
     repeat (go_big_quiet_step (first | with_reducible exact cQ0 _ _))
     refine wpQuiet_nil ?_
     intro _ hw'
     obtain ⟨⟨dq, osq⟩, hw''⟩ := hw'
     subst hw''
     clear cQ0 r_0 r_1 r_2 r_3 r_4 r_5 r_6 r_7 r_8 r_9 r_10 r_11 r_12 r_13 r_14 r_15 r_16 r_17 r_18 r_19 r_20 r_21 r_22 r_23 r_24 r_25 r_26 r_27 r_28 r_29 r_30 r_31 r_32 r_33 r_34 r_35 r_36 r_37
     have HX3 := hid (bTh HX2.out (below_regrown G1 dq osq))
     have HG2 := hid (bTh HG1.out (below_regrown G1 dq osq))
     generalize hG : Go.Sort.grow (redrawn G1 dq) osq = G2 at *
     clear hG
     clear x0 x1 x2 x3 x4 fx0 fx1 fx2 fx3 fx4 fy0 fy1 fy2 fy3 fy4 fz0 fz1 fz2 fz3 fz4 fv0 fv1 fv2 fv3 fv4 fu0 fu1 fu2 fu3 fu4 ft0 ft1 ft2 ft3 ft4 g0 g1 g2
     obtain ⟨x0, x1, x2, x3, x4⟩ := nb HAT HG2
     obtain ⟨fx0, fx1, fx2, fx3, fx4⟩ := nb HX_x HG2
     obtain ⟨fy0, fy1, fy2, fy3, fy4⟩ := nb HX_y HG2
     obtain ⟨fz0, fz1, fz2, fz3, fz4⟩ := nb HX_z HG2
     obtain ⟨fv0, fv1, fv2, fv3, fv4⟩ := nb HX_v HG2
     obtain ⟨fu0, fu1, fu2, fu3, fu4⟩ := nb HX_u HG2
     obtain ⟨ft0, ft1, ft2, ft3, ft4⟩ := nb HX_t HG2
     go_wp2
     rw [rounds_succ]
     go_wp2
     obtain ⟨S2, hS2⟩ : ∃ S2 : ByteArray, S2 = S1 ++ Ty ++ Tz ++ Tv := ⟨_, rfl⟩
     try rw [← hS2]
     have HS2 := hid hS2
     have hS2z : S2.size = S1.size + Ty.size + Tz.size + Tv.size := by rw [hS2]; simp only [ByteArray.size_append, ba_size, List.size_toArray, List.length_cons, List.length_nil]
     clear hS2
     go_loopw [3, 8] (fun ss ii wr => ∃ (j : Nat) (S : ByteArray), j ≤ u.subs.length ∧ ii = .int .i64 j ∧ ss = .string S ∧ Hid (S = S2 ++ catB ((u.subs.take j).map (procT d))) ∧ Hid (Below W0.heap.size W0 wr)) (fun _ ii _ => u.subs.length - (intOf ii).toNat)
     case atStart => exact ⟨0, _, Nat.zero_le _, rfl, rfl, hid (by simp [catB, ba_nil]), HG2⟩
     case round =>
      obtain ⟨j, S', hj', rfl, rfl, HSS', HCR'⟩ := hrel
      clear x0 x1 x2 x3 x4 fx0 fx1 fx2 fx3 fx4 fy0 fy1 fy2 fy3 fy4 fz0 fz1 fz2 fz3 fz4 fv0 fv1 fv2 fv3 fv4 fu0 fu1 fu2 fu3 fu4 ft0 ft1 ft2 ft3 ft4
      obtain ⟨x0, x1, x2, x3, x4⟩ := HAT.out.below HCR'.out
      obtain ⟨fx0, fx1, fx2, fx3, fx4⟩ := HX_x.out.below HCR'.out
      obtain ⟨fy0, fy1, fy2, fy3, fy4⟩ := HX_y.out.below HCR'.out
      obtain ⟨fz0, fz1, fz2, fz3, fz4⟩ := HX_z.out.below HCR'.out
      obtain ⟨fv0, fv1, fv2, fv3, fv4⟩ := HX_v.out.below HCR'.out
      obtain ⟨fu0, fu1, fu2, fu3, fu4⟩ := HX_u.out.below HCR'.out
      obtain ⟨ft0, ft1, ft2, ft3, ft4⟩ := HX_t.out.below HCR'.out
      by_cases hlt' : j < u.subs.length
      ·skip
       obtain ⟨q, hq⟩ : ∃ q, u.subs[j]? = some q := ⟨_, List.getElem?_eq_getElem hlt'⟩
       obtain ⟨bq, oq, Aq, cq, hA, hxq, hkq⟩ := HKU.out.2.2 j q hq
       have HA := hid hA
       have HO_q := hid (all_at HO_u.out hq)
       have hcs := cat_size (f := procT d) hq
       have STEP := hid (cat_step (f := procT d) hq)
       have HX_q := hid hxq
       have HK_q := hid hkq
       clear hxq hkq hq hA
       have fxx := fu4
       rw [HA.out] at fxx
       clear fu4
       have fu4 := fxx
       clear fxx
       obtain ⟨Tq, hT_q⟩ : ∃ T, T = procT d q := ⟨_, rfl⟩
       rw [← hT_q, ← HT_u.out] at hcs
       have HT_q := hid hT_q
       clear hT_q
       have hz' : S'.size + Tq.size ≤ S2.size + Tu.size := by
        rw [HSS'.out]
        simp only [ByteArray.size_append]
        omega
       clear hcs
       obtain ⟨fq0, fq1, fq2, fq3, fq4⟩ := HX_q.out.below HCR'.out
       have hj1 : (0 : Int) ≤ (j : Int) := by omega
       have hj2 : (j : Int) < u.subs.length := by omega
       try rw [HA.out]
       go_wp2_with fail
       have hct := hP q Aq cq _ (HK_q.out.below HCR'.out) HO_q.out (by rw [← HT_q.out]; unfold maxT; omega)
       with_reducible refine hct.mono ?_
       clear hct
       rintro e w1 ⟨rfl, hb1⟩
       have HC1 := hid (bTh HCR'.out hb1)
       clear hb1
       clear x0 x1 x2 x3 x4 fx0 fx1 fx2 fx3 fx4 fy0 fy1 fy2 fy3 fy4 fz0 fz1 fz2 fz3 fz4 fv0 fv1 fv2 fv3 fv4 fu0 fu1 fu2 fu3 fu4 ft0 ft1 ft2 ft3 ft4 fq0 fq1 fq2 fq3 fq4
       obtain ⟨x0, x1, x2, x3, x4⟩ := nb HAT HC1
       obtain ⟨fx0, fx1, fx2, fx3, fx4⟩ := nb HX_x HC1
       obtain ⟨fy0, fy1, fy2, fy3, fy4⟩ := nb HX_y HC1
       obtain ⟨fz0, fz1, fz2, fz3, fz4⟩ := nb HX_z HC1
       obtain ⟨fv0, fv1, fv2, fv3, fv4⟩ := nb HX_v HC1
       obtain ⟨fu0, fu1, fu2, fu3, fu4⟩ := nb HX_u HC1
       obtain ⟨ft0, ft1, ft2, ft3, ft4⟩ := nb HX_t HC1
       obtain ⟨fq0, fq1, fq2, fq3, fq4⟩ := nb HX_q HC1
       rw [← HT_q.out]
       go_wp2
       go_roundw
       case rel => exact ⟨j + 1, _, by omega, by go_num, rfl, hid (by rw [STEP.out, HSS'.out, ← HT_q.out]; simp only [ba_assoc]), HC1⟩
       case measure => simp [intOf]; omega
      ·skip
       have HSE' := hid (show S' = S2 ++ Tu by rw [HSS'.out, List.take_of_length_le (by omega), HT_u.out])
       have hz' : S'.size = S2.size + Tu.size := by rw [HSE'.out]; simp only [ByteArray.size_append]
       go_wp2_with fail
       have hct := hL t At ct (⟨#[32, 32]⟩ : ByteArray) _ (HK_t.out.below HCR'.out) HD_t.out (by rw [← HT_t.out]; unfold maxT; omega) (by unfold maxT; simp [ba_size])
       with_reducible refine hct.mono ?_
       clear hct
       rintro e w2 ⟨rfl, hb2⟩
       have HC2 := hid (bTh HCR'.out hb2)
       clear hb2
       clear x0 x1 x2 x3 x4 fx0 fx1 fx2 fx3 fx4 fy0 fy1 fy2 fy3 fy4 fz0 fz1 fz2 fz3 fz4 fv0 fv1 fv2 fv3 fv4 fu0 fu1 fu2 fu3 fu4 ft0 ft1 ft2 ft3 ft4
       obtain ⟨x0, x1, x2, x3, x4⟩ := nb HAT HC2
       obtain ⟨fx0, fx1, fx2, fx3, fx4⟩ := nb HX_x HC2
       obtain ⟨fy0, fy1, fy2, fy3, fy4⟩ := nb HX_y HC2
       obtain ⟨fz0, fz1, fz2, fz3, fz4⟩ := nb HX_z HC2
       obtain ⟨fv0, fv1, fv2, fv3, fv4⟩ := nb HX_v HC2
       obtain ⟨fu0, fu1, fu2, fu3, fu4⟩ := nb HX_u HC2
       obtain ⟨ft0, ft1, ft2, ft3, ft4⟩ := nb HX_t HC2
       rw [← HT_t.out]
       go_wp2
       go_ret
       exact ⟨ret_str (by rw [HSE'.out, HS2.out, HS1.out, HSE.out, HP0.out]; simp only [ba_assoc, nil_ba, ba_nil]), bTh HBOX.out HC2.out⟩
  ·skip
   unfold impT bodyT at hsz ⊢
   rw [if_neg hx0] at hsz ⊢
   rw [if_neg ht0] at hsz ⊢
   unfold maxT at hsz
   simp only [ByteArray.size_append, ba_size, List.size_toArray, List.length_cons, List.length_nil] at hsz
   have xb1 : decide ((0 : Int) < (x.subs.length : Int)) = false := decide_eq_false (by omega)
   have xb2 : decide (0 < x.subs.length) = false := decide_eq_false (by omega)
   have tb1 : decide ((0 : Int) < (t.subs.length : Int)) = false := decide_eq_false (by omega)
   have tb2 : decide (0 < t.subs.length) = false := decide_eq_false (by omega)
   have HX0 := hid (show x.subs.length = 0 by omega)
   clear hx0 ht0
   have HAT := hid (bAt w ⟨k, s, num, pos, [x, y, z, v, u, t]⟩ (some ⟨b, o, none⟩) c 24)
   have HX_x := hid (hx_x.below (bBw w (.cells #[.int .i64 k, .string s, .int .i64 num, .int .i64 pos, .slice (some ⟨b, o, none⟩) 6 c] 24)))
   have HK_x := hid (hk_x.below (bBw w (.cells #[.int .i64 k, .string s, .int .i64 num, .int .i64 pos, .slice (some ⟨b, o, none⟩) 6 c] 24)))
   clear hx_x hk_x
   have HX_y := hid (hx_y.below (bBw w (.cells #[.int .i64 k, .string s, .int .i64 num, .int .i64 pos, .slice (some ⟨b, o, none⟩) 6 c] 24)))
   have HK_y := hid (hk_y.below (bBw w (.cells #[.int .i64 k, .string s, .int .i64 num, .int .i64 pos, .slice (some ⟨b, o, none⟩) 6 c] 24)))
   clear hx_y hk_y
   have HX_z := hid (hx_z.below (bBw w (.cells #[.int .i64 k, .string s, .int .i64 num, .int .i64 pos, .slice (some ⟨b, o, none⟩) 6 c] 24)))
   have HK_z := hid (hk_z.below (bBw w (.cells #[.int .i64 k, .string s, .int .i64 num, .int .i64 pos, .slice (some ⟨b, o, none⟩) 6 c] 24)))
   clear hx_z hk_z
   have HX_v := hid (hx_v.below (bBw w (.cells #[.int .i64 k, .string s, .int .i64 num, .int .i64 pos, .slice (some ⟨b, o, none⟩) 6 c] 24)))
   have HK_v := hid (hk_v.below (bBw w (.cells #[.int .i64 k, .string s, .int .i64 num, .int .i64 pos, .slice (some ⟨b, o, none⟩) 6 c] 24)))
   clear hx_v hk_v
   have HX_u := hid (hx_u.below (bBw w (.cells #[.int .i64 k, .string s, .int .i64 num, .int .i64 pos, .slice (some ⟨b, o, none⟩) 6 c] 24)))
   have HK_u := hid (hk_u.below (bBw w (.cells #[.int .i64 k, .string s, .int .i64 num, .int .i64 pos, .slice (some ⟨b, o, none⟩) 6 c] 24)))
   clear hx_u hk_u
   have HX_t := hid (hx_t.below (bBw w (.cells #[.int .i64 k, .string s, .int .i64 num, .int .i64 pos, .slice (some ⟨b, o, none⟩) 6 c] 24)))
   have HK_t := hid (hk_t.below (bBw w (.cells #[.int .i64 k, .string s, .int .i64 num, .int .i64 pos, .slice (some ⟨b, o, none⟩) 6 c] 24)))
   clear hx_t hk_t
   have HKX := hid ((hkx).below (bBw w (.cells #[.int .i64 k, .string s, .int .i64 num, .int .i64 pos, .slice (some ⟨b, o, none⟩) 6 c] 24)))
   have HKY := hid ((hky).below (bBw w (.cells #[.int .i64 k, .string s, .int .i64 num, .int .i64 pos, .slice (some ⟨b, o, none⟩) 6 c] 24)))
   have HKZ := hid ((hkz).below (bBw w (.cells #[.int .i64 k, .string s, .int .i64 num, .int .i64 pos, .slice (some ⟨b, o, none⟩) 6 c] 24)))
   have HKV := hid ((hkv).below (bBw w (.cells #[.int .i64 k, .string s, .int .i64 num, .int .i64 pos, .slice (some ⟨b, o, none⟩) 6 c] 24)))
   have HKU := hid ((hku).below (bBw w (.cells #[.int .i64 k, .string s, .int .i64 num, .int .i64 pos, .slice (some ⟨b, o, none⟩) 6 c] 24)))
   clear hk
   clear hkx hky hkz hkv hku hkt
   obtain ⟨fx0, fx1, fx2, fx3, fx4⟩ := HX_x.out
   obtain ⟨fy0, fy1, fy2, fy3, fy4⟩ := HX_y.out
   obtain ⟨fz0, fz1, fz2, fz3, fz4⟩ := HX_z.out
   obtain ⟨fv0, fv1, fv2, fv3, fv4⟩ := HX_v.out
   obtain ⟨fu0, fu1, fu2, fu3, fu4⟩ := HX_u.out
   obtain ⟨ft0, ft1, ft2, ft3, ft4⟩ := HX_t.out
   go_enter Tryz.func8, Tryz.ntmps8
   go_wp2
   generalize hW0 : w.alloc (.cells #[.int .i64 k, .string s, .int .i64 num, .int .i64 pos, .slice (some ⟨b, o, none⟩) 6 c] 24) = W0 at *
   have HBOX := hid (show Below w.heap.size w W0 by rw [← hW0]; exact bBw _ _)
   clear hW0
   obtain ⟨x0, x1, x2, x3, x4⟩ := HAT.out
   obtain ⟨fx0, fx1, fx2, fx3, fx4⟩ := HX_x.out
   obtain ⟨fy0, fy1, fy2, fy3, fy4⟩ := HX_y.out
   obtain ⟨fz0, fz1, fz2, fz3, fz4⟩ := HX_z.out
   obtain ⟨fv0, fv1, fv2, fv3, fv4⟩ := HX_v.out
   obtain ⟨fu0, fu1, fu2, fu3, fu4⟩ := HX_u.out
   obtain ⟨ft0, ft1, ft2, ft3, ft4⟩ := HX_t.out
   obtain ⟨P0, hP0⟩ : ∃ P0 : ByteArray, P0 = (⟨#[77, 79, 68, 85, 76, 69, 32]⟩ : ByteArray) ++ s ++ (⟨#[59, 10]⟩ : ByteArray) := ⟨_, rfl⟩
   try rw [← hP0]
   have HP0 := hid hP0
   have hP0z : P0.size = s.size + 9 := by rw [hP0]; simp only [ByteArray.size_append, ba_size, List.size_toArray, List.length_cons, List.length_nil]; omega
   clear hP0
   go_loopw [3, 5] (fun ss ii wr => ∃ (j : Nat) (S : ByteArray), j ≤ x.subs.length ∧ ii = .int .i64 j ∧ ss = .string S ∧ Hid (S = P0 ++ (if j = 0 then ⟨#[]⟩ else (⟨#[73, 77, 80, 79, 82, 84, 32]⟩ : ByteArray) ++ joinB ⟨#[44, 32]⟩ ((x.subs.take j).map (·.name)))) ∧ Hid (Below W0.heap.size W0 wr)) (fun _ ii _ => x.subs.length - (intOf ii).toNat)
   case atStart => exact ⟨0, _, Nat.zero_le _, rfl, rfl, hid (by rw [if_pos rfl, ba_nil]), hid (Below.refl _ _)⟩
   case round =>
    obtain ⟨j, S, hj, rfl, rfl, HSS, HCR⟩ := hrel
    clear x0 x1 x2 x3 x4 fx0 fx1 fx2 fx3 fx4 fy0 fy1 fy2 fy3 fy4 fz0 fz1 fz2 fz3 fz4 fv0 fv1 fv2 fv3 fv4 fu0 fu1 fu2 fu3 fu4 ft0 ft1 ft2 ft3 ft4
    obtain ⟨x0, x1, x2, x3, x4⟩ := nb HAT HCR
    obtain ⟨fx0, fx1, fx2, fx3, fx4⟩ := nb HX_x HCR
    obtain ⟨fy0, fy1, fy2, fy3, fy4⟩ := nb HX_y HCR
    obtain ⟨fz0, fz1, fz2, fz3, fz4⟩ := nb HX_z HCR
    obtain ⟨fv0, fv1, fv2, fv3, fv4⟩ := nb HX_v HCR
    obtain ⟨fu0, fu1, fu2, fu3, fu4⟩ := nb HX_u HCR
    obtain ⟨ft0, ft1, ft2, ft3, ft4⟩ := nb HX_t HCR
    by_cases hlt : j < x.subs.length
    ·skip
     exact absurd hlt (by have := HX0.out; omega)
    ·skip
     have HSE := hid (show S = P0 by rw [HSS.out, if_pos (by have := HX0.out; omega), ba_nil])
     have hz : S.size = P0.size := by rw [HSE.out]
     go_wp2
     obtain ⟨S1, hS1⟩ : ∃ S1 : ByteArray, S1 = S := ⟨_, rfl⟩
     try rw [← hS1]
     have HS1 := hid hS1
     have hS1z : S1.size = S.size + 0 := by rw [hS1]; omega
     clear hS1
     have HW0 := hid (heap_new wr (.cells #[.string ⟨#[67, 79, 78, 83, 84]⟩, .string ⟨#[84, 89, 80, 69]⟩, .string ⟨#[86, 65, 82]⟩] 9))
     generalize hV : wr.alloc (.cells #[.string ⟨#[67, 79, 78, 83, 84]⟩, .string ⟨#[84, 89, 80, 69]⟩, .string ⟨#[86, 65, 82]⟩] 9) = V at *
     have HCV := hid (show Below W0.heap.size W0 V by rw [← hV]; exact bTh HCR.out (bBw _ _))
     clear hV
     refine wp_loop_rounds 4 ?_
     clear x0 x1 x2 x3 x4 fx0 fx1 fx2 fx3 fx4 fy0 fy1 fy2 fy3 fy4 fz0 fz1 fz2 fz3 fz4 fv0 fv1 fv2 fv3 fv4 fu0 fu1 fu2 fu3 fu4 ft0 ft1 ft2 ft3 ft4
     obtain ⟨x0, x1, x2, x3, x4⟩ := nb HAT HCV
     obtain ⟨fx0, fx1, fx2, fx3, fx4⟩ := nb HX_x HCV
     obtain ⟨fy0, fy1, fy2, fy3, fy4⟩ := nb HX_y HCV
     obtain ⟨fz0, fz1, fz2, fz3, fz4⟩ := nb HX_z HCV
     obtain ⟨fv0, fv1, fv2, fv3, fv4⟩ := nb HX_v HCV
     obtain ⟨fu0, fu1, fu2, fu3, fu4⟩ := nb HX_u HCV
     obtain ⟨ft0, ft1, ft2, ft3, ft4⟩ := nb HX_t HCV
     have g0 := cell_word HW0.out (Below.refl _ _) (j := 0) rfl
     have g1 := cell_word HW0.out (Below.refl _ _) (j := 1) rfl
     have g2 := cell_word HW0.out (Below.refl _ _) (j := 2) rfl
     rw [rounds_succ]
     go_wp2
     have r_0 := cRg x0
     have r_1 := cRg x1
     have r_2 := cRg x2
     have r_3 := cRg x3
     have r_4 := cRg x4
     have r_5 := cRg fx0
     have r_6 := cRg fx1
     have r_7 := cRg fx2
     have r_8 := cRg fx3
     have r_9 := cRg fx4
     have r_10 := cRg fy0
     have r_11 := cRg fy1
     have r_12 := cRg fy2
     have r_13 := cRg fy3
     have r_14 := cRg fy4
     have r_15 := cRg fz0
     have r_16 := cRg fz1
     have r_17 := cRg fz2
     have r_18 := cRg fz3
     have r_19 := cRg fz4
     have r_20 := cRg fv0
     have r_21 := cRg fv1
     have r_22 := cRg fv2
     have r_23 := cRg fv3
     have r_24 := cRg fv4
     have r_25 := cRg fu0
     have r_26 := cRg fu1
     have r_27 := cRg fu2
     have r_28 := cRg fu3
     have r_29 := cRg fu4
     have r_30 := cRg ft0
     have r_31 := cRg ft1
     have r_32 := cRg ft2
     have r_33 := cRg ft3
     have r_34 := cRg ft4
     have r_35 := cRg g0
     have r_36 := cRg g1
     have r_37 := cRg g2
     have cP0 : ∀ w', Below V.heap.size V w' → Calls Tryz.prog 21 #[.string (⟨#[67, 79, 78, 83, 84]⟩ : ByteArray), .slice Ay y.subs.length cy] w' fun e w'' => e = .returned (.string Ty) ∧ Below w'.heap.size w' w'' := fun w' hb => by rw [HT_y.out]; exact hD (⟨#[67, 79, 78, 83, 84]⟩ : ByteArray) y.subs Ay cy _ (HKY.out.below (bTh HCV.out hb)) HO_y.out (by rw [← HT_y.out]; unfold maxT; omega)
     have cQ0 : ∀ dd os, Calls Tryz.prog 21 #[.string (⟨#[67, 79, 78, 83, 84]⟩ : ByteArray), .slice Ay y.subs.length cy] (Go.Sort.grow (redrawn V dd) os) fun e w'' => e = .returned (.string Ty) ∧ ∃ p : Regrown, w'' = Go.Sort.grow (redrawn V p.d) p.os := fun dd os => Calls.regrown_of (cP0 _ (below_regrown _ _ _))
     clear cP0
     refine wp_region_quiet_below (by kernel_rfl) (by kernel_rfl) ?_
     repeat (go_big_quiet_step (first | with_reducible exact cQ0 _ _))
     refine wpQuiet_nil ?_
     intro _ hw'
     obtain ⟨⟨dq, osq⟩, hw''⟩ := hw'
     subst hw''
     clear cQ0 r_0 r_1 r_2 r_3 r_4 r_5 r_6 r_7 r_8 r_9 r_10 r_11 r_12 r_13 r_14 r_15 r_16 r_17 r_18 r_19 r_20 r_21 r_22 r_23 r_24 r_25 r_26 r_27 r_28 r_29 r_30 r_31 r_32 r_33 r_34 r_35 r_36 r_37
     have HX1 := hid (below_regrown V dq osq)
     have HG0 := hid (bTh HCV.out (below_regrown V dq osq))
     generalize hG : Go.Sort.grow (redrawn V dq) osq = G0 at *
     clear hG
     clear x0 x1 x2 x3 x4 fx0 fx1 fx2 fx3 fx4 fy0 fy1 fy2 fy3 fy4 fz0 fz1 fz2 fz3 fz4 fv0 fv1 fv2 fv3 fv4 fu0 fu1 fu2 fu3 fu4 ft0 ft1 ft2 ft3 ft4 g0 g1 g2
     obtain ⟨x0, x1, x2, x3, x4⟩ := nb HAT HG0
     obtain ⟨fx0, fx1, fx2, fx3, fx4⟩ := nb HX_x HG0
     obtain ⟨fy0, fy1, fy2, fy3, fy4⟩ := nb HX_y HG0
     obtain ⟨fz0, fz1, fz2, fz3, fz4⟩ := nb HX_z HG0
     obtain ⟨fv0, fv1, fv2, fv3, fv4⟩ := nb HX_v HG0
     obtain ⟨fu0, fu1, fu2, fu3, fu4⟩ := nb HX_u HG0
     obtain ⟨ft0, ft1, ft2, ft3, ft4⟩ := nb HX_t HG0
     have g0 := cell_word HW0.out HX1.out (j := 0) rfl
     have g1 := cell_word HW0.out HX1.out (j := 1) rfl
     have g2 := cell_word HW0.out HX1.out (j := 2) rfl
     go_wp2
     rw [rounds_succ]
     go_wp2
     have r_0 := cRg x0
     have r_1 := cRg x1
     have r_2 := cRg x2
     have r_3 := cRg x3
     have r_4 := cRg x4
     have r_5 := cRg fx0
     have r_6 := cRg fx1
     have r_7 := cRg fx2
     have r_8 := cRg fx3
     have r_9 := cRg fx4
     have r_10 := cRg fy0
     have r_11 := cRg fy1
     have r_12 := cRg fy2
     have r_13 := cRg fy3
     have r_14 := cRg fy4
     have r_15 := cRg fz0
     have r_16 := cRg fz1
     have r_17 := cRg fz2
     have r_18 := cRg fz3
     have r_19 := cRg fz4
     have r_20 := cRg fv0
     have r_21 := cRg fv1
     have r_22 := cRg fv2
     have r_23 := cRg fv3
     have r_24 := cRg fv4
     have r_25 := cRg fu0
     have r_26 := cRg fu1
     have r_27 := cRg fu2
     have r_28 := cRg fu3
     have r_29 := cRg fu4
     have r_30 := cRg ft0
     have r_31 := cRg ft1
     have r_32 := cRg ft2
     have r_33 := cRg ft3
     have r_34 := cRg ft4
     have r_35 := cRg g0
     have r_36 := cRg g1
     have r_37 := cRg g2
     have cP0 : ∀ w', Below G0.heap.size G0 w' → Calls Tryz.prog 21 #[.string (⟨#[84, 89, 80, 69]⟩ : ByteArray), .slice Az z.subs.length cz] w' fun e w'' => e = .returned (.string Tz) ∧ Below w'.heap.size w' w'' := fun w' hb => by rw [HT_z.out]; exact hD (⟨#[84, 89, 80, 69]⟩ : ByteArray) z.subs Az cz _ (HKZ.out.below (bTh HG0.out hb)) HO_z.out (by rw [← HT_z.out]; unfold maxT; omega)
     have cQ0 : ∀ dd os, Calls Tryz.prog 21 #[.string (⟨#[84, 89, 80, 69]⟩ : ByteArray), .slice Az z.subs.length cz] (Go.Sort.grow (redrawn G0 dd) os) fun e w'' => e = .returned (.string Tz) ∧ ∃ p : Regrown, w'' = Go.Sort.grow (redrawn G0 p.d) p.os := fun dd os => Calls.regrown_of (cP0 _ (below_regrown _ _ _))
     clear cP0
     refine wp_region_quiet_below (by kernel_rfl) (by kernel_rfl) ?_
     repeat (go_big_quiet_step (first | with_reducible exact cQ0 _ _))
     refine wpQuiet_nil ?_
     intro _ hw'
     obtain ⟨⟨dq, osq⟩, hw''⟩ := hw'
     subst hw''
     clear cQ0 r_0 r_1 r_2 r_3 r_4 r_5 r_6 r_7 r_8 r_9 r_10 r_11 r_12 r_13 r_14 r_15 r_16 r_17 r_18 r_19 r_20 r_21 r_22 r_23 r_24 r_25 r_26 r_27 r_28 r_29 r_30 r_31 r_32 r_33 r_34 r_35 r_36 r_37
     have HX2 := hid (bTh HX1.out (below_regrown G0 dq osq))
     have HG1 := hid (bTh HG0.out (below_regrown G0 dq osq))
     generalize hG : Go.Sort.grow (redrawn G0 dq) osq = G1 at *
     clear hG
     clear x0 x1 x2 x3 x4 fx0 fx1 fx2 fx3 fx4 fy0 fy1 fy2 fy3 fy4 fz0 fz1 fz2 fz3 fz4 fv0 fv1 fv2 fv3 fv4 fu0 fu1 fu2 fu3 fu4 ft0 ft1 ft2 ft3 ft4 g0 g1 g2
     obtain ⟨x0, x1, x2, x3, x4⟩ := nb HAT HG1
     obtain ⟨fx0, fx1, fx2, fx3, fx4⟩ := nb HX_x HG1
     obtain ⟨fy0, fy1, fy2, fy3, fy4⟩ := nb HX_y HG1
     obtain ⟨fz0, fz1, fz2, fz3, fz4⟩ := nb HX_z HG1
     obtain ⟨fv0, fv1, fv2, fv3, fv4⟩ := nb HX_v HG1
     obtain ⟨fu0, fu1, fu2, fu3, fu4⟩ := nb HX_u HG1
     obtain ⟨ft0, ft1, ft2, ft3, ft4⟩ := nb HX_t HG1
     have g0 := cell_word HW0.out HX2.out (j := 0) rfl
     have g1 := cell_word HW0.out HX2.out (j := 1) rfl
     have g2 := cell_word HW0.out HX2.out (j := 2) rfl
     go_wp2
     rw [rounds_succ]
     go_wp2
     have r_0 := cRg x0
     have r_1 := cRg x1
     have r_2 := cRg x2
     have r_3 := cRg x3
     have r_4 := cRg x4
     have r_5 := cRg fx0
     have r_6 := cRg fx1
     have r_7 := cRg fx2
     have r_8 := cRg fx3
     have r_9 := cRg fx4
     have r_10 := cRg fy0
     have r_11 := cRg fy1
     have r_12 := cRg fy2
     have r_13 := cRg fy3
     have r_14 := cRg fy4
     have r_15 := cRg fz0
     have r_16 := cRg fz1
     have r_17 := cRg fz2
     have r_18 := cRg fz3
     have r_19 := cRg fz4
     have r_20 := cRg fv0
     have r_21 := cRg fv1
     have r_22 := cRg fv2
     have r_23 := cRg fv3
     have r_24 := cRg fv4
     have r_25 := cRg fu0
     have r_26 := cRg fu1
     have r_27 := cRg fu2
     have r_28 := cRg fu3
     have r_29 := cRg fu4
     have r_30 := cRg ft0
     have r_31 := cRg ft1
     have r_32 := cRg ft2
     have r_33 := cRg ft3
     have r_34 := cRg ft4
     have r_35 := cRg g0
     have r_36 := cRg g1
     have r_37 := cRg g2
     have cP0 : ∀ w', Below G1.heap.size G1 w' → Calls Tryz.prog 21 #[.string (⟨#[86, 65, 82]⟩ : ByteArray), .slice Av v.subs.length cv] w' fun e w'' => e = .returned (.string Tv) ∧ Below w'.heap.size w' w'' := fun w' hb => by rw [HT_v.out]; exact hD (⟨#[86, 65, 82]⟩ : ByteArray) v.subs Av cv _ (HKV.out.below (bTh HG1.out hb)) HO_v.out (by rw [← HT_v.out]; unfold maxT; omega)
     have cQ0 : ∀ dd os, Calls Tryz.prog 21 #[.string (⟨#[86, 65, 82]⟩ : ByteArray), .slice Av v.subs.length cv] (Go.Sort.grow (redrawn G1 dd) os) fun e w'' => e = .returned (.string Tv) ∧ ∃ p : Regrown, w'' = Go.Sort.grow (redrawn G1 p.d) p.os := fun dd os => Calls.regrown_of (cP0 _ (below_regrown _ _ _))
     clear cP0
     refine wp_region_quiet_below (by kernel_rfl) (by kernel_rfl) ?_
     repeat (go_big_quiet_step (first | with_reducible exact cQ0 _ _))
     refine wpQuiet_nil ?_
     intro _ hw'
     obtain ⟨⟨dq, osq⟩, hw''⟩ := hw'
     subst hw''
     clear cQ0 r_0 r_1 r_2 r_3 r_4 r_5 r_6 r_7 r_8 r_9 r_10 r_11 r_12 r_13 r_14 r_15 r_16 r_17 r_18 r_19 r_20 r_21 r_22 r_23 r_24 r_25 r_26 r_27 r_28 r_29 r_30 r_31 r_32 r_33 r_34 r_35 r_36 r_37
     have HX3 := hid (bTh HX2.out (below_regrown G1 dq osq))
     have HG2 := hid (bTh HG1.out (below_regrown G1 dq osq))
     generalize hG : Go.Sort.grow (redrawn G1 dq) osq = G2 at *
     clear hG
     clear x0 x1 x2 x3 x4 fx0 fx1 fx2 fx3 fx4 fy0 fy1 fy2 fy3 fy4 fz0 fz1 fz2 fz3 fz4 fv0 fv1 fv2 fv3 fv4 fu0 fu1 fu2 fu3 fu4 ft0 ft1 ft2 ft3 ft4 g0 g1 g2
     obtain ⟨x0, x1, x2, x3, x4⟩ := nb HAT HG2
     obtain ⟨fx0, fx1, fx2, fx3, fx4⟩ := nb HX_x HG2
     obtain ⟨fy0, fy1, fy2, fy3, fy4⟩ := nb HX_y HG2
     obtain ⟨fz0, fz1, fz2, fz3, fz4⟩ := nb HX_z HG2
     obtain ⟨fv0, fv1, fv2, fv3, fv4⟩ := nb HX_v HG2
     obtain ⟨fu0, fu1, fu2, fu3, fu4⟩ := nb HX_u HG2
     obtain ⟨ft0, ft1, ft2, ft3, ft4⟩ := nb HX_t HG2
     go_wp2
     rw [rounds_succ]
     go_wp2
     obtain ⟨S2, hS2⟩ : ∃ S2 : ByteArray, S2 = S1 ++ Ty ++ Tz ++ Tv := ⟨_, rfl⟩
     try rw [← hS2]
     have HS2 := hid hS2
     have hS2z : S2.size = S1.size + Ty.size + Tz.size + Tv.size := by rw [hS2]; simp only [ByteArray.size_append, ba_size, List.size_toArray, List.length_cons, List.length_nil]
     clear hS2
     go_loopw [3, 8] (fun ss ii wr => ∃ (j : Nat) (S : ByteArray), j ≤ u.subs.length ∧ ii = .int .i64 j ∧ ss = .string S ∧ Hid (S = S2 ++ catB ((u.subs.take j).map (procT d))) ∧ Hid (Below W0.heap.size W0 wr)) (fun _ ii _ => u.subs.length - (intOf ii).toNat)
     case atStart => exact ⟨0, _, Nat.zero_le _, rfl, rfl, hid (by simp [catB, ba_nil]), HG2⟩
     case round =>
      obtain ⟨j, S', hj', rfl, rfl, HSS', HCR'⟩ := hrel
      clear x0 x1 x2 x3 x4 fx0 fx1 fx2 fx3 fx4 fy0 fy1 fy2 fy3 fy4 fz0 fz1 fz2 fz3 fz4 fv0 fv1 fv2 fv3 fv4 fu0 fu1 fu2 fu3 fu4 ft0 ft1 ft2 ft3 ft4
      obtain ⟨x0, x1, x2, x3, x4⟩ := HAT.out.below HCR'.out
      obtain ⟨fx0, fx1, fx2, fx3, fx4⟩ := HX_x.out.below HCR'.out
      obtain ⟨fy0, fy1, fy2, fy3, fy4⟩ := HX_y.out.below HCR'.out
      obtain ⟨fz0, fz1, fz2, fz3, fz4⟩ := HX_z.out.below HCR'.out
      obtain ⟨fv0, fv1, fv2, fv3, fv4⟩ := HX_v.out.below HCR'.out
      obtain ⟨fu0, fu1, fu2, fu3, fu4⟩ := HX_u.out.below HCR'.out
      obtain ⟨ft0, ft1, ft2, ft3, ft4⟩ := HX_t.out.below HCR'.out
      by_cases hlt' : j < u.subs.length
      ·skip
       obtain ⟨q, hq⟩ : ∃ q, u.subs[j]? = some q := ⟨_, List.getElem?_eq_getElem hlt'⟩
       obtain ⟨bq, oq, Aq, cq, hA, hxq, hkq⟩ := HKU.out.2.2 j q hq
       have HA := hid hA
       have HO_q := hid (all_at HO_u.out hq)
       have hcs := cat_size (f := procT d) hq
       have STEP := hid (cat_step (f := procT d) hq)
       have HX_q := hid hxq
       have HK_q := hid hkq
       clear hxq hkq hq hA
       have fxx := fu4
       rw [HA.out] at fxx
       clear fu4
       have fu4 := fxx
       clear fxx
       obtain ⟨Tq, hT_q⟩ : ∃ T, T = procT d q := ⟨_, rfl⟩
       rw [← hT_q, ← HT_u.out] at hcs
       have HT_q := hid hT_q
       clear hT_q
       have hz' : S'.size + Tq.size ≤ S2.size + Tu.size := by
        rw [HSS'.out]
        simp only [ByteArray.size_append]
        omega
       clear hcs
       obtain ⟨fq0, fq1, fq2, fq3, fq4⟩ := HX_q.out.below HCR'.out
       have hj1 : (0 : Int) ≤ (j : Int) := by omega
       have hj2 : (j : Int) < u.subs.length := by omega
       try rw [HA.out]
       go_wp2_with fail
       have hct := hP q Aq cq _ (HK_q.out.below HCR'.out) HO_q.out (by rw [← HT_q.out]; unfold maxT; omega)
       with_reducible refine hct.mono ?_
       clear hct
       rintro e w1 ⟨rfl, hb1⟩
       have HC1 := hid (bTh HCR'.out hb1)
       clear hb1
       clear x0 x1 x2 x3 x4 fx0 fx1 fx2 fx3 fx4 fy0 fy1 fy2 fy3 fy4 fz0 fz1 fz2 fz3 fz4 fv0 fv1 fv2 fv3 fv4 fu0 fu1 fu2 fu3 fu4 ft0 ft1 ft2 ft3 ft4 fq0 fq1 fq2 fq3 fq4
       obtain ⟨x0, x1, x2, x3, x4⟩ := nb HAT HC1
       obtain ⟨fx0, fx1, fx2, fx3, fx4⟩ := nb HX_x HC1
       obtain ⟨fy0, fy1, fy2, fy3, fy4⟩ := nb HX_y HC1
       obtain ⟨fz0, fz1, fz2, fz3, fz4⟩ := nb HX_z HC1
       obtain ⟨fv0, fv1, fv2, fv3, fv4⟩ := nb HX_v HC1
       obtain ⟨fu0, fu1, fu2, fu3, fu4⟩ := nb HX_u HC1
       obtain ⟨ft0, ft1, ft2, ft3, ft4⟩ := nb HX_t HC1
       obtain ⟨fq0, fq1, fq2, fq3, fq4⟩ := nb HX_q HC1
       rw [← HT_q.out]
       go_wp2
       go_roundw
       case rel => exact ⟨j + 1, _, by omega, by go_num, rfl, hid (by rw [STEP.out, HSS'.out, ← HT_q.out]; simp only [ba_assoc]), HC1⟩
       case measure => simp [intOf]; omega
      ·skip
       have HSE' := hid (show S' = S2 ++ Tu by rw [HSS'.out, List.take_of_length_le (by omega), HT_u.out])
       have hz' : S'.size = S2.size + Tu.size := by rw [HSE'.out]; simp only [ByteArray.size_append]
       go_wp2
       go_ret
       exact ⟨ret_str (by rw [HSE'.out, HS2.out, HS1.out, HSE.out, HP0.out]; simp only [ba_assoc, nil_ba, ba_nil]), bTh HBOX.out HCR'.out⟩
end Go.Proofs.YtneohanphabneaaGreatDoor
