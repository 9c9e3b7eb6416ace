/-
The document's folding of a tree, the walk. Conditions: the tree lies in memory and is one that folding can go through.
-/
import Derived.Test.YtneohanphabneaaGreatDoorFoldP
namespace Go.Proofs.YtneohanphabneaaGreatDoor
set_option linter.unusedSimpArgs false
set_option linter.unusedVariables false
open Go.RowKit Go.BigFrame
theorem level_ar {s : ByteArray} (h : 0 ≤ levelN s) (h0 : (s.toList == [38]) = false) (h1 : (s.toList == [79, 82]) = false) : (levelN s == 0) = !isAr s := by
 unfold levelN at h ⊢
 simp only [inB, wordsOf, relL, sumL, mulL, List.map, List.any_cons, List.any_nil, Bool.or_false, ← strEq, h0, h1] at h ⊢
 unfold isAr
 by_cases hr : ((s.toList == [61]) || ((s.toList == [35]) || ((s.toList == [60]) || ((s.toList == [60, 61]) || ((s.toList == [62]) || (s.toList == [62, 61])))))) = true
 ·rw [if_pos hr]
  simp only [Bool.or_eq_true, beq_iff_eq] at hr
  rcases hr with hr | hr | hr | hr | hr | hr <;> rw [hr] <;> rfl
 ·rw [if_neg hr] at h ⊢
  cases h2 : (s.toList == [43]) <;> cases h3 : (s.toList == [45]) <;> cases h4 : (s.toList == [42]) <;> cases h5 : (s.toList == [68, 73, 86]) <;> cases h6 : (s.toList == [77, 79, 68]) <;> simp_all
set_option maxRecDepth 100000 in
set_option maxHeartbeats 60000000 in
theorem folded_any (d : Nat) : ∀ (n : Nd) (A : Option Addr) (c : Nat) (w : World) (S : Nat → Prop), KidsP w S d n A c → okF d n = true → fewN d n = true →
  Calls Tryz.prog 14 #[.agg #[.int .i64 n.kind, .string n.name, .int .i64 n.num, .int .i64 n.pos, .slice A n.subs.length c]] w fun e w' =>
   Below w.heap.size w w' ∧ ∃ A' c', e = .returned (.agg #[.int .i64 (foldN d n).kind, .string (foldN d n).name, .int .i64 (foldN d n).num, .int .i64 (foldN d n).pos, .slice A' (foldN d n).subs.length c']) ∧ KidsP w' (fun q => S q ∧ q < w.heap.size ∨ w.heap.size ≤ q) d (foldN d n) A' c' := by
 obtain ⟨i0, hi, hz0, hz1, hz2⟩ := info_parts infoNode
 induction d with
 | zero => intro n A c w S hk; exact hk.elim
 | succ d ih =>
  rintro ⟨k, s, num, pos, subs⟩ A c w S hk ho hf
  have hmany : subs.length ≤ 3000 := fewN_len hf
  have HSZ := hid hk.1
  have HKP := hid hk.lt
  have IH := hid ih
  have HO := hid ho
  have HF := hid hf
  have HCAP := hid hk.2.1
  have HCM := hid hk.2.2.1
  clear ih hk ho hf
  go_enter Tryz.func14, Tryz.ntmps14
  go_wp2
  generalize hW0 : ((w.alloc (.cells #[.int .i64 k, .string s, .int .i64 num, .int .i64 pos, .slice A subs.length c] 24)).alloc (.cells #[.int .i64 0, .string ⟨#[]⟩, .int .i64 0, .int .i64 0, .slice none 0 0] 24)).alloc (.cells #[.int .i64 k, .string s, .int .i64 num, .int .i64 pos, .slice none 0 0] 24) = W0
  have hb0 : Below w.heap.size w W0 := by rw [← hW0]; exact bTh (bBw _ _) (bTh (bBw _ _) (bBw _ _))
  have hn0 : NdAt W0 w.heap.size 0 ⟨k, s, num, pos, subs⟩ A c := by rw [← hW0]; exact ((bAt w ⟨k, s, num, pos, subs⟩ A c _).below (bBw _ _)).below (bBw _ _)
  have hz : Zero W0 (w.heap.size + 1) := by
   have h : Zero ((w.alloc (.cells #[.int .i64 k, .string s, .int .i64 num, .int .i64 pos, .slice A subs.length c] 24)).alloc (.cells #[.int .i64 0, .string ⟨#[]⟩, .int .i64 0, .int .i64 0, .slice none 0 0] 24)) (w.heap.size + 1) := ⟨_, _, _, _, _, heap_alloc2_new _ _ _⟩
   rw [← hW0]
   exact h.below (bBw _ _)
  have hs3 : W0.heap.size = w.heap.size + 3 := by rw [← hW0]; simp
  have ho0 : OutAt W0 (w.heap.size + 1 + 1) k s num pos (.slice none 0 0) := by
   have e : (((w.alloc (.cells #[.int .i64 k, .string s, .int .i64 num, .int .i64 pos, .slice A subs.length c] 24)).alloc (.cells #[.int .i64 0, .string ⟨#[]⟩, .int .i64 0, .int .i64 0, .slice none 0 0] 24))).heap.size = w.heap.size + 1 + 1 := by simp
   have h := heap_alloc_new (((w.alloc (.cells #[.int .i64 k, .string s, .int .i64 num, .int .i64 pos, .slice A subs.length c] 24)).alloc (.cells #[.int .i64 0, .string ⟨#[]⟩, .int .i64 0, .int .i64 0, .slice none 0 0] 24))) (.cells #[.int .i64 k, .string s, .int .i64 num, .int .i64 pos, .slice none 0 0] 24)
   rw [e] at h
   rw [← hW0]
   refine ⟨?_, ?_, ?_, ?_, ?_, frozen_of_row _ _ 4 _ _ h⟩
   all_goals (rw [cell_of_row _ _ _ _ _ _ h]; rfl)
  have HB0 := hid hb0
  have HN0 := hid hn0
  have HZ0 := hid hz
  have HO0 := hid ho0
  have HS3 := hid hs3
  clear hb0 hn0 hz hs3 ho0 hW0
  obtain ⟨g, hg⟩ : ∃ g, g = w.heap.size := ⟨_, rfl⟩
  obtain ⟨S', hS'⟩ : ∃ S' : Nat → Prop, S' = fun q => S q ∧ q < w.heap.size ∨ w.heap.size + 2 < q := ⟨_, rfl⟩
  have HS' := hid hS'
  clear hg hS'
  go_loopw [4] (fun ii wr => ∃ (j : Nat) (v : Value) (ms : List Mem), j ≤ subs.length ∧ ii = .int .i64 j ∧ Hid (ms.map (·.1) = ((subs.take j).map (foldN d)).filter (keepN k)) ∧ Hid (Built wr S' (w.heap.size + 3) d v ms) ∧ Hid (OutAt wr (w.heap.size + 1 + 1) k s num pos v) ∧ Hid (NdAt wr w.heap.size 0 ⟨k, s, num, pos, subs⟩ A c) ∧ Hid (Zero wr (w.heap.size + 1)) ∧ Hid (Below w.heap.size w wr) ∧ Hid (w.heap.size + 3 ≤ wr.heap.size)) (fun ii _ => subs.length - (intOf ii).toNat)
  case atStart => exact ⟨0, .slice none 0 0, [], Nat.zero_le _, rfl, hid rfl, hid (built_nil _ _ _ _), HO0, HN0, HZ0, HB0, hid (by rw [HS3.out]; exact Nat.le_refl _)⟩
  case round =>
   obtain ⟨j, v, ms, hj, rfl, HMS, HBU, HOUT, HN, HZ, HB, HGE⟩ := hrel
   by_cases hlt : j < subs.length
   ·obtain ⟨x, hx⟩ : ∃ x, subs[j]? = some x := ⟨_, List.getElem?_eq_getElem hlt⟩
    obtain ⟨b, o, Ax, cx, hA, hSb, hatx, hkx⟩ := HKP.out.kid hx
    subst hA
    have hox := okN_kids HO.out x (List.mem_of_getElem? hx)
    have hfx := fewN_kids HF.out x (List.mem_of_getElem? hx)
    have hcl := HCAP.out
    have HX := hid hx
    have HKX := hid hkx
    have HATX := hid hatx
    have HOX := hid hox
    have HFX := hid hfx
    clear hx hkx hatx hox hfx hSb
    obtain ⟨f0, f1, f2, f3, f4⟩ := HATX.out.below HB.out
    obtain ⟨n0, n1, n2, n3, n4⟩ := HN.out
    go_wp2_with fail
    refine (IH.out x Ax cx _ (fun q => S q ∧ q < w.heap.size) (KidsP.below HB.out HKX.out) HOX.out HFX.out).mono ?_
    rintro e w2 ⟨hb, Ay, cy, rfl, hk2⟩
    have hb' : Below wr.heap.size wr w2 := hb
    have hge : wr.heap.size ≤ w2.heap.size := hb.size
    have hge3 := HGE.out
    obtain ⟨y, hy⟩ : ∃ y, y = foldN d x := ⟨_, rfl⟩
    rw [← hy] at hk2 ⊢
    have hoy : okF d y = true := by rw [hy]; exact fold_ok d x HOX.out
    have hky : KidsP w2 (fun q => S' q ∧ v.ownBlock ≠ some q) d y Ay cy := hk2.mono fun q hq _ => by
     have hq' : (S q ∧ q < w.heap.size) ∧ q < wr.heap.size ∨ wr.heap.size ≤ q := hq
     refine ⟨?_, fun e => ?_⟩
     ·rw [HS'.out]
      rcases hq' with h | h
      ·exact .inl h.1
      ·exact .inr (by omega)
     ·have h1 := HBU.out.own.lt q e
      omega
    have HY := hid hy
    have HOY := hid hoy
    have HKY := hid hky
    have HB2 := hid (bTh HB.out hb')
    have HBU2 := hid (HBU.out.below hb')
    have HOUT2 := hid (HOUT.out.below hb')
    have HN2 := hid (HN.out.below hb')
    have HZ2 := hid (HZ.out.below hb')
    have HGE2 := hid (show w.heap.size + 3 ≤ w2.heap.size by omega)
    have hlg : w.heap.size < w2.heap.size := by omega
    have hl2 : w.heap.size + 1 + 1 < w2.heap.size := by omega
    have hl3 : w.heap.size + 1 + 1 < w2.heap.size + 1 := by omega
    have hml := fold_len _ _ _ _ HMS.out
    clear hb hb' hge hge3 hk2 hy hoy hky f0 f1 f2 f3 f4 n0 n1 n2 n3 n4
    obtain ⟨n0, n1, n2, n3, n4⟩ := HN2.out
    obtain ⟨q0, q1, q2, q3, q4, qf⟩ := HOUT2.out
    by_cases k1 : k = 1
    ·subst k1
     by_cases y17 : y.kind = 17
     ·have gy : (y.kind != 17) = false := by simpa using y17
      obtain ⟨z, r, hyz⟩ : ∃ z r, y.subs = z :: r := by
       have h := okN_head HOY.out
       match hm : y.subs with
       | [] => rw [okHead] at h; simp [y17, hm] at h
       | z :: r => exact ⟨z, r, rfl⟩
      obtain ⟨bz, oz, Az, cz, hAy, _, hz⟩ := HKY.out.first hyz
      subst hAy
      have hlz := hz.lt
      have hyl : y.subs.length = r.length + 1 := by rw [hyz]; rfl
      have hyi : (0 : Int) < (y.subs.length : Int) := by omega
      have HYZ := hid hyz
      have Y17 := hid y17
      clear hyl hyz y17
      obtain ⟨z0, z1, z2, z3, z4⟩ := id hz
      clear hz
      by_cases z31 : z.kind = 31
      ·have gz : (z.kind != 31) = false := by simpa using z31
       have HMS4 := hid (show ms.map (·.1) = ((subs.take (j + 1)).map (foldN d)).filter (keepN 1) by rw [take_map_filter (foldN d) (keepN 1) HX.out, ← HY.out, if_neg (by simp [keepN, Y17.out, Nd.sub, HYZ.out, z31]), HMS.out]; simp)
       clear z31
       go_wp2
       go_roundw
       case rel => exact ⟨j + 1, v, ms, by omega, by go_num, HMS4, hid (HBU2.out.below (bBw _ _)), hid (HOUT2.out.below (bBw _ _)), hid (HN2.out.below (bBw _ _)), hid (HZ2.out.below (bBw _ _)), hid (bTh HB2.out (bBw _ _)), hid (by have := HGE2.out; simp; omega)⟩
       case measure => simp [intOf]; omega
      ·have gz : (z.kind != 31) = true := by simpa using z31
       have HKEEP := hid (show keepN 1 y = true by simp [keepN, Nd.sub, HYZ.out, z31])
       have HB3 := hid ((HBU2.out.below (bBw w2 (.cells #[.int .i64 y.kind, .string y.name, .int .i64 y.num, .int .i64 y.pos, .slice (some ⟨bz, oz, none⟩) y.subs.length cy] 24))).below (bBw _ (.cells #[.int .i64 y.kind, .string y.name, .int .i64 y.num, .int .i64 y.pos, .slice (some ⟨bz, oz, none⟩) y.subs.length cy] 24)))
       go_wp2_with (at_builtin; refine wpList_append_lies _ rfl _ _ 22 rfl (w.heap.size + 3) 24 i0 (.agg #[.int .i64 0, .string ⟨#[]⟩, .int .i64 0, .int .i64 0, .slice none 0 0]) 5 64 Tryz.underlying22 hi hz0 hz1 hz2 rfl (by decide) _ _ _ rfl HB3.out.own ⟨w2.heap.size + 1, 0, none⟩ 1 1 (rowOf (y, (some ⟨bz, oz, none⟩), cy)) rfl rfl ?c1 (rowOf_one _) (by omega) ?c3 ?c4 ?c5 _ rfl ?_)
       case c1 =>
        intro i u hu
        have h := bAt (w2.alloc (.cells #[.int .i64 y.kind, .string y.name, .int .i64 y.num, .int .i64 y.pos, .slice (some ⟨bz, oz, none⟩) y.subs.length cy] 24)) y (some ⟨bz, oz, none⟩) cy 24
        rw [show (w2.alloc (.cells #[.int .i64 y.kind, .string y.name, .int .i64 y.num, .int .i64 y.pos, .slice (some ⟨bz, oz, none⟩) y.subs.length cy] 24)).heap.size = w2.heap.size + 1 by simp] at h
        rw [Go.WideShapes.add_plain]
        match i, hu with
        | 0, hu => simp [rowOf] at hu; subst hu; exact h.c0
        | 1, hu => simp [rowOf] at hu; subst hu; exact h.c1
        | 2, hu => simp [rowOf] at hu; subst hu; exact h.c2
        | 3, hu => simp [rowOf] at hu; subst hu; exact h.c3
        | 4, hu => simp [rowOf] at hu; subst hu; exact h.c4
        | i + 5, hu => simp [rowOf] at hu
       case c3 => unfold maxLen; omega
       case c4 => omega
       case c5 => have := HGE2.out; simp; omega
       intro gg cap w4 hown hgrow hat hlt4
       have hs4 := HGE2.out
       have hne := own_ne HB3.out.own (g := w.heap.size) (by omega)
       have hne1 := own_ne HB3.out.own (g := w.heap.size + 1) (by omega)
       have hne2 := own_ne HB3.out.own (g := w.heap.size + 1 + 1) (by omega)
       have hpush := Built.push HB3.out (m := (y, (some ⟨bz, oz, none⟩), cy)) ((HKY.out.below (bBw w2 (.cells #[.int .i64 y.kind, .string y.name, .int .i64 y.num, .int .i64 y.pos, .slice (some ⟨bz, oz, none⟩) y.subs.length cy] 24))).below (bBw _ (.cells #[.int .i64 y.kind, .string y.name, .int .i64 y.num, .int .i64 y.pos, .slice (some ⟨bz, oz, none⟩) y.subs.length cy] 24))) hown hgrow hat (by simp)
       have HOUT4 := hid (((HOUT2.out.below (bBw w2 (.cells #[.int .i64 y.kind, .string y.name, .int .i64 y.num, .int .i64 y.pos, .slice (some ⟨bz, oz, none⟩) y.subs.length cy] 24))).below (bBw _ (.cells #[.int .i64 y.kind, .string y.name, .int .i64 y.num, .int .i64 y.pos, .slice (some ⟨bz, oz, none⟩) y.subs.length cy] 24))).grown hgrow hne2)
       have hn4' := ((HN2.out.below (bBw w2 (.cells #[.int .i64 y.kind, .string y.name, .int .i64 y.num, .int .i64 y.pos, .slice (some ⟨bz, oz, none⟩) y.subs.length cy] 24))).below (bBw _ (.cells #[.int .i64 y.kind, .string y.name, .int .i64 y.num, .int .i64 y.pos, .slice (some ⟨bz, oz, none⟩) y.subs.length cy] 24))).grown hgrow hne
       have hz4' := ((HZ2.out.below (bBw w2 (.cells #[.int .i64 y.kind, .string y.name, .int .i64 y.num, .int .i64 y.pos, .slice (some ⟨bz, oz, none⟩) y.subs.length cy] 24))).below (bBw _ (.cells #[.int .i64 y.kind, .string y.name, .int .i64 y.num, .int .i64 y.pos, .slice (some ⟨bz, oz, none⟩) y.subs.length cy] 24))).grown hgrow hne1
       have hb4 : Below w.heap.size w w4 := ((bTh HB2.out (bTh (bBw w2 (.cells #[.int .i64 y.kind, .string y.name, .int .i64 y.num, .int .i64 y.pos, .slice (some ⟨bz, oz, none⟩) y.subs.length cy] 24)) (bBw _ (.cells #[.int .i64 y.kind, .string y.name, .int .i64 y.num, .int .i64 y.pos, .slice (some ⟨bz, oz, none⟩) y.subs.length cy] 24))))).grown hgrow (by simp; omega) (fun q hq => by have := (HB3.out.own.lt q hq).1; omega)
       have hg4 : w.heap.size + 3 ≤ w4.heap.size := by have := hgrow.size; simp at this; omega
       have hS2 : ¬ S' (w.heap.size + 1 + 1) := by rw [HS'.out]; rintro (h | h) <;> omega
       have HBU4 := hid (hpush.setCell 4 (.slice (some ⟨gg, 0, none⟩) (ms.length + 1) cap) (g := w.heap.size + 1 + 1) (by omega) hS2)
       have HN4 := hid (hn4'.setCell (g := w.heap.size + 1 + 1) (i := 4) (u := .slice (some ⟨gg, 0, none⟩) (ms.length + 1) cap) (by omega))
       have HZ4 := hid (hz4'.setCell (g := w.heap.size + 1 + 1) (i := 4) (u := .slice (some ⟨gg, 0, none⟩) (ms.length + 1) cap) (by omega))
       have HBB4 := hid (hb4.setCell (p := ⟨w.heap.size + 1 + 1, 4, none⟩) (by simp; omega) (.slice (some ⟨gg, 0, none⟩) (ms.length + 1) cap))
       have HGE4 := hid (show w.heap.size + 3 ≤ (w4.setCell ⟨w.heap.size + 1 + 1, 4, none⟩ (.slice (some ⟨gg, 0, none⟩) (ms.length + 1) cap)).heap.size by simpa using hg4)
       have HMS4 := hid (show (ms ++ [((y, (some ⟨bz, oz, none⟩), cy) : Mem)]).map (·.1) = ((subs.take (j + 1)).map (foldN d)).filter (keepN 1) by rw [take_map_filter (foldN d) (keepN 1) HX.out, ← HY.out, if_pos HKEEP.out, List.map_append, HMS.out]; rfl)
       clear hown hgrow hat hlt4 hne hne1 hne2 hpush hn4' hz4' hb4 hg4 hS2 n0 n1 n2 n3 n4 q0 q1 q2 q3 q4 qf hlg hl2 hl3 hs4
       obtain ⟨q0, q1, q2, q3, q4, qf⟩ := HOUT4.out
       go_wp2
       go_roundw
       case rel => exact ⟨j + 1, _, _, by omega, by go_num, HMS4, HBU4, hid (HOUT4.out.put _), HN4, HZ4, HBB4, HGE4⟩
       case measure => simp [intOf]; omega
     ·have gy : (y.kind != 17) = true := by simpa using y17
      have HKEEP := hid (show keepN 1 y = true by simp [keepN, y17])
      have HB3 := hid ((HBU2.out.below (bBw w2 (.cells #[.int .i64 y.kind, .string y.name, .int .i64 y.num, .int .i64 y.pos, .slice Ay y.subs.length cy] 24))).below (bBw _ (.cells #[.int .i64 y.kind, .string y.name, .int .i64 y.num, .int .i64 y.pos, .slice Ay y.subs.length cy] 24)))
      go_wp2_with (at_builtin; refine wpList_append_lies _ rfl _ _ 22 rfl (w.heap.size + 3) 24 i0 (.agg #[.int .i64 0, .string ⟨#[]⟩, .int .i64 0, .int .i64 0, .slice none 0 0]) 5 64 Tryz.underlying22 hi hz0 hz1 hz2 rfl (by decide) _ _ _ rfl HB3.out.own ⟨w2.heap.size + 1, 0, none⟩ 1 1 (rowOf (y, Ay, cy)) rfl rfl ?c1 (rowOf_one _) (by omega) ?c3 ?c4 ?c5 _ rfl ?_)
      case c1 =>
       intro i u hu
       have h := bAt (w2.alloc (.cells #[.int .i64 y.kind, .string y.name, .int .i64 y.num, .int .i64 y.pos, .slice Ay y.subs.length cy] 24)) y Ay cy 24
       rw [show (w2.alloc (.cells #[.int .i64 y.kind, .string y.name, .int .i64 y.num, .int .i64 y.pos, .slice Ay y.subs.length cy] 24)).heap.size = w2.heap.size + 1 by simp] at h
       rw [Go.WideShapes.add_plain]
       match i, hu with
       | 0, hu => simp [rowOf] at hu; subst hu; exact h.c0
       | 1, hu => simp [rowOf] at hu; subst hu; exact h.c1
       | 2, hu => simp [rowOf] at hu; subst hu; exact h.c2
       | 3, hu => simp [rowOf] at hu; subst hu; exact h.c3
       | 4, hu => simp [rowOf] at hu; subst hu; exact h.c4
       | i + 5, hu => simp [rowOf] at hu
      case c3 => unfold maxLen; omega
      case c4 => omega
      case c5 => have := HGE2.out; simp; omega
      intro gg cap w4 hown hgrow hat hlt4
      have hs4 := HGE2.out
      have hne := own_ne HB3.out.own (g := w.heap.size) (by omega)
      have hne1 := own_ne HB3.out.own (g := w.heap.size + 1) (by omega)
      have hne2 := own_ne HB3.out.own (g := w.heap.size + 1 + 1) (by omega)
      have hpush := Built.push HB3.out (m := (y, Ay, cy)) ((HKY.out.below (bBw w2 (.cells #[.int .i64 y.kind, .string y.name, .int .i64 y.num, .int .i64 y.pos, .slice Ay y.subs.length cy] 24))).below (bBw _ (.cells #[.int .i64 y.kind, .string y.name, .int .i64 y.num, .int .i64 y.pos, .slice Ay y.subs.length cy] 24))) hown hgrow hat (by simp)
      have HOUT4 := hid (((HOUT2.out.below (bBw w2 (.cells #[.int .i64 y.kind, .string y.name, .int .i64 y.num, .int .i64 y.pos, .slice Ay y.subs.length cy] 24))).below (bBw _ (.cells #[.int .i64 y.kind, .string y.name, .int .i64 y.num, .int .i64 y.pos, .slice Ay y.subs.length cy] 24))).grown hgrow hne2)
      have hn4' := ((HN2.out.below (bBw w2 (.cells #[.int .i64 y.kind, .string y.name, .int .i64 y.num, .int .i64 y.pos, .slice Ay y.subs.length cy] 24))).below (bBw _ (.cells #[.int .i64 y.kind, .string y.name, .int .i64 y.num, .int .i64 y.pos, .slice Ay y.subs.length cy] 24))).grown hgrow hne
      have hz4' := ((HZ2.out.below (bBw w2 (.cells #[.int .i64 y.kind, .string y.name, .int .i64 y.num, .int .i64 y.pos, .slice Ay y.subs.length cy] 24))).below (bBw _ (.cells #[.int .i64 y.kind, .string y.name, .int .i64 y.num, .int .i64 y.pos, .slice Ay y.subs.length cy] 24))).grown hgrow hne1
      have hb4 : Below w.heap.size w w4 := ((bTh HB2.out (bTh (bBw w2 (.cells #[.int .i64 y.kind, .string y.name, .int .i64 y.num, .int .i64 y.pos, .slice Ay y.subs.length cy] 24)) (bBw _ (.cells #[.int .i64 y.kind, .string y.name, .int .i64 y.num, .int .i64 y.pos, .slice Ay y.subs.length cy] 24))))).grown hgrow (by simp; omega) (fun q hq => by have := (HB3.out.own.lt q hq).1; omega)
      have hg4 : w.heap.size + 3 ≤ w4.heap.size := by have := hgrow.size; simp at this; omega
      have hS2 : ¬ S' (w.heap.size + 1 + 1) := by rw [HS'.out]; rintro (h | h) <;> omega
      have HBU4 := hid (hpush.setCell 4 (.slice (some ⟨gg, 0, none⟩) (ms.length + 1) cap) (g := w.heap.size + 1 + 1) (by omega) hS2)
      have HN4 := hid (hn4'.setCell (g := w.heap.size + 1 + 1) (i := 4) (u := .slice (some ⟨gg, 0, none⟩) (ms.length + 1) cap) (by omega))
      have HZ4 := hid (hz4'.setCell (g := w.heap.size + 1 + 1) (i := 4) (u := .slice (some ⟨gg, 0, none⟩) (ms.length + 1) cap) (by omega))
      have HBB4 := hid (hb4.setCell (p := ⟨w.heap.size + 1 + 1, 4, none⟩) (by simp; omega) (.slice (some ⟨gg, 0, none⟩) (ms.length + 1) cap))
      have HGE4 := hid (show w.heap.size + 3 ≤ (w4.setCell ⟨w.heap.size + 1 + 1, 4, none⟩ (.slice (some ⟨gg, 0, none⟩) (ms.length + 1) cap)).heap.size by simpa using hg4)
      have HMS4 := hid (show (ms ++ [((y, Ay, cy) : Mem)]).map (·.1) = ((subs.take (j + 1)).map (foldN d)).filter (keepN 1) by rw [take_map_filter (foldN d) (keepN 1) HX.out, ← HY.out, if_pos HKEEP.out, List.map_append, HMS.out]; rfl)
      clear hown hgrow hat hlt4 hne hne1 hne2 hpush hn4' hz4' hb4 hg4 hS2 n0 n1 n2 n3 n4 q0 q1 q2 q3 q4 qf hlg hl2 hl3 hs4
      obtain ⟨q0, q1, q2, q3, q4, qf⟩ := HOUT4.out
      go_wp2
      go_roundw
      case rel => exact ⟨j + 1, _, _, by omega, by go_num, HMS4, HBU4, hid (HOUT4.out.put _), HN4, HZ4, HBB4, HGE4⟩
      case measure => simp [intOf]; omega
    ·have gk : (k != 1) = true := by simpa using k1
     have HKEEP := hid (show keepN k y = true by simp [keepN, k1])
     have HB3 := hid ((HBU2.out.below (bBw w2 (.cells #[.int .i64 y.kind, .string y.name, .int .i64 y.num, .int .i64 y.pos, .slice Ay y.subs.length cy] 24))).below (bBw _ (.cells #[.int .i64 y.kind, .string y.name, .int .i64 y.num, .int .i64 y.pos, .slice Ay y.subs.length cy] 24)))
     go_wp2_with (at_builtin; refine wpList_append_lies _ rfl _ _ 22 rfl (w.heap.size + 3) 24 i0 (.agg #[.int .i64 0, .string ⟨#[]⟩, .int .i64 0, .int .i64 0, .slice none 0 0]) 5 64 Tryz.underlying22 hi hz0 hz1 hz2 rfl (by decide) _ _ _ rfl HB3.out.own ⟨w2.heap.size + 1, 0, none⟩ 1 1 (rowOf (y, Ay, cy)) rfl rfl ?c1 (rowOf_one _) (by omega) ?c3 ?c4 ?c5 _ rfl ?_)
     case c1 =>
      intro i u hu
      have h := bAt (w2.alloc (.cells #[.int .i64 y.kind, .string y.name, .int .i64 y.num, .int .i64 y.pos, .slice Ay y.subs.length cy] 24)) y Ay cy 24
      rw [show (w2.alloc (.cells #[.int .i64 y.kind, .string y.name, .int .i64 y.num, .int .i64 y.pos, .slice Ay y.subs.length cy] 24)).heap.size = w2.heap.size + 1 by simp] at h
      rw [Go.WideShapes.add_plain]
      match i, hu with
      | 0, hu => simp [rowOf] at hu; subst hu; exact h.c0
      | 1, hu => simp [rowOf] at hu; subst hu; exact h.c1
      | 2, hu => simp [rowOf] at hu; subst hu; exact h.c2
      | 3, hu => simp [rowOf] at hu; subst hu; exact h.c3
      | 4, hu => simp [rowOf] at hu; subst hu; exact h.c4
      | i + 5, hu => simp [rowOf] at hu
     case c3 => unfold maxLen; omega
     case c4 => omega
     case c5 => have := HGE2.out; simp; omega
     intro gg cap w4 hown hgrow hat hlt4
     have hs4 := HGE2.out
     have hne := own_ne HB3.out.own (g := w.heap.size) (by omega)
     have hne1 := own_ne HB3.out.own (g := w.heap.size + 1) (by omega)
     have hne2 := own_ne HB3.out.own (g := w.heap.size + 1 + 1) (by omega)
     have hpush := Built.push HB3.out (m := (y, Ay, cy)) ((HKY.out.below (bBw w2 (.cells #[.int .i64 y.kind, .string y.name, .int .i64 y.num, .int .i64 y.pos, .slice Ay y.subs.length cy] 24))).below (bBw _ (.cells #[.int .i64 y.kind, .string y.name, .int .i64 y.num, .int .i64 y.pos, .slice Ay y.subs.length cy] 24))) hown hgrow hat (by simp)
     have HOUT4 := hid (((HOUT2.out.below (bBw w2 (.cells #[.int .i64 y.kind, .string y.name, .int .i64 y.num, .int .i64 y.pos, .slice Ay y.subs.length cy] 24))).below (bBw _ (.cells #[.int .i64 y.kind, .string y.name, .int .i64 y.num, .int .i64 y.pos, .slice Ay y.subs.length cy] 24))).grown hgrow hne2)
     have hn4' := ((HN2.out.below (bBw w2 (.cells #[.int .i64 y.kind, .string y.name, .int .i64 y.num, .int .i64 y.pos, .slice Ay y.subs.length cy] 24))).below (bBw _ (.cells #[.int .i64 y.kind, .string y.name, .int .i64 y.num, .int .i64 y.pos, .slice Ay y.subs.length cy] 24))).grown hgrow hne
     have hz4' := ((HZ2.out.below (bBw w2 (.cells #[.int .i64 y.kind, .string y.name, .int .i64 y.num, .int .i64 y.pos, .slice Ay y.subs.length cy] 24))).below (bBw _ (.cells #[.int .i64 y.kind, .string y.name, .int .i64 y.num, .int .i64 y.pos, .slice Ay y.subs.length cy] 24))).grown hgrow hne1
     have hb4 : Below w.heap.size w w4 := ((bTh HB2.out (bTh (bBw w2 (.cells #[.int .i64 y.kind, .string y.name, .int .i64 y.num, .int .i64 y.pos, .slice Ay y.subs.length cy] 24)) (bBw _ (.cells #[.int .i64 y.kind, .string y.name, .int .i64 y.num, .int .i64 y.pos, .slice Ay y.subs.length cy] 24))))).grown hgrow (by simp; omega) (fun q hq => by have := (HB3.out.own.lt q hq).1; omega)
     have hg4 : w.heap.size + 3 ≤ w4.heap.size := by have := hgrow.size; simp at this; omega
     have hS2 : ¬ S' (w.heap.size + 1 + 1) := by rw [HS'.out]; rintro (h | h) <;> omega
     have HBU4 := hid (hpush.setCell 4 (.slice (some ⟨gg, 0, none⟩) (ms.length + 1) cap) (g := w.heap.size + 1 + 1) (by omega) hS2)
     have HN4 := hid (hn4'.setCell (g := w.heap.size + 1 + 1) (i := 4) (u := .slice (some ⟨gg, 0, none⟩) (ms.length + 1) cap) (by omega))
     have HZ4 := hid (hz4'.setCell (g := w.heap.size + 1 + 1) (i := 4) (u := .slice (some ⟨gg, 0, none⟩) (ms.length + 1) cap) (by omega))
     have HBB4 := hid (hb4.setCell (p := ⟨w.heap.size + 1 + 1, 4, none⟩) (by simp; omega) (.slice (some ⟨gg, 0, none⟩) (ms.length + 1) cap))
     have HGE4 := hid (show w.heap.size + 3 ≤ (w4.setCell ⟨w.heap.size + 1 + 1, 4, none⟩ (.slice (some ⟨gg, 0, none⟩) (ms.length + 1) cap)).heap.size by simpa using hg4)
     have HMS4 := hid (show (ms ++ [((y, Ay, cy) : Mem)]).map (·.1) = ((subs.take (j + 1)).map (foldN d)).filter (keepN k) by rw [take_map_filter (foldN d) (keepN k) HX.out, ← HY.out, if_pos HKEEP.out, List.map_append, HMS.out]; rfl)
     clear hown hgrow hat hlt4 hne hne1 hne2 hpush hn4' hz4' hb4 hg4 hS2 n0 n1 n2 n3 n4 q0 q1 q2 q3 q4 qf hlg hl2 hl3 hs4
     obtain ⟨q0, q1, q2, q3, q4, qf⟩ := HOUT4.out
     go_wp2
     go_roundw
     case rel => exact ⟨j + 1, _, _, by omega, by go_num, HMS4, HBU4, hid (HOUT4.out.put _), HN4, HZ4, HBB4, HGE4⟩
     case measure => simp [intOf]; omega
   ·skip
    obtain rfl : j = subs.length := by omega
    obtain ⟨l, hl⟩ : ∃ l, l = (subs.map (foldN d)).filter (keepN k) := ⟨_, rfl⟩
    have hml : l = ms.map (·.1) := by rw [HMS.out, List.take_length, hl]
    obtain ⟨A', c', hv, hkm⟩ := HBU.out.node (T := (fun q => S q ∧ q < w.heap.size ∨ w.heap.size + 2 < q)) (n := ⟨k, s, num, pos, l⟩) HSZ.out hml (fun q hq => by rw [HS'.out] at hq; exact hq) (fun q hq => .inr (by omega))
    subst hv
    have hmid : midN d ⟨k, s, num, pos, subs⟩ = ⟨k, s, num, pos, l⟩ := by rw [hl]; rfl
    have hokm := mid_ok HO.out
    rw [hmid] at hokm
    have HFD := hid (show foldN (d + 1) ⟨k, s, num, pos, subs⟩ = doneN ⟨k, s, num, pos, l⟩ by rw [← hmid]; rfl)
    have HKM := hid hkm
    have HOM := hid hokm
    have hge := HGE.out
    have HOUTN := hid HOUT.out.node
    clear hml hl hkm hmid hokm HMS HBU
    obtain ⟨n0, n1, n2, n3, n4⟩ := HN.out
    obtain ⟨q0, q1, q2, q3, q4, qf⟩ := HOUT.out
    clear qf hlt hj
    by_cases k34 : k = 34
    ·subst k34
     obtain ⟨z, r, hlz⟩ := okN_one HOM.out (.inl rfl)
     simp only at hlz
     subst hlz
     obtain ⟨bz, oz, Az, cz, hAz, _, hz⟩ := HKM.out.first (x := z) (r := r) rfl
     subst hAz
     obtain ⟨z0, z1, z2, z3, z4⟩ := id hz
     clear hz
     by_cases z30 : z.kind = 30
     ·have gz : (z.kind == 30) = true := by simpa using z30
      have gz' : (z.kind == 31) = false := by simp [z30]
      have FIN := hid (HFD.out.trans (show doneN (⟨34, s, num, pos, z :: r⟩ : Nd) = truthN false pos by simp [doneN, Nd.sub, z30]))
      clear z30
      go_wp2_with (with_reducible refine at_store2 ?_; refine HZ.out.store (truthN false pos) none 0 rfl rfl ?_)
      refine bodyPost_ret (ret_node rfl _ _ rfl (HZ.out.node (truthN false pos) none 0)) rfl ?_
      rw [FIN.out]
      exact ⟨setRow_below HB.out (by omega) _, _, _, rfl, (KidsP.setRow (g := w.heap.size + 1) _ (fun q hq => by omega) (kids_truth _ (fun q => S q ∧ q < w.heap.size ∨ w.heap.size + 2 < q) _ _ _)).mono (fun q hq _ => hq.imp id fun h => by omega)⟩
     ·have gz : (z.kind == 30) = false := by simpa using z30
      by_cases z31 : z.kind = 31
      ·have gz' : (z.kind == 31) = true := by simpa using z31
       have FIN := hid (HFD.out.trans (show doneN (⟨34, s, num, pos, z :: r⟩ : Nd) = truthN true pos by simp [doneN, Nd.sub, z31]))
       clear z31
       go_wp2_with (with_reducible refine at_store2 ?_; refine HZ.out.store (truthN true pos) none 0 rfl rfl ?_)
       refine bodyPost_ret (ret_node rfl _ _ rfl (HZ.out.node (truthN true pos) none 0)) rfl ?_
       rw [FIN.out]
       exact ⟨setRow_below HB.out (by omega) _, _, _, rfl, (KidsP.setRow (g := w.heap.size + 1) _ (fun q hq => by omega) (kids_truth _ (fun q => S q ∧ q < w.heap.size ∨ w.heap.size + 2 < q) _ _ _)).mono (fun q hq _ => hq.imp id fun h => by omega)⟩
      ·have gz' : (z.kind == 31) = false := by simpa using z31
       have FIN := hid (HFD.out.trans (show doneN (⟨34, s, num, pos, z :: r⟩ : Nd) = (⟨34, s, num, pos, z :: r⟩ : Nd) by simp [doneN, Nd.sub, z30, z31]))
       go_wp2_with (with_reducible refine at_store2 ?_; refine HZ.out.store (⟨34, s, num, pos, z :: r⟩ : Nd) (some ⟨bz, oz, none⟩) c' rfl rfl ?_)
       refine bodyPost_ret (ret_node rfl _ _ rfl (HZ.out.node (⟨34, s, num, pos, z :: r⟩ : Nd) (some ⟨bz, oz, none⟩) c')) rfl ?_
       rw [FIN.out]
       exact ⟨setRow_below HB.out (by omega) _, _, _, rfl, (KidsP.setRow (g := w.heap.size + 1) _ (fun q hq => by omega) HKM.out).mono (fun q hq _ => hq.imp id fun h => by omega)⟩
    ·have g34 : (k == 34) = false := by simpa using k34
     by_cases k36 : k = 36
     ·subst k36
      obtain ⟨x, y, r, hxy⟩ := okN_two HOM.out rfl
      simp only at hxy
      subst hxy
      obtain ⟨d, rfl⟩ : ∃ e, d = e + 1 := by
       cases d with
       | zero =>
        have := okN_kids HOM.out x (.head _)
        cases this
       | succ d => exact ⟨d, rfl⟩
      obtain ⟨b, o, Ax, cx, hAx, _, hx, hkx⟩ := HKM.out.one (x := x) (r := y :: r) rfl
      subst hAx
      obtain ⟨Ay, cy, hy, hky⟩ := HKM.out.nth rfl (i := 1) (x := y) rfl (p := o + 5) (by omega)
      have HOX := hid (okN_kids HOM.out x (.head _))
      have HOY := hid (okN_kids HOM.out y (.tail _ (.head _)))
      have HLV := hid (two_of (okN_head HOM.out) rfl).2
      have HPX := hid hkx.up
      have HPY := hid hky.up
      have HKX := hid hkx.kids
      have HKY := hid hky.kids
      have hltb := hx.lt
      have hltb1 : b < wr.heap.size + 1 := by omega
      have hlo : w.heap.size + 1 + 1 < wr.heap.size := by omega
      have hlo1 : w.heap.size + 1 + 1 < wr.heap.size + 1 := by omega
      have hln : w.heap.size < wr.heap.size := by omega
      have hln1 : w.heap.size < wr.heap.size + 1 := by omega
      have hi0 : (0 : Int) < (r.length : Int) + 1 + 1 := by omega
      have hi1 : (1 : Int) < (r.length : Int) + 1 + 1 := by omega
      obtain ⟨f0, f1, f2, f3, f4⟩ := id hx
      obtain ⟨g0, g1, g2, g3, g4⟩ := id hy
      clear hx hy hkx hky
      have HFO := hid (HFD.out.trans (show doneN (⟨36, s, num, pos, x :: y :: r⟩ : Nd) = operN (⟨36, s, num, pos, x :: y :: r⟩ : Nd) by simp [doneN]))
      have HBB := hid (bTh (bBw wr (.cells #[.int .i64 x.kind, .string x.name, .int .i64 x.num, .int .i64 x.pos, .slice Ax x.subs.length cx] 24)) (bBw _ (.cells #[.int .i64 y.kind, .string y.name, .int .i64 y.num, .int .i64 y.pos, .slice Ay y.subs.length cy] 24)))
      cases h0 : (s.toList == [38]) with
      | true =>
       have h1 : (s.toList == [79, 82]) = false := by rw [beq_iff_eq] at h0; rw [h0]; rfl
       by_cases kf : x.kind = 30
       ·have gf : (x.kind == 30) = true := by simpa using kf
        have FIN := hid (HFO.out.trans (show operN (⟨36, s, num, pos, x :: y :: r⟩ : Nd) = y by simp [operN, Nd.sub, h0, kf]))
        clear kf
        go_wp2_with (with_reducible refine at_store2 ?_; refine (HZ.out.below HBB.out).store y Ay cy rfl rfl ?_)
        refine bodyPost_ret (ret_node rfl _ _ rfl ((HZ.out.below HBB.out).node y Ay cy)) rfl ?_
        rw [FIN.out]
        exact ⟨setRow_below (bTh HB.out HBB.out) (by omega) _, _, _, rfl, (KidsP.setRow (g := w.heap.size + 1) _ (fun q hq => by omega) (HPY.out.below HBB.out)).mono (fun q hq _ => hq.imp id fun h => by omega)⟩
       ·have gf : (x.kind == 30) = false := by simpa using kf
        by_cases ks : x.kind = 31
        ·have gs : (x.kind == 31) = true := by simpa using ks
         have FIN := hid (HFO.out.trans (show operN (⟨36, s, num, pos, x :: y :: r⟩ : Nd) = x by simp [operN, Nd.sub, h0, ks]))
         clear ks kf
         go_wp2_with (with_reducible refine at_store2 ?_; refine (HZ.out.below HBB.out).store x Ax cx rfl rfl ?_)
         refine bodyPost_ret (ret_node rfl _ _ rfl ((HZ.out.below HBB.out).node x Ax cx)) rfl ?_
         rw [FIN.out]
         exact ⟨setRow_below (bTh HB.out HBB.out) (by omega) _, _, _, rfl, (KidsP.setRow (g := w.heap.size + 1) _ (fun q hq => by omega) (HPX.out.below HBB.out)).mono (fun q hq _ => hq.imp id fun h => by omega)⟩
        ·have gs : (x.kind == 31) = false := by simpa using ks
         have FIN := hid (HFO.out.trans (show operN (⟨36, s, num, pos, x :: y :: r⟩ : Nd) = (⟨36, s, num, pos, x :: y :: r⟩ : Nd) by simp [operN, Nd.sub, h0, kf, ks]))
         clear ks kf
         go_wp2_with (with_reducible refine at_store2 ?_; refine (HZ.out.below HBB.out).store (⟨36, s, num, pos, x :: y :: r⟩ : Nd) (some ⟨b, o, none⟩) c' rfl rfl ?_)
         refine bodyPost_ret (ret_node rfl _ _ rfl ((HZ.out.below HBB.out).node (⟨36, s, num, pos, x :: y :: r⟩ : Nd) (some ⟨b, o, none⟩) c')) rfl ?_
         rw [FIN.out]
         exact ⟨setRow_below (bTh HB.out HBB.out) (by omega) _, _, _, rfl, (KidsP.setRow (g := w.heap.size + 1) _ (fun q hq => by omega) (HKM.out.below HBB.out)).mono (fun q hq _ => hq.imp id fun h => by omega)⟩
      | false =>
       cases h1 : (s.toList == [79, 82]) with
       | true =>
        by_cases kf : x.kind = 31
        ·have gf : (x.kind == 31) = true := by simpa using kf
         have FIN := hid (HFO.out.trans (show operN (⟨36, s, num, pos, x :: y :: r⟩ : Nd) = y by simp [operN, Nd.sub, h0, h1, kf]))
         clear kf
         go_wp2_with (with_reducible refine at_store2 ?_; refine (HZ.out.below HBB.out).store y Ay cy rfl rfl ?_)
         refine bodyPost_ret (ret_node rfl _ _ rfl ((HZ.out.below HBB.out).node y Ay cy)) rfl ?_
         rw [FIN.out]
         exact ⟨setRow_below (bTh HB.out HBB.out) (by omega) _, _, _, rfl, (KidsP.setRow (g := w.heap.size + 1) _ (fun q hq => by omega) (HPY.out.below HBB.out)).mono (fun q hq _ => hq.imp id fun h => by omega)⟩
        ·have gf : (x.kind == 31) = false := by simpa using kf
         by_cases ks : x.kind = 30
         ·have gs : (x.kind == 30) = true := by simpa using ks
          have FIN := hid (HFO.out.trans (show operN (⟨36, s, num, pos, x :: y :: r⟩ : Nd) = x by simp [operN, Nd.sub, h0, h1, ks]))
          clear ks kf
          go_wp2_with (with_reducible refine at_store2 ?_; refine (HZ.out.below HBB.out).store x Ax cx rfl rfl ?_)
          refine bodyPost_ret (ret_node rfl _ _ rfl ((HZ.out.below HBB.out).node x Ax cx)) rfl ?_
          rw [FIN.out]
          exact ⟨setRow_below (bTh HB.out HBB.out) (by omega) _, _, _, rfl, (KidsP.setRow (g := w.heap.size + 1) _ (fun q hq => by omega) (HPX.out.below HBB.out)).mono (fun q hq _ => hq.imp id fun h => by omega)⟩
         ·have gs : (x.kind == 30) = false := by simpa using ks
          have FIN := hid (HFO.out.trans (show operN (⟨36, s, num, pos, x :: y :: r⟩ : Nd) = (⟨36, s, num, pos, x :: y :: r⟩ : Nd) by simp [operN, Nd.sub, h0, h1, kf, ks]))
          clear ks kf
          go_wp2_with (with_reducible refine at_store2 ?_; refine (HZ.out.below HBB.out).store (⟨36, s, num, pos, x :: y :: r⟩ : Nd) (some ⟨b, o, none⟩) c' rfl rfl ?_)
          refine bodyPost_ret (ret_node rfl _ _ rfl ((HZ.out.below HBB.out).node (⟨36, s, num, pos, x :: y :: r⟩ : Nd) (some ⟨b, o, none⟩) c')) rfl ?_
          rw [FIN.out]
          exact ⟨setRow_below (bTh HB.out HBB.out) (by omega) _, _, _, rfl, (KidsP.setRow (g := w.heap.size + 1) _ (fun q hq => by omega) (HKM.out.below HBB.out)).mono (fun q hq _ => hq.imp id fun h => by omega)⟩
       | false =>
        have hlv := level_ar HLV.out h0 h1
        have HLA := hid hlv
        clear hlv
        obtain ⟨vx, okx, hNX⟩ := numV_gen x
        obtain ⟨vy, oky, hNY⟩ := numV_gen y
        have NX := hid hNX
        have NY := hid hNY
        clear hNX hNY
        have hyb := bAt (wr.alloc (.cells #[.int .i64 x.kind, .string x.name, .int .i64 x.num, .int .i64 x.pos, .slice Ax x.subs.length cx] 24)) y Ay cy 24
        rw [show (wr.alloc (.cells #[.int .i64 x.kind, .string x.name, .int .i64 x.num, .int .i64 x.pos, .slice Ax x.subs.length cx] 24)).heap.size = wr.heap.size + 1 by simp] at hyb
        have HYB := hid hyb
        clear hyb
        go_wp2_with fail
        refine (numberOf_any d x Ax cx _ (HKX.out.below HBB.out) HOX.out).mono ?_
        rintro e w2 ⟨rfl, hb⟩
        rw [NX.out]
        have HBW2 := hid (bTh HBB.out hb)
        have HYB2 := hid (HYB.out.below hb)
        clear hb n0 n1 n2 n3 n4 q0 q1 q2 q3 q4 f0 f1 f2 f3 f4 g0 g1 g2 g3 g4
        obtain ⟨b0, b1, b2, b3, b4⟩ := HYB2.out
        go_wp2_with fail
        refine (numberOf_any d y Ay cy _ (HKY.out.below HBW2.out) HOY.out).mono ?_
        rintro e w3 ⟨rfl, hb⟩
        rw [NY.out]
        have HBW3 := hid (bTh HBW2.out hb)
        have HB3 := hid (bTh HB.out HBW3.out)
        have HZ3 := hid (HZ.out.below HBW3.out)
        have HN3 := hid (HN.out.below HBW3.out)
        have HO3 := hid (HOUTN.out.below HBW3.out)
        clear hb b0 b1 b2 b3 b4
        obtain ⟨n0, n1, n2, n3, n4⟩ := HN3.out
        obtain ⟨q0, q1, q2, q3, q4⟩ := HO3.out
        cases okx with
        | false =>
         have hvx := numV_none NX.out
         have FIN := hid (HFO.out.trans (show operN (⟨36, s, num, pos, x :: y :: r⟩ : Nd) = (⟨36, s, num, pos, x :: y :: r⟩ : Nd) by cases hq : numberN y <;> simp [operN, Nd.sub, hq, h0, h1, hvx]))
         clear hvx
         go_wp2_with (with_reducible refine at_store2 ?_; refine HZ3.out.store (⟨36, s, num, pos, x :: y :: r⟩ : Nd) (some ⟨b, o, none⟩) c' rfl rfl ?_)
         refine bodyPost_ret (ret_node rfl _ _ rfl (HZ3.out.node (⟨36, s, num, pos, x :: y :: r⟩ : Nd) (some ⟨b, o, none⟩) c')) rfl ?_
         rw [FIN.out]
         exact ⟨setRow_below HB3.out (by omega) _, _, _, rfl, (KidsP.setRow (g := w.heap.size + 1) _ (fun q hq => by omega) (HKM.out.below HBW3.out)).mono (fun q hq _ => hq.imp id fun h => by omega)⟩
        | true =>
         have hvx := numV_some NX.out
         cases oky with
         | false =>
          have hvy := numV_none NY.out
          have FIN := hid (HFO.out.trans (show operN (⟨36, s, num, pos, x :: y :: r⟩ : Nd) = (⟨36, s, num, pos, x :: y :: r⟩ : Nd) by cases hq : numberN x <;> simp [operN, Nd.sub, hq, h0, h1, hvy]))
          clear hvx hvy
          go_wp2_with (with_reducible refine at_store2 ?_; refine HZ3.out.store (⟨36, s, num, pos, x :: y :: r⟩ : Nd) (some ⟨b, o, none⟩) c' rfl rfl ?_)
          refine bodyPost_ret (ret_node rfl _ _ rfl (HZ3.out.node (⟨36, s, num, pos, x :: y :: r⟩ : Nd) (some ⟨b, o, none⟩) c')) rfl ?_
          rw [FIN.out]
          exact ⟨setRow_below HB3.out (by omega) _, _, _, rfl, (KidsP.setRow (g := w.heap.size + 1) _ (fun q hq => by omega) (HKM.out.below HBW3.out)).mono (fun q hq _ => hq.imp id fun h => by omega)⟩
         | true =>
          have hvy := numV_some NY.out
          have bx := number_le HOX.out hvx
          have by' := number_le HOY.out hvy
          have HVX := hid hvx
          have HVY := hid hvy
          clear hvx hvy
          go_wp2_with fail
          refine (levelOf_any s _).mono ?_
          rintro e w4 ⟨rfl, hb⟩
          have HBW4 := hid (bTh HBW3.out hb)
          have HB4 := hid (bTh HB.out HBW4.out)
          have HZ4 := hid (HZ.out.below HBW4.out)
          have HN4 := hid (HN.out.below HBW4.out)
          have HO4 := hid (HOUTN.out.below HBW4.out)
          clear hb n0 n1 n2 n3 n4 q0 q1 q2 q3 q4
          obtain ⟨n0, n1, n2, n3, n4⟩ := HN4.out
          obtain ⟨q0, q1, q2, q3, q4⟩ := HO4.out
          cases har : isAr s with
          | false =>
           have hl0 : (levelN s == 0) = true := by rw [HLA.out, har]; rfl
           cases hrl : relN s vx vy with
           | false =>
            have FIN := hid (HFO.out.trans (show operN (⟨36, s, num, pos, x :: y :: r⟩ : Nd) = truthN false pos by simp [operN, Nd.sub, h0, h1, HVX.out, HVY.out, har, hrl]))
            have HRL := hid hrl
            clear hrl har
            go_wp2_with fail
            refine (relates_any s vx vy _).mono ?_
            rintro e w5 ⟨rfl, rfl⟩
            rw [HRL.out]
            go_wp2_with (with_reducible refine at_store2 ?_; refine HZ4.out.store (truthN false pos) none 0 rfl rfl ?_)
            refine bodyPost_ret (ret_node rfl _ _ rfl (HZ4.out.node (truthN false pos) none 0)) rfl ?_
            rw [FIN.out]
            exact ⟨setRow_below HB4.out (by omega) _, _, _, rfl, (KidsP.setRow (g := w.heap.size + 1) _ (fun q hq => by omega) (kids_truth _ (fun q => S q ∧ q < w.heap.size ∨ w.heap.size + 2 < q) _ _ _)).mono (fun q hq _ => hq.imp id fun h => by omega)⟩
           | true =>
            have FIN := hid (HFO.out.trans (show operN (⟨36, s, num, pos, x :: y :: r⟩ : Nd) = truthN true pos by simp [operN, Nd.sub, h0, h1, HVX.out, HVY.out, har, hrl]))
            have HRL := hid hrl
            clear hrl har
            go_wp2_with fail
            refine (relates_any s vx vy _).mono ?_
            rintro e w5 ⟨rfl, rfl⟩
            rw [HRL.out]
            go_wp2_with (with_reducible refine at_store2 ?_; refine HZ4.out.store (truthN true pos) none 0 rfl rfl ?_)
            refine bodyPost_ret (ret_node rfl _ _ rfl (HZ4.out.node (truthN true pos) none 0)) rfl ?_
            rw [FIN.out]
            exact ⟨setRow_below HB4.out (by omega) _, _, _, rfl, (KidsP.setRow (g := w.heap.size + 1) _ (fun q hq => by omega) (kids_truth _ (fun q => S q ∧ q < w.heap.size ∨ w.heap.size + 2 < q) _ _ _)).mono (fun q hq _ => hq.imp id fun h => by omega)⟩
          | true =>
           have hl0 : (levelN s == 0) = false := by rw [HLA.out, har]; rfl
           have HAR := hid har
           clear har
           obtain ⟨v, okw, hWV⟩ := workV_gen s vx vy
           have WV := hid hWV
           clear hWV
           go_wp2_with fail
           refine (worked_any s vx vy _ HAR.out bx by').mono ?_
           rintro e w5 ⟨rfl, rfl⟩
           rw [WV.out]
           cases okw with
           | false =>
            have hwk := workV_none WV.out
            have FIN := hid (HFO.out.trans (show operN (⟨36, s, num, pos, x :: y :: r⟩ : Nd) = (⟨36, s, num, pos, x :: y :: r⟩ : Nd) by simp [operN, Nd.sub, h0, h1, HVX.out, HVY.out, HAR.out, hwk]))
            clear hwk
            go_wp2_with (with_reducible refine at_store2 ?_; refine HZ4.out.store (⟨36, s, num, pos, x :: y :: r⟩ : Nd) (some ⟨b, o, none⟩) c' rfl rfl ?_)
            refine bodyPost_ret (ret_node rfl _ _ rfl (HZ4.out.node (⟨36, s, num, pos, x :: y :: r⟩ : Nd) (some ⟨b, o, none⟩) c')) rfl ?_
            rw [FIN.out]
            exact ⟨setRow_below HB4.out (by omega) _, _, _, rfl, (KidsP.setRow (g := w.heap.size + 1) _ (fun q hq => by omega) (HKM.out.below HBW4.out)).mono (fun q hq _ => hq.imp id fun h => by omega)⟩
           | true =>
            have hwk := workV_some WV.out
            have bv := work_bd bx by' hwk
            by_cases hmin : v = -2147483648
            ·subst hmin
             have FIN := hid (HFO.out.trans (show operN (⟨36, s, num, pos, x :: y :: r⟩ : Nd) = (⟨36, s, num, pos, x :: y :: r⟩ : Nd) by simp [operN, Nd.sub, h0, h1, HVX.out, HVY.out, HAR.out, hwk, toldN]))
             clear hwk
             go_wp2_with (with_reducible refine at_store2 ?_; refine HZ4.out.store (⟨36, s, num, pos, x :: y :: r⟩ : Nd) (some ⟨b, o, none⟩) c' rfl rfl ?_)
             refine bodyPost_ret (ret_node rfl _ _ rfl (HZ4.out.node (⟨36, s, num, pos, x :: y :: r⟩ : Nd) (some ⟨b, o, none⟩) c')) rfl ?_
             rw [FIN.out]
             exact ⟨setRow_below HB4.out (by omega) _, _, _, rfl, (KidsP.setRow (g := w.heap.size + 1) _ (fun q hq => by omega) (HKM.out.below HBW4.out)).mono (fun q hq _ => hq.imp id fun h => by omega)⟩
            ·have gm : (v == -2147483648) = false := by simpa using hmin
             have hv0 : ¬ v < -2147483647 := by omega
             by_cases hneg : v < 0
             ·skip
              have FIN := hid (HFO.out.trans (show operN (⟨36, s, num, pos, x :: y :: r⟩ : Nd) = (⟨35, ⟨#[]⟩, 0, pos, [numN (-v) pos]⟩ : Nd) by simp [operN, Nd.sub, h0, h1, HVX.out, HVY.out, HAR.out, hwk, toldN, hv0, hneg]))
              clear hwk
              have hge4 := HBW4.out.size
              have hz4 := HZ4.out.lt
              go_wp2_with (with_reducible refine at_store2 ?_; refine (HZ4.out.below (bBw _ _)).store (⟨35, ⟨#[]⟩, 0, pos, [numN (-v) pos]⟩ : Nd) (some ⟨w4.heap.size, 0, none⟩) 1 rfl rfl ?_)
              refine bodyPost_ret (ret_node rfl _ _ rfl ((HZ4.out.below (bBw _ _)).node (⟨35, ⟨#[]⟩, 0, pos, [numN (-v) pos]⟩ : Nd) (some ⟨w4.heap.size, 0, none⟩) 1)) rfl ?_
              rw [FIN.out]
              exact ⟨setRow_below (bTh HB4.out (bBw _ _)) (by omega) _, _, _, rfl, (KidsP.setRow (g := w.heap.size + 1) _ (fun q hq => by omega) ((kids_neg w4 (fun q => S q ∧ q < w.heap.size ∨ w.heap.size + 2 < q) (by right; omega) (-v) pos).ups (by omega))).mono (fun q hq _ => hq.imp id fun h => by omega)⟩
             ·skip
              have FIN := hid (HFO.out.trans (show operN (⟨36, s, num, pos, x :: y :: r⟩ : Nd) = numN v pos by simp [operN, Nd.sub, h0, h1, HVX.out, HVY.out, HAR.out, hwk, toldN, hv0, hneg]))
              clear hwk
              go_wp2_with (with_reducible refine at_store2 ?_; refine HZ4.out.store (numN v pos) none 0 rfl rfl ?_)
              refine bodyPost_ret (ret_node rfl _ _ rfl (HZ4.out.node (numN v pos) none 0)) rfl ?_
              rw [FIN.out]
              exact ⟨setRow_below HB4.out (by omega) _, _, _, rfl, (KidsP.setRow (g := w.heap.size + 1) _ (fun q hq => by omega) (kids_num _ (fun q => S q ∧ q < w.heap.size ∨ w.heap.size + 2 < q) _ _ _)).mono (fun q hq _ => hq.imp id fun h => by omega)⟩
     ·have g36 : (k != 36) = true := by simpa using k36
      have FIN := hid (HFD.out.trans (done_leave (n := ⟨k, s, num, pos, l⟩) k34 k36))
      go_wp2_with (with_reducible refine at_store2 ?_; refine HZ.out.store (⟨k, s, num, pos, l⟩ : Nd) A' c' rfl rfl ?_)
      refine bodyPost_ret (ret_node rfl _ _ rfl (HZ.out.node (⟨k, s, num, pos, l⟩ : Nd) A' c')) rfl ?_
      rw [FIN.out]
      exact ⟨setRow_below HB.out (by omega) _, _, _, rfl, (KidsP.setRow (g := w.heap.size + 1) _ (fun q hq => by omega) HKM.out).mono (fun q hq _ => hq.imp id fun h => by omega)⟩
end Go.Proofs.YtneohanphabneaaGreatDoor
