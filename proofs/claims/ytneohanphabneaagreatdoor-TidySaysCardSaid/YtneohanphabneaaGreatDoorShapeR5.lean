/-
The document's answer on shapes, the walk of the whole. Conditions: the tree lies in memory; the variable with the kept words is as it is laid.
-/
import Derived.Test.YtneohanphabneaaGreatDoorShapeR4
import Derived.Lib.QuietBelow
import Derived.BigQuiet
namespace Go.Proofs.YtneohanphabneaaGreatDoor
set_option linter.unusedSimpArgs false
set_option linter.unusedVariables false
open Go.RowKit Go.BigFrame
theorem cRg {w : World} {a : Addr} {v : Value} (h : w.cell? a = some v) (d : Nat) (os : Array Obj) : (Go.Sort.grow (redrawn w d) os).cell? a = some v := cell_regrown h d os
theorem shapedS_succ (d : Nat) (n : Nd) : shapedS (d + 2) n = (headB n 2 true 0 6 && partS d 3 (n.sub 0) && partS d 4 (n.sub 1) && partS d 5 (n.sub 2) && partS d 6 (n.sub 3) && partS d 7 (n.sub 4) && stmtsS (d + 1) (n.sub 5)) := rfl
def partsB (d : Nat) (l : List Nd) (i : Nat) : Bool := (List.range i).all fun t => partS d (3 + (t : Int)) (l.getD t dNd)
theorem partsB_succ (d : Nat) (l : List Nd) (i : Nat) : partsB d l (i + 1) = (partsB d l i && partS d (3 + (i : Int)) (l.getD i dNd)) := by
 simp [partsB, List.range_succ]
theorem partsB_bad {d : Nat} {l : List Nd} {i : Nat} (h : partS d (3 + (i : Int)) (l.getD i dNd) = false) (h5 : i < 5) : partsB d l 5 = false := by
 rw [Bool.eq_false_iff]
 intro ha
 have := List.all_eq_true.1 ha i (by simpa using h5)
 rw [h] at this
 cases this
theorem shaped_parts (d : Nat) (n : Nd) : shapedS (d + 2) n = (headB n 2 true 0 6 && partsB d n.subs 5 && stmtsS (d + 1) (n.sub 5)) := by
 rw [shapedS_succ]
 simp only [partsB, Nd.sub]
 simp [List.range_succ, Bool.and_assoc]
set_option maxRecDepth 100000 in
set_option maxHeartbeats 16000000 in
theorem Shaped_any (d : Nat) (n : Nd) (A : Option Addr) (c : Nat) (w : World) (hl : KeptLaid w) (hk : Kids w (d + 2) n A c) :
  Calls Tryz.prog 7 #[.agg #[.int .i64 n.kind, .string n.name, .int .i64 n.num, .int .i64 n.pos, .slice A n.subs.length c]] w fun e w' => e = .returned (.bool (shapedS (d + 2) n)) ∧ Below w.heap.size w w' := by
 obtain ⟨k, s, num, pos, subs⟩ := n
 have hlen := hk.len
 unfold maxLen at hlen
 simp only at hlen
 cases hh : headB ⟨k, s, num, pos, subs⟩ 2 true 0 6 with
 | false =>
  have HAT := hid (bAt w ⟨k, s, num, pos, subs⟩ A c 24)
  have HL := hid (hl.below (bBw w (.cells #[.int .i64 k, .string s, .int .i64 num, .int .i64 pos, .slice A subs.length c] 24)))
  clear hl hk
  have HH := hid hh
  clear hh
  go_enter Tryz.func7, Tryz.ntmps7
  go_wp2_with fail
  generalize hW0 : w.alloc (.cells #[.int .i64 k, .string s, .int .i64 num, .int .i64 pos, .slice A subs.length c] 24) = W0 at *
  have HBOX := hid (show Below w.heap.size w W0 by rw [← hW0]; exact bBw _ _)
  clear hW0
  refine (head_any ⟨k, s, num, pos, subs⟩ A c 2 true 0 6 _ HL.out (by unfold maxLen; simp only [List.length_cons, List.length_nil]; omega)).mono ?_
  rintro e w1 ⟨rfl, hb1⟩
  have HC1 := hid hb1
  clear hb1
  obtain ⟨x0, x1, x2, x3, x4⟩ := nb HAT HC1
  rw [HH.out]
  go_wp2
  go_ret
  exact ⟨rBo (by simp [shaped_parts, Nd.sub, HH.out]), bTh HBOX.out HC1.out⟩
 | true =>
  obtain ⟨x, y, z, v, u, t, rfl⟩ := len6 (headB_len hh (by omega))
  obtain ⟨b, o, Ax, cx, rfl, hx_x, hk_x⟩ := hk.one (x := x) (r := [y, z, v, u, t]) rfl
  obtain ⟨Ay, cy, hx_y, hk_y⟩ := hk.nth rfl (i := 1) (x := y) rfl (p := o + 5) (by omega)
  obtain ⟨Az, cz, hx_z, hk_z⟩ := hk.nth rfl (i := 2) (x := z) rfl (p := o + 10) (by omega)
  obtain ⟨Av, cv, hx_v, hk_v⟩ := hk.nth rfl (i := 3) (x := v) rfl (p := o + 15) (by omega)
  obtain ⟨Au, cu, hx_u, hk_u⟩ := hk.nth rfl (i := 4) (x := u) rfl (p := o + 20) (by omega)
  obtain ⟨At, ct, hx_t, hk_t⟩ := hk.nth rfl (i := 5) (x := t) rfl (p := o + 25) (by omega)
  simp only [List.length_cons, List.length_nil, Nat.zero_add] at hlen
  have HAT := hid (bAt w ⟨k, s, num, pos, [x, y, z, v, u, t]⟩ (some ⟨b, o, none⟩) c 24)
  have HL := hid (hl.below (bBw w (.cells #[.int .i64 k, .string s, .int .i64 num, .int .i64 pos, .slice (some ⟨b, o, none⟩) 6 c] 24)))
  have HX_x := hid (hx_x.below (bBw w (.cells #[.int .i64 k, .string s, .int .i64 num, .int .i64 pos, .slice (some ⟨b, o, none⟩) 6 c] 24)))
  have HK_x := hid (hk_x.below (bBw w (.cells #[.int .i64 k, .string s, .int .i64 num, .int .i64 pos, .slice (some ⟨b, o, none⟩) 6 c] 24)))
  clear hx_x hk_x
  have HX_y := hid (hx_y.below (bBw w (.cells #[.int .i64 k, .string s, .int .i64 num, .int .i64 pos, .slice (some ⟨b, o, none⟩) 6 c] 24)))
  have HK_y := hid (hk_y.below (bBw w (.cells #[.int .i64 k, .string s, .int .i64 num, .int .i64 pos, .slice (some ⟨b, o, none⟩) 6 c] 24)))
  clear hx_y hk_y
  have HX_z := hid (hx_z.below (bBw w (.cells #[.int .i64 k, .string s, .int .i64 num, .int .i64 pos, .slice (some ⟨b, o, none⟩) 6 c] 24)))
  have HK_z := hid (hk_z.below (bBw w (.cells #[.int .i64 k, .string s, .int .i64 num, .int .i64 pos, .slice (some ⟨b, o, none⟩) 6 c] 24)))
  clear hx_z hk_z
  have HX_v := hid (hx_v.below (bBw w (.cells #[.int .i64 k, .string s, .int .i64 num, .int .i64 pos, .slice (some ⟨b, o, none⟩) 6 c] 24)))
  have HK_v := hid (hk_v.below (bBw w (.cells #[.int .i64 k, .string s, .int .i64 num, .int .i64 pos, .slice (some ⟨b, o, none⟩) 6 c] 24)))
  clear hx_v hk_v
  have HX_u := hid (hx_u.below (bBw w (.cells #[.int .i64 k, .string s, .int .i64 num, .int .i64 pos, .slice (some ⟨b, o, none⟩) 6 c] 24)))
  have HK_u := hid (hk_u.below (bBw w (.cells #[.int .i64 k, .string s, .int .i64 num, .int .i64 pos, .slice (some ⟨b, o, none⟩) 6 c] 24)))
  clear hx_u hk_u
  have HX_t := hid (hx_t.below (bBw w (.cells #[.int .i64 k, .string s, .int .i64 num, .int .i64 pos, .slice (some ⟨b, o, none⟩) 6 c] 24)))
  have HK_t := hid (hk_t.below (bBw w (.cells #[.int .i64 k, .string s, .int .i64 num, .int .i64 pos, .slice (some ⟨b, o, none⟩) 6 c] 24)))
  clear hx_t hk_t
  have HKL := hid ((hk.list).below (bBw w (.cells #[.int .i64 k, .string s, .int .i64 num, .int .i64 pos, .slice (some ⟨b, o, none⟩) 6 c] 24)))
  clear hl hk
  have HH := hid hh
  clear hh
  obtain ⟨fx0, fx1, fx2, fx3, fx4⟩ := HX_x.out
  obtain ⟨fy0, fy1, fy2, fy3, fy4⟩ := HX_y.out
  obtain ⟨fz0, fz1, fz2, fz3, fz4⟩ := HX_z.out
  obtain ⟨fv0, fv1, fv2, fv3, fv4⟩ := HX_v.out
  obtain ⟨fu0, fu1, fu2, fu3, fu4⟩ := HX_u.out
  obtain ⟨ft0, ft1, ft2, ft3, ft4⟩ := HX_t.out
  go_enter Tryz.func7, Tryz.ntmps7
  go_wp2_with fail
  generalize hW0 : w.alloc (.cells #[.int .i64 k, .string s, .int .i64 num, .int .i64 pos, .slice (some ⟨b, o, none⟩) 6 c] 24) = W0 at *
  have HBOX := hid (show Below w.heap.size w W0 by rw [← hW0]; exact bBw _ _)
  clear hW0
  refine (head_any ⟨k, s, num, pos, [x, y, z, v, u, t]⟩ (some ⟨b, o, none⟩) c 2 true 0 6 _ HL.out (by unfold maxLen; simp only [List.length_cons, List.length_nil]; omega)).mono ?_
  rintro e w1 ⟨rfl, hb1⟩
  have HC1 := hid hb1
  clear hb1
  clear fx0 fx1 fx2 fx3 fx4 fy0 fy1 fy2 fy3 fy4 fz0 fz1 fz2 fz3 fz4 fv0 fv1 fv2 fv3 fv4 fu0 fu1 fu2 fu3 fu4 ft0 ft1 ft2 ft3 ft4
  obtain ⟨x0, x1, x2, x3, x4⟩ := nb HAT HC1
  obtain ⟨fx0, fx1, fx2, fx3, fx4⟩ := nb HX_x HC1
  obtain ⟨fy0, fy1, fy2, fy3, fy4⟩ := nb HX_y HC1
  obtain ⟨fz0, fz1, fz2, fz3, fz4⟩ := nb HX_z HC1
  obtain ⟨fv0, fv1, fv2, fv3, fv4⟩ := nb HX_v HC1
  obtain ⟨fu0, fu1, fu2, fu3, fu4⟩ := nb HX_u HC1
  obtain ⟨ft0, ft1, ft2, ft3, ft4⟩ := nb HX_t HC1
  rw [HH.out]
  go_wp2
  obtain ⟨l6, hl6⟩ : ∃ l6 : List Nd, l6 = [x, y, z, v, u, t] := ⟨_, rfl⟩
  have HL6 := hid hl6
  have HKL6 := hid (show KidsL W0 (d + 1) l6 (some ⟨b, o, none⟩) c by rw [hl6]; exact HKL.out)
  clear hl6 HKL
  generalize hW2 : w1.alloc (.cells #[.int .i64 3, .int .i64 4, .int .i64 5, .int .i64 6, .int .i64 7] 3) = W2 at *
  have KND := hid (show ∀ i : Nat, i < 5 → W2.cell? ⟨w1.heap.size, i, none⟩ = some (.int .i64 (3 + (i : Int))) by
   rw [← hW2]
   intro i hi
   match i, hi with
   | 0, _ => simp
   | 1, _ => simp
   | 2, _ => simp
   | 3, _ => simp
   | 4, _ => simp)
  have HC2 := hid (show Below W0.heap.size W0 W2 by rw [← hW2]; exact bTh HC1.out (bBw _ _))
  clear hW2
  have h1eq : w1.heap.size = w1.heap.size := rfl
  obtain ⟨KB, hKB⟩ : ∃ KB, KB = w1.heap.size := ⟨_, rfl⟩
  rw [← hKB] at KND ⊢
  clear h1eq hKB
  clear x0 x1 x2 x3 x4 fx0 fx1 fx2 fx3 fx4 fy0 fy1 fy2 fy3 fy4 fz0 fz1 fz2 fz3 fz4 fv0 fv1 fv2 fv3 fv4 fu0 fu1 fu2 fu3 fu4 ft0 ft1 ft2 ft3 ft4
  obtain ⟨x0, x1, x2, x3, x4⟩ := nb HAT HC2
  obtain ⟨fx0, fx1, fx2, fx3, fx4⟩ := nb HX_x HC2
  obtain ⟨fy0, fy1, fy2, fy3, fy4⟩ := nb HX_y HC2
  obtain ⟨fz0, fz1, fz2, fz3, fz4⟩ := nb HX_z HC2
  obtain ⟨fv0, fv1, fv2, fv3, fv4⟩ := nb HX_v HC2
  obtain ⟨fu0, fu1, fu2, fu3, fu4⟩ := nb HX_u HC2
  obtain ⟨ft0, ft1, ft2, ft3, ft4⟩ := nb HX_t HC2
  go_loopw [4] (fun ii wr => ∃ i : Nat, i ≤ 5 ∧ ii = .int .i64 i ∧ partsB d l6 i = true ∧ Below W2.heap.size W2 wr) (fun ii _ => 5 - (intOf ii).toNat)
  case atStart => exact ⟨0, by omega, rfl, rfl, Below.refl _ _⟩
  case round =>
   obtain ⟨i, hi, rfl, hall, hbr⟩ := hrel
   have HALL := hid hall
   have HR := hid hbr
   have HC3 := hid (bTh HC2.out hbr)
   clear hall hbr
   clear x0 x1 x2 x3 x4 fx0 fx1 fx2 fx3 fx4 fy0 fy1 fy2 fy3 fy4 fz0 fz1 fz2 fz3 fz4 fv0 fv1 fv2 fv3 fv4 fu0 fu1 fu2 fu3 fu4 ft0 ft1 ft2 ft3 ft4
   obtain ⟨x0, x1, x2, x3, x4⟩ := nb HAT HC3
   obtain ⟨fx0, fx1, fx2, fx3, fx4⟩ := nb HX_x HC3
   obtain ⟨fy0, fy1, fy2, fy3, fy4⟩ := nb HX_y HC3
   obtain ⟨fz0, fz1, fz2, fz3, fz4⟩ := nb HX_z HC3
   obtain ⟨fv0, fv1, fv2, fv3, fv4⟩ := nb HX_v HC3
   obtain ⟨fu0, fu1, fu2, fu3, fu4⟩ := nb HX_u HC3
   obtain ⟨ft0, ft1, ft2, ft3, ft4⟩ := nb HX_t HC3
   by_cases hlt : i < 5
   ·skip
    obtain ⟨e, he⟩ : ∃ e, l6[i]? = some e := ⟨_, List.getElem?_eq_getElem (by rw [HL6.out]; simp; omega)⟩
    obtain ⟨Ae, ce, hx, hky⟩ := HKL6.out.nth rfl (i := i) (x := e) he rfl
    have HX_e := hid hx
    have HK_e := hid hky
    have HE := hid he
    clear hx hky he
    obtain ⟨kd, hkd⟩ : ∃ kd : Int, kd = 3 + (i : Int) := ⟨_, rfl⟩
    have HKD := hid hkd
    have KC := hid (show W2.cell? ⟨KB, i, none⟩ = some (.int .i64 kd) by rw [hkd]; exact KND.out i hlt)
    clear hkd
    have hle := HK_e.out.len
    unfold maxLen at hle
    clear x0 x1 x2 x3 x4 fx0 fx1 fx2 fx3 fx4 fy0 fy1 fy2 fy3 fy4 fz0 fz1 fz2 fz3 fz4 fv0 fv1 fv2 fv3 fv4 fu0 fu1 fu2 fu3 fu4 ft0 ft1 ft2 ft3 ft4
    obtain ⟨x0, x1, x2, x3, x4⟩ := nb HAT HC3
    obtain ⟨fx0, fx1, fx2, fx3, fx4⟩ := nb HX_x HC3
    obtain ⟨fy0, fy1, fy2, fy3, fy4⟩ := nb HX_y HC3
    obtain ⟨fz0, fz1, fz2, fz3, fz4⟩ := nb HX_z HC3
    obtain ⟨fv0, fv1, fv2, fv3, fv4⟩ := nb HX_v HC3
    obtain ⟨fu0, fu1, fu2, fu3, fu4⟩ := nb HX_u HC3
    obtain ⟨ft0, ft1, ft2, ft3, ft4⟩ := nb HX_t HC3
    obtain ⟨fe0, fe1, fe2, fe3, fe4⟩ := nb HX_e HC3
    go_wp2_with fail
    have HATE0 := hid (bAt wr e Ae ce 24)
    generalize hV : wr.alloc (.cells #[.int .i64 e.kind, .string e.name, .int .i64 e.num, .int .i64 e.pos, .slice Ae e.subs.length ce] 24) = V at *
    have HR4 := hid (show Below W2.heap.size W2 V by rw [← hV]; exact bTh HR.out (bBw _ _))
    have HC4 := hid (bTh HC2.out HR4.out)
    clear hV
    obtain ⟨EB, hEB⟩ : ∃ EB, EB = wr.heap.size := ⟨_, rfl⟩
    rw [← hEB] at HATE0
    try simp only [← hEB]
    clear hEB
    clear x0 x1 x2 x3 x4 fx0 fx1 fx2 fx3 fx4 fy0 fy1 fy2 fy3 fy4 fz0 fz1 fz2 fz3 fz4 fv0 fv1 fv2 fv3 fv4 fu0 fu1 fu2 fu3 fu4 ft0 ft1 ft2 ft3 ft4 fe0 fe1 fe2 fe3 fe4
    obtain ⟨x0, x1, x2, x3, x4⟩ := nb HAT HC4
    obtain ⟨fx0, fx1, fx2, fx3, fx4⟩ := nb HX_x HC4
    obtain ⟨fy0, fy1, fy2, fy3, fy4⟩ := nb HX_y HC4
    obtain ⟨fz0, fz1, fz2, fz3, fz4⟩ := nb HX_z HC4
    obtain ⟨fv0, fv1, fv2, fv3, fv4⟩ := nb HX_v HC4
    obtain ⟨fu0, fu1, fu2, fu3, fu4⟩ := nb HX_u HC4
    obtain ⟨ft0, ft1, ft2, ft3, ft4⟩ := nb HX_t HC4
    obtain ⟨fe0, fe1, fe2, fe3, fe4⟩ := nb HX_e HC4
    refine (head_any e Ae ce 1 false 0 (-1) _ (HL.out.below HC4.out) (kb HK_e HC4).len).mono ?_
    rintro e5 w5 ⟨rfl, hb5⟩
    have H45 := hid hb5
    have HR5 := hid (bTh HR4.out hb5)
    have HC5 := hid (bTh HC4.out hb5)
    clear hb5
    clear x0 x1 x2 x3 x4 fx0 fx1 fx2 fx3 fx4 fy0 fy1 fy2 fy3 fy4 fz0 fz1 fz2 fz3 fz4 fv0 fv1 fv2 fv3 fv4 fu0 fu1 fu2 fu3 fu4 ft0 ft1 ft2 ft3 ft4 fe0 fe1 fe2 fe3 fe4
    obtain ⟨x0, x1, x2, x3, x4⟩ := nb HAT HC5
    obtain ⟨fx0, fx1, fx2, fx3, fx4⟩ := nb HX_x HC5
    obtain ⟨fy0, fy1, fy2, fy3, fy4⟩ := nb HX_y HC5
    obtain ⟨fz0, fz1, fz2, fz3, fz4⟩ := nb HX_z HC5
    obtain ⟨fv0, fv1, fv2, fv3, fv4⟩ := nb HX_v HC5
    obtain ⟨fu0, fu1, fu2, fu3, fu4⟩ := nb HX_u HC5
    obtain ⟨ft0, ft1, ft2, ft3, ft4⟩ := nb HX_t HC5
    obtain ⟨fe0, fe1, fe2, fe3, fe4⟩ := nb HX_e HC5
    obtain ⟨q_0, q_1, q_2, q_3, q_4⟩ := HATE0.out.below H45.out
    cases hH1 : headB e 1 false 0 (-1) with
    | false =>
     have H1 := hid hH1
     clear hH1
     have FIN := hid (show partsB d [x, y, z, v, u, t] 5 = false by rw [← HL6.out]; exact partsB_bad (by rw [← HKD.out, List.getD_eq_getElem?_getD, HE.out]; simp [partS, H1.out]) hlt)
     go_wp2
     go_ret
     exact ⟨rBo (by simp [shaped_parts, Nd.sub, HH.out, FIN.out]), bTh HBOX.out HC5.out⟩
    | true =>
     have H1 := hid hH1
     clear hH1
     go_wp2
     obtain ⟨wo, rfl⟩ : ∃ wo : World, wo = wr := ⟨_, rfl⟩
     go_loopw [6] (fun kk wr => ∃ j : Nat, j ≤ e.subs.length ∧ kk = .int .i64 j ∧ (e.subs.take j).all (fun x => decide (x.kind = kd) && declS d x) = true ∧ Below V.heap.size V wr) (fun kk _ => e.subs.length - (intOf kk).toNat)
     case atStart => exact ⟨0, by simp, rfl, by simp, H45.out⟩
     case round =>
      obtain ⟨j, hj, rfl, hall, hbr⟩ := hrel
      have HALL2 := hid hall
      have H46 := hid hbr
      have HR6 := hid (bTh HR4.out hbr)
      have HC6 := hid (bTh HC4.out hbr)
      clear hall hbr
      clear q_0 q_1 q_2 q_3 q_4
      obtain ⟨q_0, q_1, q_2, q_3, q_4⟩ := HATE0.out.below H46.out
      have kc := keep_cell HR6.out KC.out
      clear x0 x1 x2 x3 x4 fx0 fx1 fx2 fx3 fx4 fy0 fy1 fy2 fy3 fy4 fz0 fz1 fz2 fz3 fz4 fv0 fv1 fv2 fv3 fv4 fu0 fu1 fu2 fu3 fu4 ft0 ft1 ft2 ft3 ft4 fe0 fe1 fe2 fe3 fe4
      obtain ⟨x0, x1, x2, x3, x4⟩ := nb HAT HC6
      obtain ⟨fx0, fx1, fx2, fx3, fx4⟩ := nb HX_x HC6
      obtain ⟨fy0, fy1, fy2, fy3, fy4⟩ := nb HX_y HC6
      obtain ⟨fz0, fz1, fz2, fz3, fz4⟩ := nb HX_z HC6
      obtain ⟨fv0, fv1, fv2, fv3, fv4⟩ := nb HX_v HC6
      obtain ⟨fu0, fu1, fu2, fu3, fu4⟩ := nb HX_u HC6
      obtain ⟨ft0, ft1, ft2, ft3, ft4⟩ := nb HX_t HC6
      obtain ⟨fe0, fe1, fe2, fe3, fe4⟩ := nb HX_e HC6
      by_cases hjt : j < e.subs.length
      ·skip
       obtain ⟨y', hy⟩ : ∃ y', e.subs[j]? = some y' := ⟨_, List.getElem?_eq_getElem hjt⟩
       obtain ⟨b2, o2, Ay', cy', hA, hx, hky⟩ := HK_e.out.list.2.2 j y' hy
       subst hA
       obtain ⟨yk, ys, yn, yp, yl⟩ := y'
       have HX_y' := hid hx
       have HK_y' := hid hky
       have HY := hid hy
       clear hx hky hy
       obtain ⟨g_0, g_1, g_2, g_3, g_4⟩ := HX_y'.out.below HC6.out
       go_wp2
       have c1 := cRg q_4
       have c2 := cRg g_0
       have c3 := cRg g_1
       have c4 := cRg g_2
       have c5 := cRg g_3
       have c6 := cRg g_4
       have c7 := cRg kc
       have c8 := cRg q_0
       by_cases hyk : yk = kd
       ·subst hyk
        have cQ : ∀ dd os, Calls Tryz.prog 19 #[.agg #[.int .i64 yk, .string ys, .int .i64 yn, .int .i64 yp, .slice Ay' yl.length cy']] (Go.Sort.grow (redrawn wr dd) os) fun e w'' => e = .returned (.bool (declS d ⟨yk, ys, yn, yp, yl⟩)) ∧ ∃ p : Regrown, w'' = Go.Sort.grow (redrawn wr p.d) p.os := fun dd os => Calls.regrown_of (declShaped_any d ⟨yk, ys, yn, yp, yl⟩ Ay' cy' _ (HL.out.below (bTh HC6.out (below_regrown _ _ _))) (HK_y'.out.below (bTh HC6.out (below_regrown _ _ _))))
        refine wp_region_quiet_below (by kernel_rfl) (by kernel_rfl) ?_
        repeat (go_big_quiet_step (exact cQ _ _))
        refine wpQuiet_nil ?_
        intro _ hw'
        obtain ⟨⟨dq, osq⟩, hw''⟩ := hw'
        subst hw''
        clear cQ c1 c2 c3 c4 c5 c6 c7 c8
        have HG := hid (below_regrown wr dq osq)
        generalize hG : Go.Sort.grow (redrawn wr dq) osq = G at *
        clear hG
        have HC7 := hid (bTh HC6.out HG.out)
        cases hv : declS d ⟨yk, ys, yn, yp, yl⟩ with
        | false =>
         have FIN2 := hid (show partsB d [x, y, z, v, u, t] 5 = false by rw [← HL6.out]; exact partsB_bad (by rw [← HKD.out, List.getD_eq_getElem?_getD, HE.out]; simp only [partS, Option.getD_some]; rw [bad_at (p := fun x => decide (x.kind = yk) && declS d x) HY.out (by simp [hv])]; simp) hlt)
         go_wp2
         go_ret
         exact ⟨rBo (by simp [shaped_parts, Nd.sub, HH.out, FIN2.out]), bTh HBOX.out HC7.out⟩
        | true =>
         have STEP := hid (step_at (p := fun x => decide (x.kind = yk) && declS d x) HY.out HALL2.out (by simp [hv]))
         go_wp2
         go_roundw
         case rel => exact ⟨j + 1, by omega, by go_num, STEP.out, bTh H46.out HG.out⟩
         case measure => simp [intOf]; omega
       ·have hkb : (yk != kd) = true := by simp [hyk]
        refine wp_region_quiet_below (by kernel_rfl) (by kernel_rfl) ?_
        repeat (go_big_quiet_step (fail))
        refine wpQuiet_nil ?_
        intro _ hw'
        obtain ⟨⟨dq, osq⟩, hw''⟩ := hw'
        subst hw''
        clear c1 c2 c3 c4 c5 c6 c7 c8
        have HG := hid (below_regrown wr dq osq)
        generalize hG : Go.Sort.grow (redrawn wr dq) osq = G at *
        clear hG
        have HC7 := hid (bTh HC6.out HG.out)
        have FIN2 := hid (show partsB d [x, y, z, v, u, t] 5 = false by rw [← HL6.out]; exact partsB_bad (by rw [← HKD.out, List.getD_eq_getElem?_getD, HE.out]; simp only [partS, Option.getD_some]; rw [bad_at (p := fun x => decide (x.kind = kd) && declS d x) HY.out (by simp [hyk])]; simp) hlt)
        go_wp2
        go_ret
        exact ⟨rBo (by simp [shaped_parts, Nd.sub, HH.out, FIN2.out]), bTh HBOX.out HC7.out⟩
      ·skip
       have STEP := hid (show partsB d l6 (i + 1) = true by rw [partsB_succ, HALL.out, ← HKD.out, List.getD_eq_getElem?_getD, HE.out]; simp only [partS, Option.getD_some]; rw [H1.out, all_end (p := fun x => decide (x.kind = kd) && declS d x) hjt HALL2.out]; rfl)
       go_wp2
       go_roundw
       case rel => exact ⟨i + 1, by omega, by go_num, STEP.out, HR6.out⟩
       case measure => simp [intOf]; omega
   ·skip
    obtain rfl : i = 5 := by omega
    have FIN := hid (show partsB d [x, y, z, v, u, t] 5 = true by rw [← HL6.out]; exact HALL.out)
    go_wp2_with fail
    refine ((st_any _).2 t At ct _ (HL.out.below HC3.out) (kb HK_t HC3)).mono ?_
    rintro e w7 ⟨rfl, hb7⟩
    have HC7 := hid (bTh HC3.out hb7)
    clear hb7
    clear x0 x1 x2 x3 x4 fx0 fx1 fx2 fx3 fx4 fy0 fy1 fy2 fy3 fy4 fz0 fz1 fz2 fz3 fz4 fv0 fv1 fv2 fv3 fv4 fu0 fu1 fu2 fu3 fu4 ft0 ft1 ft2 ft3 ft4
    obtain ⟨x0, x1, x2, x3, x4⟩ := nb HAT HC7
    obtain ⟨fx0, fx1, fx2, fx3, fx4⟩ := nb HX_x HC7
    obtain ⟨fy0, fy1, fy2, fy3, fy4⟩ := nb HX_y HC7
    obtain ⟨fz0, fz1, fz2, fz3, fz4⟩ := nb HX_z HC7
    obtain ⟨fv0, fv1, fv2, fv3, fv4⟩ := nb HX_v HC7
    obtain ⟨fu0, fu1, fu2, fu3, fu4⟩ := nb HX_u HC7
    obtain ⟨ft0, ft1, ft2, ft3, ft4⟩ := nb HX_t HC7
    go_wp2
    go_ret
    exact ⟨rBo (by simp [shaped_parts, Nd.sub, HH.out, FIN.out]), bTh HBOX.out HC7.out⟩
end Go.Proofs.YtneohanphabneaaGreatDoor
