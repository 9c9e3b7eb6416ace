/-
The program's text of a tree, the walks: statements. Conditions: the tree lies in memory and is shaped; the writer's block holds the writer; the text's length is below a bound.
-/
import Derived.Test.YtneohanphabneaaGreatDoorWr
import Derived.Test.YtneohanphabneaaGreatDoorPut
import Derived.Test.YtneohanphabneaaGreatDoorTextR5
namespace Go.Proofs.YtneohanphabneaaGreatDoor
set_option linter.unusedSimpArgs false
set_option linter.unusedVariables false
open Go.RowKit Go.BigFrame
def maxW : Nat := 1099510000000
theorem bKp {W0 V : World} {i b : Nat} {n : Nd} {A : Option Addr} {c : Nat} (h : W0.heap[i]? = some (.cells #[.int .i64 n.kind, .string n.name, .int .i64 n.num, .int .i64 n.pos, .slice A n.subs.length c] 24)) (hk : Lib.OthersKept 5 (some b) W0 V) (hne : i ≠ b) : NdAt V i 0 n A c := by
 have h1 := hk i _ h (fun e => hne (Option.some.inj e)) (fun cs fz e => by cases e)
 exact ⟨by simp [World.cell?, h1], by simp [World.cell?, h1], by simp [World.cell?, h1], by simp [World.cell?, h1], by simp [World.cell?, h1]⟩
/-- In a region of a writing method: what lies below, and what the writer may have written. -/
def RegS (B b : Nat) (w0 W0 w' : World) : Prop := Below B w0 w' ∧ Wrote B b W0 w'
theorem Wrote.drewn {B b : Nat} {w w' : World} (h : Wrote B b w w') : Wrote B b w w'.drew := ⟨h.below.drew, h.kept.drew⟩
def Says_wstmt (d : Nat) : Prop := ∀ (n : Nd) (A : Option Addr) (c : Nat) (w0 w : World) (wb : Nat) (S : ByteArray) (dp : Nat) (en : ByteArray), PowLaid w0 → Kids w0 d n A c → Below w0.heap.size w0 w → IsWr w0.heap.size wb S dp w → stmtS d n = true → S.size + (stmtT d n (padT dp)).size + en.size + 1 ≤ maxW → dp + d ≤ 1000 →
  Calls Tryz.prog 119 #[.pointer (some ⟨wb, 0, none⟩), .agg #[.int .i64 n.kind, .string n.name, .int .i64 n.num, .int .i64 n.pos, .slice A n.subs.length c], .string en] w fun e w' => e = .returned (.tuple #[]) ∧ IsWr w0.heap.size wb (S ++ (stmtT d n (padT dp) ++ en ++ ⟨#[10]⟩)) dp w' ∧ Wrote w0.heap.size wb w w'
def Says_wstmts (d : Nat) : Prop := ∀ (n : Nd) (A : Option Addr) (c : Nat) (w0 w : World) (wb : Nat) (S : ByteArray) (dp : Nat), PowLaid w0 → Kids w0 d n A c → Below w0.heap.size w0 w → IsWr w0.heap.size wb S dp w → stmtsS d n = true → S.size + (stmtsT d n (padT (dp + 1))).size ≤ maxW → dp + d ≤ 1000 →
  Calls Tryz.prog 73 #[.pointer (some ⟨wb, 0, none⟩), .agg #[.int .i64 n.kind, .string n.name, .int .i64 n.num, .int .i64 n.pos, .slice A n.subs.length c]] w fun e w' => e = .returned (.tuple #[]) ∧ IsWr w0.heap.size wb (S ++ stmtsT d n (padT (dp + 1))) dp w' ∧ Wrote w0.heap.size wb w w'
set_option maxRecDepth 100000 in
set_option maxHeartbeats 2000000 in
theorem wstmts_step (d : Nat) (hX : Says_wstmt d) : Says_wstmts (d + 1) := by
 intro n A c w0 w wb S dp hl hk hb0 hr hs hsz hdp
 obtain ⟨k, s, num, pos, subs⟩ := n
 have hlen := hk.len
 unfold maxLen at hlen
 simp only at hlen
 rw [stmtsS_succ] at hs
 simp only [listStep, Bool.and_eq_true] at hs
 have HAL := hid hs.2
 rw [stmtsT_succ] at hsz
 obtain ⟨f, hf⟩ : ∃ f, f = lineT (stmtT d) subs (padT (dp + 1)) := ⟨_, rfl⟩
 simp only at hsz
 rw [← hf] at hsz
 have HFIN := hid (show stmtsT (d + 1) ⟨k, s, num, pos, subs⟩ (padT (dp + 1)) = upB f subs.length by rw [stmtsT_succ, hf])
 have HF := hid hf
 have HSZ := hid hsz
 clear hf hsz hs
 have HL := hid hl
 clear hl
 have HKL := hid (hk.list)
 clear hk
 have HB0 := hid (hb0.alloc hb0.size (.cells #[.int .i64 k, .string s, .int .i64 num, .int .i64 pos, .slice A subs.length c] 24))
 have HR0 := hid (hr.below (bBw w (.cells #[.int .i64 k, .string s, .int .i64 num, .int .i64 pos, .slice A subs.length c] 24)))
 have HT0 := hid (Wrote.refl w0.heap.size wb (w.alloc (.cells #[.int .i64 k, .string s, .int .i64 num, .int .i64 pos, .slice A subs.length c] 24)))
 have HOUT := hid ((Wrote.refl w0.heap.size wb w).then hb0.size (bBw w (.cells #[.int .i64 k, .string s, .int .i64 num, .int .i64 pos, .slice A subs.length c] 24)))
 have HBK := hid (heap_new w (.cells #[.int .i64 k, .string s, .int .i64 num, .int .i64 pos, .slice A subs.length c] 24))
 have HNE := hid (Nat.ne_of_gt hr.lt)
 have HGE := hid hr.ge
 clear hb0 hr
 have hdeep := HR0.out.deep_at
 have hfz := HR0.out.unfrozen
 go_enter Tryz.func73, Tryz.ntmps73
 go_wp2
 generalize hW0 : w.alloc (.cells #[.int .i64 k, .string s, .int .i64 num, .int .i64 pos, .slice A subs.length c] 24) = W0 at *
 clear hW0
 generalize hV : (W0).setCell ⟨wb, 2, none⟩ (.int .i64 ((dp : Int) + 1)) = V1 at *
 have HB1 := hid (show Below w0.heap.size w0 V1 by rw [← hV]; exact HB0.out.setCell (p := ⟨wb, 2, none⟩) HGE.out _)
 have HT1 := hid (show Wrote w0.heap.size wb W0 V1 by rw [← hV]; exact HT0.out.setCell HGE.out 2 _)
 have HR1 := hid (show IsWr w0.heap.size wb (S) (((dp + 1) : Nat) : Int) V1 by rw [← hV, show (((dp + 1) : Nat) : Int) = (dp : Int) + 1 by omega]; exact HR0.out.deeper _)
 clear hV
 clear hdeep hfz
 obtain ⟨x0, x1, x2, x3, x4⟩ := bKp (n := ⟨k, s, num, pos, subs⟩) (A := A) (c := c) HBK.out HT1.out.kept HNE.out
 go_loopw [17] (fun ii wr => ∃ (j : Nat), j ≤ subs.length ∧ ii = .int .i64 j ∧ Hid (Below w0.heap.size w0 wr) ∧ Hid (Wrote w0.heap.size wb W0 wr) ∧ Hid (IsWr w0.heap.size wb (S ++ upB f j) ((dp + 1 : Nat) : Int) wr)) (fun ii _ => subs.length - (intOf ii).toNat)
 case atStart => exact ⟨0, by omega, rfl, HB1, HT1, hid (by rw [upB, ba_nil]; exact HR1.out)⟩
 case round =>
  obtain ⟨j, hj, rfl, HBr, HTr, HRr⟩ := hrel
  clear x0 x1 x2 x3 x4
  obtain ⟨x0, x1, x2, x3, x4⟩ := bKp (n := ⟨k, s, num, pos, subs⟩) (A := A) (c := c) HBK.out HTr.out.kept HNE.out
  by_cases hlt : j < subs.length
  ·skip
   obtain ⟨y, hy⟩ : ∃ y, subs[j]? = some y := ⟨_, List.getElem?_eq_getElem hlt⟩
   obtain ⟨b, o, Ay, cy, hA, hx, hky⟩ := HKL.out.2.2 j y hy
   subst hA
   have HY := hid (all_at HAL.out hy)
   have hus := upB_size f hlt
   have FJ := hid (show f j = stmtT d y (padT (dp + 1)) ++ (if j + 1 < subs.length then ⟨#[59]⟩ else ⟨#[]⟩) ++ ⟨#[10]⟩ by rw [HF.out]; simp only [lineT, getD_at hy])
   have HX_y := hid hx
   have HK_y := hid hky
   clear hx hky hy
   rw [FJ.out] at hus
   obtain ⟨Ty, hT_y⟩ : ∃ T, T = stmtT d y (padT (dp + 1)) := ⟨_, rfl⟩
   rw [← hT_y] at hus
   have HT_y := hid hT_y
   clear hT_y
   have hz : (S ++ upB f j).size + Ty.size + (if j + 1 < subs.length then 1 else 0) + 1 ≤ maxW := by
    have h := HSZ.out
    unfold maxW at h ⊢
    split <;> rename_i hc <;> simp only [hc, if_true, if_false, ByteArray.size_append, ba_size, List.size_toArray, List.length_cons, List.length_nil] at hus ⊢ <;> omega
   clear hus
   clear x0 x1 x2 x3 x4
   obtain ⟨x0, x1, x2, x3, x4⟩ := bKp (n := ⟨k, s, num, pos, subs⟩) (A := (some ⟨b, o, none⟩)) (c := c) HBK.out HTr.out.kept HNE.out
   obtain ⟨fy0, fy1, fy2, fy3, fy4⟩ := nb HX_y HBr
   by_cases hc : j + 1 < subs.length
   ·skip
    have hcb : ((j : Int) == (subs.length : Int) - 1) = false := by simp only [beq_eq_false_iff_ne, ne_eq]; omega
    simp only [hc, if_true, if_false] at hz
    have HC := hid hc
    clear hc
    have q4 := keep_cell (bBw wr (.cells #[.int .i64 y.kind, .string y.name, .int .i64 y.num, .int .i64 y.pos, .slice Ay y.subs.length cy] 24)) x4
    go_wp2_with fail
    clear q4
    generalize hV : wr.alloc (.cells #[.int .i64 y.kind, .string y.name, .int .i64 y.num, .int .i64 y.pos, .slice Ay y.subs.length cy] 24) = V2 at *
    have HB2 := hid (show Below w0.heap.size w0 V2 by rw [← hV]; exact HBr.out.alloc HBr.out.size _)
    have HT2 := hid (show Wrote w0.heap.size wb W0 V2 by rw [← hV]; exact HTr.out.then HBr.out.size (bBw _ _))
    have HR2 := hid (show IsWr w0.heap.size wb (S ++ upB f j) ((dp + 1 : Nat) : Int) V2 by rw [← hV]; exact HRr.out.below (bBw _ _))
    clear hV
    clear x0 x1 x2 x3 x4 fy0 fy1 fy2 fy3 fy4
    obtain ⟨x0, x1, x2, x3, x4⟩ := bKp (n := ⟨k, s, num, pos, subs⟩) (A := (some ⟨b, o, none⟩)) (c := c) HBK.out HT2.out.kept HNE.out
    obtain ⟨fy0, fy1, fy2, fy3, fy4⟩ := nb HX_y HB2
    have hct := hX y Ay cy w0 V2 wb (S ++ upB f j) (dp + 1) ⟨#[59]⟩ HL.out HK_y.out HB2.out HR2.out HY.out (by rw [← HT_y.out]; simp only [ba_size, List.size_toArray, List.length_cons, List.length_nil]; omega) (by omega)
    with_reducible refine hct.mono ?_
    clear hct
    rintro e V3 ⟨rfl, hw, ht⟩
    have HB3 := hid (HB2.out.trans ht.below)
    have HT3 := hid (HT2.out.trans ht)
    have HR3 := hid hw
    clear hw ht
    clear x0 x1 x2 x3 x4 fy0 fy1 fy2 fy3 fy4
    obtain ⟨x0, x1, x2, x3, x4⟩ := bKp (n := ⟨k, s, num, pos, subs⟩) (A := (some ⟨b, o, none⟩)) (c := c) HBK.out HT3.out.kept HNE.out
    obtain ⟨fy0, fy1, fy2, fy3, fy4⟩ := nb HX_y HB3
    go_wp2
    go_roundw
    case rel => exact ⟨j + 1, by omega, by go_num, HB3, HT3, hid (by
     have h := HR3.out
     rw [upB, FJ.out, if_pos HC.out, ← ba_assoc]
     exact h)⟩
    case measure => simp [intOf]; omega
   ·skip
    have hcb : ((j : Int) == (subs.length : Int) - 1) = true := by simp only [beq_iff_eq]; omega
    simp only [hc, if_true, if_false] at hz
    have HC := hid hc
    clear hc
    have q4 := keep_cell (bBw wr (.cells #[.int .i64 y.kind, .string y.name, .int .i64 y.num, .int .i64 y.pos, .slice Ay y.subs.length cy] 24)) x4
    go_wp2_with fail
    clear q4
    generalize hV : wr.alloc (.cells #[.int .i64 y.kind, .string y.name, .int .i64 y.num, .int .i64 y.pos, .slice Ay y.subs.length cy] 24) = V4 at *
    have HB4 := hid (show Below w0.heap.size w0 V4 by rw [← hV]; exact HBr.out.alloc HBr.out.size _)
    have HT4 := hid (show Wrote w0.heap.size wb W0 V4 by rw [← hV]; exact HTr.out.then HBr.out.size (bBw _ _))
    have HR4 := hid (show IsWr w0.heap.size wb (S ++ upB f j) ((dp + 1 : Nat) : Int) V4 by rw [← hV]; exact HRr.out.below (bBw _ _))
    clear hV
    clear x0 x1 x2 x3 x4 fy0 fy1 fy2 fy3 fy4
    obtain ⟨x0, x1, x2, x3, x4⟩ := bKp (n := ⟨k, s, num, pos, subs⟩) (A := (some ⟨b, o, none⟩)) (c := c) HBK.out HT4.out.kept HNE.out
    obtain ⟨fy0, fy1, fy2, fy3, fy4⟩ := nb HX_y HB4
    have hct := hX y Ay cy w0 V4 wb (S ++ upB f j) (dp + 1) ⟨#[]⟩ HL.out HK_y.out HB4.out HR4.out HY.out (by rw [← HT_y.out]; simp only [ba_size, List.size_toArray, List.length_cons, List.length_nil]; omega) (by omega)
    with_reducible refine hct.mono ?_
    clear hct
    rintro e V5 ⟨rfl, hw, ht⟩
    have HB5 := hid (HB4.out.trans ht.below)
    have HT5 := hid (HT4.out.trans ht)
    have HR5 := hid hw
    clear hw ht
    clear x0 x1 x2 x3 x4 fy0 fy1 fy2 fy3 fy4
    obtain ⟨x0, x1, x2, x3, x4⟩ := bKp (n := ⟨k, s, num, pos, subs⟩) (A := (some ⟨b, o, none⟩)) (c := c) HBK.out HT5.out.kept HNE.out
    obtain ⟨fy0, fy1, fy2, fy3, fy4⟩ := nb HX_y HB5
    go_wp2
    go_roundw
    case rel => exact ⟨j + 1, by omega, by go_num, HB5, HT5, hid (by
     have h := HR5.out
     rw [upB, FJ.out, if_neg HC.out, ← ba_assoc]
     exact h)⟩
    case measure => simp [intOf]; omega
  ·skip
   have HJE := hid (show j = subs.length by omega)
   have hdeep := HRr.out.deep_at
   have hfz := HRr.out.unfrozen
   go_wp2
   go_end0
   refine ⟨rfl, ?_, HOUT.out.trans (HTr.out.setCell HGE.out 2 _)⟩
   rw [HFIN.out, ← HJE.out]
   exact HRr.out.deeper (dp : Int)
end Go.Proofs.YtneohanphabneaaGreatDoor
