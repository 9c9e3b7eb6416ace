/-
The program's writer of a text: a line, the whole text. Conditions: the block holds the writer; the text's length is below a bound.
-/
import Derived.Test.YtneohanphabneaaGreatDoorWr
namespace Go.Proofs.YtneohanphabneaaGreatDoor
set_option linter.unusedSimpArgs false
set_option linter.unusedVariables false
open Go.RowKit Go.BigFrame
/-- So many blanks, twice. -/
def padT : Nat → ByteArray
 | 0 => ⟨#[]⟩
 | d + 1 => padT d ++ ⟨#[32, 32]⟩
theorem padT_size : ∀ d, (padT d).size = 2 * d
 | 0 => rfl
 | d + 1 => by simp only [padT, ByteArray.size_append, padT_size d]; simp [ba_size]; omega
theorem repeatL_snoc (l : List UInt8) : ∀ n, Lib.repeatL l (n + 1) = Lib.repeatL l n ++ l
 | 0 => by simp [Lib.repeatL]
 | n + 1 => by
  show l ++ Lib.repeatL l (n + 1) = (l ++ Lib.repeatL l n) ++ l
  rw [repeatL_snoc l n, List.append_assoc]
theorem padT_repeat : ∀ d, (⟨(Lib.repeatL [32, 32] d).toArray⟩ : ByteArray) = padT d
 | 0 => rfl
 | d + 1 => by
  rw [repeatL_snoc, padT, ← padT_repeat d]
  exact ba_ext (by simp)
theorem Repeat_any (d : Nat) (w : World) (hd : d ≤ 1099511627776) :
  Calls Tryz.prog 112 #[.string ⟨#[32, 32]⟩, .int .i64 d] w fun e w' => e = .returned (.string (padT d)) ∧ Below w.heap.size w w' := by
 have h := Tryz.strings_Repeat ⟨#[32, 32]⟩ d w (by omega) (by simp [ba_size]; omega)
 rw [← padT_repeat]
 exact h
theorem Wrote.drew (B b : Nat) (w : World) : Wrote B b w w.drew := ⟨(Below.refl _ _).drew, (Lib.OthersKept.refl _ _ _).drew⟩
/-- In the region of 'line': the writer, whatever it has taken. -/
def LineS (B b : Nat) (d : Nat) (w w' : World) : Prop := ∃ S, IsWr B b S d w' ∧ Wrote B b w w'
theorem LineS.cell {B b d : Nat} {w w' : World} (h : LineS B b d w w') : w'.cell? ⟨b, 2, none⟩ = some (.int .i64 d) := h.elim fun _ h => h.1.deep_at
set_option maxHeartbeats 2000000 in
set_option maxRecDepth 100000 in
theorem line_any (B b : Nat) (S s : ByteArray) (d : Nat) (w : World) (h : IsWr B b S d w) (hd : d ≤ 100000) (hlen : S.size + s.size ≤ 1099511000000) (hBw : B ≤ w.heap.size) :
  Calls Tryz.prog 62 #[.pointer (some ⟨b, 0, none⟩), .string s] w fun e w' => e = .returned (.tuple #[]) ∧ IsWr B b (S ++ (padT d ++ s ++ ⟨#[10]⟩)) d w' ∧ Wrote B b w w' := by
 have hps := padT_size d
 obtain ⟨PD, hPD⟩ : ∃ PD, PD = padT d := ⟨_, rfl⟩
 rw [← hPD] at hps ⊢
 have hpz : PD.size ≤ 200000 := by omega
 have HPD := hid hPD
 have HW := hid h
 clear hPD hps h
 go_enter Tryz.func62, Tryz.ntmps62
 go_wp2
 refine wp_region_held_drew (S := LineS B b d w) (by kernel_rfl) ⟨S, HW.out, Wrote.drew B b w⟩ (fun hHeld => ?_)
 have hV : IsWr B b S d w.drew ∧ Wrote B b w w.drew := ⟨HW.out, Wrote.drew B b w⟩
 generalize hd0 : w.drew = V0 at *
 clear hd0
 have HV := hid hV
 clear hV
 refine wpAnyH_take (i := 0) (oi := ⟨some 4, _, _, _, _, _⟩) (v := .pointer (some ⟨b, 0, none⟩)) rfl (by kernel_rfl) (by kernel_rfl) (by kernel_rfl) (fun _ _ _ h => h) (Or.inl ⟨by rfl, by intro wx hSx; clear hSx; (try go_simp); (try omega)⟩) hHeld ?_
 simp only [Act.put, List.setIfInBounds_toArray, List.set_cons_zero, List.set_cons_succ]
 refine wpAnyH_take (i := 1) (oi := ⟨some 5, _, _, _, _, _⟩) (v := .pointer (some ⟨b, 0, none⟩)) rfl (by kernel_rfl) (by kernel_rfl) (by kernel_rfl) (fun _ _ _ h => h) (Or.inl ⟨by rfl, by intro wx hSx; clear hSx; (try go_simp); (try omega)⟩) hHeld ?_
 simp only [Act.put, List.setIfInBounds_toArray, List.set_cons_zero, List.set_cons_succ]
 refine wpAnyH_take (i := 2) (oi := ⟨some 6, _, _, _, _, _⟩) (v := .pointer (some ⟨b, 0, none⟩)) rfl (by kernel_rfl) (by kernel_rfl) (by kernel_rfl) (fun _ _ _ h => h) (Or.inl ⟨by rfl, by intro wx hSx; clear hSx; (try go_simp); (try omega)⟩) hHeld ?_
 simp only [Act.put, List.setIfInBounds_toArray, List.set_cons_zero, List.set_cons_succ]
 refine wpAnyH_take (i := 3) (oi := ⟨some 7, _, _, _, _, _⟩) (v := .pointer (some ⟨b, 0, none⟩)) rfl (by kernel_rfl) (by kernel_rfl) (by kernel_rfl) (fun _ _ _ h => h) (Or.inl ⟨by rfl, by intro wx hSx; clear hSx; (try go_simp); (try omega)⟩) hHeld ?_
 simp only [Act.put, List.setIfInBounds_toArray, List.set_cons_zero, List.set_cons_succ]
 refine wpAnyH_take (i := 4) (oi := ⟨some 8, _, _, _, _, _⟩) (v := .pointer (some ⟨b, 0, none⟩)) rfl (by kernel_rfl) (by kernel_rfl) (by kernel_rfl) (fun _ _ _ h => h) (Or.inl ⟨by rfl, by intro wx hSx; clear hSx; (try go_simp); (try omega)⟩) hHeld ?_
 simp only [Act.put, List.setIfInBounds_toArray, List.set_cons_zero, List.set_cons_succ]
 refine wpAnyH_take (i := 5) (oi := ⟨some 9, _, _, _, _, _⟩) (v := .pointer (some ⟨b, 2, none⟩)) rfl (by kernel_rfl) (by kernel_rfl) (by kernel_rfl) (fun _ _ _ h => h) (Or.inl ⟨by rfl, by intro wx hSx; clear hSx; (try go_simp); (try omega)⟩) hHeld ?_
 simp only [Act.put, List.setIfInBounds_toArray, List.set_cons_zero, List.set_cons_succ]
 refine wpAnyH_take (i := 6) (oi := ⟨some 10, _, _, _, _, _⟩) (v := .int .i64 d) rfl (by kernel_rfl) (by kernel_rfl) (by kernel_rfl) (fun _ _ _ h => h) (Or.inl ⟨by rfl, by intro wx hSx; have z0 := hSx.cell; clear hSx; (try go_simp); (try omega)⟩) hHeld ?_
 simp only [Act.put, List.setIfInBounds_toArray, List.set_cons_zero, List.set_cons_succ]
 refine wpAnyH_take (i := 8) (oi := ⟨some 12, _, _, _, _, _⟩) (v := .string s) rfl (by kernel_rfl) (by kernel_rfl) (by kernel_rfl) (fun _ _ _ h => h) (Or.inl ⟨by rfl, by intro wx hSx; clear hSx; (try go_simp); (try omega)⟩) hHeld ?_
 simp only [Act.put, List.setIfInBounds_toArray, List.set_cons_zero, List.set_cons_succ]
 refine wpAnyH_ready (rs := [7]) (by kernel_rfl) (by simp) (AllReadyH.cons rfl (fun K hK => ?_) AllReadyH.nil)
 rw [if_pos (by rfl)]
 go_simp
 refine (Repeat_any d _ (by omega)).mono ?_
 rintro e V1 ⟨rfl, hb⟩
 rw [← HPD.out]
 go_simp
 have HH := hid (show IsWr B b S d V1 ∧ Wrote B b w V1 from ⟨HV.out.1.below hb, HV.out.2.then (Nat.le_trans hBw HV.out.2.below.size) hb⟩)
 clear hb hHeld
 refine hK.out _ _ ⟨S, HH.out.1, HH.out.2⟩ (fun hHeld => ?_)
 clear hK K
 try simp only [Act.put, List.setIfInBounds_toArray, List.set_cons_zero, List.set_cons_succ]
 refine wpAnyH_take (i := 9) (oi := ⟨some 13, _, _, _, _, _⟩) (v := .string (PD ++ s)) rfl (by kernel_rfl) (by kernel_rfl) (by kernel_rfl) (fun _ _ _ h => h) (Or.inl ⟨by rfl, by intro wx hSx; clear hSx; (try go_simp); (try omega)⟩) hHeld ?_
 simp only [Act.put, List.setIfInBounds_toArray, List.set_cons_zero, List.set_cons_succ]
 refine wpAnyH_take (i := 10) (oi := ⟨some 14, _, _, _, _, _⟩) (v := .string (PD ++ s ++ ⟨#[10]⟩)) rfl (by kernel_rfl) (by kernel_rfl) (by kernel_rfl) (fun _ _ _ h => h) (Or.inl ⟨by rfl, by intro wx hSx; clear hSx; (try go_simp); (try omega)⟩) hHeld ?_
 simp only [Act.put, List.setIfInBounds_toArray, List.set_cons_zero, List.set_cons_succ]
 refine wpAnyH_ready (rs := [11]) (by kernel_rfl) (by simp) (AllReadyH.cons rfl (fun K hK => ?_) AllReadyH.nil)
 rw [if_pos (by rfl)]
 go_simp
 have hct := wr_string B b S (PD ++ s ++ ⟨#[10]⟩) d V1 HH.out.1 (by simp only [ByteArray.size_append, ba_size, List.size_toArray, List.length_cons, List.length_nil]; omega) (Nat.le_trans hBw HH.out.2.below.size)
 with_reducible refine hct.mono ?_
 clear hct
 rintro e V2 ⟨rfl, hw2, hwr2⟩
 have HW2 := hid hw2
 have HR2 := hid (HH.out.2.trans hwr2)
 clear hw2 hwr2
 go_simp
 refine hK.out _ _ ⟨_, HW2.out, HR2.out⟩ (fun _ => ?_)
 clear hK K
 refine wpAnyH_done (by kernel_rfl) ?_ _
 go_wp2
 go_end0
 exact ⟨rfl, HW2.out, HR2.out⟩
end Go.Proofs.YtneohanphabneaaGreatDoor
