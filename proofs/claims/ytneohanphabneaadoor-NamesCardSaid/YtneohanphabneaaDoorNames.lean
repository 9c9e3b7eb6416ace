/-
The law Names holds: the constants have the document's numbers, and api.Tell tells a fault and no error. Conditions: those of the given row alone.
-/
import Derived.Test.YtneohanphabneaaDoorTell
import Derived.Test.YtneohanphabneaaDoorAsDeep
import Derived.Test.YtneohanphabneaaDoorRows
import Derived.Test.YtneohanphabneaaDoorTie
import Derived.Test.YtneohanphabneaaDoorCards
import Derived.SevenTiedAt
import Derived.ChangeSame
import Derived.ChangeVars
import Derived.JoinedOf
import Derived.RowKit
import Derived.LaidLaws
import Derived.LaidHandle
import Derived.LaidMore
import Derived.ProofKit
import Derived.OpenShut
import Derived.Stop.Joined
namespace Go.Proofs.YtneohanphabneaaDoor
open Go.ChangeShapes Go.WideShapes Go.RowKit

theorem as_hitFE_post (b o : Nat) (n : Int) (t : Addr) (old : Value) (w : World) (hg : ErrLaid w) (ht0 : w.cell? t = some old) (hf0 : w.frozen? t = false) (hc : w.cell? ⟨b, o + 2, none⟩ = some (.iface 23 (.int .i64 n))) :
    Calls Tryd.prog 16 #[.iface 26 (.pointer (some ⟨b, o, none⟩)), .iface 40 (.pointer (some t))] w fun ev w' => ev = .returned (.bool true) ∧ Below t.block w w' ∧ w'.cell? t = some (.int .i64 n) ∧ w'.frozen? t = false := by
  have htl : t.block < w.heap.size := by
    rcases Nat.lt_or_ge t.block w.heap.size with h | h
    · exact h
    · simp [World.cell?, Array.getElem?_eq_none h] at ht0
  refine (as_hitFE b o n t old w hg ht0 hf0 hc).mono fun ev w' ⟨he, hw⟩ => ⟨he, ?_, ?_, ?_⟩
  · rw [hw]
    exact (((((Below.refl _ _).alloc (by omega) _).alloc (by simp; omega) _).alloc (by simp; omega) _).alloc (by simp; omega) _).setCell (Nat.le_refl _) _
  · rw [hw]
    exact World.cell?_setCell_same _ _ _ (u := old) (by rw [World.cell?_alloc_lt _ _ t (by simp; omega), World.cell?_alloc_lt _ _ t (by simp; omega), World.cell?_alloc_lt _ _ t (by simp; omega), World.cell?_alloc_lt _ _ t htl]; exact ht0)
  · rw [hw, World.frozen?_setCell, World.frozen?_alloc_old _ _ t (by simp; omega), World.frozen?_alloc_old _ _ t (by simp; omega), World.frozen?_alloc_old _ _ t (by simp; omega), World.frozen?_alloc_old _ _ t (Nat.ne_of_lt htl)]; exact hf0

theorem below_drewN' {B : Nat} {a w : World} (h : Below B a w) (n : Nat) : Below B a (w.drewN n) := ⟨h.os, h.tape, h.output, h.size, h.block⟩

theorem tell_fault (b : Nat) (x y n : Int) (w : World) (hg : ErrLaid w) (h0 : w.cell? ⟨b, 0, none⟩ = some (.int .i64 x)) (h1 : w.cell? ⟨b, 1, none⟩ = some (.int .i64 y)) (h2 : w.cell? ⟨b, 2, none⟩ = some (.iface 23 (.int .i64 n))) :
    Calls Tryd.prog 9 #[.iface 26 (.pointer (some ⟨b, 0, none⟩))] w fun e w' => e = .returned (.tuple #[.int .i64 n, .int .i64 x, .int .i64 y]) ∧ Below w.heap.size w w' := by
  have hb0 : Below w.heap.size w ((w.alloc (.cells #[.int .i64 0] 23)).alloc (.cells #[.pointer none] 26)) := ((Below.refl _ _).alloc (Nat.le_refl _) _).alloc (by simp) _
  have hbl : b < w.heap.size := by
    rcases Nat.lt_or_ge b w.heap.size with h | h
    · exact h
    · simp [World.cell?, Array.getElem?_eq_none h] at h0
  have hgl := hg.lt
  have HG := Lib.hid (hg.below hb0)
  have HB := Lib.hid hb0
  have HW := Lib.hid (And.intro h0 (And.intro h1 h2))
  clear hg hb0 h0 h1 h2
  go_enter Tryd.func9, Tryd.ntmps9
  go_wp2_with (fail)
  refine (as_hitF_post ⟨b, 0, none⟩ _ (.pointer none) _ HG.out (by simp) (by simp)).mono ?_
  rintro e w1 ⟨rfl, hb1, hc1, hf1⟩
  have hd1 : w1.cell? ⟨w.heap.size, 0, none⟩ = some (.int .i64 0) := by
    rw [hb1.cell (p := ⟨w.heap.size, 0, none⟩) (by simp), cell_new1]
    simp
  have hg1 : w1.frozen? ⟨w.heap.size, 0, none⟩ = false := by
    rw [hb1.frozen (p := ⟨w.heap.size, 0, none⟩) (by simp)]
    rw [World.frozen?_alloc_old _ _ ⟨w.heap.size, 0, none⟩ (by simp)]
    simp
  have HG1 := Lib.hid (HG.out.belowB hb1 (by simp; omega))
  have HB1 := Lib.hid (HB.out.trans (hb1.mono (by simp)))
  have k0 : w1.cell? ⟨b, 0, none⟩ = some (.int .i64 x) := (HB1.out.cell (p := ⟨b, 0, none⟩) hbl).trans HW.out.1
  have k1 : w1.cell? ⟨b, 1, none⟩ = some (.int .i64 y) := (HB1.out.cell (p := ⟨b, 1, none⟩) hbl).trans HW.out.2.1
  have k2 : w1.cell? ⟨b, 2, none⟩ = some (.iface 23 (.int .i64 n)) := (HB1.out.cell (p := ⟨b, 2, none⟩) hbl).trans HW.out.2.2
  clear hb1
  go_wp2_with (fail)
  go_quiet (fail)
  go_wp2_with (fail)
  refine (as_hitFE_post b 0 n _ (.int .i64 0) (w1.drewN nq) (by exact HG1.out) (by exact hd1) (by exact hg1) (by exact k2)).mono ?_
  rintro e w2 ⟨rfl, hb2, hc2, hf2⟩
  have HB2 := Lib.hid ((below_drewN' HB1.out nq).trans hb2)
  have hz : w.heap.size < w2.heap.size := by
    rcases Nat.lt_or_ge w.heap.size w2.heap.size with h | h
    · exact h
    · simp [World.cell?, Array.getElem?_eq_none h] at hc2
  clear hb2
  go_wp2
  exact bodyPost_ret (v := .tuple #[.int .i64 n, .int .i64 x, .int .i64 y]) (by simp [results, Tryd.results9, go_sem, hc2]) rfl ⟨rfl, HB2.out.setCell (Nat.le_refl _) _⟩

set_option maxHeartbeats 1000000 in
theorem names_walk (w : World) (hg : ErrLaid w) : Calls Tryd.prog 4 #[] w fun e w' => e = .returned (.bool true) ∧ Below w.heap.size w w' := by
  have hb0 : Below w.heap.size w (w.alloc (.cells #[.int .i64 2, .int .i64 7, .iface 23 (.int .i64 4)] 30)) := (Below.refl _ _).alloc (Nat.le_refl _) _
  have HG := Lib.hid (hg.below hb0)
  have HB := Lib.hid hb0
  clear hg hb0
  go_enter Tryd.func4, Tryd.ntmps4
  go_wp2_with (fail)
  refine (tell_fault w.heap.size 2 7 4 _ HG.out (by simp) (by simp) (by simp)).mono ?_
  rintro e w1 ⟨rfl, hb1⟩
  have HB1 := Lib.hid (HB.out.trans (hb1.mono (by simp)))
  clear hb1
  go_wp2_with (fail)
  refine (tell_nil _).mono ?_
  rintro e w2 ⟨rfl, hb2⟩
  have HB2 := Lib.hid (HB1.out.trans (hb2.mono HB1.out.size))
  clear hb2
  go_wp2
  go_ret
  exact ⟨rfl, HB2.out⟩

theorem own : ownKnob Tryd.prog.godebug = none := by kernel_rfl
theorem gErr : Tryd.prog.globalNamed "errors.errorType" = some 1 := by kernel_rfl
theorem rtErr : (Tryd.prog.cutTypes.find? (·.1 == "internal/reflectlite.rtype")).map (·.2) = some 54 := by kernel_rfl
theorem oneRow : ((List.range 97).filter fun t => Tryd.prog.rowNamed t [101, 114, 114, 111, 114]) = [28] := by kernel_rfl
theorem nTypes : Tryd.prog.types.size = 97 := by kernel_rfl
def laidE : List (String × DataW Unit) := [("errors.errorType", Rows.laid_errors_errorType)]
theorem err_of_handles {W : World} {l : List (String × DataW Unit)} (h : handlesMet Tryd.prog l W) (hm : ("errors.errorType", Rows.laid_errors_errorType) ∈ l) : ErrLaid W := by
  obtain ⟨name, u, ty, e1, e2, e3, e4, e5⟩ := h _ hm
  have en : name = [101, 114, 114, 111, 114] := (Option.some.inj e1).symm
  subst en
  obtain rfl := Option.some.inj (rtErr.symm.trans e2)
  have hm : ty ∈ (List.range 97).filter fun t => Tryd.prog.rowNamed t [101, 114, 114, 111, 114] := List.mem_filter.2 ⟨List.mem_range.2 (by rw [← nTypes]; exact e3), e4⟩
  rw [oneRow] at hm
  obtain rfl := List.mem_singleton.1 hm
  have hh : typeHandle Tryd.prog 28 = hnd 28 := by kernel_rfl
  rw [hh] at e5
  unfold ErrLaid
  simpa using World.var?_cell gErr e5 0
theorem err_of_laid {W : World} (h : laidMetH Tryd.prog laidE W) : ErrLaid W := by
  have h' : laidMet Tryd.prog [] W ∧ handlesMet Tryd.prog laidE W := h
  exact err_of_handles h'.2 (List.mem_singleton.2 rfl)
theorem door_metE (os : Os) (args : Array Value) : laidMetH Tryd.prog laidE ((World.doorLaid Tryd.prog 400 os).forCall (fun _ _ => 0) ⟨#[], args, []⟩).memory :=
  laidMetH_of_parts3 (fuel := 8) (laidMet_nil _ _) (by kernel_rfl) (by kernel_rfl)

set_option maxRecDepth 100000 in
theorem names_lifted (os : Os) (started : os.Started) (H : Type) (enc : TypeId × Value → H) :
    ReturnsInHanded {} Tryd.checked os 4 .any (fun w args => (Rows.namesSpec.pre enc Tryd.prog Tryd.f4 [] false w args ∧ laidMetH Tryd.prog laidE w) ∧ sizedMet enc Tryd.prog Tryd.f4 (OpenSpec.ofChange Rows.namesSpec) false w args)
      (Rows.namesSpec.post enc Tryd.prog Tryd.f4 false true false false) := by
  refine returnsInHanded_of_change_and (C := Tryd.checked) (X := fun w _ => laidMetH Tryd.prog laidE w) (fun _ _ _ hh h => h.of_heap hh) own started (by kernel_rfl) Tryd.func4
    (ChangeSpec.witness_shaped (enc := enc) (C := Tryd.checked) (os := os) (X := fun w _ => laidMetH Tryd.prog laidE w) false (World.doorLaid Tryd.prog 400 os) #[] 8 rfl (World.shaped_of_RefB (by kernel_rfl) (by kernel_rfl)) (by kernel_rfl) (by kernel_rfl) (by kernel_rfl) (door_metE os _)) ?_
  intro W base args ds gs before hval0 hW _ _ hL _
  have hW' := hW
  obtain ⟨p, q, hA0, hV, rfl, hfz, hnd⟩ := hW
  have hA : DataW.TrodAll enc Tryd.prog W 0 (fun _ => true) true Tryd.f4.params.toList args.toList ds p := hA0
  rw [Tryd.params4] at hA
  obtain ⟨hargs, rfl, rfl⟩ := trodAll_none hA
  obtain rfl : args = #[] := by
    obtain ⟨l⟩ := args
    simpa using hargs
  obtain ⟨rfl, rfl⟩ := trodVars_none hV
  have hk := err_of_laid hL
  clear hA0 hval0
  simp only [List.append_nil] at hW'
  refine (names_walk W hk).mono fun e W' ⟨he, hb⟩ => ?_
  subst he
  refine ⟨_, rfl, _, _, _, [], [], [], hW', ?_, ?_, ?_, hb.frame _, fun h => by cases h⟩
  · exact trodAll_mk1 (shut_bool Tryd.underlying4 true)
  · rfl
  · rfl

theorem namesRow_holds : Rows.NamesSaid :=
  OpenClaim.holds_of_wide 4 Tryd.f4 rfl rfl rfl rfl rfl rfl rfl ⟨rfl, rfl, rfl, rfl, rfl⟩ rfl rfl rfl rfl rfl (by kernel_rfl) Tryd.func4 (by kernel_rfl)
    (of_decide_eq_true (by kernel_rfl)) (by unfold Func.isWrapper; first | (rw [if_pos (by decide +kernel)]; kernel_rfl) | (rw [if_neg (by decide +kernel)]; exact ⟨rfl, rfl⟩))
    (fun os started H enc _ => names_lifted os started H enc)

theorem names_holds : Rows.NamesCardSaid :=
  Claim7.holds_tied_plain_at .later [] [.handle] true (true, "03a313f69101eb8dd2a35e007674be22788d5a34fe9e1096351d0e04783bfef1") true
    namesRow_holds (fun _ h => by cases h) (by kernel_rfl) (fun _ h => by cases h) names_row_tie rfl ⟨rfl, rfl⟩ (by kernel_rfl) rfl
    (fun f fn hf hfn => by
      obtain rfl : f = 4 := Option.some.inj ((show Tryd.prog.funcNamed "oberlin/oberlinlaw.Names" = some 4 by kernel_rfl).symm.trans hf) |>.symm
      obtain rfl : fn = Tryd.f4 := (Option.some.inj (Tryd.func4.symm.trans hfn)).symm
      exact ⟨by kernel_rfl, fun j t ht => by
        rw [Tryd.params4] at ht
        simp at ht⟩)
    (by kernel_rfl)
#print axioms names_holds
end Go.Proofs.YtneohanphabneaaDoor
