/-
The law PrintSays holds of every tree: the program's text, or its error, is the document's. Conditions: those of the given row alone.
-/
import Derived.Test.YtneohanphabneaaGreatDoorSays
import Derived.Test.YtneohanphabneaaGreatDoorTie
import Derived.Test.YtneohanphabneaaGreatDoorCards
import Derived.SevenTiedAt
import Derived.JoinedOf
import Derived.LaidLaws
import Derived.LaidHandle
import Derived.LaidMore
import Derived.Stop.LaidErr
import Derived.Carry
namespace Go.Proofs.YtneohanphabneaaGreatDoor
set_option linter.unusedSimpArgs false
set_option linter.unusedVariables false
open Go.ChangeShapes Go.WideShapes Go.RowKit
theorem own : ownKnob Tryz.prog.godebug = none := by kernel_rfl
theorem gErr : Tryz.prog.globalNamed "errors.errorType" = some 0 := by kernel_rfl
theorem rtErr : (Tryz.prog.cutTypes.find? (·.1 == "internal/reflectlite.rtype")).map (·.2) = some 135 := by kernel_rfl
theorem oneRow : ((List.range 198).filter fun t => Tryz.prog.rowNamed t [101, 114, 114, 111, 114]) = [29] := by kernel_rfl
theorem nTypes : Tryz.prog.types.size = 198 := by kernel_rfl
theorem err_of_handles {W : World} {l : List (String × DataW Unit)} (h : handlesMet Tryz.prog l W) (hm : ("errors.errorType", Rows.laid_errors_errorType) ∈ l) : ErrLaid W := by
 obtain ⟨name, u, ty, e1, e2, e3, e4, e5⟩ := h _ hm
 have en : name = [101, 114, 114, 111, 114] := (Option.some.inj e1).symm
 subst en
 obtain rfl := Option.some.inj (rtErr.symm.trans e2)
 have hm : ty ∈ (List.range 198).filter fun t => Tryz.prog.rowNamed t [101, 114, 114, 111, 114] := List.mem_filter.2 ⟨List.mem_range.2 (by rw [← nTypes]; exact e3), e4⟩
 rw [oneRow] at hm
 obtain rfl := List.mem_singleton.1 hm
 have hh : typeHandle Tryz.prog 29 = hnd 29 := by kernel_rfl
 rw [hh] at e5
 unfold ErrLaid
 simpa using World.var?_cell gErr e5 0
def laid5 : List (String × DataW Unit) := [("math/bits.deBruijn32tab", Rows.laid_math_bits_deBruijn32tab), ("math/bits.deBruijn64tab", Rows.laid_math_bits_deBruijn64tab), ("internal/strconv.uint64pow10", Rows.laid_internal_strconv_uint64pow10), ("errors.errorType", Rows.laid_errors_errorType), ("oberlin/oberlinref.kept", Rows.laid_oberlin_oberlinref_kept)]
def laid4 : List (String × DataW Unit) := [("math/bits.deBruijn32tab", Rows.laid_math_bits_deBruijn32tab), ("math/bits.deBruijn64tab", Rows.laid_math_bits_deBruijn64tab), ("internal/strconv.uint64pow10", Rows.laid_internal_strconv_uint64pow10), ("oberlin/oberlinref.kept", Rows.laid_oberlin_oberlinref_kept)]
theorem laid_all {W : World} (h : laidMetH Tryz.prog laid5 W) : KeptLaid W ∧ PowLaid W ∧ ErrLaid W := by
 have e1 : (laid5.filter fun x => x.2.handleName?.isSome) = [("errors.errorType", Rows.laid_errors_errorType)] := by kernel_rfl
 have e2 : (laid5.filter fun x => x.2.handleName?.isNone) = laid4 := by kernel_rfl
 have h' : laidMet Tryz.prog laid4 W ∧ handlesMet Tryz.prog [("errors.errorType", Rows.laid_errors_errorType)] W := by
  unfold laidMetH at h
  rw [e1] at h
  simp only at h
  rw [e2] at h
  exact h
 have h3 := h'.1.tail.tail
 have hp : PowLaid W := Lib.tabIs_of_head (zs := Lib.pow10Tab) (t := 165) (e := 154) (n := 20) gPow (by kernel_rfl) (by kernel_rfl) (by kernel_rfl) (by kernel_rfl) (by kernel_rfl) h3
 obtain ⟨ps, ⟨g0, t0, cs0, f0, p0, q0, hg0, ht0, hv0, hd0, _, _⟩, _, _⟩ := h3.tail
 obtain rfl := Option.some.inj (gKept.symm.trans hg0)
 obtain rfl := Option.some.inj (tKept.symm.trans ht0)
 exact ⟨kept_of_datum hv0 hd0, hp, err_of_handles h'.2 (List.mem_singleton.2 rfl)⟩
set_option maxRecDepth 1000000 in
theorem fil_plain : (laid5.filter fun x => x.2.handleName?.isNone) = laid4 := by kernel_rfl
set_option maxRecDepth 1000000 in
theorem door4 (os : Os) (args : Array Value) : laidMet Tryz.prog laid4 ((World.doorLaid Tryz.prog 400 os).forCall (fun _ _ => 0) ⟨#[], args, []⟩).memory :=
 laidMet_of_run' 8 (by kernel_rfl) (by kernel_rfl)
theorem door_met5 (os : Os) (args : Array Value) : laidMetH Tryz.prog laid5 ((World.doorLaid Tryz.prog 400 os).forCall (fun _ _ => 0) ⟨#[], args, []⟩).memory :=
 laidMetH_of_parts3 (fuel := 8) (by rw [fil_plain]; exact door4 os args) (by kernel_rfl) (by kernel_rfl)
set_option maxRecDepth 100000 in
theorem trodAll_node {H : Type} {enc : TypeId × Value → H} {W : World} {sp : Nat → Bool} {v : Value} {d : DataW H} {p : List MemPlace} (h : DataW.Trod enc Tryz.prog W 0 sp true 24 v d p) (hv : Value.okWide Tryz.prog W .any 0 24 v) :
  ∃ (n : Nd) (A : Option Addr) (c dd : Nat), v = .agg #[.int .i64 n.kind, .string n.name, .int .i64 n.num, .int .i64 n.pos, .slice A n.subs.length c] ∧ Kids W dd n A c := by
 obtain ⟨cs, rfl, hsz⟩ := okWide_struct Tryz.underlying24 hv
 obtain ⟨fuel, hf⟩ := h
 obtain ⟨l⟩ := cs
 obtain ⟨n, A, c, e, hk⟩ := kids_of_trod fuel _ _ hf
 have e' : l = [.int .i64 n.kind, .string n.name, .int .i64 n.num, .int .i64 n.pos, .slice A n.subs.length c] := by simpa [Value.cells] using e
 exact ⟨n, A, c, fuel, by rw [e'], hk⟩
set_option maxRecDepth 100000 in
theorem printSays_lifted (os : Os) (started : os.Started) (H : Type) (enc : TypeId × Value → H) :
  ReturnsInHanded {} Tryz.checked os 3 .any (fun w args => (Rows.printSaysSpec.pre enc Tryz.prog Tryz.f3 [] false w args ∧ laidMetH Tryz.prog laid5 w) ∧ sizedMet enc Tryz.prog Tryz.f3 (OpenSpec.ofChange Rows.printSaysSpec) false w args)
   (Rows.printSaysSpec.post enc Tryz.prog Tryz.f3 false true false false) := by
 refine returnsInHanded_of_change_and (C := Tryz.checked) (X := fun w _ => laidMetH Tryz.prog laid5 w) (fun _ _ _ hh h => h.of_heap hh) own started (by kernel_rfl) Tryz.func3
  (ChangeSpec.witness_shaped (enc := enc) (C := Tryz.checked) (os := os) (X := fun w _ => laidMetH Tryz.prog laid5 w) false (World.doorLaid Tryz.prog 400 os) #[.agg #[.int .i64 0, .string ⟨#[]⟩, .int .i64 0, .int .i64 0, .slice none 0 0]] 8 rfl (World.shaped_of_RefB (by kernel_rfl) (by kernel_rfl)) (by kernel_rfl) (by kernel_rfl) (by kernel_rfl) (door_met5 os _)) ?_
 intro W base args ds gs before hval0 hW _ _ hL _
 have hval : ∀ (j : Nat) t v, Tryz.f3.params[j]? = some t → args[j]? = some v → Value.okWide Tryz.prog W .any base t v := hval0
 have hW' := hW
 obtain ⟨p, q, hA0, hV, rfl, hfz, hnd⟩ := hW
 have hA : DataW.TrodAll enc Tryz.prog W 0 (fun _ => true) true Tryz.f3.params.toList args.toList ds p := hA0
 rw [Tryz.params3] at hA hval
 obtain ⟨v0, d0, rfl, rfl, h0⟩ := trodAll_one hA
 obtain ⟨rfl, rfl⟩ := trodVars_none hV
 have hlt : ∀ x ∈ p, x.block < W.heap.size := fun x hx => hW'.lt x (by simpa using hx)
 obtain ⟨n, A, c, dd, rfl, hk⟩ := trodAll_node h0 (hval 0 24 v0 rfl rfl)
 obtain ⟨hkl, hpl, hel⟩ := laid_all hL
 clear hA0 hval0
 simp only [List.append_nil] at hW'
 refine (printSays_any dd n A c W hkl hpl hel hk).mono fun e W' ⟨he, hb⟩ => ?_
 subst he
 have a1 : laidOutB Tryz.prog = true := by kernel_rfl
 have a2 : Tryz.prog.readableRec 24 = true := by kernel_rfl
 have a3 : (24 : TypeId) < Tryz.prog.types.size := of_decide_eq_true (by kernel_rfl)
 have hback := Below.trod (enc := enc) (P := Tryz.prog) a1 a2 a3 h0 hb hlt
 refine ⟨_, rfl, _, _, _, [], p, [], hW', ?_, ?_, ?_, hb.frame _, fun h => by cases h⟩
 ·exact trodAll_mk1 (shut_bool Tryz.underlying4 true)
 ·exact trodAll_mk1 hback
 ·rfl
theorem printSaysRow_holds : Rows.PrintSaysSaid :=
 OpenClaim.holds_of_wide 3 Tryz.f3 rfl rfl rfl rfl rfl rfl rfl ⟨rfl, rfl, rfl, rfl, rfl⟩ rfl rfl rfl rfl rfl (by kernel_rfl) Tryz.func3 (by kernel_rfl)
  (of_decide_eq_true (by kernel_rfl)) (by unfold Func.isWrapper; first | (rw [if_pos (by decide +kernel)]; kernel_rfl) | (rw [if_neg (by decide +kernel)]; exact ⟨rfl, rfl⟩))
  (fun os started H enc _ => printSays_lifted os started H enc)
theorem printSays_holds : Rows.PrintSaysCardSaid :=
 Claim7.holds_tied_plain_at .later [] [.data, .data, .data, .handle, .widerDeep] true (true, "dca4c5d8bced8b232f87ad5f05c4e70e36e323a48cb11de862039933204a67fa") true
  printSaysRow_holds (fun _ h => by cases h) (by kernel_rfl) (fun _ h => by cases h) printSays_row_tie rfl ⟨rfl, rfl⟩ (by kernel_rfl) rfl
  (fun f fn hf hfn => by
   obtain rfl : f = 3 := Option.some.inj ((show Tryz.prog.funcNamed "oberlin/oberlinlaw.PrintSays" = some 3 by kernel_rfl).symm.trans hf) |>.symm
   obtain rfl : fn = Tryz.f3 := (Option.some.inj (Tryz.func3.symm.trans hfn)).symm
   exact ⟨by kernel_rfl, fun j t ht => by
    rw [Tryz.params3] at ht
    have hm : t ∈ [24] := by simpa using Array.mem_of_getElem? ht
    have hall : ([24].all fun u => !Tryz.prog.wantsStandIn u) = true := by kernel_rfl
    exact (show Tryz.prog.wantsStandIn t = false by simpa using List.all_eq_true.1 hall t hm)⟩)
  (by kernel_rfl)
#print axioms printSays_holds
end Go.Proofs.YtneohanphabneaaGreatDoor
