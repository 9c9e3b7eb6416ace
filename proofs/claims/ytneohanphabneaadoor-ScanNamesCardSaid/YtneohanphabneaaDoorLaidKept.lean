/-
What the listed variable with the kept words gives the walks: its cells. Conditions: it reads as listed.
-/
import Derived.Test.YtneohanphabneaaDoorRows
import Derived.Test.YtneohanphabneaaDoorWords
import Derived.SliceStrings
import Derived.LaidMore
import Derived.ProofKit
import Derived.OpenShut
import Derived.Stop.Joined
namespace Go.Proofs.YtneohanphabneaaDoor
open Go.ChangeShapes Go.WideShapes Go.RowKit

theorem gKept : Tryd.prog.globalNamed "oberlin/oberlinref.kept" = some 0 := by kernel_rfl
theorem tKept : (Tryd.prog.globals[0]?).map (·.type) = some 35 := by kernel_rfl
theorem cStr : Tryd.prog.cellsOf 9 = 1 := by kernel_rfl

theorem strs_inj {H : Type} : ∀ (ss : List ByteArray) (l : List (List UInt8)), (strs ss : List (DataW H)) = l.map (fun b => .lit (.string b)) → ss = wordsOf l
  | [], [], _ => rfl
  | [], _ :: _, h => by simp [strs] at h
  | _ :: _, [], h => by simp [strs] at h
  | s :: r, b :: l, h => by
    simp only [strs, List.map_cons, List.cons.injEq, DataW.lit.injEq, Lit.string.injEq] at h
    have ih := strs_inj (H := H) r l h.2
    rw [ih, ← h.1]
    cases s
    rfl

theorem kept_of_datum {W : World} {cs : Array Value} {fuel : Nat} {p : List MemPlace} (hv : W.var? Tryd.prog "oberlin/oberlinref.kept" = some cs)
    (hd : DataW.trod (fun _ => ()) Tryd.prog W 0 (fun _ => true) false fuel 35 cs.toList = some (Rows.laid_oberlin_oberlinref_kept, p)) : KeptLaid W := by
  have e0 : (Rows.laid_oberlin_oberlinref_kept : DataW Unit) = .slice (keptWords.map fun b => .lit (.string b)) [] := rfl
  rw [e0] at hd
  rcases open_strings Tryd.underlying35 Tryd.underlying9 cStr hd with ⟨_, hx⟩ | ⟨a, len, cap, ss, hcs, _, hl, hm, hz, hx, hcell, hws⟩
  · simp at hx
  simp only [Prod.mk.injEq, DataW.slice.injEq] at hx
  obtain ⟨⟨hx1, hx2⟩, _⟩ := hx
  have hlen : len = ss.length := by
    have : (strs (ss.drop len) : List (DataW Unit)).length = 0 := by rw [← hx2]; rfl
    simp [strs] at this
    simp at hz
    omega
  subst hlen
  rw [List.take_of_length_le (Nat.le_refl _)] at hx1
  have hss : ss = keptSS := strs_inj (H := Unit) ss keptWords hx1.symm
  subst hss
  have hc0 : W.cell? ⟨0, 0, none⟩ = some (.slice (some a) keptSS.length cap) := by
    have := World.var?_cell gKept hv 0
    rw [Array.eq_one_of_toList hcs] at this
    simpa using this
  obtain ⟨b, o, spot⟩ := a
  have hspot : spot = none := by simpa [Addr.add] using World.cell?_spot (hcell 0 (by decide))
  subst hspot
  refine ⟨b, o, cap, hc0, fun i hi => ?_⟩
  have := hcell i hi
  rw [add_plain] at this
  rw [this]
  simp [hi]
end Go.Proofs.YtneohanphabneaaDoor
