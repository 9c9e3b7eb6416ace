/-
What an error is found to be; an argument of the type Node is a tree that lies in memory; the variable with the kept words. Conditions: the variables are as they are laid.
-/
import Derived.Test.YtneohanphabneaaGreatDoorTell
import Derived.Test.YtneohanphabneaaGreatDoorNode
import Derived.Lib.SmallJoins
import Derived.Deep.Slices
import Derived.Deep.Fields
import Derived.ChangeSame
import Derived.Test.YtneohanphabneaaGreatDoorRows
import Derived.Test.YtneohanphabneaaGreatDoorWords
import Derived.SliceStrings
import Derived.LaidMore
import Derived.ProofKit
import Derived.OpenShut
import Derived.Stop.Joined
namespace Go.Proofs.YtneohanphabneaaGreatDoor
set_option linter.unusedSimpArgs false
set_option linter.unusedVariables false
open Go.RowKit
theorem Err_any (n : Int) (w : World) : Calls Tryz.prog 11 #[.int .i64 n] w fun e w' => e = .returned (.agg #[.int .i64 n, .int .i64 (-1), .int .i64 (-1)]) ∧ Below w.heap.size w w' := by
 go_enter Tryz.func11, Tryz.ntmps11
 go_wp2
 exact bodyPost_ret (v := .agg #[.int .i64 n, .int .i64 (-1), .int .i64 (-1)]) (by simp [results, Tryz.results11, go_sem]) rfl ⟨rfl, (Below.refl _ _).alloc (Nat.le_refl _) _⟩
theorem Fine_any (w : World) : Calls Tryz.prog 34 #[] w fun e w' => e = .returned (.agg #[.int .i64 0, .int .i64 (-1), .int .i64 (-1)]) ∧ Below w.heap.size w w' := by
 go_enter Tryz.func34, Tryz.ntmps34
 go_wp2
 exact bodyPost_ret (v := .agg #[.int .i64 0, .int .i64 (-1), .int .i64 (-1)]) (by simp [results, Tryz.results34, go_sem]) rfl ⟨rfl, (Below.refl _ _).alloc (Nat.le_refl _) _⟩
theorem Is_nil (w : World) : Calls Tryz.prog 10 #[.nilIface, .agg #[.int .i64 0, .int .i64 (-1), .int .i64 (-1)]] w fun e w' => e = .returned (.bool true) ∧ Below w.heap.size w w' := by
 have HB := hid (bBw w (.cells #[.int .i64 0, .int .i64 (-1), .int .i64 (-1)] 34))
 have y0 := (show (w.alloc (.cells #[.int .i64 0, .int .i64 (-1), .int .i64 (-1)] 34)).cell? ⟨w.heap.size, 0, none⟩ = some (.int .i64 0) by simp)
 have y1 := (show (w.alloc (.cells #[.int .i64 0, .int .i64 (-1), .int .i64 (-1)] 34)).cell? ⟨w.heap.size, 1, none⟩ = some (.int .i64 (-1)) by simp)
 have y2 := (show (w.alloc (.cells #[.int .i64 0, .int .i64 (-1), .int .i64 (-1)] 34)).cell? ⟨w.heap.size, 2, none⟩ = some (.int .i64 (-1)) by simp)
 go_enter Tryz.func10, Tryz.ntmps10
 go_wp2_with fail
 generalize hW : w.alloc (.cells #[.int .i64 0, .int .i64 (-1), .int .i64 (-1)] 34) = W0 at *
 clear hW
 refine (tell_nil W0).mono ?_
 rintro e w1 ⟨rfl, hb1⟩
 have z0 := keep_cell hb1 y0
 have z1 := keep_cell hb1 y1
 have z2 := keep_cell hb1 y2
 have HB1 := hid (bTh HB.out hb1)
 clear hb1 y0 y1 y2
 go_wp2
 go_ret
 exact ⟨rfl, HB1.out⟩
theorem Is_errno (n : Int) (w : World) (hg : ErrLaid w) : Calls Tryz.prog 10 #[.iface 26 (.int .i64 n), .agg #[.int .i64 n, .int .i64 (-1), .int .i64 (-1)]] w fun e w' => e = .returned (.bool true) ∧ Below w.heap.size w w' := by
 have HB := hid (bBw w (.cells #[.int .i64 n, .int .i64 (-1), .int .i64 (-1)] 34))
 have HG := hid (hg.below HB.out)
 have y0 := (show (w.alloc (.cells #[.int .i64 n, .int .i64 (-1), .int .i64 (-1)] 34)).cell? ⟨w.heap.size, 0, none⟩ = some (.int .i64 n) by simp)
 have y1 := (show (w.alloc (.cells #[.int .i64 n, .int .i64 (-1), .int .i64 (-1)] 34)).cell? ⟨w.heap.size, 1, none⟩ = some (.int .i64 (-1)) by simp)
 have y2 := (show (w.alloc (.cells #[.int .i64 n, .int .i64 (-1), .int .i64 (-1)] 34)).cell? ⟨w.heap.size, 2, none⟩ = some (.int .i64 (-1)) by simp)
 clear hg
 go_enter Tryz.func10, Tryz.ntmps10
 go_wp2_with fail
 generalize hW : w.alloc (.cells #[.int .i64 n, .int .i64 (-1), .int .i64 (-1)] 34) = W0 at *
 clear hW
 refine (tell_errno n W0 HG.out).mono ?_
 rintro e w1 ⟨rfl, hb1⟩
 have z0 := keep_cell hb1 y0
 have z1 := keep_cell hb1 y1
 have z2 := keep_cell hb1 y2
 have HB1 := hid (bTh HB.out hb1)
 clear hb1 y0 y1 y2
 go_wp2
 go_ret
 exact ⟨rfl, HB1.out⟩
end Go.Proofs.YtneohanphabneaaGreatDoor
namespace Go.Proofs.YtneohanphabneaaGreatDoor
set_option linter.unusedSimpArgs false
set_option linter.unusedVariables false
open Go.RowKit Go.ChangeShapes Go.WideShapes Go.Deep Go.Joins
theorem Kids.up {w : World} : ∀ {d : Nat} {n : Nd} {A : Option Addr} {c : Nat}, Kids w d n A c → Kids w (d + 1) n A c
 | 0, _, _, _, h => h.elim
 | d + 1, n, A, c, h => by
  refine ⟨h.1, h.2.1, h.2.2.1, fun i x hx => ?_⟩
  obtain ⟨b, o, Ax, cx, hA, hat, hk⟩ := h.2.2.2 i x hx
  exact ⟨b, o, Ax, cx, hA, hat, hk.up⟩
theorem five {α : Type} {l : List α} (h : l.length = 5) : ∃ a b c d e, l = [a, b, c, d, e] := by
 match l, h with
 | [a, b, c, d, e], _ => exact ⟨a, b, c, d, e, rfl⟩
set_option maxRecDepth 100000 in
theorem kids_of_trod {H : Type} {enc : TypeId × Value → H} {w : World} {base : Nat} {sp : Nat → Bool} {hd : Bool} : ∀ (fuel : Nat) (cs : List Value) (x : DataW H × List MemPlace), DataW.trod enc Tryz.prog w base sp hd fuel 24 cs = some x →
  ∃ (n : Nd) (A : Option Addr) (c : Nat), cs = [.int .i64 n.kind, .string n.name, .int .i64 n.num, .int .i64 n.pos, .slice A n.subs.length c] ∧ Kids w fuel n A c := by
 intro fuel
 induction fuel using Nat.strongRecOn with
 | _ fuel ih =>
  intro cs x h
  obtain ⟨xs, n1, hf, hx, hlen, hxl, hfield⟩ := DataW.trod_struct Tryz.underlying24 h
  have hC : Tryz.prog.cellsOf 24 = 5 := by kernel_rfl
  rw [hC] at hlen
  obtain ⟨c0, c1, c2, c3, c4, rfl⟩ := five hlen
  obtain ⟨y0, y1, y2, y3, y4, rfl⟩ := five (l := xs) hxl
  have k3 : Tryz.prog.cellsOf 3 = 1 := by kernel_rfl
  have k9 : Tryz.prog.cellsOf 9 = 1 := by kernel_rfl
  have k22 : Tryz.prog.cellsOf 22 = 1 := by kernel_rfl
  have g0 := hfield 0 _ rfl
  have g1 := hfield 1 _ rfl
  have g2 := hfield 2 _ rfl
  have g3 := hfield 3 _ rfl
  have g4 := hfield 4 _ rfl
  simp only [k3, k9, k22, List.drop_zero, List.drop_succ_cons, List.take_succ_cons, List.take_zero, List.getElem?_cons_zero, List.getElem?_cons_succ] at g0 g1 g2 g3 g4
  obtain ⟨kd, e0, _, _⟩ := DataW.trod_int Tryz.underlying3 g0
  obtain ⟨nm, e1, _, hnm⟩ := DataW.trod_string Tryz.underlying9 g1
  obtain ⟨nu, e2, _, _⟩ := DataW.trod_int Tryz.underlying3 g2
  obtain ⟨ps, e3, _, _⟩ := DataW.trod_int Tryz.underlying3 g3
  injection e0 with e0
  injection e1 with e1
  injection e2 with e2
  injection e3 with e3
  subst e0
  subst e1
  subst e2
  subst e3
  rcases DataW.trod_slice Tryz.underlying22 g4 with ⟨e4, _⟩ | ⟨a, len, cap, elems, rest, n2, hf2, e4, _, hba, hlc, hcm, hel, hat, _, _⟩
  ·injection e4 with e4
   subst e4
   subst hf
   exact ⟨⟨kd, nm, nu, ps, []⟩, none, 0, rfl, hnm, Nat.le_refl _, by unfold maxLen; omega, fun i x hx => by simp at hx⟩
  ·injection e4 with e4
   subst e4
   rw [hC] at hat
   have hsp : 0 < len → a.spot = none := fun h0 => by
    have h1 := hat 0 h0
    rw [List.getElem?_eq_getElem (show 0 < elems.length by omega)] at h1
    obtain ⟨cs', hc, ht⟩ := Option.bind_eq_some_iff.1 h1
    obtain ⟨x, A, c, rfl, hk⟩ := ih n2 (by omega) cs' _ ht
    obtain ⟨_, _, hcell⟩ := World.cells?_some hc
    have q0 := hcell 0 (by omega)
    have h9 := World.cell?_spot (v := .int .i64 x.kind) (by simpa using q0)
    simpa [Addr.add] using h9
   have key : ∀ i, i < len → ∃ (x : Nd) (A : Option Addr) (c : Nat), NdAt w a.block (a.off + i * 5) x A c ∧ Kids w n2 x A c := by
    intro i hi
    have h1 := hat i hi
    rw [List.getElem?_eq_getElem (show i < elems.length by omega)] at h1
    obtain ⟨cs', hc, ht⟩ := Option.bind_eq_some_iff.1 h1
    obtain ⟨x, A, c, rfl, hk⟩ := ih n2 (by omega) cs' _ ht
    obtain ⟨_, _, hcell⟩ := World.cells?_some hc
    have hs := hsp (by omega)
    obtain ⟨ab, ao, asp⟩ := a
    simp only at hs
    subst hs
    have r : ∀ j, j < 5 → w.cell? ⟨ab, ao + i * 5 + j, none⟩ = [Value.int .i64 x.kind, .string x.name, .int .i64 x.num, .int .i64 x.pos, .slice A x.subs.length c][j]? := fun j hj => by
     have h9 := hcell j hj
     rwa [add_plain, add_plain] at h9
    exact ⟨x, A, c, ⟨r 0 (by omega), r 1 (by omega), r 2 (by omega), r 3 (by omega), r 4 (by omega)⟩, hk⟩
   have all : ∀ m, m ≤ len → ∃ l : List Nd, l.length = m ∧ ∀ i x, l[i]? = some x → ∃ A c, NdAt w a.block (a.off + i * 5) x A c ∧ Kids w n2 x A c := by
    intro m
    induction m with
    | zero => intro _; exact ⟨[], rfl, fun i x hx => by simp at hx⟩
    | succ m ihm =>
     intro hm
     obtain ⟨l, hl, hall⟩ := ihm (by omega)
     obtain ⟨x, A, c, hx1, hx2⟩ := key m (by omega)
     refine ⟨l ++ [x], by simp [hl], fun i y hy => ?_⟩
     rcases Nat.lt_or_ge i l.length with h1 | h1
     ·rw [List.getElem?_append_left h1] at hy
      exact hall i y hy
     ·have hi : i = m := by
       have := (List.getElem?_eq_some_iff.1 hy).1
       simp [hl] at this
       omega
      subst hi
      rw [List.getElem?_append_right h1, hl] at hy
      simp at hy
      subst hy
      exact ⟨A, c, hx1, hx2⟩
   obtain ⟨l, hl, hall⟩ := all len (Nat.le_refl _)
   subst hf
   subst hf2
   refine ⟨⟨kd, nm, nu, ps, l⟩, some a, cap, by rw [← hl], hnm, by simp only; omega, hcm, fun i x hx => ?_⟩
   obtain ⟨A, c, h1, h2⟩ := hall i x hx
   have hs := hsp (by have := (List.getElem?_eq_some_iff.1 hx).1; simp only at this; omega)
   refine ⟨a.block, a.off, A, c, ?_, h1, h2.up⟩
   obtain ⟨ab, ao, asp⟩ := a
   simp only at hs
   subst hs
   rfl
end Go.Proofs.YtneohanphabneaaGreatDoor
namespace Go.Proofs.YtneohanphabneaaGreatDoor
set_option linter.unusedSimpArgs false
set_option linter.unusedVariables false
open Go.ChangeShapes Go.WideShapes Go.RowKit
theorem gKept : Tryz.prog.globalNamed "oberlin/oberlinref.kept" = some 1 := by kernel_rfl
theorem tKept : (Tryz.prog.globals[1]?).map (·.type) = some 46 := by kernel_rfl
theorem cStr : Tryz.prog.cellsOf 9 = 1 := by kernel_rfl
theorem strs_inj {H : Type} : ∀ (ss : List ByteArray) (l : List (List UInt8)), (strs ss : List (DataW H)) = l.map (fun b => .lit (.string b)) → ss = wordsOf l
 | [], [], _ => rfl
 | [], _ :: _, h => by simp [strs] at h
 | _ :: _, [], h => by simp [strs] at h
 | s :: r, b :: l, h => by
  simp only [strs, List.map_cons, List.cons.injEq, DataW.lit.injEq, Lit.string.injEq] at h
  have ih := strs_inj (H := H) r l h.2
  rw [ih, ← h.1]
  cases s
  rfl
theorem kept_of_datum {W : World} {cs : Array Value} {fuel : Nat} {p : List MemPlace} (hv : W.var? Tryz.prog "oberlin/oberlinref.kept" = some cs)
  (hd : DataW.trod (fun _ => ()) Tryz.prog W 0 (fun _ => true) false fuel 46 cs.toList = some (Rows.laid_oberlin_oberlinref_kept, p)) : KeptLaid W := by
 have e0 : (Rows.laid_oberlin_oberlinref_kept : DataW Unit) = .slice (keptWords.map fun b => .lit (.string b)) [] := rfl
 rw [e0] at hd
 rcases open_strings Tryz.underlying46 Tryz.underlying9 cStr hd with ⟨_, hx⟩ | ⟨a, len, cap, ss, hcs, _, hl, hm, hz, hx, hcell, hws⟩
 ·simp at hx
 simp only [Prod.mk.injEq, DataW.slice.injEq] at hx
 obtain ⟨⟨hx1, hx2⟩, _⟩ := hx
 have hlen : len = ss.length := by
  have : (strs (ss.drop len) : List (DataW Unit)).length = 0 := by rw [← hx2]; rfl
  simp [strs] at this
  simp at hz
  omega
 subst hlen
 rw [List.take_of_length_le (Nat.le_refl _)] at hx1
 have hss : ss = keptSS := strs_inj (H := Unit) ss keptWords hx1.symm
 subst hss
 have hc0 : W.cell? ⟨1, 0, none⟩ = some (.slice (some a) keptSS.length cap) := by
  have := World.var?_cell gKept hv 0
  rw [Array.eq_one_of_toList hcs] at this
  simpa using this
 obtain ⟨b, o, spot⟩ := a
 have hspot : spot = none := by simpa [Addr.add] using World.cell?_spot (hcell 0 (by decide))
 subst hspot
 refine ⟨b, o, cap, hc0, fun i hi => ?_⟩
 have := hcell i hi
 rw [add_plain] at this
 rw [this]
 simp [hi]
end Go.Proofs.YtneohanphabneaaGreatDoor
