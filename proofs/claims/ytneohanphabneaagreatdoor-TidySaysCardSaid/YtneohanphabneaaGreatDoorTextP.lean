/-
The program's text of a tree, the walks: stars, names, variables, levels, lists. Conditions: the tree lies in memory and is shaped; the text's length is below a bound.
-/
import Derived.Test.YtneohanphabneaaGreatDoorTextR3
import Derived.Test.YtneohanphabneaaGreatDoorShelf
import Derived.Lib.SmallJoins
namespace Go.Proofs.YtneohanphabneaaGreatDoor
set_option linter.unusedSimpArgs false
set_option linter.unusedVariables false
open Go.RowKit Go.BigFrame
/-- The table that strconv.Itoa reads is laid. -/
def PowLaid (w : World) : Prop := Lib.TabIs Tryz.prog w "internal/strconv.uint64pow10" .u64 Lib.pow10Tab
theorem gPow : Tryz.prog.globalNamed "internal/strconv.uint64pow10" = some 3 := by kernel_rfl
theorem PowLaid.below {w w' : World} (h : PowLaid w) (hb : Below w.heap.size w w') : PowLaid w' := Joins.tab_stays gPow h hb (Nat.le_refl _)
theorem Itoa_any (n : Int) (w : World) (hl : PowLaid w) (h0 : 0 ≤ n) (h1 : n ≤ 2147483647) :
  Calls Tryz.prog 115 #[.int .i64 n] w fun e w' => e = .returned (.string (decT n)) ∧ Below w.heap.size w w' :=
 (Tryz.strconv_Itoa n (by omega) (by omega) w hl).mono fun e w' h => by
  obtain ⟨he, k, os, rfl⟩ := h
  exact ⟨he, rfl, rfl, rfl, by simp [Go.Sort.grow, World.drewN], fun j hj => by simp [Go.Sort.grow, World.drewN, Array.getElem?_append, hj]⟩
/-- 'star'. -/
def starP (n : Nd) : ByteArray := if n.num = 1 then ⟨#[42]⟩ else ⟨#[]⟩
theorem star_app (n : Nd) : n.name ++ starP n = starT n := by unfold starP starT; split <;> simp only [ba_nil]
theorem star_any (n : Nd) (A : Option Addr) (c : Nat) (w : World) :
  Calls Tryz.prog 67 #[.agg #[.int .i64 n.kind, .string n.name, .int .i64 n.num, .int .i64 n.pos, .slice A n.subs.length c]] w fun e w' => e = .returned (.string (starP n)) ∧ Below w.heap.size w w' := by
 obtain ⟨k, s, num, pos, subs⟩ := n
 have HBX := hid (bBw w (.cells #[.int .i64 k, .string s, .int .i64 num, .int .i64 pos, .slice A subs.length c] 24))
 cases h1 : (num == 1) with
 | true =>
  have H1 := hid (show num = 1 by simpa using h1)
  go_enter Tryz.func67, Tryz.ntmps67
  go_wp2
  go_ret
  exact ⟨ret_str (by simp [starP, H1.out]), HBX.out⟩
 | false =>
  have H1 := hid (show ¬ num = 1 by simpa using h1)
  go_enter Tryz.func67, Tryz.ntmps67
  go_wp2
  go_ret
  exact ⟨ret_str (by simp [starP, H1.out]), HBX.out⟩
set_option maxHeartbeats 1000000 in
theorem typeName_any (d : Nat) (n : Nd) (A : Option Addr) (c : Nat) (w : World) (hk : Kids w d n A c) (hs : nameS n = true) (hsz : (nameT n).size ≤ maxT) :
  Calls Tryz.prog 114 #[.agg #[.int .i64 n.kind, .string n.name, .int .i64 n.num, .int .i64 n.pos, .slice A n.subs.length c]] w fun e w' => e = .returned (.string (nameT n)) ∧ Below w.heap.size w w' := by
 obtain ⟨d, rfl⟩ : ∃ d', d = d' + 1 := by cases d with | zero => exact hk.elim | succ d => exact ⟨d, rfl⟩
 obtain ⟨k, s, num, pos, subs⟩ := n
 unfold maxT at hsz
 simp [nameS] at hs
 rcases subs with _ | ⟨x, _ | ⟨y, r⟩⟩
 ·skip
  clear hs
  simp [nameT] at hsz
  have HAT := hid (bAt w ⟨k, s, num, pos, []⟩ A c 24)
  clear hk
  go_enter Tryz.func114, Tryz.ntmps114
  go_wp2
  go_ret
  exact ⟨ret_str (by simp [nameT]), bBw _ _⟩
 ·skip
  clear hs
  have hlen : 1 ≤ c := hk.list.1
  obtain ⟨b, o, Ax, cx, rfl, hx_x, hk_x⟩ := hk.one (x := x) (r := []) rfl
  have hz : x.name.size + 1 + s.size ≤ 1099511627776 := by simpa [nameT, Nd.sub, ByteArray.size_append, ba_size] using hsz
  clear hsz
  have HAT := hid (bAt w ⟨k, s, num, pos, [x]⟩ (some ⟨b, o, none⟩) c 24)
  have HX_x := hid (hx_x.below (bBw w (.cells #[.int .i64 k, .string s, .int .i64 num, .int .i64 pos, .slice (some ⟨b, o, none⟩) 1 c] 24)))
  have HK_x := hid (hk_x.below (bBw w (.cells #[.int .i64 k, .string s, .int .i64 num, .int .i64 pos, .slice (some ⟨b, o, none⟩) 1 c] 24)))
  clear hx_x hk_x
  clear hk
  obtain ⟨fx0, fx1, fx2, fx3, fx4⟩ := HX_x.out
  go_enter Tryz.func114, Tryz.ntmps114
  go_wp2
  generalize hW0 : w.alloc (.cells #[.int .i64 k, .string s, .int .i64 num, .int .i64 pos, .slice (some ⟨b, o, none⟩) 1 c] 24) = W0 at *
  have HBOX := hid (show Below w.heap.size w W0 by rw [← hW0]; exact bBw _ _)
  clear hW0
  clear fx0 fx1 fx2 fx3 fx4
  obtain ⟨x0, x1, x2, x3, x4⟩ := HAT.out
  obtain ⟨fx0, fx1, fx2, fx3, fx4⟩ := HX_x.out
  have r_0 := cRg x0
  have r_1 := cRg x1
  have r_2 := cRg x2
  have r_3 := cRg x3
  have r_4 := cRg x4
  have r_5 := cRg fx0
  have r_6 := cRg fx1
  have r_7 := cRg fx2
  have r_8 := cRg fx3
  have r_9 := cRg fx4
  refine wp_region_quiet_below (by kernel_rfl) (by kernel_rfl) ?_
  repeat (go_big_quiet_step (fail))
  refine wpQuiet_nil ?_
  intro _ hw'
  obtain ⟨⟨dq, osq⟩, hw''⟩ := hw'
  subst hw''
  clear r_0 r_1 r_2 r_3 r_4 r_5 r_6 r_7 r_8 r_9
  have HG := hid (below_regrown W0 dq osq)
  generalize hG : Go.Sort.grow (redrawn W0 dq) osq = G at *
  clear hG
  go_wp2
  go_ret
  exact ⟨ret_str (by simp [nameT, Nd.sub]), bTh HBOX.out HG.out⟩
 ·skip
  exfalso
  have h := hs.1.2
  simp at h
/-- 'variable'. -/
def varT (n : Nd) : ByteArray := starT n ++ ⟨#[58, 32]⟩ ++ nameT (n.sub 0)
set_option maxRecDepth 100000 in
set_option maxHeartbeats 1000000 in
theorem variable_any (d : Nat) (n : Nd) (A : Option Addr) (c : Nat) (w : World) (hk : Kids w (d + 1) n A c) (h1 : n.subs.length = 1) (hs : nameS (n.sub 0) = true) (hsz : (varT n).size ≤ maxT) :
  Calls Tryz.prog 71 #[.agg #[.int .i64 n.kind, .string n.name, .int .i64 n.num, .int .i64 n.pos, .slice A n.subs.length c]] w fun e w' => e = .returned (.string (varT n)) ∧ Below w.heap.size w w' := by
 obtain ⟨k, s, num, pos, subs⟩ := n
 obtain ⟨x, rfl⟩ : ∃ x, subs = [x] := List.length_eq_one_iff.1 h1
 clear h1
 have hlen : 1 ≤ c := hk.list.1
 obtain ⟨b, o, Ax, cx, rfl, hx_x, hk_x⟩ := hk.one (x := x) (r := []) rfl
 have HD_x := hid (show nameS x = true from hs)
 clear hs
 have hTT : varT ⟨k, s, num, pos, [x]⟩ = s ++ starP ⟨k, s, num, pos, [x]⟩ ++ ⟨#[58, 32]⟩ ++ nameT x := by rw [show s ++ starP ⟨k, s, num, pos, [x]⟩ = starT ⟨k, s, num, pos, [x]⟩ from star_app ⟨k, s, num, pos, [x]⟩]; rfl
 rw [hTT] at hsz ⊢
 clear hTT
 unfold maxT at hsz
 simp only [ByteArray.size_append, ba_size, List.size_toArray, List.length_cons, List.length_nil] at hsz
 obtain ⟨Tx, hT_x⟩ : ∃ T, T = nameT x := ⟨_, rfl⟩
 obtain ⟨Ts, hT_s⟩ : ∃ T, T = starP ⟨k, s, num, pos, [x]⟩ := ⟨_, rfl⟩
 rw [← hT_x, ← hT_s] at hsz ⊢
 have HT_x := hid hT_x
 have HT_s := hid hT_s
 clear hT_x hT_s
 have HAT := hid (bAt w ⟨k, s, num, pos, [x]⟩ (some ⟨b, o, none⟩) c 24)
 have HX_x := hid (hx_x.below (bBw w (.cells #[.int .i64 k, .string s, .int .i64 num, .int .i64 pos, .slice (some ⟨b, o, none⟩) 1 c] 24)))
 have HK_x := hid (hk_x.below (bBw w (.cells #[.int .i64 k, .string s, .int .i64 num, .int .i64 pos, .slice (some ⟨b, o, none⟩) 1 c] 24)))
 clear hx_x hk_x
 clear hk
 obtain ⟨fx0, fx1, fx2, fx3, fx4⟩ := HX_x.out
 go_enter Tryz.func71, Tryz.ntmps71
 go_wp2
 generalize hW0 : w.alloc (.cells #[.int .i64 k, .string s, .int .i64 num, .int .i64 pos, .slice (some ⟨b, o, none⟩) 1 c] 24) = W0 at *
 have HBOX := hid (show Below w.heap.size w W0 by rw [← hW0]; exact bBw _ _)
 clear hW0
 clear fx0 fx1 fx2 fx3 fx4
 obtain ⟨x0, x1, x2, x3, x4⟩ := HAT.out
 obtain ⟨fx0, fx1, fx2, fx3, fx4⟩ := HX_x.out
 have r_0 := cRg x0
 have r_1 := cRg x1
 have r_2 := cRg x2
 have r_3 := cRg x3
 have r_4 := cRg x4
 have r_5 := cRg fx0
 have r_6 := cRg fx1
 have r_7 := cRg fx2
 have r_8 := cRg fx3
 have r_9 := cRg fx4
 have cQ0 : ∀ dd os, Calls Tryz.prog 67 #[.agg #[.int .i64 k, .string s, .int .i64 num, .int .i64 pos, .slice (some ⟨b, o, none⟩) 1 c]] (Go.Sort.grow (redrawn W0 dd) os) fun e w'' => e = .returned (.string Ts) ∧ ∃ p : Regrown, w'' = Go.Sort.grow (redrawn W0 p.d) p.os := fun dd os => by rw [HT_s.out]; exact Calls.regrown_of (star_any ⟨k, s, num, pos, [x]⟩ (some ⟨b, o, none⟩) c _)
 have cQ1 : ∀ dd os, Calls Tryz.prog 114 #[.agg #[.int .i64 x.kind, .string x.name, .int .i64 x.num, .int .i64 x.pos, .slice Ax x.subs.length cx]] (Go.Sort.grow (redrawn W0 dd) os) fun e w'' => e = .returned (.string Tx) ∧ ∃ p : Regrown, w'' = Go.Sort.grow (redrawn W0 p.d) p.os := fun dd os => by rw [HT_x.out]; exact Calls.regrown_of (typeName_any _ x Ax cx _ (HK_x.out.below (below_regrown _ _ _)) HD_x.out (by rw [← HT_x.out]; unfold maxT; omega))
 refine wp_region_quiet_below (by kernel_rfl) (by kernel_rfl) ?_
 repeat (go_big_quiet_step (first | with_reducible exact cQ0 _ _ | with_reducible exact cQ1 _ _))
 refine wpQuiet_nil ?_
 intro _ hw'
 obtain ⟨⟨dq, osq⟩, hw''⟩ := hw'
 subst hw''
 clear cQ0 cQ1 r_0 r_1 r_2 r_3 r_4 r_5 r_6 r_7 r_8 r_9
 have HG := hid (below_regrown W0 dq osq)
 generalize hG : Go.Sort.grow (redrawn W0 dq) osq = G at *
 clear hG
 go_wp2
 go_ret
 exact ⟨rfl, bTh HBOX.out HG.out⟩
end Go.Proofs.YtneohanphabneaaGreatDoor
