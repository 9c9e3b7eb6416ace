/-
An operator of two numbers, or of what is TRUE or FALSE, worked out, the walk. Conditions: the tree lies in memory and is one that folding can go through.
-/
import Derived.Test.YtneohanphabneaaGreatDoorFold
import Derived.BigRegion
import Derived.Deep.RegionHeld3
import Derived.Deep.AppendLies
import Derived.RegionTactic
namespace Go.Proofs.YtneohanphabneaaGreatDoor
set_option linter.unusedSimpArgs false
set_option linter.unusedVariables false
open Go.RowKit Go.BigFrame
theorem okN_two {d : Nat} {n : Nd} (h : okF d n = true) (hk : n.kind = 36) : ∃ x y r, n.subs = x :: y :: r := by
 have h2 := (two_of (okN_head h) hk).1
 match hn : n.subs with
 | [] => rw [hn] at h2; simp at h2
 | [_] => rw [hn] at h2; simp at h2
 | x :: y :: r => exact ⟨x, y, r, rfl⟩
set_option maxRecDepth 100000 in
set_option maxHeartbeats 8000000 in
theorem operator_any (d : Nat) (n : Nd) (A : Option Addr) (c : Nat) (w : World) (S : Nat → Prop) (hk : KidsP w S (d + 2) n A c) (ho : okF (d + 2) n = true) (h36 : n.kind = 36) :
  Calls Tryz.prog 76 #[.agg #[.int .i64 n.kind, .string n.name, .int .i64 n.num, .int .i64 n.pos, .slice A n.subs.length c]] w fun e w' =>
   Below w.heap.size w w' ∧ ∃ A' c', e = .returned (.agg #[.int .i64 (operN n).kind, .string (operN n).name, .int .i64 (operN n).num, .int .i64 (operN n).pos, .slice A' (operN n).subs.length c']) ∧ KidsP w' (fun q => S q ∧ q < w.heap.size ∨ w.heap.size + 1 < q) (d + 2) (operN n) A' c' := by
 obtain ⟨x, y, r, hs⟩ := okN_two ho h36
 obtain ⟨k, s, num, pos, subs⟩ := n
 simp only at hs h36
 subst hs
 subst h36
 have hlen : (x :: y :: r).length ≤ c := hk.2.1
 simp only [List.length_cons] at hlen
 have HKN := hid (hk.lt.mono (T := fun q => S q ∧ q < w.heap.size ∨ w.heap.size + 1 < q) fun q hq _ => .inl hq)
 obtain ⟨b, o, Ax, cx, rfl, _, hx, hkx⟩ := hk.one (x := x) (r := y :: r) rfl
 obtain ⟨Ay, cy, hy, hky⟩ := hk.nth rfl (i := 1) (x := y) rfl (p := o + 5) (by omega)
 have hox := okN_kids ho x (.head _)
 have hoy := okN_kids ho y (.tail _ (.head _))
 have HOX := hid hox
 have HOY := hid hoy
 have HLV := hid (two_of (okN_head ho) rfl).2
 clear hox hoy ho
 have hlt := hx.lt
 have hlt2 : b < w.heap.size + 2 := by omega
 have hlt3 : b < w.heap.size + 3 := by omega
 have hi0 : (0 : Int) < (r.length : Int) + 1 + 1 := by omega
 have hi1 : (1 : Int) < (r.length : Int) + 1 + 1 := by omega
 have HX := hid hx
 have HY := hid hy
 have HPX := hid (hkx.lt.mono (T := fun q => S q ∧ q < w.heap.size ∨ w.heap.size + 1 < q) fun q hq _ => .inl hq).up
 have HPY := hid (hky.lt.mono (T := fun q => S q ∧ q < w.heap.size ∨ w.heap.size + 1 < q) fun q hq _ => .inl hq).up
 have HKX := hid hkx.kids
 have HKY := hid hky.kids
 clear hx hy hkx hky hk
 go_enter Tryz.func76, Tryz.ntmps76
 go_wp2
 generalize hW0 : (w.alloc (.cells #[.int .i64 36, .string s, .int .i64 num, .int .i64 pos, .slice (some ⟨b, o, none⟩) (r.length + 1 + 1) c] 24)).alloc (.cells #[.int .i64 0, .string ⟨#[]⟩, .int .i64 0, .int .i64 0, .slice none 0 0] 24) = W0
 have hb0 : Below w.heap.size w W0 := by rw [← hW0]; exact bTh (bBw _ _) (bBw _ _)
 have hat : NdAt W0 w.heap.size 0 ⟨36, s, num, pos, x :: y :: r⟩ (some ⟨b, o, none⟩) c := by rw [← hW0]; exact (bAt w ⟨36, s, num, pos, x :: y :: r⟩ (some ⟨b, o, none⟩) c _).below (bBw _ _)
 have hz : W0.heap[w.heap.size + 1]? = some (.cells #[.int .i64 0, .string ⟨#[]⟩, .int .i64 0, .int .i64 0, .slice none 0 0] 24) := by rw [← hW0]; exact heap_alloc2_new _ _ _
 have hsz : W0.heap.size = w.heap.size + 2 := by rw [← hW0]; simp
 have HB0 := hid hb0
 have HAT := hid hat
 have HZ := hid hz
 clear hb0 hat hz hW0
 apply share3 (fun W1 ba bb => Below w.heap.size w W1 ∧ NdAt W1 ba 0 x Ax cx ∧ NdAt W1 bb 0 y Ay cy ∧ NdAt W1 w.heap.size 0 (⟨36, s, num, pos, x :: y :: r⟩ : Nd) (some ⟨b, o, none⟩) c ∧ Zero W1 (w.heap.size + 1) ∧ w.heap.size + 1 < W1.heap.size)
 rotate_left
 ·intro key
  obtain ⟨x0, x1, x2, x3, x4⟩ := HAT.out
  obtain ⟨f0, f1, f2, f3, f4⟩ := HX.out.below HB0.out
  obtain ⟨g0, g1, g2, g3, g4⟩ := HY.out.below HB0.out
  go_region
  all_goals
   have hax0 := bAt W0 x Ax cx 24
   have hay0 := bAt W0 y Ay cy 24
   rw [hsz] at hax0 hay0
   have hs1 : ∀ z, (W0.alloc z).heap.size = w.heap.size + 2 + 1 := fun z => by simp [hsz]
  ·skip
   generalize hW1 : ((W0.alloc (.cells #[.int .i64 x.kind, .string x.name, .int .i64 x.num, .int .i64 x.pos, .slice Ax x.subs.length cx] 24)).alloc (.cells #[.int .i64 y.kind, .string y.name, .int .i64 y.num, .int .i64 y.pos, .slice Ay y.subs.length cy] 24)).drew = W1
   have hax : NdAt W1 (w.heap.size + 2) 0 x Ax cx := by rw [← hW1]; exact (hax0.below (bBw _ _)).drew
   have hay1 := bAt (W0.alloc (.cells #[.int .i64 x.kind, .string x.name, .int .i64 x.num, .int .i64 x.pos, .slice Ax x.subs.length cx] 24)) y Ay cy 24
   rw [hs1] at hay1
   have hay : NdAt W1 (w.heap.size + 2 + 1) 0 y Ay cy := by rw [← hW1]; exact hay1.drew
   have hb1 : Below w.heap.size w W1 := by rw [← hW1]; exact (bTh HB0.out (bTh (bBw _ _) (bBw _ _))).drew
   have hat1 : NdAt W1 w.heap.size 0 ⟨36, s, num, pos, x :: y :: r⟩ (some ⟨b, o, none⟩) c := by rw [← hW1]; exact ((HAT.out.below (bBw _ _)).below (bBw _ _)).drew
   have hz1 : W1.heap[w.heap.size + 1]? = some (.cells #[.int .i64 0, .string ⟨#[]⟩, .int .i64 0, .int .i64 0, .slice none 0 0] 24) := by rw [← hW1, heap_drew, heap_alloc_old _ _ (by rw [hs1]; omega), heap_alloc_old _ _ (by rw [hsz]; omega)]; exact HZ.out
   clear hW1 hay1
   have hls := hay.lt
   have hF := And.intro hb1 (And.intro hax (And.intro hay (And.intro hat1 (And.intro (show Zero W1 (w.heap.size + 1) from ⟨_, _, _, _, _, hz1⟩) (show w.heap.size + 1 < W1.heap.size by omega)))))
   generalize w.heap.size + 2 + 1 = bb at hF ⊢
   generalize w.heap.size + 2 = ba at hF ⊢
   exact key _ _ _ hF
  ·skip
   generalize hW1 : ((W0.alloc (.cells #[.int .i64 y.kind, .string y.name, .int .i64 y.num, .int .i64 y.pos, .slice Ay y.subs.length cy] 24)).alloc (.cells #[.int .i64 x.kind, .string x.name, .int .i64 x.num, .int .i64 x.pos, .slice Ax x.subs.length cx] 24)).drew = W1
   have hay : NdAt W1 (w.heap.size + 2) 0 y Ay cy := by rw [← hW1]; exact (hay0.below (bBw _ _)).drew
   have hax1 := bAt (W0.alloc (.cells #[.int .i64 y.kind, .string y.name, .int .i64 y.num, .int .i64 y.pos, .slice Ay y.subs.length cy] 24)) x Ax cx 24
   rw [hs1] at hax1
   have hax : NdAt W1 (w.heap.size + 2 + 1) 0 x Ax cx := by rw [← hW1]; exact hax1.drew
   have hb1 : Below w.heap.size w W1 := by rw [← hW1]; exact (bTh HB0.out (bTh (bBw _ _) (bBw _ _))).drew
   have hat1 : NdAt W1 w.heap.size 0 ⟨36, s, num, pos, x :: y :: r⟩ (some ⟨b, o, none⟩) c := by rw [← hW1]; exact ((HAT.out.below (bBw _ _)).below (bBw _ _)).drew
   have hz1 : W1.heap[w.heap.size + 1]? = some (.cells #[.int .i64 0, .string ⟨#[]⟩, .int .i64 0, .int .i64 0, .slice none 0 0] 24) := by rw [← hW1, heap_drew, heap_alloc_old _ _ (by rw [hs1]; omega), heap_alloc_old _ _ (by rw [hsz]; omega)]; exact HZ.out
   clear hW1 hax1
   have hls := hax.lt
   have hF := And.intro hb1 (And.intro hax (And.intro hay (And.intro hat1 (And.intro (show Zero W1 (w.heap.size + 1) from ⟨_, _, _, _, _, hz1⟩) (show w.heap.size + 1 < W1.heap.size by omega)))))
   generalize w.heap.size + 2 + 1 = ba at hF ⊢
   generalize w.heap.size + 2 = bb at hF ⊢
   exact key _ _ _ hF
 ·intro W1 ba bb hF
  obtain ⟨hb1, hax, hay, hat1, hz1, hls⟩ := hF
  clear hlt2 hlt3 hsz HAT HZ HB0 hi0 hi1 hlt hlen
  have HAX := hid hax
  have HAY := hid hay
  have HAN := hid hat1
  have HB := hid hb1
  have HZ := hid hz1
  clear hax hay hat1 hb1 hz1
  obtain ⟨n0, n1, n2, n3, n4⟩ := HAN.out
  obtain ⟨a0, a1, a2, a3, a4⟩ := HAX.out
  obtain ⟨b0, b1, b2, b3, b4⟩ := HAY.out
  cases h0 : (s.toList == [38]) with
  | true =>
   by_cases kf : x.kind = 30
   ·have gf : (x.kind == 30) = true := by simpa using kf
    have FIN := hid (show operN (⟨36, s, num, pos, x :: y :: r⟩ : Nd) = y by simp [operN, Nd.sub, h0, kf])
    clear kf
    go_wp2_with (with_reducible refine at_store2 ?_; refine HZ.out.store y Ay cy rfl rfl ?_)
    refine bodyPost_ret (ret_node rfl _ _ rfl (HZ.out.node y Ay cy)) rfl ?_
    rw [FIN.out]
    exact ⟨setRow_below HB.out (by omega) _, _, _, rfl, KidsP.setRow _ (fun q hq => by omega) (HPY.out.below HB.out)⟩
   ·have gf : (x.kind == 30) = false := by simpa using kf
    by_cases ks : x.kind = 31
    ·have gs : (x.kind == 31) = true := by simpa using ks
     have FIN := hid (show operN (⟨36, s, num, pos, x :: y :: r⟩ : Nd) = x by simp [operN, Nd.sub, h0, ks])
     clear ks kf
     go_wp2_with (with_reducible refine at_store2 ?_; refine HZ.out.store x Ax cx rfl rfl ?_)
     refine bodyPost_ret (ret_node rfl _ _ rfl (HZ.out.node x Ax cx)) rfl ?_
     rw [FIN.out]
     exact ⟨setRow_below HB.out (by omega) _, _, _, rfl, KidsP.setRow _ (fun q hq => by omega) (HPX.out.below HB.out)⟩
    ·have gs : (x.kind == 31) = false := by simpa using ks
     have FIN := hid (show operN (⟨36, s, num, pos, x :: y :: r⟩ : Nd) = (⟨36, s, num, pos, x :: y :: r⟩ : Nd) by simp [operN, Nd.sub, h0, kf, ks])
     clear ks kf
     go_wp2_with (with_reducible refine at_store2 ?_; refine HZ.out.store (⟨36, s, num, pos, x :: y :: r⟩ : Nd) (some ⟨b, o, none⟩) c rfl rfl ?_)
     refine bodyPost_ret (ret_node rfl _ _ rfl (HZ.out.node (⟨36, s, num, pos, x :: y :: r⟩ : Nd) (some ⟨b, o, none⟩) c)) rfl ?_
     rw [FIN.out]
     exact ⟨setRow_below HB.out (by omega) _, _, _, rfl, KidsP.setRow _ (fun q hq => by omega) (HKN.out.below HB.out)⟩
  | false =>
   cases h1 : (s.toList == [79, 82]) with
   | true =>
    by_cases kf : x.kind = 31
    ·have gf : (x.kind == 31) = true := by simpa using kf
     have FIN := hid (show operN (⟨36, s, num, pos, x :: y :: r⟩ : Nd) = y by simp [operN, Nd.sub, h0, h1, kf])
     clear kf
     go_wp2_with (with_reducible refine at_store2 ?_; refine HZ.out.store y Ay cy rfl rfl ?_)
     refine bodyPost_ret (ret_node rfl _ _ rfl (HZ.out.node y Ay cy)) rfl ?_
     rw [FIN.out]
     exact ⟨setRow_below HB.out (by omega) _, _, _, rfl, KidsP.setRow _ (fun q hq => by omega) (HPY.out.below HB.out)⟩
    ·have gf : (x.kind == 31) = false := by simpa using kf
     by_cases ks : x.kind = 30
     ·have gs : (x.kind == 30) = true := by simpa using ks
      have FIN := hid (show operN (⟨36, s, num, pos, x :: y :: r⟩ : Nd) = x by simp [operN, Nd.sub, h0, h1, ks])
      clear ks kf
      go_wp2_with (with_reducible refine at_store2 ?_; refine HZ.out.store x Ax cx rfl rfl ?_)
      refine bodyPost_ret (ret_node rfl _ _ rfl (HZ.out.node x Ax cx)) rfl ?_
      rw [FIN.out]
      exact ⟨setRow_below HB.out (by omega) _, _, _, rfl, KidsP.setRow _ (fun q hq => by omega) (HPX.out.below HB.out)⟩
     ·have gs : (x.kind == 30) = false := by simpa using ks
      have FIN := hid (show operN (⟨36, s, num, pos, x :: y :: r⟩ : Nd) = (⟨36, s, num, pos, x :: y :: r⟩ : Nd) by simp [operN, Nd.sub, h0, h1, kf, ks])
      clear ks kf
      go_wp2_with (with_reducible refine at_store2 ?_; refine HZ.out.store (⟨36, s, num, pos, x :: y :: r⟩ : Nd) (some ⟨b, o, none⟩) c rfl rfl ?_)
      refine bodyPost_ret (ret_node rfl _ _ rfl (HZ.out.node (⟨36, s, num, pos, x :: y :: r⟩ : Nd) (some ⟨b, o, none⟩) c)) rfl ?_
      rw [FIN.out]
      exact ⟨setRow_below HB.out (by omega) _, _, _, rfl, KidsP.setRow _ (fun q hq => by omega) (HKN.out.below HB.out)⟩
   | false =>
    obtain ⟨vx, okx, hNX⟩ := numV_gen x
    obtain ⟨vy, oky, hNY⟩ := numV_gen y
    have NX := hid hNX
    have NY := hid hNY
    clear hNX hNY
    go_wp2_with fail
    refine (value_any d x Ax cx _ (HKX.out.below HB.out) HOX.out).mono ?_
    rintro e w2 ⟨rfl, hb⟩
    rw [NX.out]
    have HB2 := hid (bTh HB.out hb)
    have HAN2 := hid (HAN.out.below hb)
    have HAX2 := hid (HAX.out.below hb)
    have HAY2 := hid (HAY.out.below hb)
    have HZ2 := hid (HZ.out.below hb)
    clear n0 n1 n2 n3 n4 a0 a1 a2 a3 a4 b0 b1 b2 b3 b4
    clear hb
    obtain ⟨n0, n1, n2, n3, n4⟩ := HAN2.out
    obtain ⟨a0, a1, a2, a3, a4⟩ := HAX2.out
    obtain ⟨b0, b1, b2, b3, b4⟩ := HAY2.out
    go_wp2_with fail
    refine (value_any d y Ay cy _ (HKY.out.below HB2.out) HOY.out).mono ?_
    rintro e w3 ⟨rfl, hb⟩
    rw [NY.out]
    have HB3 := hid (bTh HB2.out hb)
    have HAN3 := hid (HAN2.out.below hb)
    have HAX3 := hid (HAX2.out.below hb)
    have HAY3 := hid (HAY2.out.below hb)
    have HZ3 := hid (HZ2.out.below hb)
    clear n0 n1 n2 n3 n4 a0 a1 a2 a3 a4 b0 b1 b2 b3 b4
    clear hb
    obtain ⟨n0, n1, n2, n3, n4⟩ := HAN3.out
    obtain ⟨a0, a1, a2, a3, a4⟩ := HAX3.out
    obtain ⟨b0, b1, b2, b3, b4⟩ := HAY3.out
    cases okx with
    | false =>
     have hvx := numV_none NX.out
     have FIN := hid (show operN (⟨36, s, num, pos, x :: y :: r⟩ : Nd) = (⟨36, s, num, pos, x :: y :: r⟩ : Nd) by cases hq : numberN y <;> simp [operN, Nd.sub, hq, h0, h1, hvx])
     clear hvx
     go_wp2_with (with_reducible refine at_store2 ?_; refine HZ3.out.store (⟨36, s, num, pos, x :: y :: r⟩ : Nd) (some ⟨b, o, none⟩) c rfl rfl ?_)
     refine bodyPost_ret (ret_node rfl _ _ rfl (HZ3.out.node (⟨36, s, num, pos, x :: y :: r⟩ : Nd) (some ⟨b, o, none⟩) c)) rfl ?_
     rw [FIN.out]
     exact ⟨setRow_below HB3.out (by omega) _, _, _, rfl, KidsP.setRow _ (fun q hq => by omega) (HKN.out.below HB3.out)⟩
    | true =>
     have hvx := numV_some NX.out
     cases oky with
     | false =>
      have hvy := numV_none NY.out
      have FIN := hid (show operN (⟨36, s, num, pos, x :: y :: r⟩ : Nd) = (⟨36, s, num, pos, x :: y :: r⟩ : Nd) by cases hq : numberN x <;> simp [operN, Nd.sub, hq, h0, h1, hvy])
      clear hvx hvy
      go_wp2_with (with_reducible refine at_store2 ?_; refine HZ3.out.store (⟨36, s, num, pos, x :: y :: r⟩ : Nd) (some ⟨b, o, none⟩) c rfl rfl ?_)
      refine bodyPost_ret (ret_node rfl _ _ rfl (HZ3.out.node (⟨36, s, num, pos, x :: y :: r⟩ : Nd) (some ⟨b, o, none⟩) c)) rfl ?_
      rw [FIN.out]
      exact ⟨setRow_below HB3.out (by omega) _, _, _, rfl, KidsP.setRow _ (fun q hq => by omega) (HKN.out.below HB3.out)⟩
     | true =>
      have hvy := numV_some NY.out
      have bx := number_le HOX.out hvx
      have by' := number_le HOY.out hvy
      cases har : isAr s with
      | false =>
       obtain ⟨h2, h3, h4, h5, h6⟩ : (s.toList == [43]) = false ∧ (s.toList == [45]) = false ∧ (s.toList == [42]) = false ∧ (s.toList == [68, 73, 86]) = false ∧ (s.toList == [77, 79, 68]) = false := by simpa [isAr, Bool.or_eq_false_iff, and_assoc] using har
       have FIN := hid (show operN (⟨36, s, num, pos, x :: y :: r⟩ : Nd) = truthN (relN s vx vy) pos by simp [operN, Nd.sub, h0, h1, hvx, hvy, har])
       clear hvx hvy har
       go_wp2_with fail
       go_region_held3 (fun w' => w'.cell? ⟨w.heap.size, 1, none⟩ = some (.string s) ∧ w'.cell? ⟨w.heap.size, 3, none⟩ = some (.int .i64 pos))
        (first
         | go_keep
         | (go_split_ands; exact ⟨keep_cell hb (by assumption), keep_cell hb (by assumption)⟩))
        (first
         | (go_at_call 127; refine (truthRel_any s vx vy _).mono ?_; rintro e w' ⟨rfl, rfl⟩)
         | (go_at_call 75; refine (truth_any (relN s vx vy) pos _).mono ?_; rintro e w' ⟨rfl, hb⟩; obtain ⟨⟨e0, e1, e2, e3, e4, z0, z1, z2, z3, z4⟩, u0, u1, u2, u3, u4⟩ := ((HZ3.out.drew).below hb).facts))
       go_wp2
       rw [((HZ3.out.drew).below hb).chain]
       refine bodyPost_ret (ret_node rfl _ _ rfl (((HZ3.out.drew).below hb).node (truthN (relN s vx vy) pos) none 0)) rfl ?_
       rw [FIN.out]
       exact ⟨setRow_below (bTh HB3.out.drew hb) (by omega) _, _, _, rfl, kids_truth _ _ _ _ _⟩
      | true =>
       have hd : (s.toList == [43]) = true ∨ ((s.toList == [43]) = false ∧ (s.toList == [45]) = true) ∨ ((s.toList == [43]) = false ∧ (s.toList == [45]) = false ∧ (s.toList == [42]) = true) ∨ ((s.toList == [43]) = false ∧ (s.toList == [45]) = false ∧ (s.toList == [42]) = false ∧ (s.toList == [68, 73, 86]) = true) ∨ ((s.toList == [43]) = false ∧ (s.toList == [45]) = false ∧ (s.toList == [42]) = false ∧ (s.toList == [68, 73, 86]) = false ∧ (s.toList == [77, 79, 68]) = true) := by
        unfold isAr at har
        cases h2 : (s.toList == [43]) <;> cases h3 : (s.toList == [45]) <;> cases h4 : (s.toList == [42]) <;> cases h5 : (s.toList == [68, 73, 86]) <;> cases h6 : (s.toList == [77, 79, 68]) <;> simp_all
       obtain ⟨v, okw, hWV⟩ := workV_gen s vx vy
       have WV := hid hWV
       clear hWV
       have HVX := hid hvx
       have HVY := hid hvy
       have HAR := hid har
       clear hvx hvy har
       rcases hd with h2 | ⟨h2, h3⟩ | ⟨h2, h3, h4⟩ | ⟨h2, h3, h4, h5⟩ | ⟨h2, h3, h4, h5, h6⟩
       all_goals
        go_wp2_with fail
        refine (work_any s vx vy _ bx by').mono ?_
        rintro e w4 ⟨rfl, hb⟩
        rw [WV.out]
        have HB4 := hid (bTh HB3.out hb)
        have HAN4 := hid (HAN3.out.below hb)
        have HAX4 := hid (HAX3.out.below hb)
        have HAY4 := hid (HAY3.out.below hb)
        have HZ4 := hid (HZ3.out.below hb)
        clear n0 n1 n2 n3 n4 a0 a1 a2 a3 a4 b0 b1 b2 b3 b4
        clear hb
        obtain ⟨n0, n1, n2, n3, n4⟩ := HAN4.out
        obtain ⟨a0, a1, a2, a3, a4⟩ := HAX4.out
        obtain ⟨b0, b1, b2, b3, b4⟩ := HAY4.out
        cases okw with
        | false =>
         have hwk := workV_none WV.out
         have FIN := hid (show operN (⟨36, s, num, pos, x :: y :: r⟩ : Nd) = (⟨36, s, num, pos, x :: y :: r⟩ : Nd) by simp [operN, Nd.sub, h0, h1, HVX.out, HVY.out, HAR.out, hwk])
         clear hwk
         go_wp2_with (with_reducible refine at_store2 ?_; refine HZ4.out.store (⟨36, s, num, pos, x :: y :: r⟩ : Nd) (some ⟨b, o, none⟩) c rfl rfl ?_)
         refine bodyPost_ret (ret_node rfl _ _ rfl (HZ4.out.node (⟨36, s, num, pos, x :: y :: r⟩ : Nd) (some ⟨b, o, none⟩) c)) rfl ?_
         rw [FIN.out]
         exact ⟨setRow_below HB4.out (by omega) _, _, _, rfl, KidsP.setRow _ (fun q hq => by omega) (HKN.out.below HB4.out)⟩
        | true =>
         have hwk := workV_some WV.out
         have bv := work_bd bx by' hwk
         have HWK := hid hwk
         clear hwk
         go_wp2_with fail
         refine (told_gen v pos w4 bv.1 bv.2).mono ?_
         rintro e w5 ⟨hb, m, Am, cm, okt, rfl, hyes, hno⟩
         have hsz4 := HAN4.out.lt
         have HYES := hid hyes
         have HNO := hid hno
         clear hyes hno
         have HB5 := hid (bTh HB4.out hb)
         have HAN5 := hid (HAN4.out.below hb)
         have HAX5 := hid (HAX4.out.below hb)
         have HAY5 := hid (HAY4.out.below hb)
         have HZ5 := hid (HZ4.out.below hb)
         clear n0 n1 n2 n3 n4 a0 a1 a2 a3 a4 b0 b1 b2 b3 b4
         clear hb
         obtain ⟨n0, n1, n2, n3, n4⟩ := HAN5.out
         obtain ⟨a0, a1, a2, a3, a4⟩ := HAX5.out
         obtain ⟨b0, b1, b2, b3, b4⟩ := HAY5.out
         have hsz5 := HAN5.out.lt
         cases okt with
         | false =>
          have htd := HNO.out rfl
          have FIN := hid (show operN (⟨36, s, num, pos, x :: y :: r⟩ : Nd) = (⟨36, s, num, pos, x :: y :: r⟩ : Nd) by simp [operN, Nd.sub, h0, h1, HVX.out, HVY.out, HAR.out, HWK.out, htd])
          clear htd
          go_wp2_with (with_reducible refine at_store2 ?_; refine (HZ5.out.below (bBw _ _)).store (⟨36, s, num, pos, x :: y :: r⟩ : Nd) (some ⟨b, o, none⟩) c rfl rfl ?_)
          refine bodyPost_ret (ret_node rfl _ _ rfl ((HZ5.out.below (bBw _ _)).node (⟨36, s, num, pos, x :: y :: r⟩ : Nd) (some ⟨b, o, none⟩) c)) rfl ?_
          rw [FIN.out]
          exact ⟨setRow_below (bTh HB5.out (bBw _ _)) (by omega) _, _, _, rfl, KidsP.setRow _ (fun q hq => by omega) (HKN.out.below (bTh HB5.out (bBw _ _)))⟩
         | true =>
          obtain ⟨htd, hkm⟩ := HYES.out rfl
          have FIN := hid (show operN (⟨36, s, num, pos, x :: y :: r⟩ : Nd) = m by simp [operN, Nd.sub, h0, h1, HVX.out, HVY.out, HAR.out, HWK.out, htd])
          have hz4 := HZ4.out.lt
          have HKM := hid ((hkm.ups (e := d + 2) (by omega)).mono (T := fun q => S q ∧ q < w.heap.size ∨ w.heap.size + 1 < q) fun q hq _ => .inr (by omega))
          clear htd hkm
          go_wp2_with (with_reducible refine at_store2 ?_; refine (HZ5.out.below (bBw _ _)).store m Am cm rfl rfl ?_)
          refine bodyPost_ret (ret_node rfl _ _ rfl ((HZ5.out.below (bBw _ _)).node m Am cm)) rfl ?_
          rw [FIN.out]
          exact ⟨setRow_below (bTh HB5.out (bBw _ _)) (by omega) _, _, _, rfl, KidsP.setRow _ (fun q hq => by omega) (HKM.out.below (bBw _ _))⟩
end Go.Proofs.YtneohanphabneaaGreatDoor
