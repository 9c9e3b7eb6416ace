/-
The program's answer on shapes, the walks: an operation of two. Conditions: the tree lies in memory.
-/
import Derived.Test.YtneohanphabneaaGreatDoorShapeP3
namespace Go.Proofs.YtneohanphabneaaGreatDoor
set_option linter.unusedSimpArgs false
set_option linter.unusedVariables false
open Go.RowKit Go.MapKept Go.BigFrame
def opsSS : List ByteArray := wordsOf (relL ++ sumL ++ mulL)
theorem ops_level (s : ByteArray) : opsSS.any (fun x => x == s) = decide (0 ≤ levelN s) := by
  have h : opsSS.any (fun x => x == s) = (inB s relL || inB s sumL || inB s mulL) := by
    simp only [opsSS, inB, wordsOf, List.map_append, List.any_append]
  rw [h]
  unfold levelN
  cases inB s relL <;> cases inB s sumL <;> cases inB s mulL <;> rfl
set_option maxRecDepth 100000 in
set_option maxHeartbeats 1000000 in
theorem operators_any (w : World) :
    Calls Tryz.prog 104 #[] w fun e w' => e = .returned (.map (some w.heap.size)) ∧ w.alloc (litMap (setKV opsSS)) = w' := by
  have hmm := @run_makeLit Tryz.prog
  go_enter Tryz.func104, Tryz.ntmps104
  go_wp2_with (refine wpList_insert rfl 105 (.tmp 1) _ _ rfl w.heap.size rfl w _ rfl rfl 9 4 .string Tryz.underlying105 Tryz.underlying9 ?_ ?_ ?_; (· trivial); (· rfl))
  go_ret
  exact ⟨rfl, rfl⟩
theorem look_ops {W : World} {b : Nat} (hb : W.heap[b]? = some (litMap (setKV opsSS))) (s : ByteArray) : (Instr.lookup 105 (.map (some b)) (.string s) false).run Tryz.prog W = .ok (.bool (decide (0 ≤ levelN s))) W := by
  rw [run_look Tryz.underlying105 Tryz.underlying9 W b (setKV opsSS) (.string s) (.bool false) hb trivial (sameStr s) (same_setKV _ _) (zero_bool _), look_setKV]
  rw [← ops_level]
/-- Behind the first four operations of a region that draws its order: the rest in the order of the text, its operations only reading, its callees laying new blocks alone. -/
theorem wpAny_tail4 {P : Program} {o0 o1 o2 o3 : Oper} {l : List Oper} {listed : Array Bool} {a : Act} {w : World} {Q : Exit → Act → World → Prop} (hs : Region.noSelect (o0 :: o1 :: o2 :: o3 :: l).toArray = true)
    (hB : Region.lexFrom .any (o0 :: o1 :: o2 :: o3 :: l).toArray l.length 4 listed = true)
    (h : wpQuiet P (o0 :: o1 :: o2 :: o3 :: l).toArray (fun w' => ∃ p : Regrown, w' = Go.Sort.grow (redrawn w p.d) p.os) (fun a' => ∀ w', (∃ p : Regrown, w' = Go.Sort.grow (redrawn w p.d) p.os) → Q .normal a' w') l a) :
    wpAny P .any (o0 :: o1 :: o2 :: o3 :: l).toArray Q l.length listed a w :=
  wpAny_of_quiet (Q := fun a' => ∀ w', (∃ p : Regrown, w' = Go.Sort.grow (redrawn w p.d) p.os) → Q .normal a' w') (fun _ w' hw' h => h w' hw') _ _ _ _ ⟨⟨w.drawn, #[]⟩, by rw [Go.Sort.grow_empty]; rfl⟩
    (wpAnyQ_lex hs l 4 listed a (fun j => by simp [Nat.add_comm 4 j]) hB h)
set_option maxRecDepth 100000 in
set_option maxHeartbeats 16000000 in
theorem opP_any (d : Nat) (hE : AskFn 55 d (exprS d)) (s : ByteArray) (num pos : Int) (subs : List Nd) (A : Option Addr) (c : Nat) (w : World) (hk : Kids w (d + 1) ⟨36, s, num, pos, subs⟩ A c) :
   Calls Tryz.prog 55 #[.agg #[.int .i64 36, .string s, .int .i64 num, .int .i64 pos, .slice A subs.length c]] w fun e w' => e = .returned (.bool (exprS (d + 1) ⟨36, s, num, pos, subs⟩)) ∧ Below w.heap.size w w' := by
  have hlen := hk.len
  have hsz := hk.name_le
  unfold maxLen at hlen hsz
  simp only at hlen hsz
  cases g1 : decide (0 ≤ levelN s) with
  | false =>
    have HAT := hid (bAt w ⟨36, s, num, pos, subs⟩ A c 24)
    clear hk
    go_enter Tryz.func55, Tryz.ntmps55
    go_wp2
    generalize hW0 : w.alloc (.cells #[.int .i64 36, .string s, .int .i64 num, .int .i64 pos, .slice A subs.length c] 24) = W0 at *
    have HBOX := hid (show Below w.heap.size w W0 by rw [← hW0]; exact bBw _ _)
    clear hW0
    obtain ⟨x0, x1, x2, x3, x4⟩ := HAT.out
    have hLk := look_ops (W := (W0.alloc (litMap (setKV opsSS))).drew) (b := W0.heap.size) (heap_new W0 _) s
    rw [g1] at hLk
    have y1 := keep_cell (bBw W0 (litMap (setKV opsSS))) x1
    obtain ⟨W1, hW1⟩ : ∃ W1, W1 = (W0.alloc (litMap (setKV opsSS))).drew := ⟨_, rfl⟩
    have HC1 := hid (show Below W0.heap.size W0 W1 by rw [hW1]; exact (bBw _ _).drew)
    refine wp_region_any (by kernel_rfl) ?_
    refine wpAny_take (i := 1) (v := .pointer (some ⟨w.heap.size, 1, none⟩)) rfl (by kernel_rfl) (by kernel_rfl) (by kernel_rfl) (fun _ _ _ h => h) (Or.inl ⟨by rfl, by intro w; go_simp⟩) ?_
    refine wpAny_ready (rs := [0, 2]) (by kernel_rfl) (by simp) (AllReady.cons rfl (fun K hK => ?_) (AllReady.cons rfl (fun K hK => ?_) AllReady.nil))
    · skip
      go_simp
      refine (operators_any _).mono ?_
      rintro e w' ⟨rfl, rfl⟩
      go_simp
      refine hK _ _ ?_
      clear hK K
      refine wpAny_ready (rs := [2]) (by kernel_rfl) (by simp) (AllReady.cons rfl (fun K hK => ?_) AllReady.nil)
      go_simp
      refine hK _ _ ?_
      clear hK K
      refine wpAny_ready (rs := [3]) (by kernel_rfl) (by simp) (AllReady.cons rfl (fun K hK => ?_) AllReady.nil)
      go_simp
      refine hK _ _ ?_
      clear hK K
      rw [← hW1]
      have r_0 := cRg (keep_cell HC1.out x0)
      have r_1 := cRg (keep_cell HC1.out x1)
      have r_2 := cRg (keep_cell HC1.out x2)
      have r_3 := cRg (keep_cell HC1.out x3)
      have r_4 := cRg (keep_cell HC1.out x4)
      clear hLk y1 hW1 x0 x1 x2 x3 x4
      refine wpAny_tail4 (by kernel_rfl) (by kernel_rfl) ?_
      repeat (go_big_quiet_step (fail))
      refine wpQuiet_nil ?_
      intro _ hw'
      obtain ⟨⟨dq, osq⟩, hw''⟩ := hw'
      subst hw''
      have HG := hid (bTh HC1.out (below_regrown W1 dq osq))
      generalize hG : Go.Sort.grow (redrawn W1 dq) osq = G at *
      clear hG
      go_wp2
      go_ret
      exact ⟨rBo (by simp only [decide_eq_false_iff_not] at g1; simp [exprS_succ, exprStep, eq_false g1]), bTh HBOX.out HG.out⟩
    · skip
      go_simp
      refine hK _ _ ?_
      clear hK K
      refine wpAny_ready (rs := [0]) (by kernel_rfl) (by simp) (AllReady.cons rfl (fun K hK => ?_) AllReady.nil)
      go_simp
      refine (operators_any _).mono ?_
      rintro e w' ⟨rfl, rfl⟩
      go_simp
      refine hK _ _ ?_
      clear hK K
      refine wpAny_ready (rs := [3]) (by kernel_rfl) (by simp) (AllReady.cons rfl (fun K hK => ?_) AllReady.nil)
      go_simp
      refine hK _ _ ?_
      clear hK K
      rw [← hW1]
      have r_0 := cRg (keep_cell HC1.out x0)
      have r_1 := cRg (keep_cell HC1.out x1)
      have r_2 := cRg (keep_cell HC1.out x2)
      have r_3 := cRg (keep_cell HC1.out x3)
      have r_4 := cRg (keep_cell HC1.out x4)
      clear hLk y1 hW1 x0 x1 x2 x3 x4
      refine wpAny_tail4 (by kernel_rfl) (by kernel_rfl) ?_
      repeat (go_big_quiet_step (fail))
      refine wpQuiet_nil ?_
      intro _ hw'
      obtain ⟨⟨dq, osq⟩, hw''⟩ := hw'
      subst hw''
      have HG := hid (bTh HC1.out (below_regrown W1 dq osq))
      generalize hG : Go.Sort.grow (redrawn W1 dq) osq = G at *
      clear hG
      go_wp2
      go_ret
      exact ⟨rBo (by simp only [decide_eq_false_iff_not] at g1; simp [exprS_succ, exprStep, eq_false g1]), bTh HBOX.out HG.out⟩
  | true =>
    cases g2 : (num == 0) with
    | false =>
      have HAT := hid (bAt w ⟨36, s, num, pos, subs⟩ A c 24)
      clear hk
      go_enter Tryz.func55, Tryz.ntmps55
      go_wp2
      generalize hW0 : w.alloc (.cells #[.int .i64 36, .string s, .int .i64 num, .int .i64 pos, .slice A subs.length c] 24) = W0 at *
      have HBOX := hid (show Below w.heap.size w W0 by rw [← hW0]; exact bBw _ _)
      clear hW0
      obtain ⟨x0, x1, x2, x3, x4⟩ := HAT.out
      have hLk := look_ops (W := (W0.alloc (litMap (setKV opsSS))).drew) (b := W0.heap.size) (heap_new W0 _) s
      rw [g1] at hLk
      have y1 := keep_cell (bBw W0 (litMap (setKV opsSS))) x1
      obtain ⟨W1, hW1⟩ : ∃ W1, W1 = (W0.alloc (litMap (setKV opsSS))).drew := ⟨_, rfl⟩
      have HC1 := hid (show Below W0.heap.size W0 W1 by rw [hW1]; exact (bBw _ _).drew)
      refine wp_region_any (by kernel_rfl) ?_
      refine wpAny_take (i := 1) (v := .pointer (some ⟨w.heap.size, 1, none⟩)) rfl (by kernel_rfl) (by kernel_rfl) (by kernel_rfl) (fun _ _ _ h => h) (Or.inl ⟨by rfl, by intro w; go_simp⟩) ?_
      refine wpAny_ready (rs := [0, 2]) (by kernel_rfl) (by simp) (AllReady.cons rfl (fun K hK => ?_) (AllReady.cons rfl (fun K hK => ?_) AllReady.nil))
      · skip
        go_simp
        refine (operators_any _).mono ?_
        rintro e w' ⟨rfl, rfl⟩
        go_simp
        refine hK _ _ ?_
        clear hK K
        refine wpAny_ready (rs := [2]) (by kernel_rfl) (by simp) (AllReady.cons rfl (fun K hK => ?_) AllReady.nil)
        go_simp
        refine hK _ _ ?_
        clear hK K
        refine wpAny_ready (rs := [3]) (by kernel_rfl) (by simp) (AllReady.cons rfl (fun K hK => ?_) AllReady.nil)
        go_simp
        refine hK _ _ ?_
        clear hK K
        rw [← hW1]
        have r_0 := cRg (keep_cell HC1.out x0)
        have r_1 := cRg (keep_cell HC1.out x1)
        have r_2 := cRg (keep_cell HC1.out x2)
        have r_3 := cRg (keep_cell HC1.out x3)
        have r_4 := cRg (keep_cell HC1.out x4)
        clear hLk y1 hW1 x0 x1 x2 x3 x4
        refine wpAny_tail4 (by kernel_rfl) (by kernel_rfl) ?_
        repeat (go_big_quiet_step (fail))
        refine wpQuiet_nil ?_
        intro _ hw'
        obtain ⟨⟨dq, osq⟩, hw''⟩ := hw'
        subst hw''
        have HG := hid (bTh HC1.out (below_regrown W1 dq osq))
        generalize hG : Go.Sort.grow (redrawn W1 dq) osq = G at *
        clear hG
        go_wp2
        go_ret
        exact ⟨rBo (by simp only [decide_eq_true_eq] at g1; simp only [beq_eq_false_iff_ne, ne_eq] at g2; simp [exprS_succ, exprStep, Nd.sub, g1, g2]), bTh HBOX.out HG.out⟩
      · skip
        go_simp
        refine hK _ _ ?_
        clear hK K
        refine wpAny_ready (rs := [0]) (by kernel_rfl) (by simp) (AllReady.cons rfl (fun K hK => ?_) AllReady.nil)
        go_simp
        refine (operators_any _).mono ?_
        rintro e w' ⟨rfl, rfl⟩
        go_simp
        refine hK _ _ ?_
        clear hK K
        refine wpAny_ready (rs := [3]) (by kernel_rfl) (by simp) (AllReady.cons rfl (fun K hK => ?_) AllReady.nil)
        go_simp
        refine hK _ _ ?_
        clear hK K
        rw [← hW1]
        have r_0 := cRg (keep_cell HC1.out x0)
        have r_1 := cRg (keep_cell HC1.out x1)
        have r_2 := cRg (keep_cell HC1.out x2)
        have r_3 := cRg (keep_cell HC1.out x3)
        have r_4 := cRg (keep_cell HC1.out x4)
        clear hLk y1 hW1 x0 x1 x2 x3 x4
        refine wpAny_tail4 (by kernel_rfl) (by kernel_rfl) ?_
        repeat (go_big_quiet_step (fail))
        refine wpQuiet_nil ?_
        intro _ hw'
        obtain ⟨⟨dq, osq⟩, hw''⟩ := hw'
        subst hw''
        have HG := hid (bTh HC1.out (below_regrown W1 dq osq))
        generalize hG : Go.Sort.grow (redrawn W1 dq) osq = G at *
        clear hG
        go_wp2
        go_ret
        exact ⟨rBo (by simp only [decide_eq_true_eq] at g1; simp only [beq_eq_false_iff_ne, ne_eq] at g2; simp [exprS_succ, exprStep, Nd.sub, g1, g2]), bTh HBOX.out HG.out⟩
    | true =>
      cases g3 : ((subs.length : Int) == 2) with
      | false =>
        have HAT := hid (bAt w ⟨36, s, num, pos, subs⟩ A c 24)
        clear hk
        go_enter Tryz.func55, Tryz.ntmps55
        go_wp2
        generalize hW0 : w.alloc (.cells #[.int .i64 36, .string s, .int .i64 num, .int .i64 pos, .slice A subs.length c] 24) = W0 at *
        have HBOX := hid (show Below w.heap.size w W0 by rw [← hW0]; exact bBw _ _)
        clear hW0
        obtain ⟨x0, x1, x2, x3, x4⟩ := HAT.out
        have hLk := look_ops (W := (W0.alloc (litMap (setKV opsSS))).drew) (b := W0.heap.size) (heap_new W0 _) s
        rw [g1] at hLk
        have y1 := keep_cell (bBw W0 (litMap (setKV opsSS))) x1
        obtain ⟨W1, hW1⟩ : ∃ W1, W1 = (W0.alloc (litMap (setKV opsSS))).drew := ⟨_, rfl⟩
        have HC1 := hid (show Below W0.heap.size W0 W1 by rw [hW1]; exact (bBw _ _).drew)
        refine wp_region_any (by kernel_rfl) ?_
        refine wpAny_take (i := 1) (v := .pointer (some ⟨w.heap.size, 1, none⟩)) rfl (by kernel_rfl) (by kernel_rfl) (by kernel_rfl) (fun _ _ _ h => h) (Or.inl ⟨by rfl, by intro w; go_simp⟩) ?_
        refine wpAny_ready (rs := [0, 2]) (by kernel_rfl) (by simp) (AllReady.cons rfl (fun K hK => ?_) (AllReady.cons rfl (fun K hK => ?_) AllReady.nil))
        · skip
          go_simp
          refine (operators_any _).mono ?_
          rintro e w' ⟨rfl, rfl⟩
          go_simp
          refine hK _ _ ?_
          clear hK K
          refine wpAny_ready (rs := [2]) (by kernel_rfl) (by simp) (AllReady.cons rfl (fun K hK => ?_) AllReady.nil)
          go_simp
          refine hK _ _ ?_
          clear hK K
          refine wpAny_ready (rs := [3]) (by kernel_rfl) (by simp) (AllReady.cons rfl (fun K hK => ?_) AllReady.nil)
          go_simp
          refine hK _ _ ?_
          clear hK K
          rw [← hW1]
          have r_0 := cRg (keep_cell HC1.out x0)
          have r_1 := cRg (keep_cell HC1.out x1)
          have r_2 := cRg (keep_cell HC1.out x2)
          have r_3 := cRg (keep_cell HC1.out x3)
          have r_4 := cRg (keep_cell HC1.out x4)
          clear hLk y1 hW1 x0 x1 x2 x3 x4
          refine wpAny_tail4 (by kernel_rfl) (by kernel_rfl) ?_
          repeat (go_big_quiet_step (fail))
          refine wpQuiet_nil ?_
          intro _ hw'
          obtain ⟨⟨dq, osq⟩, hw''⟩ := hw'
          subst hw''
          have HG := hid (bTh HC1.out (below_regrown W1 dq osq))
          generalize hG : Go.Sort.grow (redrawn W1 dq) osq = G at *
          clear hG
          go_wp2
          go_ret
          exact ⟨rBo (by simp only [decide_eq_true_eq] at g1; have hh : ¬ subs.length = 2 := (by intro hh; simp [hh] at g3); simp [exprS_succ, exprStep, Nd.sub, g1, hh]), bTh HBOX.out HG.out⟩
        · skip
          go_simp
          refine hK _ _ ?_
          clear hK K
          refine wpAny_ready (rs := [0]) (by kernel_rfl) (by simp) (AllReady.cons rfl (fun K hK => ?_) AllReady.nil)
          go_simp
          refine (operators_any _).mono ?_
          rintro e w' ⟨rfl, rfl⟩
          go_simp
          refine hK _ _ ?_
          clear hK K
          refine wpAny_ready (rs := [3]) (by kernel_rfl) (by simp) (AllReady.cons rfl (fun K hK => ?_) AllReady.nil)
          go_simp
          refine hK _ _ ?_
          clear hK K
          rw [← hW1]
          have r_0 := cRg (keep_cell HC1.out x0)
          have r_1 := cRg (keep_cell HC1.out x1)
          have r_2 := cRg (keep_cell HC1.out x2)
          have r_3 := cRg (keep_cell HC1.out x3)
          have r_4 := cRg (keep_cell HC1.out x4)
          clear hLk y1 hW1 x0 x1 x2 x3 x4
          refine wpAny_tail4 (by kernel_rfl) (by kernel_rfl) ?_
          repeat (go_big_quiet_step (fail))
          refine wpQuiet_nil ?_
          intro _ hw'
          obtain ⟨⟨dq, osq⟩, hw''⟩ := hw'
          subst hw''
          have HG := hid (bTh HC1.out (below_regrown W1 dq osq))
          generalize hG : Go.Sort.grow (redrawn W1 dq) osq = G at *
          clear hG
          go_wp2
          go_ret
          exact ⟨rBo (by simp only [decide_eq_true_eq] at g1; have hh : ¬ subs.length = 2 := (by intro hh; simp [hh] at g3); simp [exprS_succ, exprStep, Nd.sub, g1, hh]), bTh HBOX.out HG.out⟩
      | true =>
        obtain ⟨x, y, rfl⟩ := len2 (l := subs) (by simpa using g3)
        obtain ⟨b, o, Ax, cx, rfl, hx_x, hk_x⟩ := hk.one (x := x) (r := [y]) rfl
        obtain ⟨Ay, cy, hx_y, hk_y⟩ := hk.nth rfl (i := 1) (x := y) rfl (p := o + 5) (by omega)
        simp only [List.length_cons, List.length_nil, Nat.zero_add] at hlen
        clear g3
        have HAT := hid (bAt w ⟨36, s, num, pos, [x, y]⟩ (some ⟨b, o, none⟩) c 24)
        have HX_x := hid (hx_x.below (bBw w (.cells #[.int .i64 36, .string s, .int .i64 num, .int .i64 pos, .slice (some ⟨b, o, none⟩) 2 c] 24)))
        have HK_x := hid (hk_x.below (bBw w (.cells #[.int .i64 36, .string s, .int .i64 num, .int .i64 pos, .slice (some ⟨b, o, none⟩) 2 c] 24)))
        clear hx_x hk_x
        have HX_y := hid (hx_y.below (bBw w (.cells #[.int .i64 36, .string s, .int .i64 num, .int .i64 pos, .slice (some ⟨b, o, none⟩) 2 c] 24)))
        have HK_y := hid (hk_y.below (bBw w (.cells #[.int .i64 36, .string s, .int .i64 num, .int .i64 pos, .slice (some ⟨b, o, none⟩) 2 c] 24)))
        clear hx_y hk_y
        clear hk
        obtain ⟨fx0, fx1, fx2, fx3, fx4⟩ := HX_x.out
        obtain ⟨fy0, fy1, fy2, fy3, fy4⟩ := HX_y.out
        cases g4 : exprS d x with
        | false =>
          go_enter Tryz.func55, Tryz.ntmps55
          go_wp2
          generalize hW0 : w.alloc (.cells #[.int .i64 36, .string s, .int .i64 num, .int .i64 pos, .slice (some ⟨b, o, none⟩) 2 c] 24) = W0 at *
          have HBOX := hid (show Below w.heap.size w W0 by rw [← hW0]; exact bBw _ _)
          clear hW0
          obtain ⟨x0, x1, x2, x3, x4⟩ := HAT.out
          obtain ⟨fx0, fx1, fx2, fx3, fx4⟩ := HX_x.out
          obtain ⟨fy0, fy1, fy2, fy3, fy4⟩ := HX_y.out
          have hLk := look_ops (W := (W0.alloc (litMap (setKV opsSS))).drew) (b := W0.heap.size) (heap_new W0 _) s
          rw [g1] at hLk
          have y1 := keep_cell (bBw W0 (litMap (setKV opsSS))) x1
          obtain ⟨W1, hW1⟩ : ∃ W1, W1 = (W0.alloc (litMap (setKV opsSS))).drew := ⟨_, rfl⟩
          have HC1 := hid (show Below W0.heap.size W0 W1 by rw [hW1]; exact (bBw _ _).drew)
          refine wp_region_any (by kernel_rfl) ?_
          refine wpAny_take (i := 1) (v := .pointer (some ⟨w.heap.size, 1, none⟩)) rfl (by kernel_rfl) (by kernel_rfl) (by kernel_rfl) (fun _ _ _ h => h) (Or.inl ⟨by rfl, by intro w; go_simp⟩) ?_
          refine wpAny_ready (rs := [0, 2]) (by kernel_rfl) (by simp) (AllReady.cons rfl (fun K hK => ?_) (AllReady.cons rfl (fun K hK => ?_) AllReady.nil))
          · skip
            go_simp
            refine (operators_any _).mono ?_
            rintro e w' ⟨rfl, rfl⟩
            go_simp
            refine hK _ _ ?_
            clear hK K
            refine wpAny_ready (rs := [2]) (by kernel_rfl) (by simp) (AllReady.cons rfl (fun K hK => ?_) AllReady.nil)
            go_simp
            refine hK _ _ ?_
            clear hK K
            refine wpAny_ready (rs := [3]) (by kernel_rfl) (by simp) (AllReady.cons rfl (fun K hK => ?_) AllReady.nil)
            go_simp
            refine hK _ _ ?_
            clear hK K
            rw [← hW1]
            have r_0 := cRg (keep_cell HC1.out x0)
            have r_1 := cRg (keep_cell HC1.out x1)
            have r_2 := cRg (keep_cell HC1.out x2)
            have r_3 := cRg (keep_cell HC1.out x3)
            have r_4 := cRg (keep_cell HC1.out x4)
            have r_5 := cRg (keep_cell HC1.out fx0)
            have r_6 := cRg (keep_cell HC1.out fx1)
            have r_7 := cRg (keep_cell HC1.out fx2)
            have r_8 := cRg (keep_cell HC1.out fx3)
            have r_9 := cRg (keep_cell HC1.out fx4)
            have r_10 := cRg (keep_cell HC1.out fy0)
            have r_11 := cRg (keep_cell HC1.out fy1)
            have r_12 := cRg (keep_cell HC1.out fy2)
            have r_13 := cRg (keep_cell HC1.out fy3)
            have r_14 := cRg (keep_cell HC1.out fy4)
            have cQ0 : ∀ dd os, Calls Tryz.prog 55 #[.agg #[.int .i64 x.kind, .string x.name, .int .i64 x.num, .int .i64 x.pos, .slice Ax x.subs.length cx]] (Go.Sort.grow (redrawn W1 dd) os) fun e w'' => e = .returned (.bool false) ∧ ∃ p : Regrown, w'' = Go.Sort.grow (redrawn W1 p.d) p.os := fun dd os => by rw [← g4]; exact Calls.regrown_of (hE.calls x Ax cx _ (HK_x.out.below (bTh HC1.out (below_regrown _ _ _))))
            clear hLk y1 hW1 x0 x1 x2 x3 x4 fx0 fx1 fx2 fx3 fx4 fy0 fy1 fy2 fy3 fy4
            refine wpAny_tail4 (by kernel_rfl) (by kernel_rfl) ?_
            repeat (go_big_quiet_step (first | with_reducible exact cQ0 _ _))
            refine wpQuiet_nil ?_
            intro _ hw'
            obtain ⟨⟨dq, osq⟩, hw''⟩ := hw'
            subst hw''
            have HG := hid (bTh HC1.out (below_regrown W1 dq osq))
            generalize hG : Go.Sort.grow (redrawn W1 dq) osq = G at *
            clear hG
            go_wp2
            go_ret
            exact ⟨rBo (by simp only [decide_eq_true_eq] at g1; simp only [beq_iff_eq] at g2; simp [exprS_succ, exprStep, Nd.sub, g1, g2, g4]), bTh HBOX.out HG.out⟩
          · skip
            go_simp
            refine hK _ _ ?_
            clear hK K
            refine wpAny_ready (rs := [0]) (by kernel_rfl) (by simp) (AllReady.cons rfl (fun K hK => ?_) AllReady.nil)
            go_simp
            refine (operators_any _).mono ?_
            rintro e w' ⟨rfl, rfl⟩
            go_simp
            refine hK _ _ ?_
            clear hK K
            refine wpAny_ready (rs := [3]) (by kernel_rfl) (by simp) (AllReady.cons rfl (fun K hK => ?_) AllReady.nil)
            go_simp
            refine hK _ _ ?_
            clear hK K
            rw [← hW1]
            have r_0 := cRg (keep_cell HC1.out x0)
            have r_1 := cRg (keep_cell HC1.out x1)
            have r_2 := cRg (keep_cell HC1.out x2)
            have r_3 := cRg (keep_cell HC1.out x3)
            have r_4 := cRg (keep_cell HC1.out x4)
            have r_5 := cRg (keep_cell HC1.out fx0)
            have r_6 := cRg (keep_cell HC1.out fx1)
            have r_7 := cRg (keep_cell HC1.out fx2)
            have r_8 := cRg (keep_cell HC1.out fx3)
            have r_9 := cRg (keep_cell HC1.out fx4)
            have r_10 := cRg (keep_cell HC1.out fy0)
            have r_11 := cRg (keep_cell HC1.out fy1)
            have r_12 := cRg (keep_cell HC1.out fy2)
            have r_13 := cRg (keep_cell HC1.out fy3)
            have r_14 := cRg (keep_cell HC1.out fy4)
            have cQ0 : ∀ dd os, Calls Tryz.prog 55 #[.agg #[.int .i64 x.kind, .string x.name, .int .i64 x.num, .int .i64 x.pos, .slice Ax x.subs.length cx]] (Go.Sort.grow (redrawn W1 dd) os) fun e w'' => e = .returned (.bool false) ∧ ∃ p : Regrown, w'' = Go.Sort.grow (redrawn W1 p.d) p.os := fun dd os => by rw [← g4]; exact Calls.regrown_of (hE.calls x Ax cx _ (HK_x.out.below (bTh HC1.out (below_regrown _ _ _))))
            clear hLk y1 hW1 x0 x1 x2 x3 x4 fx0 fx1 fx2 fx3 fx4 fy0 fy1 fy2 fy3 fy4
            refine wpAny_tail4 (by kernel_rfl) (by kernel_rfl) ?_
            repeat (go_big_quiet_step (first | with_reducible exact cQ0 _ _))
            refine wpQuiet_nil ?_
            intro _ hw'
            obtain ⟨⟨dq, osq⟩, hw''⟩ := hw'
            subst hw''
            have HG := hid (bTh HC1.out (below_regrown W1 dq osq))
            generalize hG : Go.Sort.grow (redrawn W1 dq) osq = G at *
            clear hG
            go_wp2
            go_ret
            exact ⟨rBo (by simp only [decide_eq_true_eq] at g1; simp only [beq_iff_eq] at g2; simp [exprS_succ, exprStep, Nd.sub, g1, g2, g4]), bTh HBOX.out HG.out⟩
        | true =>
          go_enter Tryz.func55, Tryz.ntmps55
          go_wp2
          generalize hW0 : w.alloc (.cells #[.int .i64 36, .string s, .int .i64 num, .int .i64 pos, .slice (some ⟨b, o, none⟩) 2 c] 24) = W0 at *
          have HBOX := hid (show Below w.heap.size w W0 by rw [← hW0]; exact bBw _ _)
          clear hW0
          obtain ⟨x0, x1, x2, x3, x4⟩ := HAT.out
          obtain ⟨fx0, fx1, fx2, fx3, fx4⟩ := HX_x.out
          obtain ⟨fy0, fy1, fy2, fy3, fy4⟩ := HX_y.out
          have hLk := look_ops (W := (W0.alloc (litMap (setKV opsSS))).drew) (b := W0.heap.size) (heap_new W0 _) s
          rw [g1] at hLk
          have y1 := keep_cell (bBw W0 (litMap (setKV opsSS))) x1
          obtain ⟨W1, hW1⟩ : ∃ W1, W1 = (W0.alloc (litMap (setKV opsSS))).drew := ⟨_, rfl⟩
          have HC1 := hid (show Below W0.heap.size W0 W1 by rw [hW1]; exact (bBw _ _).drew)
          refine wp_region_any (by kernel_rfl) ?_
          refine wpAny_take (i := 1) (v := .pointer (some ⟨w.heap.size, 1, none⟩)) rfl (by kernel_rfl) (by kernel_rfl) (by kernel_rfl) (fun _ _ _ h => h) (Or.inl ⟨by rfl, by intro w; go_simp⟩) ?_
          refine wpAny_ready (rs := [0, 2]) (by kernel_rfl) (by simp) (AllReady.cons rfl (fun K hK => ?_) (AllReady.cons rfl (fun K hK => ?_) AllReady.nil))
          · skip
            go_simp
            refine (operators_any _).mono ?_
            rintro e w' ⟨rfl, rfl⟩
            go_simp
            refine hK _ _ ?_
            clear hK K
            refine wpAny_ready (rs := [2]) (by kernel_rfl) (by simp) (AllReady.cons rfl (fun K hK => ?_) AllReady.nil)
            go_simp
            refine hK _ _ ?_
            clear hK K
            refine wpAny_ready (rs := [3]) (by kernel_rfl) (by simp) (AllReady.cons rfl (fun K hK => ?_) AllReady.nil)
            go_simp
            refine hK _ _ ?_
            clear hK K
            rw [← hW1]
            have r_0 := cRg (keep_cell HC1.out x0)
            have r_1 := cRg (keep_cell HC1.out x1)
            have r_2 := cRg (keep_cell HC1.out x2)
            have r_3 := cRg (keep_cell HC1.out x3)
            have r_4 := cRg (keep_cell HC1.out x4)
            have r_5 := cRg (keep_cell HC1.out fx0)
            have r_6 := cRg (keep_cell HC1.out fx1)
            have r_7 := cRg (keep_cell HC1.out fx2)
            have r_8 := cRg (keep_cell HC1.out fx3)
            have r_9 := cRg (keep_cell HC1.out fx4)
            have r_10 := cRg (keep_cell HC1.out fy0)
            have r_11 := cRg (keep_cell HC1.out fy1)
            have r_12 := cRg (keep_cell HC1.out fy2)
            have r_13 := cRg (keep_cell HC1.out fy3)
            have r_14 := cRg (keep_cell HC1.out fy4)
            have cQ0 : ∀ dd os, Calls Tryz.prog 55 #[.agg #[.int .i64 x.kind, .string x.name, .int .i64 x.num, .int .i64 x.pos, .slice Ax x.subs.length cx]] (Go.Sort.grow (redrawn W1 dd) os) fun e w'' => e = .returned (.bool true) ∧ ∃ p : Regrown, w'' = Go.Sort.grow (redrawn W1 p.d) p.os := fun dd os => by rw [← g4]; exact Calls.regrown_of (hE.calls x Ax cx _ (HK_x.out.below (bTh HC1.out (below_regrown _ _ _))))
            have cQ1 : ∀ dd os, Calls Tryz.prog 55 #[.agg #[.int .i64 y.kind, .string y.name, .int .i64 y.num, .int .i64 y.pos, .slice Ay y.subs.length cy]] (Go.Sort.grow (redrawn W1 dd) os) fun e w'' => e = .returned (.bool (exprS d y)) ∧ ∃ p : Regrown, w'' = Go.Sort.grow (redrawn W1 p.d) p.os := fun dd os => Calls.regrown_of (hE.calls y Ay cy _ (HK_y.out.below (bTh HC1.out (below_regrown _ _ _))))
            clear hLk y1 hW1 x0 x1 x2 x3 x4 fx0 fx1 fx2 fx3 fx4 fy0 fy1 fy2 fy3 fy4
            refine wpAny_tail4 (by kernel_rfl) (by kernel_rfl) ?_
            repeat (go_big_quiet_step (first | with_reducible exact cQ0 _ _ | with_reducible exact cQ1 _ _))
            refine wpQuiet_nil ?_
            intro _ hw'
            obtain ⟨⟨dq, osq⟩, hw''⟩ := hw'
            subst hw''
            have HG := hid (bTh HC1.out (below_regrown W1 dq osq))
            generalize hG : Go.Sort.grow (redrawn W1 dq) osq = G at *
            clear hG
            go_wp2
            go_ret
            exact ⟨rBo (by simp only [decide_eq_true_eq] at g1; simp only [beq_iff_eq] at g2; simp [exprS_succ, exprStep, Nd.sub, g1, g2, g4]), bTh HBOX.out HG.out⟩
          · skip
            go_simp
            refine hK _ _ ?_
            clear hK K
            refine wpAny_ready (rs := [0]) (by kernel_rfl) (by simp) (AllReady.cons rfl (fun K hK => ?_) AllReady.nil)
            go_simp
            refine (operators_any _).mono ?_
            rintro e w' ⟨rfl, rfl⟩
            go_simp
            refine hK _ _ ?_
            clear hK K
            refine wpAny_ready (rs := [3]) (by kernel_rfl) (by simp) (AllReady.cons rfl (fun K hK => ?_) AllReady.nil)
            go_simp
            refine hK _ _ ?_
            clear hK K
            rw [← hW1]
            have r_0 := cRg (keep_cell HC1.out x0)
            have r_1 := cRg (keep_cell HC1.out x1)
            have r_2 := cRg (keep_cell HC1.out x2)
            have r_3 := cRg (keep_cell HC1.out x3)
            have r_4 := cRg (keep_cell HC1.out x4)
            have r_5 := cRg (keep_cell HC1.out fx0)
            have r_6 := cRg (keep_cell HC1.out fx1)
            have r_7 := cRg (keep_cell HC1.out fx2)
            have r_8 := cRg (keep_cell HC1.out fx3)
            have r_9 := cRg (keep_cell HC1.out fx4)
            have r_10 := cRg (keep_cell HC1.out fy0)
            have r_11 := cRg (keep_cell HC1.out fy1)
            have r_12 := cRg (keep_cell HC1.out fy2)
            have r_13 := cRg (keep_cell HC1.out fy3)
            have r_14 := cRg (keep_cell HC1.out fy4)
            have cQ0 : ∀ dd os, Calls Tryz.prog 55 #[.agg #[.int .i64 x.kind, .string x.name, .int .i64 x.num, .int .i64 x.pos, .slice Ax x.subs.length cx]] (Go.Sort.grow (redrawn W1 dd) os) fun e w'' => e = .returned (.bool true) ∧ ∃ p : Regrown, w'' = Go.Sort.grow (redrawn W1 p.d) p.os := fun dd os => by rw [← g4]; exact Calls.regrown_of (hE.calls x Ax cx _ (HK_x.out.below (bTh HC1.out (below_regrown _ _ _))))
            have cQ1 : ∀ dd os, Calls Tryz.prog 55 #[.agg #[.int .i64 y.kind, .string y.name, .int .i64 y.num, .int .i64 y.pos, .slice Ay y.subs.length cy]] (Go.Sort.grow (redrawn W1 dd) os) fun e w'' => e = .returned (.bool (exprS d y)) ∧ ∃ p : Regrown, w'' = Go.Sort.grow (redrawn W1 p.d) p.os := fun dd os => Calls.regrown_of (hE.calls y Ay cy _ (HK_y.out.below (bTh HC1.out (below_regrown _ _ _))))
            clear hLk y1 hW1 x0 x1 x2 x3 x4 fx0 fx1 fx2 fx3 fx4 fy0 fy1 fy2 fy3 fy4
            refine wpAny_tail4 (by kernel_rfl) (by kernel_rfl) ?_
            repeat (go_big_quiet_step (first | with_reducible exact cQ0 _ _ | with_reducible exact cQ1 _ _))
            refine wpQuiet_nil ?_
            intro _ hw'
            obtain ⟨⟨dq, osq⟩, hw''⟩ := hw'
            subst hw''
            have HG := hid (bTh HC1.out (below_regrown W1 dq osq))
            generalize hG : Go.Sort.grow (redrawn W1 dq) osq = G at *
            clear hG
            go_wp2
            go_ret
            exact ⟨rBo (by simp only [decide_eq_true_eq] at g1; simp only [beq_iff_eq] at g2; simp [exprS_succ, exprStep, Nd.sub, g1, g2, g4]), bTh HBOX.out HG.out⟩
end Go.Proofs.YtneohanphabneaaGreatDoor
