/-
Trees of nodes, and what it means that one lies in memory. No walk stands here. Conditions: none.
-/
import Derived.Test.YtneohanphabneaaGreatDoorName
namespace Go.Proofs.YtneohanphabneaaGreatDoor
set_option linter.unusedSimpArgs false
set_option linter.unusedVariables false
open Go.RowKit
/-- A node of a tree. -/
structure Nd where
 kind : Int
 name : ByteArray
 num : Int
 pos : Int
 subs : List Nd
/-- The five cells of a node at an offset of a block; its children's slice lies at A. -/
structure NdAt (w : World) (b o : Nat) (n : Nd) (A : Option Addr) (c : Nat) : Prop where
 c0 : w.cell? ⟨b, o, none⟩ = some (.int .i64 n.kind)
 c1 : w.cell? ⟨b, o + 1, none⟩ = some (.string n.name)
 c2 : w.cell? ⟨b, o + 2, none⟩ = some (.int .i64 n.num)
 c3 : w.cell? ⟨b, o + 3, none⟩ = some (.int .i64 n.pos)
 c4 : w.cell? ⟨b, o + 4, none⟩ = some (.slice A n.subs.length c)
/-- The children lie at A, and theirs below them, d levels at most. -/
def Kids (w : World) : Nat → Nd → Option Addr → Nat → Prop
 | 0, _, _, _ => False
 | d + 1, n, A, c => n.name.size ≤ maxLen ∧ n.subs.length ≤ c ∧ c ≤ maxLen ∧ ∀ i x, n.subs[i]? = some x → ∃ b o Ax cx, A = some ⟨b, o, none⟩ ∧ NdAt w b (o + i * 5) x Ax cx ∧ Kids w d x Ax cx
theorem NdAt.below {w w' : World} {b o : Nat} {n : Nd} {A : Option Addr} {c : Nat} (h : NdAt w b o n A c) (hb : Below w.heap.size w w') : NdAt w' b o n A c :=
 ⟨keep_cell hb h.c0, keep_cell hb h.c1, keep_cell hb h.c2, keep_cell hb h.c3, keep_cell hb h.c4⟩
theorem nb {w w' : World} {b o : Nat} {n : Nd} {A : Option Addr} {c : Nat} (h : RowKit.Hid (NdAt w b o n A c)) (hb : RowKit.Hid (Below w.heap.size w w')) : NdAt w' b o n A c := h.out.below hb.out
theorem NdAt.lt {w : World} {b o : Nat} {n : Nd} {A : Option Addr} {c : Nat} (h : NdAt w b o n A c) : b < w.heap.size := lt_of_cell h.c0
theorem Kids.below {w w' : World} (hb : Below w.heap.size w w') : ∀ {d : Nat} {n : Nd} {A : Option Addr} {c : Nat}, Kids w d n A c → Kids w' d n A c
 | 0, _, _, _, h => h.elim
 | d + 1, n, A, c, h => by
  obtain ⟨h0, h1, h2, h3⟩ := h
  refine ⟨h0, h1, h2, fun i x hx => ?_⟩
  obtain ⟨b, o, Ax, cx, hA, hat, hk⟩ := h3 i x hx
  exact ⟨b, o, Ax, cx, hA, hat.below hb, Kids.below hb hk⟩
theorem kb {w w' : World} {d : Nat} {n : Nd} {A : Option Addr} {c : Nat} (h : RowKit.Hid (Kids w d n A c)) (hb : RowKit.Hid (Below w.heap.size w w')) : Kids w' d n A c := h.out.below hb.out
theorem Kids.len {w : World} {d : Nat} {n : Nd} {A : Option Addr} {c : Nat} (h : Kids w d n A c) : n.subs.length ≤ maxLen := by
 cases d with
 | zero => exact h.elim
 | succ d => obtain ⟨_, h1, h2, _⟩ := h; omega
theorem Kids.name_le {w : World} {d : Nat} {n : Nd} {A : Option Addr} {c : Nat} (h : Kids w d n A c) : n.name.size ≤ maxLen := by
 cases d with
 | zero => exact h.elim
 | succ d => exact h.1
theorem Kids.at {w : World} {d : Nat} {n : Nd} {A : Option Addr} {c : Nat} (h : Kids w (d + 1) n A c) {i : Nat} (hi : i < n.subs.length) : ∃ b o Ax cx, A = some ⟨b, o, none⟩ ∧ NdAt w b (o + i * 5) n.subs[i] Ax cx ∧ Kids w d n.subs[i] Ax cx :=
 h.2.2.2 i _ (List.getElem?_eq_getElem hi)
theorem Kids.kid {w : World} {d : Nat} {n : Nd} {A : Option Addr} {c : Nat} (h : Kids w (d + 1) n A c) {i : Nat} {x : Nd} (hx : n.subs[i]? = some x) : ∃ b o Ax cx, A = some ⟨b, o, none⟩ ∧ NdAt w b (o + i * 5) x Ax cx ∧ Kids w d x Ax cx :=
 h.2.2.2 i x hx
/-- The first children, by name: one, two, four, six of them. -/
theorem Kids.one {w : World} {d : Nat} {n : Nd} {A : Option Addr} {c : Nat} (h : Kids w (d + 1) n A c) {x : Nd} {r : List Nd} (hs : n.subs = x :: r) : ∃ b o Ax cx, A = some ⟨b, o, none⟩ ∧ NdAt w b o x Ax cx ∧ Kids w d x Ax cx := by
 obtain ⟨b, o, Ax, cx, hA, h1, h2⟩ := h.kid (i := 0) (x := x) (by rw [hs]; rfl)
 exact ⟨b, o, Ax, cx, hA, by simpa using h1, h2⟩
theorem Kids.nth {w : World} {d : Nat} {n : Nd} {A : Option Addr} {c b o : Nat} (h : Kids w (d + 1) n A c) (hA : A = some ⟨b, o, none⟩) {i : Nat} {x : Nd} (hx : n.subs[i]? = some x) {p : Nat} (hp : p = o + i * 5) : ∃ Ax cx, NdAt w b p x Ax cx ∧ Kids w d x Ax cx := by
 obtain ⟨b', o', Ax, cx, hA', h1, h2⟩ := h.kid hx
 rw [hA] at hA'
 injection hA' with hA'
 injection hA' with h3 h4
 subst h3; subst h4; subst hp
 exact ⟨Ax, cx, h1, h2⟩
theorem bAt (w : World) (n : Nd) (A : Option Addr) (c : Nat) (T : TypeId) : NdAt (w.alloc (.cells #[.int .i64 n.kind, .string n.name, .int .i64 n.num, .int .i64 n.pos, .slice A n.subs.length c] T)) w.heap.size 0 n A c :=
 ⟨by simp, by simp, by simp, by simp, by simp⟩
theorem bBw (w : World) (o : Obj) : Below w.heap.size w (w.alloc o) := (Below.refl _ _).alloc (Nat.le_refl _) _
theorem box_step {w w' : World} {o : Obj} (h : Below (w.alloc o).heap.size (w.alloc o) w') : Below w.heap.size w w' := (bBw w o).trans (h.mono (by simp))
theorem bTh {w a b : World} (h : Below w.heap.size w a) (k : Below a.heap.size a b) : Below w.heap.size w b := h.trans (k.mono h.size)
/-- A list of trees lies at A, d levels each at most. -/
def KidsL (w : World) (d : Nat) (l : List Nd) (A : Option Addr) (c : Nat) : Prop :=
 l.length ≤ c ∧ c ≤ maxLen ∧ ∀ i x, l[i]? = some x → ∃ b o Ax cx, A = some ⟨b, o, none⟩ ∧ NdAt w b (o + i * 5) x Ax cx ∧ Kids w d x Ax cx
theorem Kids.list {w : World} {d : Nat} {n : Nd} {A : Option Addr} {c : Nat} (h : Kids w (d + 1) n A c) : KidsL w d n.subs A c := ⟨h.2.1, h.2.2.1, h.2.2.2⟩
theorem KidsL.below {w w' : World} (hb : Below w.heap.size w w') {d : Nat} {l : List Nd} {A : Option Addr} {c : Nat} (h : KidsL w d l A c) : KidsL w' d l A c := by
 refine ⟨h.1, h.2.1, fun i x hx => ?_⟩
 obtain ⟨b, o, Ax, cx, hA, hat, hk⟩ := h.2.2 i x hx
 exact ⟨b, o, Ax, cx, hA, hat.below hb, hk.below hb⟩
theorem KidsL.at {w : World} {d : Nat} {l : List Nd} {A : Option Addr} {c : Nat} (h : KidsL w d l A c) {i : Nat} (hi : i < l.length) : ∃ b o Ax cx, A = some ⟨b, o, none⟩ ∧ NdAt w b (o + i * 5) l[i] Ax cx ∧ Kids w d l[i] Ax cx :=
 h.2.2 i _ (List.getElem?_eq_getElem hi)
theorem KidsL.len {w : World} {d : Nat} {l : List Nd} {A : Option Addr} {c : Nat} (h : KidsL w d l A c) : l.length ≤ maxLen := Nat.le_trans h.1 h.2.1
/-- l[1:]. -/
theorem KidsL.tail {w : World} {d : Nat} {x : Nd} {r : List Nd} {b o c : Nat} (h : KidsL w d (x :: r) (some ⟨b, o, none⟩) c) {A' : Option Addr} (hA : 1 < c → A' = some ⟨b, o + 5, none⟩) : KidsL w d r A' (c - 1) := by
 have h1 := h.1
 have h2 := h.2.1
 simp only [List.length_cons] at h1
 refine ⟨by omega, by omega, fun i y hy => ?_⟩
 have hi : i < r.length := (List.getElem?_eq_some_iff.1 hy).1
 obtain ⟨b', o', Ax, cx, hA', hat, hk⟩ := h.2.2 (i + 1) y (by simpa using hy)
 injection hA' with hA'
 injection hA' with h3 h4
 subst h3; subst h4
 refine ⟨b, o + 5, Ax, cx, hA (by omega), ?_, hk⟩
 rw [show o + 5 + i * 5 = o + (i + 1) * 5 by omega]
 exact hat
theorem all_bad {p : Nd → Bool} {l : List Nd} {j : Nat} (h : j < l.length) (hp : p l[j] = false) : l.all p = false := by
 rw [Bool.eq_false_iff]
 intro ha
 rw [List.all_eq_true.1 ha _ (List.getElem_mem h)] at hp
 cases hp
theorem all_step {p : Nd → Bool} {l : List Nd} {j : Nat} (h : j < l.length) (h0 : (l.take j).all p = true) (hp : p l[j] = true) : (l.take (j + 1)).all p = true := by
 rw [List.take_succ_eq_append_getElem h, List.all_append, h0]
 simp [hp]
theorem all_end {p : Nd → Bool} {l : List Nd} {j : Nat} (h : ¬ j < l.length) (h0 : (l.take j).all p = true) : l.all p = true := by
 rwa [List.take_of_length_le (by omega)] at h0
end Go.Proofs.YtneohanphabneaaGreatDoor
