/-
What an error is found to be; an argument of the type Node. Conditions: the variables are as they are laid.
-/
import Derived.Test.YtneohanphabneaaGreatDoorProg
import Derived.WalkKit
import Derived.LaidEql
import Derived.Stop.Asserts
import Derived.RowKitTokens
import Derived.Lib.Hide
import Derived.Outline
import Derived.BigQuiet
import Derived.WalkLawsBesides
import Derived.WalkSpells
import Derived.Test.YtneohanphabneaaGreatDoorBase
import Derived.Lib.SmallJoins
import Derived.Deep.Slices
import Derived.Deep.Fields
import Derived.ChangeSame
import Derived.Test.YtneohanphabneaaGreatDoorRows
import Derived.SliceStrings
import Derived.LaidMore
import Derived.ProofKit
import Derived.OpenShut
import Derived.Stop.Joined
namespace Go.Proofs.YtneohanphabneaaGreatDoor
set_option linter.unusedSimpArgs false
set_option linter.unusedVariables false
open Go.RowKit Go.Extern.Stop Go.Stop Go.Extern
/-- The handle of a type. -/
abbrev hnd (t : Nat) : Value := .pointer (some ⟨6, t, none⟩)
/-- The variable errors.errorType, as it is laid. -/
def ErrLaid (w : World) : Prop := w.cell? ⟨0, 0, none⟩ = some (.iface 135 (.agg #[hnd 29]))
theorem valueOfPF (t : Addr) (w : World) : (ReflectliteValue.unpack (.iface 84 (.pointer (some t)))).run Tryz.prog w
  = .ok (.agg #[hnd 84, .pointer (some ⟨w.heap.size, 0, none⟩), .int .u64 150]) (w.alloc (.cells #[.pointer (some t)] 84)) := by kernel_rfl
theorem valueOfPE (t : Addr) (w : World) : (ReflectliteValue.unpack (.iface 87 (.pointer (some t)))).run Tryz.prog w
  = .ok (.agg #[hnd 87, .pointer (some ⟨w.heap.size, 0, none⟩), .int .u64 150]) (w.alloc (.cells #[.pointer (some t)] 87)) := by kernel_rfl
theorem valueOfE (n : Int) (w : World) : (ReflectliteValue.unpack (.iface 26 (.int .i64 n))).run Tryz.prog w
  = .ok (.agg #[hnd 26, .pointer (some ⟨w.heap.size, 0, none⟩), .int .u64 130]) (w.alloc (.cells #[.int .i64 n] 26)) := by kernel_rfl
theorem typePF (a : Addr) (w : World) : (ReflectliteValue.methodAny (ReflectliteValue.valueError "reflectlite.Value.Type" 0) (fun t _ _ _ => ReflectliteType.toType t) #[.agg #[hnd 84, .pointer (some a), .int .u64 150]]).run Tryz.prog w
  = .ok (.iface 135 (.agg #[hnd 84])) w := by kernel_rfl
theorem typePE (a : Addr) (w : World) : (ReflectliteValue.methodAny (ReflectliteValue.valueError "reflectlite.Value.Type" 0) (fun t _ _ _ => ReflectliteType.toType t) #[.agg #[hnd 87, .pointer (some a), .int .u64 150]]).run Tryz.prog w
  = .ok (.iface 135 (.agg #[hnd 87])) w := by kernel_rfl
theorem methodKind (h : Value) (w : World) : (Go.method 298 135 (.agg #[h]) "Kind").run Tryz.prog w = .ok (187, h) w := by kernel_rfl
theorem methodElem (h : Value) (w : World) : (Go.method 298 135 (.agg #[h]) "Elem").run Tryz.prog w = .ok (200, .agg #[h]) w := by kernel_rfl
theorem methodImplements (h : Value) (w : World) : (Go.method 298 135 (.agg #[h]) "Implements").run Tryz.prog w = .ok (201, .agg #[h]) w := by kernel_rfl
theorem methodAssignableTo (h : Value) (w : World) : (Go.method 298 135 (.agg #[h]) "AssignableTo").run Tryz.prog w = .ok (198, .agg #[h]) w := by kernel_rfl
theorem kindPF (w : World) : ((ReflectliteType.abiMethod fun t => Functor.map (fun a : Nat => Value.int IntKind.u8 (a : Int)) (Rtype.kind t)) #[hnd 84]).run Tryz.prog w = .ok (.int .u8 22) w := by kernel_rfl
theorem kindPE (w : World) : ((ReflectliteType.abiMethod fun t => Functor.map (fun a : Nat => Value.int IntKind.u8 (a : Int)) (Rtype.kind t)) #[hnd 87]).run Tryz.prog w = .ok (.int .u8 22) w := by kernel_rfl
theorem kindF (w : World) : ((ReflectliteType.abiMethod fun t => Functor.map (fun a : Nat => Value.int IntKind.u8 (a : Int)) (Rtype.kind t)) #[hnd 82]).run Tryz.prog w = .ok (.int .u8 22) w := by kernel_rfl
theorem kindE (w : World) : ((ReflectliteType.abiMethod fun t => Functor.map (fun a : Nat => Value.int IntKind.u8 (a : Int)) (Rtype.kind t)) #[hnd 26]).run Tryz.prog w = .ok (.int .u8 2) w := by kernel_rfl
theorem rlm (z : Sem Value) (f : TypeId → Addr → Nat → Nat → Sem Value) (v : Value) :
  ReflectliteValue.method z f #[v] = (do match ← ReflectliteValue.parts v with | none => z | some (t, a, fl) => f t a fl (fl % 32)) := rfl
theorem partsPF (a : Addr) (w : World) : (ReflectliteValue.parts (.agg #[hnd 84, .pointer (some a), .int .u64 150])).run Tryz.prog w = .ok (some (84, a, 150)) w := by kernel_rfl
theorem partsPE (a : Addr) (w : World) : (ReflectliteValue.parts (.agg #[hnd 87, .pointer (some a), .int .u64 150])).run Tryz.prog w = .ok (some (87, a, 150)) w := by kernel_rfl
theorem isNilPF (a p : Addr) (W : World) (ha : W.cell? a = some (.pointer (some p))) :
  (ReflectliteValue.method (ReflectliteValue.valueError "reflectlite.Value.IsNil" 0) ReflectliteValue.isNil #[.agg #[hnd 84, .pointer (some a), .int .u64 150]]).run Tryz.prog W = .ok (.bool false) W := by
 rw [rlm]
 simp only [Sem.run_bind, partsPF, Result.andThen]
 simp [ReflectliteValue.isNil, loadVar, isAgg, underlying, Tryz.underlying84, ha, Result.andThen]
theorem isNilPE (a p : Addr) (W : World) (ha : W.cell? a = some (.pointer (some p))) :
  (ReflectliteValue.method (ReflectliteValue.valueError "reflectlite.Value.IsNil" 0) ReflectliteValue.isNil #[.agg #[hnd 87, .pointer (some a), .int .u64 150]]).run Tryz.prog W = .ok (.bool false) W := by
 rw [rlm]
 simp only [Sem.run_bind, partsPE, Result.andThen]
 simp [ReflectliteValue.isNil, loadVar, isAgg, underlying, Tryz.underlying87, ha, Result.andThen]
theorem elemPF (w : World) : (ReflectliteType.method ReflectliteType.elem #[.agg #[hnd 84]]).run Tryz.prog w = .ok (.iface 135 (.agg #[hnd 82])) w := by kernel_rfl
theorem elemPE (w : World) : (ReflectliteType.method ReflectliteType.elem #[.agg #[hnd 87]]).run Tryz.prog w = .ok (.iface 135 (.agg #[hnd 26])) w := by kernel_rfl
theorem implementsF (w : World) : (ReflectliteType.relation "Implements" ReflectliteType.implements_ #[.agg #[hnd 82], .iface 135 (.agg #[hnd 29])]).run Tryz.prog w = .ok (.bool true) w := by kernel_rfl
theorem implementsE (w : World) : (ReflectliteType.relation "Implements" ReflectliteType.implements_ #[.agg #[hnd 26], .iface 135 (.agg #[hnd 29])]).run Tryz.prog w = .ok (.bool true) w := by kernel_rfl
theorem typeOfE (v : Value) (w : World) : (ReflectliteType.typeOf #[.iface 26 v]).run Tryz.prog w = .ok (.iface 135 (.agg #[hnd 26])) w := by kernel_rfl
theorem assignEE (w : World) : (ReflectliteType.relation "AssignableTo" ReflectliteType.assignableTo #[.agg #[hnd 26], .iface 135 (.agg #[hnd 26])]).run Tryz.prog w = .ok (.bool true) w := by kernel_rfl
theorem assignEF (w : World) : (ReflectliteType.relation "AssignableTo" ReflectliteType.assignableTo #[.agg #[hnd 26], .iface 135 (.agg #[hnd 82])]).run Tryz.prog w = .ok (.bool false) w := by kernel_rfl
theorem elemOfPE (w : World) : (Rtype.elem? 87).run Tryz.prog w = .ok (some 26) w := by kernel_rfl
theorem mkE (p : Addr) (w : World) : (ReflectliteValue.mk 26 p ReflectliteValue.flagAddr).run Tryz.prog w = .ok (.agg #[hnd 26, .pointer (some p), .int .u64 386]) w := by kernel_rfl
theorem elemVPE (a p : Addr) (W : World) (ha : W.cell? a = some (.pointer (some p))) :
  (ReflectliteValue.method (ReflectliteValue.valueError "reflectlite.Value.Elem" 0) ReflectliteValue.elem #[.agg #[hnd 87, .pointer (some a), .int .u64 150]]).run Tryz.prog W
   = .ok (.agg #[hnd 26, .pointer (some p), .int .u64 386]) W := by
 rw [rlm]
 simp only [Sem.run_bind, partsPE, Result.andThen]
 simp [ReflectliteValue.elem, loadVar, isAgg, underlying, Tryz.underlying87, ha, Result.andThen, elemOfPE, mkE]
theorem rls (v x : Value) : ReflectliteValue.set #[v, x] = (do
  let (some (dst, a, fl), some (src, b, _)) := (← ReflectliteValue.parts v, ← ReflectliteValue.parts x)
   | unsupported (.noEntry "extern/(internal/reflectlite.Value).Set.zeroValue")
  if fl / ReflectliteValue.flagAddr % 2 == 0 then unsupported (.noEntry "extern/(internal/reflectlite.Value).Set.unaddressable")
  let val ← loadVar src b
  if ← Rtype.directlyAssignable dst src then storeVar dst a val
  else if ← Rtype.implements dst src then
   if (← Rtype.kind src) == 20 then
    match val with
    | .nilIface => unsupported (.noEntry "extern/reflectlite: a nil value of one interface type handed on as a value of another")
    | _ => storeVar dst a val
   else storeVar dst a (.iface src val)
  else panicString ("reflectlite.Set: value of type " ++ (← Rtype.spelt src) ++ " is not assignable to type " ++ (← Rtype.spelt dst))
  pure (.tuple #[])) := rfl
theorem partsEa (a : Addr) (w : World) : (ReflectliteValue.parts (.agg #[hnd 26, .pointer (some a), .int .u64 386])).run Tryz.prog w = .ok (some (26, a, 386)) w := by kernel_rfl
theorem partsE (a : Addr) (w : World) : (ReflectliteValue.parts (.agg #[hnd 26, .pointer (some a), .int .u64 130])).run Tryz.prog w = .ok (some (26, a, 130)) w := by kernel_rfl
theorem directE (w : World) : (Rtype.directlyAssignable 26 26).run Tryz.prog w = .ok true w := by kernel_rfl
theorem setE (ta b : Addr) (n : Int) (old : Value) (W : World) (hb : W.cell? b = some (.int .i64 n)) (ht : W.cell? ta = some old) (hf : W.frozen? ta = false) :
  (ReflectliteValue.set #[.agg #[hnd 26, .pointer (some ta), .int .u64 386], .agg #[hnd 26, .pointer (some b), .int .u64 130]]).run Tryz.prog W
   = .ok (.tuple #[]) (W.setCell ta (.int .i64 n)) := by
 rw [rls]
 simp only [Sem.run_bind, partsEa, partsE, Result.andThen]
 simp [ReflectliteValue.flagAddr, loadVar, isAgg, underlying, Tryz.underlying26, hb, Result.andThen, directE, storeVar, Value.cells, storeCells, Addr.add]
 rw [run_store Tryz.prog W ta _ _ (by rfl)]
 simp [ht, hf]
end Go.Proofs.YtneohanphabneaaGreatDoor
namespace Go.Proofs.YtneohanphabneaaGreatDoor
set_option linter.unusedSimpArgs false
set_option linter.unusedVariables false
open Go.RowKit Go.Extern.Stop Go.Stop Go.Extern
theorem ErrLaid.below {w w' : World} (h : ErrLaid w) (hb : Below w.heap.size w w') : ErrLaid w' := by
 have hlt : 0 < w.heap.size := by
  rcases Nat.lt_or_ge 0 w.heap.size with h' | h'
  ·exact h'
  ·simp [ErrLaid, World.cell?, Array.getElem?_eq_none h'] at h
 exact (hb.cell (p := ⟨0, 0, none⟩) hlt).trans h
set_option maxHeartbeats 4000000 in
theorem as_hitE (n : Int) (t : Addr) (old : Value) (w : World) (hg : ErrLaid w) (ht0 : w.cell? t = some old) (hf0 : w.frozen? t = false) :
  Calls Tryz.prog 74 #[.iface 26 (.int .i64 n), .iface 87 (.pointer (some t))] w fun ev w' => ev = .returned (.bool true) ∧ w' = ((((w.alloc (.cells #[.pointer (some t)] 87)).alloc (.cells #[hnd 87, .pointer (some ⟨w.heap.size, 0, none⟩), .int .u64 150] 115)).alloc (.cells #[hnd 87, .pointer (some ⟨w.heap.size, 0, none⟩), .int .u64 150] 115)).alloc (.cells #[.int .i64 n] 26)).setCell t (.int .i64 n) := by
 unfold ErrLaid at hg
 have xV := @run_callFunc_extern Tryz.prog 120 _ (fun args => ReflectliteValue.unpack (args.getD 0 (.tuple #[]))) Tryz.func120 (by kernel_rfl) (by kernel_rfl) (by kernel_rfl) (by kernel_rfl)
 have xT := @run_callFunc_extern Tryz.prog 121 _ (ReflectliteValue.methodAny (ReflectliteValue.valueError "reflectlite.Value.Type" 0) (fun t _ _ _ => ReflectliteType.toType t)) Tryz.func121 (by kernel_rfl) (by kernel_rfl) (by kernel_rfl) (by kernel_rfl)
 have xN := @run_callFunc_extern Tryz.prog 122 _ (ReflectliteValue.method (ReflectliteValue.valueError "reflectlite.Value.IsNil" 0) ReflectliteValue.isNil) Tryz.func122 (by kernel_rfl) (by kernel_rfl) (by kernel_rfl) (by kernel_rfl)
 have xK := @run_callFunc_extern Tryz.prog 187 _ (ReflectliteType.abiMethod fun t => do pure (.int .u8 (← Rtype.kind t))) Tryz.func187 (by kernel_rfl) (by kernel_rfl) (by kernel_rfl) (by kernel_rfl)
 have xL := @run_callFunc_extern Tryz.prog 200 _ (ReflectliteType.method ReflectliteType.elem) Tryz.func200 (by kernel_rfl) (by kernel_rfl) (by kernel_rfl) (by kernel_rfl)
 have xI := @run_callFunc_extern Tryz.prog 201 _ (ReflectliteType.relation "Implements" ReflectliteType.implements_) Tryz.func201 (by kernel_rfl) (by kernel_rfl) (by kernel_rfl) (by kernel_rfl)
 have xO := @run_callFunc_extern Tryz.prog 143 _ ReflectliteType.typeOf Tryz.func143 (by kernel_rfl) (by kernel_rfl) (by kernel_rfl) (by kernel_rfl)
 have xA := @run_callFunc_extern Tryz.prog 198 _ (ReflectliteType.relation "AssignableTo" ReflectliteType.assignableTo) Tryz.func198 (by kernel_rfl) (by kernel_rfl) (by kernel_rfl) (by kernel_rfl)
 have xE := @run_callFunc_extern Tryz.prog 144 _ (ReflectliteValue.method (ReflectliteValue.valueError "reflectlite.Value.Elem" 0) ReflectliteValue.elem) Tryz.func144 (by kernel_rfl) (by kernel_rfl) (by kernel_rfl) (by kernel_rfl)
 have xS := @run_callFunc_extern Tryz.prog 145 _ ReflectliteValue.set Tryz.func145 (by kernel_rfl) (by kernel_rfl) (by kernel_rfl) (by kernel_rfl)
 have mK := methodKind
 have mE := methodElem
 have mI := methodImplements
 have mA := methodAssignableTo
 have f1 := valueOfPE
 have f2 := typePE
 have f3 := kindPE
 have f4 := kindE
 have f5 := elemPE
 have f6 := implementsE
 have f7 := typeOfE
 have f8 := assignEE
 have f9 := valueOfE
 have n8 := isNilPE ⟨w.heap.size, 0, none⟩ t (((w.alloc (.cells #[.pointer (some t)] 87)).alloc (.cells #[hnd 87, .pointer (some ⟨w.heap.size, 0, none⟩), .int .u64 150] 115))) (by simp)
 have hlt : 0 < w.heap.size := by
  rcases Nat.lt_or_ge 0 w.heap.size with h' | h'
  ·exact h'
  ·simp [World.cell?, Array.getElem?_eq_none h'] at hg
 have hg2 : (((w.alloc (.cells #[.pointer (some t)] 87)).alloc (.cells #[hnd 87, .pointer (some ⟨w.heap.size, 0, none⟩), .int .u64 150] 115))).cell? ⟨0, 0, none⟩ = some (.iface 135 (.agg #[hnd 29])) := by
  rw [World.cell?_alloc_lt _ _ ⟨0, 0, none⟩ (by simp <;> omega), World.cell?_alloc_lt _ _ ⟨0, 0, none⟩ hlt]; exact hg
 have htl : t.block < w.heap.size := by
  rcases Nat.lt_or_ge t.block w.heap.size with h | h
  ·exact h
  ·simp [World.cell?, Array.getElem?_eq_none h] at ht0
 have el := elemVPE ⟨w.heap.size, 0, none⟩ t ((((w.alloc (.cells #[.pointer (some t)] 87)).alloc (.cells #[hnd 87, .pointer (some ⟨w.heap.size, 0, none⟩), .int .u64 150] 115)).alloc (.cells #[hnd 87, .pointer (some ⟨w.heap.size, 0, none⟩), .int .u64 150] 115))) (by rw [World.cell?_alloc_lt _ _ ⟨w.heap.size, 0, none⟩ (by simp; omega)]; simp)
 have st := setE t ⟨w.heap.size + 1 + 1 + 1, 0, none⟩ n old (((((w.alloc (.cells #[.pointer (some t)] 87)).alloc (.cells #[hnd 87, .pointer (some ⟨w.heap.size, 0, none⟩), .int .u64 150] 115)).alloc (.cells #[hnd 87, .pointer (some ⟨w.heap.size, 0, none⟩), .int .u64 150] 115)).alloc (.cells #[.int .i64 n] 26)))
  (by rw [World.cell?_alloc_at _ _ _ _ (by simp)]; rfl)
  (by rw [World.cell?_alloc_lt _ _ t (by simp; omega), World.cell?_alloc_lt _ _ t (by simp; omega), World.cell?_alloc_lt _ _ t (by simp; omega), World.cell?_alloc_lt _ _ t htl]; exact ht0)
  (by rw [World.frozen?_alloc_old _ _ t (by simp; omega), World.frozen?_alloc_old _ _ t (by simp; omega), World.frozen?_alloc_old _ _ t (by simp; omega), World.frozen?_alloc_old _ _ t (Nat.ne_of_lt htl)]; exact hf0)
 go_enter Tryz.func74, Tryz.ntmps74
 go_wp2
 refine wp_loop_rounds 1 ?_
 rw [rounds_succ]
 go_wp2
 go_ret
 exact ⟨rfl, rfl⟩
theorem noAsE (v : Value) (xT : TypeId) (w : World) : (Instr.typeAssert (.iface 26 v) xT 140 true).run Tryz.prog w = .ok (.tuple #[.nilIface, .bool false]) w := run_typeAssert_lacksB Tryz.underlying140 (by kernel_rfl) (by kernel_rfl) v xT w
theorem noUnwrapE (v : Value) (xT : TypeId) (w : World) : (Instr.typeAssert (.iface 26 v) xT 143 true).run Tryz.prog w = .ok (.tuple #[.nilIface, .bool false]) w := run_typeAssert_lacksB Tryz.underlying143 (by kernel_rfl) (by kernel_rfl) v xT w
theorem noUnwrapsE (v : Value) (xT : TypeId) (w : World) : (Instr.typeAssert (.iface 26 v) xT 145 true).run Tryz.prog w = .ok (.tuple #[.nilIface, .bool false]) w := run_typeAssert_lacksB Tryz.underlying145 (by kernel_rfl) (by kernel_rfl) v xT w
set_option maxHeartbeats 4000000 in
theorem as_missE (n : Int) (t : Addr) (w : World) (hg : ErrLaid w) :
  Calls Tryz.prog 74 #[.iface 26 (.int .i64 n), .iface 84 (.pointer (some t))] w fun ev w' => ev = .returned (.bool false) ∧ Below w.heap.size w w' := by
 unfold ErrLaid at hg
 have xV := @run_callFunc_extern Tryz.prog 120 _ (fun args => ReflectliteValue.unpack (args.getD 0 (.tuple #[]))) Tryz.func120 (by kernel_rfl) (by kernel_rfl) (by kernel_rfl) (by kernel_rfl)
 have xT := @run_callFunc_extern Tryz.prog 121 _ (ReflectliteValue.methodAny (ReflectliteValue.valueError "reflectlite.Value.Type" 0) (fun t _ _ _ => ReflectliteType.toType t)) Tryz.func121 (by kernel_rfl) (by kernel_rfl) (by kernel_rfl) (by kernel_rfl)
 have xN := @run_callFunc_extern Tryz.prog 122 _ (ReflectliteValue.method (ReflectliteValue.valueError "reflectlite.Value.IsNil" 0) ReflectliteValue.isNil) Tryz.func122 (by kernel_rfl) (by kernel_rfl) (by kernel_rfl) (by kernel_rfl)
 have xK := @run_callFunc_extern Tryz.prog 187 _ (ReflectliteType.abiMethod fun t => do pure (.int .u8 (← Rtype.kind t))) Tryz.func187 (by kernel_rfl) (by kernel_rfl) (by kernel_rfl) (by kernel_rfl)
 have xL := @run_callFunc_extern Tryz.prog 200 _ (ReflectliteType.method ReflectliteType.elem) Tryz.func200 (by kernel_rfl) (by kernel_rfl) (by kernel_rfl) (by kernel_rfl)
 have xI := @run_callFunc_extern Tryz.prog 201 _ (ReflectliteType.relation "Implements" ReflectliteType.implements_) Tryz.func201 (by kernel_rfl) (by kernel_rfl) (by kernel_rfl) (by kernel_rfl)
 have xO := @run_callFunc_extern Tryz.prog 143 _ ReflectliteType.typeOf Tryz.func143 (by kernel_rfl) (by kernel_rfl) (by kernel_rfl) (by kernel_rfl)
 have xA := @run_callFunc_extern Tryz.prog 198 _ (ReflectliteType.relation "AssignableTo" ReflectliteType.assignableTo) Tryz.func198 (by kernel_rfl) (by kernel_rfl) (by kernel_rfl) (by kernel_rfl)
 have xE := @run_callFunc_extern Tryz.prog 144 _ (ReflectliteValue.method (ReflectliteValue.valueError "reflectlite.Value.Elem" 0) ReflectliteValue.elem) Tryz.func144 (by kernel_rfl) (by kernel_rfl) (by kernel_rfl) (by kernel_rfl)
 have xS := @run_callFunc_extern Tryz.prog 145 _ ReflectliteValue.set Tryz.func145 (by kernel_rfl) (by kernel_rfl) (by kernel_rfl) (by kernel_rfl)
 have mK := methodKind
 have mE := methodElem
 have mI := methodImplements
 have mA := methodAssignableTo
 have f1 := valueOfPF
 have f2 := typePF
 have f3 := kindPF
 have f4 := kindF
 have f5 := elemPF
 have f6 := implementsF
 have f7 := typeOfE
 have f8 := assignEF
 have g1 := noAsE
 have g2 := noUnwrapE
 have g3 := noUnwrapsE
 have n8 := isNilPF ⟨w.heap.size, 0, none⟩ t (((w.alloc (.cells #[.pointer (some t)] 84)).alloc (.cells #[hnd 84, .pointer (some ⟨w.heap.size, 0, none⟩), .int .u64 150] 115))) (by simp)
 have hlt : 0 < w.heap.size := by
  rcases Nat.lt_or_ge 0 w.heap.size with h' | h'
  ·exact h'
  ·simp [World.cell?, Array.getElem?_eq_none h'] at hg
 have hg2 : (((w.alloc (.cells #[.pointer (some t)] 84)).alloc (.cells #[hnd 84, .pointer (some ⟨w.heap.size, 0, none⟩), .int .u64 150] 115))).cell? ⟨0, 0, none⟩ = some (.iface 135 (.agg #[hnd 29])) := by
  rw [World.cell?_alloc_lt _ _ ⟨0, 0, none⟩ (by simp <;> omega), World.cell?_alloc_lt _ _ ⟨0, 0, none⟩ hlt]; exact hg
 go_enter Tryz.func74, Tryz.ntmps74
 go_wp2
 refine wp_loop_rounds 1 ?_
 rw [rounds_succ]
 go_wp2
 go_ret
 exact ⟨rfl, (((Below.refl _ _).alloc (Nat.le_refl _) _).alloc (by simp) _).alloc (by simp; omega) _⟩
end Go.Proofs.YtneohanphabneaaGreatDoor
namespace Go.Proofs.YtneohanphabneaaGreatDoor
set_option linter.unusedSimpArgs false
set_option linter.unusedVariables false
open Go.RowKit
theorem as_hitE_post (n : Int) (t : Addr) (old : Value) (w : World) (hg : ErrLaid w) (ht0 : w.cell? t = some old) (hf0 : w.frozen? t = false) :
  Calls Tryz.prog 74 #[.iface 26 (.int .i64 n), .iface 87 (.pointer (some t))] w fun ev w' => ev = .returned (.bool true) ∧ Below t.block w w' ∧ w'.cell? t = some (.int .i64 n) ∧ w'.frozen? t = false := by
 have htl : t.block < w.heap.size := by
  rcases Nat.lt_or_ge t.block w.heap.size with h | h
  ·exact h
  ·simp [World.cell?, Array.getElem?_eq_none h] at ht0
 refine (as_hitE n t old w hg ht0 hf0).mono fun ev w' ⟨he, hw⟩ => ⟨he, ?_, ?_, ?_⟩
 ·rw [hw]
  exact (((((Below.refl _ _).alloc (by omega) _).alloc (by simp; omega) _).alloc (by simp; omega) _).alloc (by simp; omega) _).setCell (Nat.le_refl _) _
 ·rw [hw]
  exact World.cell?_setCell_same _ _ _ (u := old) (by rw [World.cell?_alloc_lt _ _ t (by simp; omega), World.cell?_alloc_lt _ _ t (by simp; omega), World.cell?_alloc_lt _ _ t (by simp; omega), World.cell?_alloc_lt _ _ t htl]; exact ht0)
 ·rw [hw, World.frozen?_setCell, World.frozen?_alloc_old _ _ t (by simp; omega), World.frozen?_alloc_old _ _ t (by simp; omega), World.frozen?_alloc_old _ _ t (by simp; omega), World.frozen?_alloc_old _ _ t (Nat.ne_of_lt htl)]; exact hf0
theorem cell_new1 (w : World) (o o' : Obj) : ((w.alloc o).alloc o').cell? ⟨w.heap.size, 0, none⟩ = (w.alloc o).cell? ⟨w.heap.size, 0, none⟩ := World.cell?_alloc_lt _ _ ⟨w.heap.size, 0, none⟩ (by simp)
theorem ErrLaid.lt {w : World} (h : ErrLaid w) : 0 < w.heap.size := by
 rcases Nat.lt_or_ge 0 w.heap.size with h' | h'
 ·exact h'
 ·simp [ErrLaid, World.cell?, Array.getElem?_eq_none h'] at h
theorem tell_errno (n : Int) (w : World) (hg : ErrLaid w) : Calls Tryz.prog 27 #[.iface 26 (.int .i64 n)] w fun e w' => e = .returned (.tuple #[.int .i64 n, .int .i64 (-1), .int .i64 (-1)]) ∧ Below w.heap.size w w' := by
 have hb0 : Below w.heap.size w ((w.alloc (.cells #[.int .i64 0] 26)).alloc (.cells #[.pointer none] 82)) := ((Below.refl _ _).alloc (Nat.le_refl _) _).alloc (by simp) _
 have HG := Lib.hid (hg.below hb0)
 have HB := Lib.hid hb0
 clear hg hb0
 go_enter Tryz.func27, Tryz.ntmps27
 go_wp2_with (fail)
 refine (as_missE n _ _ HG.out).mono ?_
 rintro e w1 ⟨rfl, hb1⟩
 have hc1 : w1.cell? ⟨w.heap.size, 0, none⟩ = some (.int .i64 0) := by
  rw [hb1.cell (p := ⟨w.heap.size, 0, none⟩) (by simp; omega), cell_new1]
  simp
 have hf1 : w1.frozen? ⟨w.heap.size, 0, none⟩ = false := by
  rw [hb1.frozen (p := ⟨w.heap.size, 0, none⟩) (by simp; omega)]
  rw [World.frozen?_alloc_old _ _ ⟨w.heap.size, 0, none⟩ (by simp)]
  simp
 have HG1 := Lib.hid (HG.out.below hb1)
 have HB1 := Lib.hid (HB.out.trans (hb1.mono (by simp; omega)))
 clear hb1
 go_wp2_with (fail)
 refine (as_hitE_post n _ (.int .i64 0) _ HG1.out hc1 hf1).mono ?_
 rintro e w2 ⟨rfl, hb2, hc2, hf2⟩
 have HB2 := Lib.hid (HB1.out.trans hb2)
 have hz : w.heap.size < w2.heap.size := by
  rcases Nat.lt_or_ge w.heap.size w2.heap.size with h | h
  ·exact h
  ·simp [World.cell?, Array.getElem?_eq_none h] at hc2
 clear hb2
 go_wp2
 exact bodyPost_ret (v := .tuple #[.int .i64 n, .int .i64 (-1), .int .i64 (-1)]) (by simp [results, Tryz.results27, go_sem, hc2]) rfl ⟨rfl, HB2.out.setCell (Nat.le_refl _) _⟩
end Go.Proofs.YtneohanphabneaaGreatDoor
namespace Go.Proofs.YtneohanphabneaaGreatDoor
set_option linter.unusedSimpArgs false
set_option linter.unusedVariables false
open Go.RowKit
theorem Err_any (n : Int) (w : World) : Calls Tryz.prog 11 #[.int .i64 n] w fun e w' => e = .returned (.agg #[.int .i64 n, .int .i64 (-1), .int .i64 (-1)]) ∧ Below w.heap.size w w' := by
 go_enter Tryz.func11, Tryz.ntmps11
 go_wp2
 exact bodyPost_ret (v := .agg #[.int .i64 n, .int .i64 (-1), .int .i64 (-1)]) (by simp [results, Tryz.results11, go_sem]) rfl ⟨rfl, (Below.refl _ _).alloc (Nat.le_refl _) _⟩
theorem Is_errno (n : Int) (w : World) (hg : ErrLaid w) : Calls Tryz.prog 10 #[.iface 26 (.int .i64 n), .agg #[.int .i64 n, .int .i64 (-1), .int .i64 (-1)]] w fun e w' => e = .returned (.bool true) ∧ Below w.heap.size w w' := by
 have HB := hid (bBw w (.cells #[.int .i64 n, .int .i64 (-1), .int .i64 (-1)] 34))
 have HG := hid (hg.below HB.out)
 have y0 := (show (w.alloc (.cells #[.int .i64 n, .int .i64 (-1), .int .i64 (-1)] 34)).cell? ⟨w.heap.size, 0, none⟩ = some (.int .i64 n) by simp)
 have y1 := (show (w.alloc (.cells #[.int .i64 n, .int .i64 (-1), .int .i64 (-1)] 34)).cell? ⟨w.heap.size, 1, none⟩ = some (.int .i64 (-1)) by simp)
 have y2 := (show (w.alloc (.cells #[.int .i64 n, .int .i64 (-1), .int .i64 (-1)] 34)).cell? ⟨w.heap.size, 2, none⟩ = some (.int .i64 (-1)) by simp)
 clear hg
 go_enter Tryz.func10, Tryz.ntmps10
 go_wp2_with fail
 generalize hW : w.alloc (.cells #[.int .i64 n, .int .i64 (-1), .int .i64 (-1)] 34) = W0 at *
 clear hW
 refine (tell_errno n W0 HG.out).mono ?_
 rintro e w1 ⟨rfl, hb1⟩
 have z0 := keep_cell hb1 y0
 have z1 := keep_cell hb1 y1
 have z2 := keep_cell hb1 y2
 have HB1 := hid (bTh HB.out hb1)
 clear hb1 y0 y1 y2
 go_wp2
 go_ret
 exact ⟨rfl, HB1.out⟩
end Go.Proofs.YtneohanphabneaaGreatDoor
namespace Go.Proofs.YtneohanphabneaaGreatDoor
set_option linter.unusedSimpArgs false
set_option linter.unusedVariables false
open Go.RowKit Go.ChangeShapes Go.WideShapes Go.Deep Go.Joins
theorem Kids.up {w : World} : ∀ {d : Nat} {n : Nd} {A : Option Addr} {c : Nat}, Kids w d n A c → Kids w (d + 1) n A c
 | 0, _, _, _, h => h.elim
 | d + 1, n, A, c, h => by
  refine ⟨h.1, h.2.1, h.2.2.1, fun i x hx => ?_⟩
  obtain ⟨b, o, Ax, cx, hA, hat, hk⟩ := h.2.2.2 i x hx
  exact ⟨b, o, Ax, cx, hA, hat, hk.up⟩
theorem five {α : Type} {l : List α} (h : l.length = 5) : ∃ a b c d e, l = [a, b, c, d, e] := by
 match l, h with
 | [a, b, c, d, e], _ => exact ⟨a, b, c, d, e, rfl⟩
set_option maxRecDepth 100000 in
theorem kids_of_trod {H : Type} {enc : TypeId × Value → H} {w : World} {base : Nat} {sp : Nat → Bool} {hd : Bool} : ∀ (fuel : Nat) (cs : List Value) (x : DataW H × List MemPlace), DataW.trod enc Tryz.prog w base sp hd fuel 24 cs = some x →
  ∃ (n : Nd) (A : Option Addr) (c : Nat), cs = [.int .i64 n.kind, .string n.name, .int .i64 n.num, .int .i64 n.pos, .slice A n.subs.length c] ∧ Kids w fuel n A c := by
 intro fuel
 induction fuel using Nat.strongRecOn with
 | _ fuel ih =>
  intro cs x h
  obtain ⟨xs, n1, hf, hx, hlen, hxl, hfield⟩ := DataW.trod_struct Tryz.underlying24 h
  have hC : Tryz.prog.cellsOf 24 = 5 := by kernel_rfl
  rw [hC] at hlen
  obtain ⟨c0, c1, c2, c3, c4, rfl⟩ := five hlen
  obtain ⟨y0, y1, y2, y3, y4, rfl⟩ := five (l := xs) hxl
  have k3 : Tryz.prog.cellsOf 3 = 1 := by kernel_rfl
  have k9 : Tryz.prog.cellsOf 9 = 1 := by kernel_rfl
  have k22 : Tryz.prog.cellsOf 22 = 1 := by kernel_rfl
  have g0 := hfield 0 _ rfl
  have g1 := hfield 1 _ rfl
  have g2 := hfield 2 _ rfl
  have g3 := hfield 3 _ rfl
  have g4 := hfield 4 _ rfl
  simp only [k3, k9, k22, List.drop_zero, List.drop_succ_cons, List.take_succ_cons, List.take_zero, List.getElem?_cons_zero, List.getElem?_cons_succ] at g0 g1 g2 g3 g4
  obtain ⟨kd, e0, _, _⟩ := DataW.trod_int Tryz.underlying3 g0
  obtain ⟨nm, e1, _, hnm⟩ := DataW.trod_string Tryz.underlying9 g1
  obtain ⟨nu, e2, _, _⟩ := DataW.trod_int Tryz.underlying3 g2
  obtain ⟨ps, e3, _, _⟩ := DataW.trod_int Tryz.underlying3 g3
  injection e0 with e0
  injection e1 with e1
  injection e2 with e2
  injection e3 with e3
  subst e0
  subst e1
  subst e2
  subst e3
  rcases DataW.trod_slice Tryz.underlying22 g4 with ⟨e4, _⟩ | ⟨a, len, cap, elems, rest, n2, hf2, e4, _, hba, hlc, hcm, hel, hat, _, _⟩
  ·injection e4 with e4
   subst e4
   subst hf
   exact ⟨⟨kd, nm, nu, ps, []⟩, none, 0, rfl, hnm, Nat.le_refl _, by unfold maxLen; omega, fun i x hx => by simp at hx⟩
  ·injection e4 with e4
   subst e4
   rw [hC] at hat
   have hsp : 0 < len → a.spot = none := fun h0 => by
    have h1 := hat 0 h0
    rw [List.getElem?_eq_getElem (show 0 < elems.length by omega)] at h1
    obtain ⟨cs', hc, ht⟩ := Option.bind_eq_some_iff.1 h1
    obtain ⟨x, A, c, rfl, hk⟩ := ih n2 (by omega) cs' _ ht
    obtain ⟨_, _, hcell⟩ := World.cells?_some hc
    have q0 := hcell 0 (by omega)
    have h9 := World.cell?_spot (v := .int .i64 x.kind) (by simpa using q0)
    simpa [Addr.add] using h9
   have key : ∀ i, i < len → ∃ (x : Nd) (A : Option Addr) (c : Nat), NdAt w a.block (a.off + i * 5) x A c ∧ Kids w n2 x A c := by
    intro i hi
    have h1 := hat i hi
    rw [List.getElem?_eq_getElem (show i < elems.length by omega)] at h1
    obtain ⟨cs', hc, ht⟩ := Option.bind_eq_some_iff.1 h1
    obtain ⟨x, A, c, rfl, hk⟩ := ih n2 (by omega) cs' _ ht
    obtain ⟨_, _, hcell⟩ := World.cells?_some hc
    have hs := hsp (by omega)
    obtain ⟨ab, ao, asp⟩ := a
    simp only at hs
    subst hs
    have r : ∀ j, j < 5 → w.cell? ⟨ab, ao + i * 5 + j, none⟩ = [Value.int .i64 x.kind, .string x.name, .int .i64 x.num, .int .i64 x.pos, .slice A x.subs.length c][j]? := fun j hj => by
     have h9 := hcell j hj
     rwa [add_plain, add_plain] at h9
    exact ⟨x, A, c, ⟨r 0 (by omega), r 1 (by omega), r 2 (by omega), r 3 (by omega), r 4 (by omega)⟩, hk⟩
   have all : ∀ m, m ≤ len → ∃ l : List Nd, l.length = m ∧ ∀ i x, l[i]? = some x → ∃ A c, NdAt w a.block (a.off + i * 5) x A c ∧ Kids w n2 x A c := by
    intro m
    induction m with
    | zero => intro _; exact ⟨[], rfl, fun i x hx => by simp at hx⟩
    | succ m ihm =>
     intro hm
     obtain ⟨l, hl, hall⟩ := ihm (by omega)
     obtain ⟨x, A, c, hx1, hx2⟩ := key m (by omega)
     refine ⟨l ++ [x], by simp [hl], fun i y hy => ?_⟩
     rcases Nat.lt_or_ge i l.length with h1 | h1
     ·rw [List.getElem?_append_left h1] at hy
      exact hall i y hy
     ·have hi : i = m := by
       have := (List.getElem?_eq_some_iff.1 hy).1
       simp [hl] at this
       omega
      subst hi
      rw [List.getElem?_append_right h1, hl] at hy
      simp at hy
      subst hy
      exact ⟨A, c, hx1, hx2⟩
   obtain ⟨l, hl, hall⟩ := all len (Nat.le_refl _)
   subst hf
   subst hf2
   refine ⟨⟨kd, nm, nu, ps, l⟩, some a, cap, by rw [← hl], hnm, by simp only; omega, hcm, fun i x hx => ?_⟩
   obtain ⟨A, c, h1, h2⟩ := hall i x hx
   have hs := hsp (by have := (List.getElem?_eq_some_iff.1 hx).1; simp only at this; omega)
   refine ⟨a.block, a.off, A, c, ?_, h1, h2.up⟩
   obtain ⟨ab, ao, asp⟩ := a
   simp only at hs
   subst hs
   rfl
end Go.Proofs.YtneohanphabneaaGreatDoor
namespace Go.Proofs.YtneohanphabneaaGreatDoor
set_option linter.unusedSimpArgs false
set_option linter.unusedVariables false
open Go.ChangeShapes Go.WideShapes Go.RowKit
theorem gKept : Tryz.prog.globalNamed "oberlin/oberlinref.kept" = some 1 := by kernel_rfl
theorem tKept : (Tryz.prog.globals[1]?).map (·.type) = some 46 := by kernel_rfl
theorem cStr : Tryz.prog.cellsOf 9 = 1 := by kernel_rfl
theorem strs_inj {H : Type} : ∀ (ss : List ByteArray) (l : List (List UInt8)), (strs ss : List (DataW H)) = l.map (fun b => .lit (.string b)) → ss = wordsOf l
 | [], [], _ => rfl
 | [], _ :: _, h => by simp [strs] at h
 | _ :: _, [], h => by simp [strs] at h
 | s :: r, b :: l, h => by
  simp only [strs, List.map_cons, List.cons.injEq, DataW.lit.injEq, Lit.string.injEq] at h
  have ih := strs_inj (H := H) r l h.2
  rw [ih, ← h.1]
  cases s
  rfl
theorem kept_of_datum {W : World} {cs : Array Value} {fuel : Nat} {p : List MemPlace} (hv : W.var? Tryz.prog "oberlin/oberlinref.kept" = some cs)
  (hd : DataW.trod (fun _ => ()) Tryz.prog W 0 (fun _ => true) false fuel 46 cs.toList = some (Rows.laid_oberlin_oberlinref_kept, p)) : KeptLaid W := by
 have e0 : (Rows.laid_oberlin_oberlinref_kept : DataW Unit) = .slice (keptWords.map fun b => .lit (.string b)) [] := rfl
 rw [e0] at hd
 rcases open_strings Tryz.underlying46 Tryz.underlying9 cStr hd with ⟨_, hx⟩ | ⟨a, len, cap, ss, hcs, _, hl, hm, hz, hx, hcell, hws⟩
 ·simp at hx
 simp only [Prod.mk.injEq, DataW.slice.injEq] at hx
 obtain ⟨⟨hx1, hx2⟩, _⟩ := hx
 have hlen : len = ss.length := by
  have : (strs (ss.drop len) : List (DataW Unit)).length = 0 := by rw [← hx2]; rfl
  simp [strs] at this
  simp at hz
  omega
 subst hlen
 rw [List.take_of_length_le (Nat.le_refl _)] at hx1
 have hss : ss = keptSS := strs_inj (H := Unit) ss keptWords hx1.symm
 subst hss
 have hc0 : W.cell? ⟨1, 0, none⟩ = some (.slice (some a) keptSS.length cap) := by
  have := World.var?_cell gKept hv 0
  rw [Array.eq_one_of_toList hcs] at this
  simpa using this
 obtain ⟨b, o, spot⟩ := a
 have hspot : spot = none := by simpa [Addr.add] using World.cell?_spot (hcell 0 (by decide))
 subst hspot
 refine ⟨b, o, cap, hc0, fun i hi => ?_⟩
 have := hcell i hi
 rw [add_plain] at this
 rw [this]
 simp [hi]
end Go.Proofs.YtneohanphabneaaGreatDoor
