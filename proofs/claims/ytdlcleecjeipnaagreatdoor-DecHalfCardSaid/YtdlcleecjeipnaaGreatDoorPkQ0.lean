/- What the laws' proofs stand on, part Q0. -/
import Derived.Test.YtdlcleecjeipnaaGreatDoorPkA0
import Derived.LaidEql
import Derived.Stop.Asserts
import Derived.Test.YtdlcleecjeipnaaGreatDoorPkA1
import Derived.Shelf.Strings.BuilderK
import Derived.Deep.RegionWith
import Derived.Shelf.Strings.SlTrimAscii
import Derived.Lib.IndexMore
import Derived.Lib.Strings
/- errors.As at the program's own errors: nil, a plain error, an error at a place. -/
namespace Go.Proofs.YtdlcleecjeipnaaGreatDoor
open Go.RowKit Go.Proofs.YtdlcleecjeipnaaGreatDoorW.PrintWords Limbs Go.Extern.Stop Go.Stop Go.Extern
set_option linter.unusedVariables false

/-- errors.errorType as its initialiser lays it. -/
def ErrT (w : World) : Prop := w.cell? ⟨0, 0, none⟩ = some (.iface 279 (.agg #[.pointer (some ⟨16, 25, none⟩)]))
theorem ErrT.ext {w w' : World} (h : ErrT w) (he : Ext w w') : ErrT w' := he.cell h

theorem valueOf211 (t : Addr) (w : World) : (ReflectliteValue.unpack (.iface 211 (.pointer (some t)))).run Tryz.prog w
    = .ok (.agg #[.pointer (some ⟨16, 211, none⟩), .pointer (some ⟨w.heap.size, 0, none⟩), .int .u64 150]) (w.alloc (.cells #[.pointer (some t)] 211)) := by kernel_rfl
theorem type211 (a : Addr) (w : World) : (ReflectliteValue.methodAny (ReflectliteValue.valueError "reflectlite.Value.Type" 0) (fun t _ _ _ => ReflectliteType.toType t) #[.agg #[.pointer (some ⟨16, 211, none⟩), .pointer (some a), .int .u64 150]]).run Tryz.prog w
    = .ok (.iface 279 (.agg #[.pointer (some ⟨16, 211, none⟩)])) w := by kernel_rfl
theorem methodKind (h : Value) (w : World) : (Go.method 454 279 (.agg #[h]) "Kind").run Tryz.prog w = .ok (288, h) w := by kernel_rfl
theorem kind211 (w : World) : ((ReflectliteType.abiMethod fun t => (fun a : Nat => Value.int IntKind.u8 (a : Int)) <$> Rtype.kind t) #[.pointer (some ⟨16, 211, none⟩)]).run Tryz.prog w = .ok (.int .u8 22) w := by kernel_rfl
theorem kind209 (w : World) : ((ReflectliteType.abiMethod fun t => (fun a : Nat => Value.int IntKind.u8 (a : Int)) <$> Rtype.kind t) #[.pointer (some ⟨16, 209, none⟩)]).run Tryz.prog w = .ok (.int .u8 22) w := by kernel_rfl
theorem rlm (z : Sem Value) (f : TypeId → Addr → Nat → Nat → Sem Value) (v : Value) :
    ReflectliteValue.method z f #[v] = (do match ← ReflectliteValue.parts v with | none => z | some (t, a, fl) => f t a fl (fl % 32)) := rfl
theorem parts211 (a : Addr) (w : World) : (ReflectliteValue.parts (.agg #[.pointer (some ⟨16, 211, none⟩), .pointer (some a), .int .u64 150])).run Tryz.prog w = .ok (some (211, a, 150)) w := by kernel_rfl
theorem isNil211 (a p : Addr) (W : World) (ha : W.cell? a = some (.pointer (some p))) :
    (ReflectliteValue.method (ReflectliteValue.valueError "reflectlite.Value.IsNil" 0) ReflectliteValue.isNil #[.agg #[.pointer (some ⟨16, 211, none⟩), .pointer (some a), .int .u64 150]]).run Tryz.prog W = .ok (.bool false) W := by
  rw [rlm]
  simp only [Sem.run_bind, parts211, Result.andThen]
  simp [ReflectliteValue.isNil, loadVar, isAgg, underlying, Tryz.underlying211, ha, Result.andThen]
theorem methodElem (h : Value) (w : World) : (Go.method 454 279 (.agg #[h]) "Elem").run Tryz.prog w = .ok (317, .agg #[h]) w := by kernel_rfl
theorem methodImplements (h : Value) (w : World) : (Go.method 454 279 (.agg #[h]) "Implements").run Tryz.prog w = .ok (318, .agg #[h]) w := by kernel_rfl
theorem methodComparable (h : Value) (w : World) : (Go.method 454 279 (.agg #[h]) "Comparable").run Tryz.prog w = .ok (316, .agg #[h]) w := by kernel_rfl
theorem elem211 (w : World) : (ReflectliteType.method ReflectliteType.elem #[.agg #[.pointer (some ⟨16, 211, none⟩)]]).run Tryz.prog w = .ok (.iface 279 (.agg #[.pointer (some ⟨16, 209, none⟩)])) w := by kernel_rfl
theorem implements209 (w : World) : (ReflectliteType.relation "Implements" ReflectliteType.implements_ #[.agg #[.pointer (some ⟨16, 209, none⟩)], .iface 279 (.agg #[.pointer (some ⟨16, 25, none⟩)])]).run Tryz.prog w = .ok (.bool true) w := by kernel_rfl
theorem typeOf209 (v : Value) (w : World) : (ReflectliteType.typeOf #[.iface 209 v]).run Tryz.prog w = .ok (.iface 279 (.agg #[.pointer (some ⟨16, 209, none⟩)])) w := by kernel_rfl
theorem typeOf199 (v : Value) (w : World) : (ReflectliteType.typeOf #[.iface 199 v]).run Tryz.prog w = .ok (.iface 279 (.agg #[.pointer (some ⟨16, 199, none⟩)])) w := by kernel_rfl
theorem assignable209 (w : World) : (ReflectliteType.relation "AssignableTo" ReflectliteType.assignableTo #[.agg #[.pointer (some ⟨16, 209, none⟩)], .iface 279 (.agg #[.pointer (some ⟨16, 209, none⟩)])]).run Tryz.prog w = .ok (.bool true) w := by kernel_rfl
theorem valueOf209 (e : Addr) (w : World) : (ReflectliteValue.unpack (.iface 209 (.pointer (some e)))).run Tryz.prog w
    = .ok (.agg #[.pointer (some ⟨16, 209, none⟩), .pointer (some ⟨w.heap.size, 0, none⟩), .int .u64 150]) (w.alloc (.cells #[.pointer (some e)] 209)) := by kernel_rfl
theorem elemOf211 (w : World) : (Rtype.elem? 211).run Tryz.prog w = .ok (some 209) w := by kernel_rfl
theorem mk209 (p : Addr) (w : World) : (ReflectliteValue.mk 209 p ReflectliteValue.flagAddr).run Tryz.prog w = .ok (.agg #[.pointer (some ⟨16, 209, none⟩), .pointer (some p), .int .u64 406]) w := by kernel_rfl
theorem elemV211 (a p : Addr) (W : World) (ha : W.cell? a = some (.pointer (some p))) :
    (ReflectliteValue.method (ReflectliteValue.valueError "reflectlite.Value.Elem" 0) ReflectliteValue.elem #[.agg #[.pointer (some ⟨16, 211, none⟩), .pointer (some a), .int .u64 150]]).run Tryz.prog W
      = .ok (.agg #[.pointer (some ⟨16, 209, none⟩), .pointer (some p), .int .u64 406]) W := by
  rw [rlm]
  simp only [Sem.run_bind, parts211, Result.andThen]
  simp [ReflectliteValue.elem, loadVar, isAgg, underlying, Tryz.underlying211, ha, Result.andThen, elemOf211, mk209]
theorem rls (v x : Value) : ReflectliteValue.set #[v, x] = (do
    let (some (dst, a, fl), some (src, b, _)) := (← ReflectliteValue.parts v, ← ReflectliteValue.parts x)
      | unsupported (.noEntry "extern/(internal/reflectlite.Value).Set.zeroValue")
    if fl / ReflectliteValue.flagAddr % 2 == 0 then unsupported (.noEntry "extern/(internal/reflectlite.Value).Set.unaddressable")
    let val ← loadVar src b
    if ← Rtype.directlyAssignable dst src then storeVar dst a val
    else if ← Rtype.implements dst src then
      if (← Rtype.kind src) == 20 then
        match val with
        | .nilIface => unsupported (.noEntry "extern/reflectlite: a nil value of one interface type handed on as a value of another")
        | _ => storeVar dst a val
      else storeVar dst a (.iface src val)
    else panicString ("reflectlite.Set: value of type " ++ (← Rtype.spelt src) ++ " is not assignable to type " ++ (← Rtype.spelt dst))
    pure (.tuple #[])) := rfl
theorem parts209a (a : Addr) (w : World) : (ReflectliteValue.parts (.agg #[.pointer (some ⟨16, 209, none⟩), .pointer (some a), .int .u64 406])).run Tryz.prog w = .ok (some (209, a, 406)) w := by kernel_rfl
theorem parts209 (a : Addr) (w : World) : (ReflectliteValue.parts (.agg #[.pointer (some ⟨16, 209, none⟩), .pointer (some a), .int .u64 150])).run Tryz.prog w = .ok (some (209, a, 150)) w := by kernel_rfl
theorem direct209 (w : World) : (Rtype.directlyAssignable 209 209).run Tryz.prog w = .ok true w := by kernel_rfl
theorem set209 (ta b e : Addr) (old : Value) (W : World) (hb : W.cell? b = some (.pointer (some e))) (ht : W.cell? ta = some old) (hf : W.frozen? ta = false) :
    (ReflectliteValue.set #[.agg #[.pointer (some ⟨16, 209, none⟩), .pointer (some ta), .int .u64 406], .agg #[.pointer (some ⟨16, 209, none⟩), .pointer (some b), .int .u64 150]]).run Tryz.prog W
      = .ok (.tuple #[]) (W.setCell ta (.pointer (some e))) := by
  rw [rls]
  simp only [Sem.run_bind, parts209a, parts209, Result.andThen]
  simp [ReflectliteValue.flagAddr, loadVar, isAgg, underlying, Tryz.underlying209, hb, Result.andThen, direct209, storeVar, Value.cells, storeCells, Addr.add]
  rw [run_store Tryz.prog W ta _ _ (by rfl)]
  simp [ht, hf]
theorem lt_of_cell {w : World} {b i : Nat} {v : Value} (h : w.cell? ⟨b, i, none⟩ = some v) : b < w.heap.size := by
  rcases Nat.lt_or_ge b w.heap.size with h1 | h1
  · exact h1
  · simp [World.cell?, Array.getElem?_eq_none h1] at h
end Go.Proofs.YtdlcleecjeipnaaGreatDoor

/- errors.As of a plain error. -/
namespace Go.Proofs.YtdlcleecjeipnaaGreatDoor
open Go.RowKit Go.Proofs.YtdlcleecjeipnaaGreatDoorW.PrintWords Limbs Go.Extern.Stop Go.Stop Go.Extern
set_option linter.unusedVariables false

theorem Ext.trans' {a b c : World} (h : Ext a b) (k : Below a.heap.size b c) : Ext a c := Below.trans h k
end Go.Proofs.YtdlcleecjeipnaaGreatDoor

/- errors.As of an error at a place; fault.Code. -/
namespace Go.Proofs.YtdlcleecjeipnaaGreatDoor
open Go.RowKit Go.Proofs.YtdlcleecjeipnaaGreatDoorW.PrintWords Limbs Go.Extern.Stop Go.Stop Go.Extern
set_option linter.unusedVariables false

/-- What errors.As leaves at its target. -/
def AsPostF (b g : Nat) (w : World) (ev : Ending) (w' : World) : Prop :=
  ev = .returned (.bool true) ∧ Below b w w' ∧ w.heap.size ≤ w'.heap.size ∧ w'.cell? ⟨b, 0, none⟩ = some (.pointer (some ⟨g, 0, none⟩))

set_option maxHeartbeats 4000000 in
theorem as222_fault (g b p : Nat) (old : Value) (w : World) (ht0 : w.cell? ⟨b, 0, none⟩ = some old) (hf0 : w.frozen? ⟨b, 0, none⟩ = false) (hp : w.cell? ⟨p, 0, none⟩ = some (.pointer (some ⟨b, 0, none⟩))) :
    Calls Tryz.prog 222 #[.iface 209 (.pointer (some ⟨g, 0, none⟩)), .iface 211 (.pointer (some ⟨b, 0, none⟩)), .agg #[.pointer (some ⟨16, 211, none⟩), .pointer (some ⟨p, 0, none⟩), .int .u64 150], .iface 279 (.agg #[.pointer (some ⟨16, 209, none⟩)])] w (AsPostF b g w) := by
  have hbl := lt_of_cell ht0
  have hpl := lt_of_cell hp
  have h10 := @run_callFunc_extern Tryz.prog 238 _ ReflectliteType.typeOf Tryz.func238 (by kernel_rfl) (by kernel_rfl) (by kernel_rfl) (by kernel_rfl)
  have h35 := @run_callFunc_extern Tryz.prog 315 _ (ReflectliteType.relation "AssignableTo" ReflectliteType.assignableTo) Tryz.func315 (by kernel_rfl) (by kernel_rfl) (by kernel_rfl) (by kernel_rfl)
  have h6 := @run_callFunc_extern Tryz.prog 219 _ (fun args => ReflectliteValue.unpack (args.getD 0 (.tuple #[]))) Tryz.func219 (by kernel_rfl) (by kernel_rfl) (by kernel_rfl) (by kernel_rfl)
  have h11 := @run_callFunc_extern Tryz.prog 257 _ (ReflectliteValue.method (ReflectliteValue.valueError "reflectlite.Value.Elem" 0) ReflectliteValue.elem) Tryz.func257 (by kernel_rfl) (by kernel_rfl) (by kernel_rfl) (by kernel_rfl)
  have h12 := @run_callFunc_extern Tryz.prog 258 _ ReflectliteValue.set Tryz.func258 (by kernel_rfl) (by kernel_rfl) (by kernel_rfl) (by kernel_rfl)
  have tO := typeOf209
  have a25 := assignable209
  have v25 := valueOf209
  have el := elemV211 ⟨p, 0, none⟩ ⟨b, 0, none⟩ (w.alloc (.cells #[.pointer (some ⟨16, 211, none⟩), .pointer (some ⟨p, 0, none⟩), .int .u64 150] 246)) (by rw [World.cell?_alloc_lt _ _ _ hpl]; exact hp)
  have st := set209 ⟨b, 0, none⟩ ⟨w.heap.size + 1, 0, none⟩ ⟨g, 0, none⟩ old ((w.alloc (.cells #[.pointer (some ⟨16, 211, none⟩), .pointer (some ⟨p, 0, none⟩), .int .u64 150] 246)).alloc (.cells #[.pointer (some ⟨g, 0, none⟩)] 209))
    (by rw [World.cell?_alloc_at _ _ _ _ (by simp)]; rfl)
    (by rw [World.cell?_alloc_lt _ _ _ (by simp; omega), World.cell?_alloc_lt _ _ _ hbl]; exact ht0)
    (by rw [World.frozen?_alloc_old _ _ _ (by simp; omega), World.frozen?_alloc_old _ _ _ (Nat.ne_of_lt hbl)]; exact hf0)
  have HC := Lib.hid ht0
  clear ht0 hf0 hp
  go_enter Tryz.func222, Tryz.ntmps222
  go_wp2_with fail
  refine wp_loop_rounds 1 ?_
  rw [rounds_succ]
  go_wp2
  go_ret
  refine ⟨rfl, ?_, by simp; omega, ?_⟩
  · refine Below.alloc (Below.alloc (Below.setCell (p := ⟨b, 0, none⟩) (Below.refl b w) (Nat.le_refl b) _) ?_ _) ?_ _
    · simp; omega
    · simp; omega
  · rw [World.cell?_alloc_lt _ _ _ (by simp; omega), World.cell?_alloc_lt _ _ _ (by simpa using hbl)]
    exact World.cell?_setCell_same _ _ _ HC.out

set_option maxHeartbeats 4000000 in
theorem as_fault (g b : Nat) (old : Value) (w : World) (hg : ErrT w) (ht0 : w.cell? ⟨b, 0, none⟩ = some old) (hf0 : w.frozen? ⟨b, 0, none⟩ = false) :
    Calls Tryz.prog 177 #[.iface 209 (.pointer (some ⟨g, 0, none⟩)), .iface 211 (.pointer (some ⟨b, 0, none⟩))] w (AsPostF b g w) := by
  have htl := lt_of_cell ht0
  have hlt := lt_of_cell hg
  unfold ErrT at hg
  have h6 := @run_callFunc_extern Tryz.prog 219 _ (fun args => ReflectliteValue.unpack (args.getD 0 (.tuple #[]))) Tryz.func219 (by kernel_rfl) (by kernel_rfl) (by kernel_rfl) (by kernel_rfl)
  have h7 := @run_callFunc_extern Tryz.prog 220 _ (ReflectliteValue.methodAny (ReflectliteValue.valueError "reflectlite.Value.Type" 0) (fun t _ _ _ => ReflectliteType.toType t)) Tryz.func220 (by kernel_rfl) (by kernel_rfl) (by kernel_rfl) (by kernel_rfl)
  have h8 := @run_callFunc_extern Tryz.prog 221 _ (ReflectliteValue.method (ReflectliteValue.valueError "reflectlite.Value.IsNil" 0) ReflectliteValue.isNil) Tryz.func221 (by kernel_rfl) (by kernel_rfl) (by kernel_rfl) (by kernel_rfl)
  have h27 := @run_callFunc_extern Tryz.prog 288 _ (ReflectliteType.abiMethod fun t => do pure (.int .u8 (← Rtype.kind t))) Tryz.func288 (by kernel_rfl) (by kernel_rfl) (by kernel_rfl) (by kernel_rfl)
  have h37 := @run_callFunc_extern Tryz.prog 317 _ (ReflectliteType.method ReflectliteType.elem) Tryz.func317 (by kernel_rfl) (by kernel_rfl) (by kernel_rfl) (by kernel_rfl)
  have h38 := @run_callFunc_extern Tryz.prog 318 _ (ReflectliteType.relation "Implements" ReflectliteType.implements_) Tryz.func318 (by kernel_rfl) (by kernel_rfl) (by kernel_rfl) (by kernel_rfl)
  have f6 := valueOf211
  have f7 := type211
  have mK := methodKind
  have mE := methodElem
  have mI := methodImplements
  have k27 := kind211
  have k25 := kind209
  have e27 := elem211
  have i25 := implements209
  have n8 := isNil211 ⟨w.heap.size, 0, none⟩ ⟨b, 0, none⟩ ((w.alloc (.cells #[.pointer (some ⟨b, 0, none⟩)] 211)).alloc (.cells #[.pointer (some ⟨16, 211, none⟩), .pointer (some ⟨w.heap.size, 0, none⟩), .int .u64 150] 246)) (by simp)
  have hg2 : ((w.alloc (.cells #[.pointer (some ⟨b, 0, none⟩)] 211)).alloc (.cells #[.pointer (some ⟨16, 211, none⟩), .pointer (some ⟨w.heap.size, 0, none⟩), .int .u64 150] 246)).cell? ⟨0, 0, none⟩ = some (.iface 279 (.agg #[.pointer (some ⟨16, 25, none⟩)])) := by
    rw [World.cell?_alloc_lt _ _ ⟨0, 0, none⟩ (by simp), World.cell?_alloc_lt _ _ ⟨0, 0, none⟩ hlt]; exact hg
  have CA := Lib.hid (as222_fault g b w.heap.size old ((w.alloc (.cells #[.pointer (some ⟨b, 0, none⟩)] 211)).alloc (.cells #[.pointer (some ⟨16, 211, none⟩), .pointer (some ⟨w.heap.size, 0, none⟩), .int .u64 150] 246)) (by rw [World.cell?_alloc_lt _ _ _ (by simp; omega), World.cell?_alloc_lt _ _ _ htl]; exact ht0) (by rw [World.frozen?_alloc_old _ _ _ (by simp; omega), World.frozen?_alloc_old _ _ _ (Nat.ne_of_lt htl)]; exact hf0) (by simp))
  clear ht0 hf0
  go_enter Tryz.func177, Tryz.ntmps177
  go_wp2_with fail
  refine CA.out.mono ?_
  rintro e w2 ⟨rfl, hb2, hs2, hc1⟩
  clear CA n8 hg hg2
  go_wp2
  go_ret
  exact ⟨rfl, (Below.alloc (Below.alloc (Below.refl _ _) (Nat.le_of_lt htl) _) (by simp; omega) _).trans hb2, by simp at hs2; omega, hc1⟩

/-- fault.Code of an error at a place. -/
theorem code_fault (c : Int) (g : Nat) (w : World) (hg : ErrT w) (hc : w.cell? ⟨g, 0, none⟩ = some (.int .i64 c)) : Calls Tryz.prog 115 #[.iface 209 (.pointer (some ⟨g, 0, none⟩))] w fun e w' => e = .returned (.int .i64 c) ∧ Ext w w' := by
  have CA := Lib.hid (as_fault g w.heap.size (.pointer none) (w.alloc (.cells #[.pointer none] 209)) ((Ext.alloc w _).cell hg) (by simp) (by simp))
  have hc0 := (Ext.alloc w (.cells #[.pointer none] 209)).cell hc
  have hgl := lt_of_cell hc
  clear hg hc
  go_enter Tryz.func115, Tryz.ntmps115
  go_wp2_with fail
  refine CA.out.mono ?_
  rintro e w2 ⟨rfl, hb2, hs2, hc1⟩
  clear CA
  have hE := (Ext.alloc w (.cells #[.pointer none] 209)).trans' hb2
  have hc2 : w2.cell? ⟨g, 0, none⟩ = some (.int .i64 c) := by rw [hb2.cell hgl]; exact hc0
  clear hb2 hs2 hc0
  go_wp2
  go_ret
  exact ⟨rfl, hE⟩
end Go.Proofs.YtdlcleecjeipnaaGreatDoor

/- errors.Is, errors.Unwrap, fault.Where, Wrap, New: at an error at a place. -/
namespace Go.Proofs.YtdlcleecjeipnaaGreatDoor
open Go.RowKit Go.Proofs.YtdlcleecjeipnaaGreatDoorW.PrintWords Limbs Go.Extern.Stop Go.Stop Go.Extern
set_option linter.unusedVariables false

theorem ta209 (v : Value) (w : World) : (Instr.typeAssert (.iface 209 v) 25 209 true).run Tryz.prog w = .ok (.tuple #[v, .bool true]) w := by kernel_rfl
theorem ta199 (v : Value) (w : World) : (Instr.typeAssert (.iface 199 v) 25 199 true).run Tryz.prog w = .ok (.tuple #[v, .bool true]) w := by kernel_rfl
theorem has286 (v : Value) (xT : TypeId) (w : World) : (Instr.typeAssert (.iface 209 v) xT 286 true).run Tryz.prog w = .ok (.tuple #[.iface 209 v, .bool true]) w := run_typeAssert_hasB Tryz.underlying286 (by kernel_rfl) v xT w
theorem has297 (v : Value) (xT : TypeId) (w : World) : (Instr.typeAssert (.iface 209 v) xT 297 true).run Tryz.prog w = .ok (.tuple #[.iface 209 v, .bool true]) w := run_typeAssert_hasB Tryz.underlying297 (by kernel_rfl) v xT w
theorem eqFP (v u : Value) (w : World) : (binOp .eql 25 (.iface 209 v) (.iface 199 u)).run Tryz.prog w = .ok (.bool false) w := run_eql_iface_types 209 199 v u Tryz.underlying25 (by decide) w
theorem eqPP (w : World) : (binOp .eql 25 (.iface 199 (.int .i64 3)) (.iface 199 (.int .i64 3))).run Tryz.prog w = .ok (.bool true) w := by kernel_rfl
theorem methodError (a : Addr) (w : World) : (Go.method 454 209 (.pointer (some a)) "Error").run Tryz.prog w = .ok (294, .pointer (some a)) w := by kernel_rfl
theorem methodIs (a : Addr) (w : World) : (Go.method 454 209 (.pointer (some a)) "Is").run Tryz.prog w = .ok (295, .pointer (some a)) w := by kernel_rfl
theorem methodUnwrap (a : Addr) (w : World) : (Go.method 454 209 (.pointer (some a)) "Unwrap").run Tryz.prog w = .ok (296, .pointer (some a)) w := by kernel_rfl
def compE : Array Value → Sem Value := ReflectliteType.method (fun t => do Rtype.noPackHeld "Comparable" t; pure (.bool (← typeInfo t).comparable))
theorem comparable199 (w : World) : (compE #[.agg #[.pointer (some ⟨16, 199, none⟩)]]).run Tryz.prog w = .ok (.bool true) w := by kernel_rfl

/-- An error at a place, around another one. -/
def FaultAt (w : World) (g : Nat) (c : Int) (s : ByteArray) (e : Value) : Prop := w.cell? ⟨g, 0, none⟩ = some (.int .i64 c) ∧ w.cell? ⟨g, 1, none⟩ = some (.string s) ∧ w.cell? ⟨g, 2, none⟩ = some e
theorem FaultAt.ext {w w' : World} {g : Nat} {c : Int} {s : ByteArray} {e : Value} (h : FaultAt w g c s e) (he : Ext w w') : FaultAt w' g c s e := ⟨he.cell h.1, he.cell h.2.1, he.cell h.2.2⟩

theorem fnew (c : Int) (s : ByteArray) (hc : c ≠ 0) (w : World) : Calls Tryz.prog 202 #[.int .i64 c, .string s] w fun e w' => ∃ g, e = .returned (.iface 209 (.pointer (some ⟨g, 0, none⟩))) ∧ FaultAt w' g c s .nilIface ∧ Ext w w' := by
  have hb : (c == 0) = false := beq_eq_false_iff_ne.2 hc
  clear hc
  go_enter Tryz.func202, Tryz.ntmps202
  go_wp2
  go_ret
  exact ⟨_, rfl, ⟨by simp, by simp, by simp⟩, Ext.alloc _ _⟩

theorem fwrap (c : Int) (s t : ByteArray) (g : Nat) (e0 : Value) (w : World) (hg : ErrT w) (h : FaultAt w g c s e0) : Calls Tryz.prog 201 #[.string t, .iface 209 (.pointer (some ⟨g, 0, none⟩))] w fun e w' => ∃ k, e = .returned (.iface 209 (.pointer (some ⟨k, 0, none⟩))) ∧ FaultAt w' k c t (.iface 209 (.pointer (some ⟨g, 0, none⟩))) ∧ Ext w w' := by
  have CC := Lib.hid (code_fault c g w hg h.1)
  clear hg h
  go_enter Tryz.func201, Tryz.ntmps201
  go_wp2_with fail
  refine CC.out.mono ?_
  rintro e w1 ⟨rfl, hx⟩
  go_wp2
  go_ret
  exact ⟨_, rfl, ⟨by simp, by simp, by simp⟩, hx.trans (Ext.alloc _ _)⟩

theorem funwrap (c : Int) (s : ByteArray) (g : Nat) (e0 : Value) (w : World) (h : FaultAt w g c s e0) : Calls Tryz.prog 296 #[.pointer (some ⟨g, 0, none⟩)] w fun e w' => e = .returned e0 ∧ w = w' := by
  obtain ⟨h0, h1, h2⟩ := h
  go_enter Tryz.func296, Tryz.ntmps296
  go_wp2
  go_ret
  exact ⟨rfl, rfl⟩
theorem eunwrap (c : Int) (s : ByteArray) (g : Nat) (e0 : Value) (w : World) (h : FaultAt w g c s e0) : Calls Tryz.prog 237 #[.iface 209 (.pointer (some ⟨g, 0, none⟩))] w fun e w' => e = .returned e0 ∧ w = w' := by
  have CU := Lib.hid (funwrap c s g e0 w h)
  have hm := methodUnwrap
  have hh := has286
  clear h
  go_enter Tryz.func237, Tryz.ntmps237
  go_wp2_with fail
  refine CU.out.mono ?_
  rintro e w1 ⟨rfl, rfl⟩
  go_wp2
  go_ret
  exact ⟨rfl, rfl⟩
theorem fis (c d : Int) (s : ByteArray) (g : Nat) (e0 : Value) (w : World) (h : FaultAt w g c s e0) : Calls Tryz.prog 295 #[.pointer (some ⟨g, 0, none⟩), .iface 199 (.int .i64 d)] w fun e w' => e = .returned (.bool (d == c)) ∧ w = w' := by
  obtain ⟨h0, h1, h2⟩ := h
  have ht := ta199
  go_enter Tryz.func295, Tryz.ntmps295
  go_wp2
  go_ret
  exact ⟨rfl, rfl⟩

set_option maxHeartbeats 1000000 in
/-- errors.is at an error that bears the code. -/
theorem is_yes (c : Int) (s : ByteArray) (g : Nat) (e0 : Value) (w : World) (h : FaultAt w g c s e0) : Calls Tryz.prog 239 #[.iface 209 (.pointer (some ⟨g, 0, none⟩)), .iface 199 (.int .i64 c), .bool true] w fun e w' => e = .returned (.bool true) ∧ w = w' := by
  have CI : Hid (Calls Tryz.prog 295 #[.pointer (some ⟨g, 0, none⟩), .iface 199 (.int .i64 c)] w fun e w' => e = .returned (.bool true) ∧ w = w') := Lib.hid (by
    have := fis c c s g e0 w h
    rwa [beq_self_eq_true] at this)
  have hm := methodIs
  have hh := has297
  have he := eqFP
  clear h
  go_enter Tryz.func239, Tryz.ntmps239
  go_wp2_with fail
  refine wp_loop_rounds 1 ?_
  rw [rounds_succ]
  go_wp2_with fail
  refine CI.out.mono ?_
  rintro e w1 ⟨rfl, rfl⟩
  go_wp2
  go_ret
  exact ⟨rfl, rfl⟩

set_option maxHeartbeats 2000000 in
/-- errors.is at an error around another one, of another code. -/
theorem is_no (c d : Int) (s t : ByteArray) (g k : Nat) (w : World) (hcd : d ≠ c) (h : FaultAt w k c t (.iface 209 (.pointer (some ⟨g, 0, none⟩)))) (h2 : FaultAt w g c s .nilIface) : Calls Tryz.prog 239 #[.iface 209 (.pointer (some ⟨k, 0, none⟩)), .iface 199 (.int .i64 d), .bool true] w fun e w' => e = .returned (.bool false) ∧ w = w' := by
  have hb : (d == c) = false := beq_eq_false_iff_ne.2 hcd
  have C1 : Hid (Calls Tryz.prog 295 #[.pointer (some ⟨k, 0, none⟩), .iface 199 (.int .i64 d)] w fun e w' => e = .returned (.bool false) ∧ w = w') := Lib.hid (by
    have := fis c d t k _ w h
    rwa [hb] at this)
  have C2 : Hid (Calls Tryz.prog 295 #[.pointer (some ⟨g, 0, none⟩), .iface 199 (.int .i64 d)] w fun e w' => e = .returned (.bool false) ∧ w = w') := Lib.hid (by
    have := fis c d s g _ w h2
    rwa [hb] at this)
  have U1 := Lib.hid (funwrap c t k _ w h)
  have U2 := Lib.hid (funwrap c s g _ w h2)
  have hm := methodIs
  have hu := methodUnwrap
  have hh := has297
  have hh2 := has286
  have he := eqFP
  clear h h2 hcd hb
  go_enter Tryz.func239, Tryz.ntmps239
  go_wp2_with fail
  refine wp_loop_rounds 2 ?_
  rw [rounds_succ]
  go_wp2_with fail
  refine C1.out.mono ?_
  rintro e w1 ⟨rfl, rfl⟩
  go_wp2_with fail
  refine U1.out.mono ?_
  rintro e w1 ⟨rfl, rfl⟩
  go_wp2_with fail
  try rw [rounds_succ]
  go_wp2_with fail
  refine C2.out.mono ?_
  rintro e w1 ⟨rfl, rfl⟩
  go_wp2_with fail
  refine U2.out.mono ?_
  rintro e w1 ⟨rfl, rfl⟩
  go_wp2
  go_ret
  exact ⟨rfl, rfl⟩

theorem Is_any (b : Bool) (d : Int) (g : Nat) (w : World) (C : Calls Tryz.prog 239 #[.iface 209 (.pointer (some ⟨g, 0, none⟩)), .iface 199 (.int .i64 d), .bool true] w fun e w' => e = .returned (.bool b) ∧ w = w') :
    Calls Tryz.prog 204 #[.iface 209 (.pointer (some ⟨g, 0, none⟩)), .iface 199 (.int .i64 d)] w fun e w' => e = .returned (.bool b) ∧ w = w' := by
  have CI := Lib.hid C
  have h10 := @run_callFunc_extern Tryz.prog 238 _ ReflectliteType.typeOf Tryz.func238 (by kernel_rfl) (by kernel_rfl) (by kernel_rfl) (by kernel_rfl)
  have h16 := @run_callFunc_extern Tryz.prog 316 _ compE Tryz.func316 (by kernel_rfl) (by kernel_rfl) (by kernel_rfl) (by kernel_rfl)
  have hc := comparable199
  have hc2 := methodComparable
  have tO := typeOf199
  clear C
  go_enter Tryz.func204, Tryz.ntmps204
  go_wp2_with fail
  refine CI.out.mono ?_
  rintro e w1 ⟨rfl, rfl⟩
  go_wp2
  go_ret
  exact ⟨rfl, rfl⟩
end Go.Proofs.YtdlcleecjeipnaaGreatDoor

/- fault.Where and an error's text, at an error around another one. -/
namespace Go.Proofs.YtdlcleecjeipnaaGreatDoor
open Go.RowKit Go.Proofs.YtdlcleecjeipnaaGreatDoorW.PrintWords Limbs Go.Sort Go.Lib
set_option linter.unusedVariables false

set_option maxHeartbeats 4000000 in
theorem fwhere (c : Int) (g k : Nat) (w : World) (h1 : FaultAt w k c ⟨#[97]⟩ (.iface 209 (.pointer (some ⟨g, 0, none⟩)))) (h2 : FaultAt w g c ⟨#[98]⟩ .nilIface) :
    Calls Tryz.prog 203 #[.iface 209 (.pointer (some ⟨k, 0, none⟩))] w fun e w' => ∃ gp cp, e = .returned (.slice (some ⟨gp, 0, none⟩) 2 cp) ∧ 2 ≤ cp ∧ w'.cell? ⟨gp, 0, none⟩ = some (.string ⟨#[97]⟩) ∧ w'.cell? ⟨gp, 1, none⟩ = some (.string ⟨#[98]⟩) ∧ (∃ cur, w'.heap[gp]? = some (.cells cur 9 (0, 0))) ∧ Ext w w' := by
  have H1 := Lib.hid (fun W (hW : Ext w W) => (h1.ext hW).2.1)
  have H2 := Lib.hid (fun W (hW : Ext w W) => (h2.ext hW).2.1)
  have U1 := Lib.hid (fun W (hW : Ext w W) => eunwrap c _ k _ W (h1.ext hW))
  have U2 := Lib.hid (fun W (hW : Ext w W) => eunwrap c _ g _ W (h2.ext hW))
  have k1 := h1.2.1
  have hR0 : w.ownsRow w.heap.size 9 1 (.slice none 0 0) ([] : List ByteArray).length (encs Value.string []) := own_nil _ _ _ _
  have ht := ta209
  clear h1 h2
  go_enter Tryz.func203, Tryz.ntmps203
  go_wp2_with fail
  refine wp_loop_rounds 3 ?_
  rw [rounds_succ]
  go_wp2_with (first | ((with_reducible refine gate_builtin (b := .append) (xs := #[.tmp 27, .tmp 32]) rfl ?_); at_builtin; refine print_append_of Value.string (w0 := w) w.heap.size rfl (.tmp 27) (.tmp 32) 69 9 (.string ⟨#[]⟩) 16 rfl Tryz.underlying69 info9 rfl (by decide) _ [] ⟨#[97]⟩ rfl rfl rfl hR0 (Below.refl _ _) (Nat.le_refl _) (by decide) ?_; intro v1 w5 ho hb hg hat))
  refine (U1.out _ hb).mono ?_
  rintro e w6 ⟨rfl, rfl⟩
  have k2 := H2.out _ hb
  have HO := Lib.hid ho
  clear hR0 k1 hg hat ho
  go_wp2_with fail
  rw [rounds_succ]
  go_wp2_with (first | ((with_reducible refine gate_builtin (b := .append) (xs := #[.tmp 27, .tmp 32]) rfl ?_); at_builtin; refine print_append_of Value.string (w0 := w) w.heap.size rfl (.tmp 27) (.tmp 32) 69 9 (.string ⟨#[]⟩) 16 rfl Tryz.underlying69 info9 rfl (by decide) v1 ([] ++ [⟨#[97]⟩]) ⟨#[98]⟩ rfl rfl rfl HO.out hb (below_size hb) (by decide) ?_; intro v2 w7 ho2 hb2 hg hat))
  refine (U2.out _ hb2).mono ?_
  rintro e w8 ⟨rfl, rfl⟩
  have HO2 := Lib.hid ho2
  clear HO hb k2 hg hat U1 U2 ho2
  go_wp2_with fail
  rw [rounds_succ]
  have ho2 := HO2.out
  have hvv : v2 ≠ .slice none 0 0 := by
    rcases ho2.2 with ⟨_, h⟩ | ⟨g, cap, cur, h, _⟩
    · simp at h
    · rw [h]; intro e; cases e
  have hcur : ∀ gp cp, v2 = .slice (some ⟨gp, 0, none⟩) 2 cp → ∃ cur, w7.heap[gp]? = some (.cells cur 9 (0, 0)) := by
    intro gp cp e
    rcases ho2.2 with ⟨_, h⟩ | ⟨g, cap, cur, h, _, hh, _⟩
    · simp at h
    · rw [h] at e
      cases e
      exact ⟨cur, hh⟩
  obtain ⟨gp, cp, rfl, hgp, hgl, hle, -, -, hH⟩ := holds_of_ownsRow (enc := Value.string) (zs := [⟨#[97]⟩, ⟨#[98]⟩]) ho2 hvv
  have e0 := (hH 0 (by decide)).1
  have e1 := (hH 1 (by decide)).1
  have HX := Lib.hid hb2
  have HL := Lib.hid hle
  have HC := Lib.hid (hcur gp cp rfl)
  have HE := Lib.hid (And.intro e0 e1)
  clear hvv ho2 hH hb2 hgp hgl hle hcur e0 e1
  go_wp2
  go_ret
  exact ⟨gp, cp, rfl, HL.out, HE.out.1, HE.out.2, HC.out, HX.out⟩

theorem bw_string (B b : Nat) (bs : List Value) (s : ByteArray) (w : World) (h : Lib.IsBuilderF 235 5 B b bs w) (hlen : bs.length + s.size ≤ 140737488355328) (hBw : B ≤ w.heap.size) :
    Calls Tryz.prog 209 #[.pointer (some ⟨b, 0, none⟩), .string s] w fun e w' => e = .returned (.tuple #[.int .i64 s.size, .nilIface]) ∧ (Lib.BuilderAtF 235 5 B b (.pointer (some ⟨b, 0, none⟩)) (bs ++ Lib.strCells s) w' ∧ RowKit.Below B w w' ∧ Lib.OthersKept 5 (some b) w w') := Any.Builder_WriteString_k { Tryz.lays156 with } Tryz.Builder_Extra_156 B b bs s w h hlen hBw
theorem bs_string (B b : Nat) (l : List UInt8) (w : World) (h : Lib.IsBuilderF 235 5 B b (Lib.byteCells l) w) (hBw : B ≤ w.heap.size) :
    Calls Tryz.prog 211 #[.pointer (some ⟨b, 0, none⟩)] w fun e w' => e = .returned (.string ⟨l.toArray⟩) ∧ RowKit.Below B w w' := (Any.Builder_String_any_k Tryz.lays169 Tryz.Builder_Extra_169 B b l w h hBw).mono fun e w' h => ⟨h.1, h.2.2.1⟩
end Go.Proofs.YtdlcleecjeipnaaGreatDoor

/- An error's text; the statement of layer 1 with which all begin. -/
namespace Go.Proofs.YtdlcleecjeipnaaGreatDoor
open Go.RowKit Go.Proofs.YtdlcleecjeipnaaGreatDoorW.PrintWords Limbs Go.Sort Go.Lib
set_option linter.unusedVariables false

set_option maxHeartbeats 4000000 in
theorem ferror (g k : Nat) (w : World) (h1 : FaultAt w k 4 ⟨#[97]⟩ (.iface 209 (.pointer (some ⟨g, 0, none⟩)))) (h2 : FaultAt w g 4 ⟨#[98]⟩ .nilIface) :
    Calls Tryz.prog 294 #[.pointer (some ⟨k, 0, none⟩)] w fun e w' => e = .returned (.string ⟨#[97, 58, 32, 98, 58, 32, 101, 114, 114, 111, 114, 32, 52]⟩) ∧ Ext w w' := by
  have CW := Lib.hid (fwhere 4 g k (w.alloc (.cells #[.pointer none, .slice none 0 0] 235)) (h1.ext (Ext.alloc _ _)) (h2.ext (Ext.alloc _ _)))
  have C0 := Lib.hid (fun W (hW : Ext w W) => (h1.ext hW).1)
  have CI : Hid (∀ W, Calls Tryz.prog 293 #[.int .i64 4] W fun e w' => e = .returned (.string ⟨#[101, 114, 114, 111, 114, 32, 52]⟩) ∧ W = w') := Lib.hid (fun W => by
    have CT : Hid (Calls Tryz.prog 190 #[.int .i64 4] W fun e w' => e = .returned (.string ⟨#[52]⟩) ∧ W = w') := Lib.hid ((Tryz.strconv_Itoa_small 4 (by decide) W).mono fun e w' h => ⟨by rw [h.1, Decimal.dec_small (by decide)]; rfl, h.2.symm⟩)
    go_enter Tryz.func293, Tryz.ntmps293
    go_wp2_with fail
    refine CT.out.mono ?_
    rintro e w1 ⟨rfl, rfl⟩
    go_wp2
    go_ret
    exact ⟨rfl, rfl⟩)
  have HB0 : IsBuilderF 235 5 w.heap.size w.heap.size [] (w.alloc (.cells #[.pointer none, .slice none 0 0] 235)) := IsBuilderF.of (.inl ⟨Nat.le_refl _, _, heap_alloc_new _ _, own_nil _ _ _ _, by intro h; cases h⟩)
  have HB := Lib.hid HB0
  clear h1 h2 HB0
  go_enter Tryz.func294, Tryz.ntmps294
  go_wp2_with fail
  refine CW.out.mono ?_
  rintro e w2 ⟨gp, cp, rfl, hcp, e0, e1, ⟨cur, hcur⟩, hx2⟩
  have hbk : w2.heap[w.heap.size]? = (w.alloc (.cells #[.pointer none, .slice none 0 0] 235)).heap[w.heap.size]? := hx2.block _ (by simp)
  have hB2 : IsBuilderF 235 5 w.heap.size w.heap.size [] w2 := IsBuilderF.of (.inl ⟨Nat.le_refl _, _, hbk.trans (heap_alloc_new _ _), own_nil _ _ _ _, by intro h; cases h⟩)
  have hx : Ext w w2 := (Ext.alloc w _).trans hx2
  have hgp : gp ≠ w.heap.size := by
    intro e
    rw [e, hbk.trans (heap_alloc_new _ _)] at hcur
    cases hcur
  have c0 := C0.out _ hx
  have W1 := Lib.hid (bw_string w.heap.size w.heap.size [] ⟨#[97, 58, 32]⟩ w2 hB2 (by decide) hx.size)
  have HX := Lib.hid hx
  have HC := Lib.hid hcur
  have HG := Lib.hid hgp
  clear hB2 hbk hx hx2 HB CW hcur hgp
  go_wp2_with fail
  refine wp_loop_rounds 3 ?_
  rw [rounds_succ]
  go_wp2_with fail
  refine W1.out.mono ?_
  rintro e w3 ⟨rfl, hb3, hx3, ho3⟩
  obtain ⟨cur, hcur⟩ : ∃ cur, w2.heap[gp]? = some (.cells cur 9 (0, 0)) := ⟨cur, HC.out⟩
  have hk3 : w3.heap[gp]? = w2.heap[gp]? := by rw [ho3 gp _ hcur (by intro e; exact HG.out (Option.some.inj e)) (by intro c fz e; cases e), hcur]
  have e3 : w3.cell? ⟨gp, 1, none⟩ = some (.string ⟨#[98]⟩) := by rw [World.cell?_of_block (w := w2) hk3]; exact e1
  have hx' : Ext w w3 := HX.out.trans' hx3
  have W2 := Lib.hid (bw_string w.heap.size w.heap.size _ ⟨#[98, 58, 32]⟩ w3 (.inr hb3) (by simp [strCells_length]; decide) hx'.size)
  have c3 := C0.out _ hx'
  have HX' := Lib.hid hx'
  clear W1 e0 e1 c0 hcur hk3 ho3 hx3 HC HG HX hb3 hx'
  go_wp2_with fail
  rw [rounds_succ]
  go_wp2_with fail
  refine W2.out.mono ?_
  rintro e w4 ⟨rfl, hb4, hx4, ho4⟩
  have hx' : Ext w w4 := HX'.out.trans' hx4
  have W3 : Hid (∀ W, (W = w4 ∨ W = w4.drew) → Calls Tryz.prog 211 #[.pointer (some ⟨w.heap.size, 0, none⟩)] W fun e w' => e = .returned (.string ⟨#[97, 58, 32, 98, 58, 32]⟩) ∧ Ext w w' ∧ w'.cell? ⟨k, 0, none⟩ = some (.int .i64 4)) := Lib.hid (fun W hW => by
    rcases hW with rfl | rfl
    · refine (bs_string w.heap.size w.heap.size [97, 58, 32, 98, 58, 32] _ (.inr hb4) hx'.size).mono ?_
      rintro e w' ⟨rfl, h⟩
      exact ⟨rfl, hx'.trans' h, C0.out _ (hx'.trans' h)⟩
    · refine (bs_string w.heap.size w.heap.size [97, 58, 32, 98, 58, 32] w4.drew (.inr hb4.drew) hx'.size).mono ?_
      rintro e w' ⟨rfl, h⟩
      have hd : Ext w w4.drew := hx'.trans (Ext.drew _)
      exact ⟨rfl, hd.trans' h, C0.out _ (hd.trans' h)⟩)
  have c4 := C0.out _ hx'
  have HX4 := Lib.hid hx'
  clear W2 e3 c3 ho4 hx4 hb4 hx'
  go_wp2_with fail
  rw [rounds_succ]
  go_wp2_with fail
  clear C0
  go_region_with (first
    | (go_at_call 211; refine (W3.out _ ?_).mono ?_; first | exact .inl rfl | exact .inr rfl; rintro e w' ⟨rfl, hx5, c5⟩)
    | (go_at_call 293; refine (CI.out _).mono ?_; rintro e w' ⟨rfl, rfl⟩))
  all_goals (try go_wp2)
  all_goals (go_ret; exact ⟨rfl, hx5⟩)

set_option maxHeartbeats 4000000 in
/-- The statement of layer 1 with which all begin. -/
theorem begun1 (w : World) (hg : ErrT w) : Calls Tryz.prog 156 #[] w fun e w' => e = .returned (.bool true) ∧ Ext w w' := by
  have C1 := Lib.hid (fnew 4 ⟨#[98]⟩ (by decide) w)
  have C2 := Lib.hid (fun W g (hW : Ext w W) (h : FaultAt W g 4 ⟨#[98]⟩ .nilIface) => fwrap 4 ⟨#[98]⟩ ⟨#[97]⟩ g .nilIface W (hg.ext hW) h)
  have C3 := Lib.hid (fun W g k (h1 : FaultAt W k 4 ⟨#[97]⟩ (.iface 209 (.pointer (some ⟨g, 0, none⟩)))) (h2 : FaultAt W g 4 ⟨#[98]⟩ .nilIface) => fwhere 4 g k W h1 h2)
  have C4 := Lib.hid (fun W k (hW : Ext w W) (h : W.cell? ⟨k, 0, none⟩ = some (.int .i64 4)) => code_fault 4 k W (hg.ext hW) h)
  have C5 := Lib.hid (fun W g k (h1 : FaultAt W k 4 ⟨#[97]⟩ (.iface 209 (.pointer (some ⟨g, 0, none⟩)))) (h2 : FaultAt W g 4 ⟨#[98]⟩ .nilIface) => ferror g k W h1 h2)
  have C6 := Lib.hid (fun W g k (h1 : FaultAt W k 4 ⟨#[97]⟩ (.iface 209 (.pointer (some ⟨g, 0, none⟩)))) => Is_any true 4 k W (is_yes 4 _ k _ W h1))
  have C7 := Lib.hid (fun W g k (h1 : FaultAt W k 4 ⟨#[97]⟩ (.iface 209 (.pointer (some ⟨g, 0, none⟩)))) (h2 : FaultAt W g 4 ⟨#[98]⟩ .nilIface) => Is_any false 1 k W (is_no 4 1 _ _ g k W (by decide) h1 h2))
  have F4 : Hid (∀ W, Calls Tryz.prog 98 #[.int .i64 4] W fun e w' => e = .returned (.iface 199 (.int .i64 4)) ∧ W = w') := Lib.hid (fun W => fault_of 4 (by decide) W)
  have F1 : Hid (∀ W, Calls Tryz.prog 98 #[.int .i64 1] W fun e w' => e = .returned (.iface 199 (.int .i64 1)) ∧ W = w') := Lib.hid (fun W => fault_of 1 (by decide) W)
  have F3 : Hid (∀ W, Calls Tryz.prog 98 #[.int .i64 3] W fun e w' => e = .returned (.iface 199 (.int .i64 3)) ∧ W = w') := Lib.hid (fun W => fault_of 3 (by decide) W)
  have F0 := Lib.hid fault_of_ok
  have hm := methodError
  have he := eqPP
  clear hg
  go_enter Tryz.func156, Tryz.ntmps156
  go_wp2_with fail
  refine C1.out.mono ?_
  rintro e w1 ⟨g, rfl, h1, hx1⟩
  go_wp2_with fail
  refine (C2.out _ _ hx1 h1).mono ?_
  rintro e w2 ⟨k, rfl, h2, hx2⟩
  replace h1 := Lib.hid (h1.ext hx2)
  replace h2 := Lib.hid h2
  have HX := Lib.hid (hx1.trans hx2)
  clear hx1 hx2 C1 C2
  go_wp2_with fail
  refine (C3.out _ _ _ h2.out h1.out).mono ?_
  rintro e w3 ⟨gp, cp, rfl, hcp, e0, e1, -, hx3⟩
  replace h1 := Lib.hid (h1.out.ext hx3)
  replace h2 := Lib.hid (h2.out.ext hx3)
  replace HX := Lib.hid (HX.out.trans hx3)
  clear hx3 C3
  go_wp2_with fail
  refine (C4.out _ _ HX.out h2.out.1).mono ?_
  rintro e w4 ⟨rfl, hx4⟩
  replace h1 := Lib.hid (h1.out.ext hx4)
  replace h2 := Lib.hid (h2.out.ext hx4)
  replace HX := Lib.hid (HX.out.trans hx4)
  clear hx4 e0 e1 C4
  go_wp2_with fail
  refine (C5.out _ _ _ h2.out h1.out).mono ?_
  rintro e w5 ⟨rfl, hx5⟩
  replace h1 := Lib.hid (h1.out.ext hx5)
  replace h2 := Lib.hid (h2.out.ext hx5)
  replace HX := Lib.hid (HX.out.trans hx5)
  clear hx5 C5
  go_wp2_with fail
  refine (F4.out _).mono ?_
  rintro e w6 ⟨rfl, rfl⟩
  go_wp2_with fail
  refine (C6.out _ _ _ h2.out).mono ?_
  rintro e w6 ⟨rfl, rfl⟩
  go_wp2_with fail
  refine (F1.out _).mono ?_
  rintro e w6 ⟨rfl, rfl⟩
  go_wp2_with fail
  refine (C7.out _ _ _ h2.out h1.out).mono ?_
  rintro e w6 ⟨rfl, rfl⟩
  go_wp2_with fail
  refine (F0.out _).mono ?_
  rintro e w6 ⟨rfl, rfl⟩
  go_wp2_with fail
  refine (F3.out _).mono ?_
  rintro e w6 ⟨rfl, rfl⟩
  go_wp2_with fail
  refine (F3.out _).mono ?_
  rintro e w6 ⟨rfl, rfl⟩
  go_wp2
  go_ret
  exact ⟨rfl, HX.out⟩

theorem Begun1 (w : World) (hg : ErrT w) : Calls Tryz.prog 89 #[] w fun e w' => e = .returned (.bool true) ∧ Ext w w' := by
  have C1 := Lib.hid (begun1 w hg)
  clear hg
  go_enter Tryz.func89, Tryz.ntmps89
  go_wp2_with fail
  refine C1.out.mono ?_
  rintro e w1 ⟨rfl, hx⟩
  go_wp2
  go_ret
  exact ⟨rfl, hx⟩
end Go.Proofs.YtdlcleecjeipnaaGreatDoor

/- Package dec: powers of ten, the modes, a number with its point. -/
namespace Go.Proofs.YtdlcleecjeipnaaGreatDoor
open Go.RowKit Go.Proofs.YtdlcleecjeipnaaGreatDoorW.PrintWords Limbs Go.Sort Go.Lib
set_option linter.unusedVariables false

theorem ten_pow_big {p : Nat} (h : p ≤ 4194304) : 10 ^ p < BIG := by
  have h1 : (10 : Nat) ^ p ≤ (2 ^ 4) ^ p := Nat.pow_le_pow_left (by decide) _
  rw [← Nat.pow_mul] at h1
  rcases Nat.eq_zero_or_pos p with h0 | h0
  · subst h0; exact lt_BIG_of 1 (by decide) (by decide)
  · have h2 : (10 : Nat) ^ p < (2 ^ 4) ^ p := Nat.pow_lt_pow_left (by decide) (by omega)
    rw [← Nat.pow_mul] at h2
    exact Nat.lt_of_lt_of_le h2 (Nat.pow_le_pow_right (by decide) (by unfold bigE; omega))

theorem ten_any (p : Nat) (hp : p ≤ 4194304) (w : World) : Calls Tryz.prog 105 #[.int .i64 p] w (Ans (fun r w' => IntAt w' r ((10 ^ p : Nat) : Int)) w) := by
  have CO := Lib.hid (of_any 10 (by unfold B64; decide))
  have CP := Lib.hid (fun W x (h1 : IsNat W x 10) => pow_any (k := p) h1 (lt_BIG_of 4 (by decide) (by decide)) (ten_pow_big hp) (by omega))
  clear hp
  go_enter Tryz.func105, Tryz.ntmps105
  go_wp2_with fail
  refine (CO.out _).mono ?_
  rintro e w1 ⟨r1, rfl, h1, hx1⟩
  go_wp2_with fail
  refine (CP.out _ _ h1.is).mono ?_
  rintro e w2 ⟨r2, rfl, h2, hx2⟩
  have CN := Lib.hid (new_any (b := false) h2.is)
  go_wp2_with fail
  refine CN.out.mono ?_
  rintro e w3 ⟨r3, rfl, h3, hx3⟩
  go_wp2
  go_ret
  exact ⟨r3, rfl, h3, hx1.trans (hx2.trans hx3)⟩

/-- A row of digits with the point put in, p places from its end. -/
def body (s : List UInt8) (p : Nat) : List UInt8 :=
  if p = 0 then s else
    (List.replicate (p + 1 - s.length) 48 ++ s).take ((List.replicate (p + 1 - s.length) 48 ++ s).length - p) ++ 46 :: (List.replicate (p + 1 - s.length) 48 ++ s).drop ((List.replicate (p + 1 - s.length) 48 ++ s).length - p)
/-- What placed answers. -/
def ptx (z : Int) (p : Nat) : List UInt8 := if z < 0 then 45 :: body (decDigits z.natAbs) p else body (decDigits z.natAbs) p

theorem tx_extract (l : List UInt8) (i j : Nat) : (⟨l.toArray⟩ : ByteArray).extract i j = ⟨((l.drop i).take (j - i)).toArray⟩ := by
  apply ByteArray.ext
  simp [ByteArray.data_extract, List.extract_toArray]

/-- The row of digits and the point, as the program puts them together. -/
structure Pieces (t : List UInt8) (p m : Nat) (S E1 E2 E3 E4 : ByteArray) : Prop where
  s : S.size = m + p
  e1 : S.extract 0 m = E1
  e2 : S.extract m (m + p) = E2
  e3 : E1 ++ ⟨#[46]⟩ = E3
  e4 : E3 ++ E2 = E4
  s1 : E1.size = m
  s2 : E2.size = p
  s3 : E3.size = m + 1
  fin : E4 = ⟨(t.take (t.length - p) ++ 46 :: t.drop (t.length - p)).toArray⟩

theorem Pieces.of {t : List UInt8} {p m : Nat} (h : t.length = m + p) : ∃ E1 E2 E3 E4, Pieces t p m ⟨t.toArray⟩ E1 E2 E3 E4 := by
  have hm : t.length - p = m := by omega
  refine ⟨_, _, _, _, ⟨?_, rfl, rfl, rfl, rfl, ?_, ?_, ?_, ?_⟩⟩
  · show t.toArray.size = _; simp; exact h
  · rw [tx_extract]; show (List.toArray _).size = _; simp; omega
  · rw [tx_extract]; show (List.toArray _).size = _; simp; omega
  · rw [tx_extract, show (⟨#[46]⟩ : ByteArray) = ⟨[46].toArray⟩ from rfl, tx_append]; show (List.toArray _).size = _; simp; omega
  · rw [tx_extract, tx_extract, show (⟨#[46]⟩ : ByteArray) = ⟨[46].toArray⟩ from rfl, tx_append, tx_append, hm]
    congr 2
    simp [List.take_of_length_le, h]

set_option maxHeartbeats 1000000 in
theorem placed_a {w : World} {v : Value} {z : Int} {p : Nat} (h : IsInt w v z) (hz : z.natAbs < BIG) (hT : Tens w) (hp : p = 0) (hn : 0 ≤ z) :
    Calls Tryz.prog 103 #[v, .int .i64 p] w fun e w' => e = .returned (tx (ptx z p)) ∧ Ext w w' := by
  have CS := Lib.hid (fun W (hW : Ext w W) => sign_any (h.ext hW))
  have CA := Lib.hid (abs_any h)
  have CT := Lib.hid (fun W x (h1 : IsNat W x z.natAbs) (hW : Ext w W) => text_any h1 hz (hT.ext hW))
  have hdl := dec_len hz
  have hd0 := Decimal.dec_ne_nil z.natAbs
  obtain ⟨dl, hdd⟩ : ∃ dl, decDigits z.natAbs = dl := ⟨_, rfl⟩
  rw [hdd] at CT hdl hd0
  have hd1 : 0 < dl.length := List.length_pos_iff.2 hd0
  obtain ⟨E4, hE4⟩ : ∃ E4 : ByteArray, (⟨dl.toArray⟩ : ByteArray) = E4 := ⟨_, rfl⟩
  have hz4 : E4.size = dl.length := by rw [← hE4]; rfl
  have EZ : Hid (tx (ptx z p) = .string E4) := Lib.hid (by
    unfold ptx body tx
    rw [if_neg (by omega)]
    rw [if_pos hp, hdd, hE4])
  have es : decide (sgn z < 0) = false := by rw [sgn_lt]; exact decide_eq_false (by omega)
  obtain ⟨sz, hsz⟩ : ∃ sz, sgn z = sz := ⟨_, rfl⟩
  rw [hsz] at CS es
  unfold tx at CT
  subst hp
  rw [hE4] at CT
  obtain ⟨k, hk⟩ : ∃ k, dl.length = k := ⟨_, rfl⟩
  rw [hk] at hz4 hd1 hdl
  clear hz hT hdd hsz hn hd0 hE4 hk
  go_enter Tryz.func103, Tryz.ntmps103
  go_wp2_with fail
  refine CA.out.mono ?_
  rintro e w1 ⟨r, rfl, hr, hx1⟩
  go_wp2_with fail
  refine (CT.out _ _ hr hx1).mono ?_
  rintro e w2 ⟨rfl, hx2⟩
  go_wp2_with fail
  refine (CS.out _ ?_).mono ?_
  exact (hx1.trans hx2)
  rintro e w3 ⟨rfl, hx3⟩
  go_wp2
  go_ret
  exact ⟨by rw [EZ.out]; rfl, (hx1.trans hx2).trans hx3⟩

set_option maxHeartbeats 1000000 in
theorem placed_an {w : World} {v : Value} {z : Int} {p : Nat} (h : IsInt w v z) (hz : z.natAbs < BIG) (hT : Tens w) (hp : p = 0) (hn : z < 0) :
    Calls Tryz.prog 103 #[v, .int .i64 p] w fun e w' => e = .returned (tx (ptx z p)) ∧ Ext w w' := by
  have CS := Lib.hid (fun W (hW : Ext w W) => sign_any (h.ext hW))
  have CA := Lib.hid (abs_any h)
  have CT := Lib.hid (fun W x (h1 : IsNat W x z.natAbs) (hW : Ext w W) => text_any h1 hz (hT.ext hW))
  have hdl := dec_len hz
  have hd0 := Decimal.dec_ne_nil z.natAbs
  obtain ⟨dl, hdd⟩ : ∃ dl, decDigits z.natAbs = dl := ⟨_, rfl⟩
  rw [hdd] at CT hdl hd0
  have hd1 : 0 < dl.length := List.length_pos_iff.2 hd0
  obtain ⟨E4, hE4⟩ : ∃ E4 : ByteArray, (⟨dl.toArray⟩ : ByteArray) = E4 := ⟨_, rfl⟩
  have hz4 : E4.size = dl.length := by rw [← hE4]; rfl
  obtain ⟨E5, hE5⟩ : ∃ E5 : ByteArray, ⟨#[45]⟩ ++ E4 = E5 := ⟨_, rfl⟩
  have EZ : Hid (tx (ptx z p) = .string E5) := Lib.hid (by
    unfold ptx body
    rw [if_pos hn]
    rw [if_pos hp, hdd, ← hE5, ← hE4]
    rw [show (⟨#[45]⟩ : ByteArray) = ⟨[45].toArray⟩ from rfl, tx_append]; rfl)
  have es : decide (sgn z < 0) = true := by rw [sgn_lt]; exact decide_eq_true hn
  obtain ⟨sz, hsz⟩ : ∃ sz, sgn z = sz := ⟨_, rfl⟩
  rw [hsz] at CS es
  unfold tx at CT
  subst hp
  rw [hE4] at CT
  obtain ⟨k, hk⟩ : ∃ k, dl.length = k := ⟨_, rfl⟩
  rw [hk] at hz4 hd1 hdl
  clear hz hT hdd hsz hn hd0 hE4 hk
  go_enter Tryz.func103, Tryz.ntmps103
  go_wp2_with fail
  refine CA.out.mono ?_
  rintro e w1 ⟨r, rfl, hr, hx1⟩
  go_wp2_with fail
  refine (CT.out _ _ hr hx1).mono ?_
  rintro e w2 ⟨rfl, hx2⟩
  go_wp2_with fail
  refine (CS.out _ ?_).mono ?_
  exact (hx1.trans hx2)
  rintro e w3 ⟨rfl, hx3⟩
  go_wp2
  go_ret
  exact ⟨by rw [EZ.out]; rfl, (hx1.trans hx2).trans hx3⟩

set_option maxHeartbeats 1000000 in
theorem placed_b {w : World} {v : Value} {z : Int} {p : Nat} (h : IsInt w v z) (hz : z.natAbs < BIG) (hT : Tens w) (hp : 0 < p) (hp2 : p ≤ 4194304) (hl : (decDigits z.natAbs).length ≤ p) (hn : 0 ≤ z) :
    Calls Tryz.prog 103 #[v, .int .i64 p] w fun e w' => e = .returned (tx (ptx z p)) ∧ Ext w w' := by
  have CS := Lib.hid (fun W (hW : Ext w W) => sign_any (h.ext hW))
  have CA := Lib.hid (abs_any h)
  have CT := Lib.hid (fun W x (h1 : IsNat W x z.natAbs) (hW : Ext w W) => text_any h1 hz (hT.ext hW))
  have hdl := dec_len hz
  have hd0 := Decimal.dec_ne_nil z.natAbs
  obtain ⟨dl, hdd⟩ : ∃ dl, decDigits z.natAbs = dl := ⟨_, rfl⟩
  rw [hdd] at CT hdl hd0 hl
  have hd1 : 0 < dl.length := List.length_pos_iff.2 hd0
  obtain ⟨cn, hcn⟩ : ∃ cn, p + 1 - dl.length = cn := ⟨_, rfl⟩
  have ecn : (p : Int) + 1 - dl.length = (cn : Nat) := by omega
  have CR : Hid (∀ W, Calls Tryz.prog 161 #[.string ⟨#[48]⟩, .int .i64 cn] W fun e w' => e = .returned (.string ⟨(List.replicate cn 48).toArray⟩) ∧ Ext W w') := Lib.hid (fun W => (Tryz.strings_Repeat ⟨#[48]⟩ cn W (by omega) (by show 1 * cn ≤ _; omega)).mono fun e w' h => ⟨by rw [h.1]; show Ending.returned (.string ⟨(repeatL [48] cn).toArray⟩) = _; rw [repeat_one], h.2⟩)
  have hm : (List.replicate cn 48 ++ dl).length = 1 + p := by rw [List.length_append, List.length_replicate]; omega
  obtain ⟨E1, E2, E3, E4, hP⟩ := Pieces.of hm
  obtain ⟨R, hR⟩ : ∃ R : ByteArray, (⟨(List.replicate cn (48 : UInt8)).toArray⟩ : ByteArray) = R := ⟨_, rfl⟩
  obtain ⟨m, hm1⟩ : ∃ m : Nat, m = 1 := ⟨_, rfl⟩
  rw [← hm1] at hP hm
  have EZ : Hid (tx (ptx z p) = .string E4) := Lib.hid (by
    unfold ptx body tx
    rw [if_neg (by omega)]
    rw [if_neg (by omega), hdd, hcn, hP.fin])
  have es : decide (sgn z < 0) = false := by rw [sgn_lt]; exact decide_eq_false (by omega)
  obtain ⟨sz, hsz⟩ : ∃ sz, sgn z = sz := ⟨_, rfl⟩
  rw [hsz] at CS es
  unfold tx at CT
  obtain ⟨S0, hS0⟩ : ∃ S : ByteArray, (⟨dl.toArray⟩ : ByteArray) = S := ⟨_, rfl⟩
  obtain ⟨S, hS⟩ : ∃ S : ByteArray, (⟨(List.replicate cn 48 ++ dl).toArray⟩ : ByteArray) = S := ⟨_, rfl⟩
  have q0 : R ++ S0 = S := by rw [← hR, ← hS0, tx_append, hS]
  have y0 : S0.size = dl.length := by rw [← hS0]; rfl
  have y1 : R.size = cn := by rw [← hR]; show (List.toArray _).size = _; simp
  rw [hS] at hP
  rw [hS0] at CT
  rw [hR] at CR
  have hcb : cn + dl.length ≤ 9223372036854775807 := by omega
  have s0 := hP.s
  have q1 := hP.e1
  have q2 := hP.e2
  have q3 := hP.e3
  have q4 := hP.e4
  have z1 := hP.s1
  have z2 := hP.s2
  have z3 := hP.s3
  have z4 : E4.size = m + 1 + p := by rw [← q4, ByteArray.size_append, z3, z2]
  have hm0 : 0 < m := by omega
  have hmb : m + p ≤ 16777216 := by omega
  have hdb : dl.length ≤ 16777216 := by omega
  clear hz hT hdl hm hdd hS hS0 hR hP hsz hn hd0 hd1 hm1 hcn
  go_enter Tryz.func103, Tryz.ntmps103
  go_wp2_with fail
  refine CA.out.mono ?_
  rintro e w1 ⟨r, rfl, hr, hx1⟩
  go_wp2_with fail
  refine (CT.out _ _ hr hx1).mono ?_
  rintro e w2 ⟨rfl, hx2⟩
  go_wp2_with fail
  refine (CR.out _).mono ?_
  rintro e w2' ⟨rfl, hx2'⟩
  replace hx2 := hx2.trans hx2'
  go_wp2_with fail
  go_quiet (fail)
  go_wp2_with fail
  refine (CS.out _ ?_).mono ?_
  exact (hx1.trans hx2).trans (Ext.drewN _ _)
  rintro e w3 ⟨rfl, hx3⟩
  go_wp2
  go_ret
  exact ⟨by rw [EZ.out]; rfl, (hx1.trans hx2).trans ((Ext.drewN _ _).trans hx3)⟩

set_option maxHeartbeats 1000000 in
theorem placed_bn {w : World} {v : Value} {z : Int} {p : Nat} (h : IsInt w v z) (hz : z.natAbs < BIG) (hT : Tens w) (hp : 0 < p) (hp2 : p ≤ 4194304) (hl : (decDigits z.natAbs).length ≤ p) (hn : z < 0) :
    Calls Tryz.prog 103 #[v, .int .i64 p] w fun e w' => e = .returned (tx (ptx z p)) ∧ Ext w w' := by
  have CS := Lib.hid (fun W (hW : Ext w W) => sign_any (h.ext hW))
  have CA := Lib.hid (abs_any h)
  have CT := Lib.hid (fun W x (h1 : IsNat W x z.natAbs) (hW : Ext w W) => text_any h1 hz (hT.ext hW))
  have hdl := dec_len hz
  have hd0 := Decimal.dec_ne_nil z.natAbs
  obtain ⟨dl, hdd⟩ : ∃ dl, decDigits z.natAbs = dl := ⟨_, rfl⟩
  rw [hdd] at CT hdl hd0 hl
  have hd1 : 0 < dl.length := List.length_pos_iff.2 hd0
  obtain ⟨cn, hcn⟩ : ∃ cn, p + 1 - dl.length = cn := ⟨_, rfl⟩
  have ecn : (p : Int) + 1 - dl.length = (cn : Nat) := by omega
  have CR : Hid (∀ W, Calls Tryz.prog 161 #[.string ⟨#[48]⟩, .int .i64 cn] W fun e w' => e = .returned (.string ⟨(List.replicate cn 48).toArray⟩) ∧ Ext W w') := Lib.hid (fun W => (Tryz.strings_Repeat ⟨#[48]⟩ cn W (by omega) (by show 1 * cn ≤ _; omega)).mono fun e w' h => ⟨by rw [h.1]; show Ending.returned (.string ⟨(repeatL [48] cn).toArray⟩) = _; rw [repeat_one], h.2⟩)
  have hm : (List.replicate cn 48 ++ dl).length = 1 + p := by rw [List.length_append, List.length_replicate]; omega
  obtain ⟨E1, E2, E3, E4, hP⟩ := Pieces.of hm
  obtain ⟨R, hR⟩ : ∃ R : ByteArray, (⟨(List.replicate cn (48 : UInt8)).toArray⟩ : ByteArray) = R := ⟨_, rfl⟩
  obtain ⟨m, hm1⟩ : ∃ m : Nat, m = 1 := ⟨_, rfl⟩
  rw [← hm1] at hP hm
  obtain ⟨E5, hE5⟩ : ∃ E5 : ByteArray, ⟨#[45]⟩ ++ E4 = E5 := ⟨_, rfl⟩
  have EZ : Hid (tx (ptx z p) = .string E5) := Lib.hid (by
    unfold ptx body
    rw [if_pos hn]
    rw [if_neg (by omega), hdd, hcn, ← hE5, hP.fin]
    rw [show (⟨#[45]⟩ : ByteArray) = ⟨[45].toArray⟩ from rfl, tx_append]; rfl)
  have es : decide (sgn z < 0) = true := by rw [sgn_lt]; exact decide_eq_true hn
  obtain ⟨sz, hsz⟩ : ∃ sz, sgn z = sz := ⟨_, rfl⟩
  rw [hsz] at CS es
  unfold tx at CT
  obtain ⟨S0, hS0⟩ : ∃ S : ByteArray, (⟨dl.toArray⟩ : ByteArray) = S := ⟨_, rfl⟩
  obtain ⟨S, hS⟩ : ∃ S : ByteArray, (⟨(List.replicate cn 48 ++ dl).toArray⟩ : ByteArray) = S := ⟨_, rfl⟩
  have q0 : R ++ S0 = S := by rw [← hR, ← hS0, tx_append, hS]
  have y0 : S0.size = dl.length := by rw [← hS0]; rfl
  have y1 : R.size = cn := by rw [← hR]; show (List.toArray _).size = _; simp
  rw [hS] at hP
  rw [hS0] at CT
  rw [hR] at CR
  have hcb : cn + dl.length ≤ 9223372036854775807 := by omega
  have s0 := hP.s
  have q1 := hP.e1
  have q2 := hP.e2
  have q3 := hP.e3
  have q4 := hP.e4
  have z1 := hP.s1
  have z2 := hP.s2
  have z3 := hP.s3
  have z4 : E4.size = m + 1 + p := by rw [← q4, ByteArray.size_append, z3, z2]
  have hm0 : 0 < m := by omega
  have hmb : m + p ≤ 16777216 := by omega
  have hdb : dl.length ≤ 16777216 := by omega
  clear hz hT hdl hm hdd hS hS0 hR hP hsz hn hd0 hd1 hm1 hcn
  go_enter Tryz.func103, Tryz.ntmps103
  go_wp2_with fail
  refine CA.out.mono ?_
  rintro e w1 ⟨r, rfl, hr, hx1⟩
  go_wp2_with fail
  refine (CT.out _ _ hr hx1).mono ?_
  rintro e w2 ⟨rfl, hx2⟩
  go_wp2_with fail
  refine (CR.out _).mono ?_
  rintro e w2' ⟨rfl, hx2'⟩
  replace hx2 := hx2.trans hx2'
  go_wp2_with fail
  go_quiet (fail)
  go_wp2_with fail
  refine (CS.out _ ?_).mono ?_
  exact (hx1.trans hx2).trans (Ext.drewN _ _)
  rintro e w3 ⟨rfl, hx3⟩
  go_wp2
  go_ret
  exact ⟨by rw [EZ.out]; rfl, (hx1.trans hx2).trans ((Ext.drewN _ _).trans hx3)⟩

set_option maxHeartbeats 1000000 in
theorem placed_c {w : World} {v : Value} {z : Int} {p : Nat} (h : IsInt w v z) (hz : z.natAbs < BIG) (hT : Tens w) (hp : 0 < p) (hp2 : p ≤ 4194304) (hl : p < (decDigits z.natAbs).length) (hn : 0 ≤ z) :
    Calls Tryz.prog 103 #[v, .int .i64 p] w fun e w' => e = .returned (tx (ptx z p)) ∧ Ext w w' := by
  have CS := Lib.hid (fun W (hW : Ext w W) => sign_any (h.ext hW))
  have CA := Lib.hid (abs_any h)
  have CT := Lib.hid (fun W x (h1 : IsNat W x z.natAbs) (hW : Ext w W) => text_any h1 hz (hT.ext hW))
  have hdl := dec_len hz
  have hd0 := Decimal.dec_ne_nil z.natAbs
  obtain ⟨dl, hdd⟩ : ∃ dl, decDigits z.natAbs = dl := ⟨_, rfl⟩
  rw [hdd] at CT hdl hd0 hl
  have hd1 : 0 < dl.length := List.length_pos_iff.2 hd0
  obtain ⟨m, hm⟩ : ∃ m, dl.length = m + p := ⟨dl.length - p, by omega⟩
  obtain ⟨E1, E2, E3, E4, hP⟩ := Pieces.of hm
  have EZ : Hid (tx (ptx z p) = .string E4) := Lib.hid (by
    unfold ptx body tx
    rw [if_neg (by omega)]
    rw [if_neg (by omega), hdd, show p + 1 - dl.length = 0 from by omega, List.replicate_zero, List.nil_append, hP.fin])
  have es : decide (sgn z < 0) = false := by rw [sgn_lt]; exact decide_eq_false (by omega)
  obtain ⟨sz, hsz⟩ : ∃ sz, sgn z = sz := ⟨_, rfl⟩
  rw [hsz] at CS es
  unfold tx at CT
  obtain ⟨S, hS⟩ : ∃ S : ByteArray, (⟨dl.toArray⟩ : ByteArray) = S := ⟨_, rfl⟩
  rw [hS] at CT hP
  have s0 := hP.s
  have q1 := hP.e1
  have q2 := hP.e2
  have q3 := hP.e3
  have q4 := hP.e4
  have z1 := hP.s1
  have z2 := hP.s2
  have z3 := hP.s3
  have z4 : E4.size = m + 1 + p := by rw [← q4, ByteArray.size_append, z3, z2]
  have hm0 : 0 < m := by omega
  have hmb : m + p ≤ 16777216 := by omega
  clear hz hT hdl hl hm hdd hS hP hsz hn hd0 hd1
  go_enter Tryz.func103, Tryz.ntmps103
  go_wp2_with fail
  refine CA.out.mono ?_
  rintro e w1 ⟨r, rfl, hr, hx1⟩
  go_wp2_with fail
  refine (CT.out _ _ hr hx1).mono ?_
  rintro e w2 ⟨rfl, hx2⟩
  go_wp2_with fail
  go_quiet (fail)
  go_wp2_with fail
  refine (CS.out _ ?_).mono ?_
  exact (hx1.trans hx2).trans (Ext.drewN _ _)
  rintro e w3 ⟨rfl, hx3⟩
  go_wp2
  go_ret
  exact ⟨by rw [EZ.out]; rfl, (hx1.trans hx2).trans ((Ext.drewN _ _).trans hx3)⟩

set_option maxHeartbeats 1000000 in
theorem placed_cn {w : World} {v : Value} {z : Int} {p : Nat} (h : IsInt w v z) (hz : z.natAbs < BIG) (hT : Tens w) (hp : 0 < p) (hp2 : p ≤ 4194304) (hl : p < (decDigits z.natAbs).length) (hn : z < 0) :
    Calls Tryz.prog 103 #[v, .int .i64 p] w fun e w' => e = .returned (tx (ptx z p)) ∧ Ext w w' := by
  have CS := Lib.hid (fun W (hW : Ext w W) => sign_any (h.ext hW))
  have CA := Lib.hid (abs_any h)
  have CT := Lib.hid (fun W x (h1 : IsNat W x z.natAbs) (hW : Ext w W) => text_any h1 hz (hT.ext hW))
  have hdl := dec_len hz
  have hd0 := Decimal.dec_ne_nil z.natAbs
  obtain ⟨dl, hdd⟩ : ∃ dl, decDigits z.natAbs = dl := ⟨_, rfl⟩
  rw [hdd] at CT hdl hd0 hl
  have hd1 : 0 < dl.length := List.length_pos_iff.2 hd0
  obtain ⟨m, hm⟩ : ∃ m, dl.length = m + p := ⟨dl.length - p, by omega⟩
  obtain ⟨E1, E2, E3, E4, hP⟩ := Pieces.of hm
  obtain ⟨E5, hE5⟩ : ∃ E5 : ByteArray, ⟨#[45]⟩ ++ E4 = E5 := ⟨_, rfl⟩
  have EZ : Hid (tx (ptx z p) = .string E5) := Lib.hid (by
    unfold ptx body
    rw [if_pos hn]
    rw [if_neg (by omega), hdd, show p + 1 - dl.length = 0 from by omega, List.replicate_zero, List.nil_append, ← hE5, hP.fin]
    rw [show (⟨#[45]⟩ : ByteArray) = ⟨[45].toArray⟩ from rfl, tx_append]; rfl)
  have es : decide (sgn z < 0) = true := by rw [sgn_lt]; exact decide_eq_true hn
  obtain ⟨sz, hsz⟩ : ∃ sz, sgn z = sz := ⟨_, rfl⟩
  rw [hsz] at CS es
  unfold tx at CT
  obtain ⟨S, hS⟩ : ∃ S : ByteArray, (⟨dl.toArray⟩ : ByteArray) = S := ⟨_, rfl⟩
  rw [hS] at CT hP
  have s0 := hP.s
  have q1 := hP.e1
  have q2 := hP.e2
  have q3 := hP.e3
  have q4 := hP.e4
  have z1 := hP.s1
  have z2 := hP.s2
  have z3 := hP.s3
  have z4 : E4.size = m + 1 + p := by rw [← q4, ByteArray.size_append, z3, z2]
  have hm0 : 0 < m := by omega
  have hmb : m + p ≤ 16777216 := by omega
  clear hz hT hdl hl hm hdd hS hP hsz hn hd0 hd1
  go_enter Tryz.func103, Tryz.ntmps103
  go_wp2_with fail
  refine CA.out.mono ?_
  rintro e w1 ⟨r, rfl, hr, hx1⟩
  go_wp2_with fail
  refine (CT.out _ _ hr hx1).mono ?_
  rintro e w2 ⟨rfl, hx2⟩
  go_wp2_with fail
  go_quiet (fail)
  go_wp2_with fail
  refine (CS.out _ ?_).mono ?_
  exact (hx1.trans hx2).trans (Ext.drewN _ _)
  rintro e w3 ⟨rfl, hx3⟩
  go_wp2
  go_ret
  exact ⟨by rw [EZ.out]; rfl, (hx1.trans hx2).trans ((Ext.drewN _ _).trans hx3)⟩

theorem placed_any {w : World} {v : Value} {z : Int} {p : Nat} (h : IsInt w v z) (hz : z.natAbs < BIG) (hT : Tens w) (hp2 : p ≤ 4194304) :
    Calls Tryz.prog 103 #[v, .int .i64 p] w fun e w' => e = .returned (tx (ptx z p)) ∧ Ext w w' := by
  rcases Int.lt_or_le z 0 with hn | hn
  · rcases Nat.eq_zero_or_pos p with hp | hp
    · exact placed_an h hz hT hp hn
    · rcases Nat.lt_or_ge p (decDigits z.natAbs).length with hl | hl
      · exact placed_cn h hz hT hp hp2 hl hn
      · exact placed_bn h hz hT hp hp2 hl hn
  · rcases Nat.eq_zero_or_pos p with hp | hp
    · exact placed_a h hz hT hp hn
    · rcases Nat.lt_or_ge p (decDigits z.natAbs).length with hl | hl
      · exact placed_c h hz hT hp hp2 hl hn
      · exact placed_b h hz hT hp hp2 hl hn
end Go.Proofs.YtdlcleecjeipnaaGreatDoor

/- Package dec: the modes, a quotient rounded. -/
namespace Go.Proofs.YtdlcleecjeipnaaGreatDoor
open Go.RowKit Go.Proofs.YtdlcleecjeipnaaGreatDoorW.PrintWords Limbs Go.Sort Go.Lib
set_option linter.unusedVariables false

theorem mode_any (m : Int) (w : World) : Calls Tryz.prog 102 #[.int .i64 m] w fun e w' => e = .returned (.bool (decide (m = 1 ∨ m = 2 ∨ m = 3))) ∧ w = w' := by
  by_cases h1 : m = 1
  · subst h1
    go_enter Tryz.func102, Tryz.ntmps102
    go_wp2
    go_ret
    exact ⟨rfl, rfl⟩
  · have b1 : (m == 1) = false := beq_eq_false_iff_ne.2 h1
    by_cases h2 : m = 2
    · subst h2
      go_enter Tryz.func102, Tryz.ntmps102
      go_wp2
      go_ret
      exact ⟨rfl, rfl⟩
    · have b2 : (m == 2) = false := beq_eq_false_iff_ne.2 h2
      by_cases h3 : m = 3
      · subst h3
        go_enter Tryz.func102, Tryz.ntmps102
        go_wp2
        go_ret
        exact ⟨rfl, rfl⟩
      · have b3 : (m == 3) = false := beq_eq_false_iff_ne.2 h3
        have e : decide (m = 1 ∨ m = 2 ∨ m = 3) = false := decide_eq_false (by omega)
        rw [e]
        clear h1 h2 h3 e
        go_enter Tryz.func102, Tryz.ntmps102
        go_wp2
        go_ret
        exact ⟨rfl, rfl⟩

set_option maxHeartbeats 1000000 in
theorem whole_gt {w : World} {u v : Value} {n : Int} {d : Nat} {mode : Int} (hu : IsInt w u n) (hv : IsInt w v d) (hd : 0 < d) (hn : n.natAbs < BIG) (hdB : d < BIG) (hc : d < n.natAbs % d + n.natAbs % d) (hmo : mode ≠ 3) :
    Calls Tryz.prog 104 #[u, v, .int .i64 mode] w (Ans (fun r w' => IntAt w' r (sg (decide (n < 0)) (n.natAbs / d + 1))) w) := by
  have CA := Lib.hid (fun W (hW : Ext w W) => abs_any (hu.ext hW))
  have CB := Lib.hid (fun W (hW : Ext w W) => abs_any (hv.ext hW))
  have CS := Lib.hid (fun W (hW : Ext w W) => sign_any (hu.ext hW))
  have es := sgn_lt n
  obtain ⟨cn, hcn⟩ : ∃ cn, decide (n < 0) = cn := ⟨_, rfl⟩
  obtain ⟨s, hs⟩ : ∃ s, sgn n = s := ⟨_, rfl⟩
  rw [hs] at CS es
  rw [hcn] at es
  rw [Int.natAbs_natCast] at CB
  obtain ⟨a, ha⟩ : ∃ a, n.natAbs = a := ⟨_, rfl⟩
  rw [ha] at CA hn hc
  have hm0 : a % d < d := Nat.mod_lt _ hd
  have D1 := Lib.hid (fun W x y (h1 : IsNat W x a) (h2 : IsNat W y d) => div_any h1 h2 hd hn)
  have hqB : a / d < BIG := Nat.lt_of_le_of_lt (Nat.div_le_self _ _) hn
  have hmB : a % d < BIG := Nat.lt_trans hm0 hdB
  have h1B : (1 : Nat) < BIG := lt_BIG_of 1 (by decide) (by decide)
  unfold DivPost at D1
  obtain ⟨q, hq⟩ : ∃ q, a / d = q := ⟨_, rfl⟩
  obtain ⟨m, hm⟩ : ∃ m, a % d = m := ⟨_, rfl⟩
  rw [hq, hm] at D1
  rw [hm] at hc hmB
  rw [hq] at hqB
  have D2 := Lib.hid (fun W x y (h1 : IsNat W x q) (h2 : IsNat W y 2) => div_any h1 h2 (by decide) hqB)
  unfold DivPost at D2
  have C2 := Lib.hid (of_any 2 (by unfold B64; decide))
  have CP := Lib.hid (fun W x (h1 : IsNat W x m) => add_any h1 h1 hmB hmB)
  have CC := Lib.hid (fun W x y (h1 : IsNat W x (m + m)) (h2 : IsNat W y d) => cmp_any h1 h2)
  have C1 := Lib.hid (of_any 1 (by unfold B64; decide))
  have CQ := Lib.hid (fun W x y (h1 : IsNat W x q) (h2 : IsNat W y 1) => add_any h1 h2 hqB h1B)
  have ek : cmpI (m + m : Nat) d = 1 := cmpI_gt (by omega)
  have b3 : (mode == 3) = false := beq_eq_false_iff_ne.2 hmo
  rw [hcn, ha, hq]
  clear hn hdB hd hm0 hqB hmB h1B hs hcn ha hq hm hc
  go_enter Tryz.func104, Tryz.ntmps104
  go_wp2_with fail
  refine (CA.out _ (Ext.refl _)).mono ?_
  rintro e w1 ⟨r1, rfl, h1, hx1⟩
  go_wp2_with fail
  refine (CB.out _ hx1).mono ?_
  rintro e w2 ⟨r2, rfl, h2, hx2⟩
  go_wp2_with fail
  refine (D1.out _ _ _ (h1.ext hx2) h2).mono ?_
  rintro e w3 ⟨rq, rm, re, rfl, ⟨hrq, hrm, rfl⟩, hx3⟩
  have hy := hx1.trans (hx2.trans hx3)
  clear hx1 hx2 hx3 h1 h2 D1 CA
  go_wp2_with fail
  refine (C2.out _).mono ?_
  rintro e w4 ⟨r4, rfl, h4, hx4⟩
  go_wp2_with fail
  refine (D2.out _ _ _ (hrq.ext hx4).is h4.is).mono ?_
  rintro e w5 ⟨rq5, rm5, re5, rfl, ⟨-, ho5, rfl⟩, hx5⟩
  replace hrq := hrq.ext (hx4.trans hx5)
  replace hrm := hrm.ext (hx4.trans hx5)
  replace hy := hy.trans (hx4.trans hx5)
  clear hx4 hx5 h4 C2 D2
  go_wp2_with fail
  refine (CP.out _ _ hrm.is).mono ?_
  rintro e w6 ⟨r6, rfl, h6, hx6⟩
  go_wp2_with fail
  refine (CB.out _ (hy.trans hx6)).mono ?_
  rintro e w7 ⟨r7, rfl, h7, hx7⟩
  go_wp2_with fail
  refine (CC.out _ _ _ (h6.ext hx7).is h7).mono ?_
  rintro e w8 ⟨rfl, hx8⟩
  rw [ek]
  have hz := hx6.trans (hx7.trans hx8)
  replace hrq := hrq.ext hz
  replace ho5 := ho5.ext hz
  replace hy := hy.trans hz
  clear hx6 hx7 hx8 hz h6 h7 hrm CP CC CB ek
  go_wp2_with fail
  refine (C1.out _).mono ?_
  rintro e w9 ⟨r9, rfl, h9, hx9⟩
  go_wp2_with fail
  refine (CQ.out _ _ _ (hrq.ext hx9).is h9.is).mono ?_
  rintro e w10 ⟨r10, rfl, hrq, hx10⟩
  replace hy := hy.trans (hx9.trans hx10)
  clear hx9 hx10 h9 CQ C1
  go_wp2_with fail
  refine (CS.out _ hy).mono ?_
  rintro e w11 ⟨rfl, hx11⟩
  have CN := Lib.hid (new_any (b := cn) (hrq.ext hx11).is)
  go_wp2_with fail
  refine CN.out.mono ?_
  rintro e w12 ⟨r12, rfl, h12, hx12⟩
  go_wp2
  go_ret
  exact ⟨r12, rfl, h12, hy.trans (hx11.trans hx12)⟩

set_option maxHeartbeats 1000000 in
theorem whole_gt3 {w : World} {u v : Value} {n : Int} {d : Nat} {mode : Int} (hu : IsInt w u n) (hv : IsInt w v d) (hd : 0 < d) (hn : n.natAbs < BIG) (hdB : d < BIG) (hc : d < n.natAbs % d + n.natAbs % d) (hmo : mode = 3) :
    Calls Tryz.prog 104 #[u, v, .int .i64 mode] w (Ans (fun r w' => IntAt w' r (sg (decide (n < 0)) (n.natAbs / d))) w) := by
  have CA := Lib.hid (fun W (hW : Ext w W) => abs_any (hu.ext hW))
  have CB := Lib.hid (fun W (hW : Ext w W) => abs_any (hv.ext hW))
  have CS := Lib.hid (fun W (hW : Ext w W) => sign_any (hu.ext hW))
  have es := sgn_lt n
  obtain ⟨cn, hcn⟩ : ∃ cn, decide (n < 0) = cn := ⟨_, rfl⟩
  obtain ⟨s, hs⟩ : ∃ s, sgn n = s := ⟨_, rfl⟩
  rw [hs] at CS es
  rw [hcn] at es
  rw [Int.natAbs_natCast] at CB
  obtain ⟨a, ha⟩ : ∃ a, n.natAbs = a := ⟨_, rfl⟩
  rw [ha] at CA hn hc
  have hm0 : a % d < d := Nat.mod_lt _ hd
  have D1 := Lib.hid (fun W x y (h1 : IsNat W x a) (h2 : IsNat W y d) => div_any h1 h2 hd hn)
  have hqB : a / d < BIG := Nat.lt_of_le_of_lt (Nat.div_le_self _ _) hn
  have hmB : a % d < BIG := Nat.lt_trans hm0 hdB
  have h1B : (1 : Nat) < BIG := lt_BIG_of 1 (by decide) (by decide)
  unfold DivPost at D1
  obtain ⟨q, hq⟩ : ∃ q, a / d = q := ⟨_, rfl⟩
  obtain ⟨m, hm⟩ : ∃ m, a % d = m := ⟨_, rfl⟩
  rw [hq, hm] at D1
  rw [hm] at hc hmB
  rw [hq] at hqB
  have D2 := Lib.hid (fun W x y (h1 : IsNat W x q) (h2 : IsNat W y 2) => div_any h1 h2 (by decide) hqB)
  unfold DivPost at D2
  have C2 := Lib.hid (of_any 2 (by unfold B64; decide))
  have CP := Lib.hid (fun W x (h1 : IsNat W x m) => add_any h1 h1 hmB hmB)
  have CC := Lib.hid (fun W x y (h1 : IsNat W x (m + m)) (h2 : IsNat W y d) => cmp_any h1 h2)
  have ek : cmpI (m + m : Nat) d = 1 := cmpI_gt (by omega)
  subst hmo
  rw [hcn, ha, hq]
  clear hn hdB hd hm0 hqB hmB h1B hs hcn ha hq hm hc
  go_enter Tryz.func104, Tryz.ntmps104
  go_wp2_with fail
  refine (CA.out _ (Ext.refl _)).mono ?_
  rintro e w1 ⟨r1, rfl, h1, hx1⟩
  go_wp2_with fail
  refine (CB.out _ hx1).mono ?_
  rintro e w2 ⟨r2, rfl, h2, hx2⟩
  go_wp2_with fail
  refine (D1.out _ _ _ (h1.ext hx2) h2).mono ?_
  rintro e w3 ⟨rq, rm, re, rfl, ⟨hrq, hrm, rfl⟩, hx3⟩
  have hy := hx1.trans (hx2.trans hx3)
  clear hx1 hx2 hx3 h1 h2 D1 CA
  go_wp2_with fail
  refine (C2.out _).mono ?_
  rintro e w4 ⟨r4, rfl, h4, hx4⟩
  go_wp2_with fail
  refine (D2.out _ _ _ (hrq.ext hx4).is h4.is).mono ?_
  rintro e w5 ⟨rq5, rm5, re5, rfl, ⟨-, ho5, rfl⟩, hx5⟩
  replace hrq := hrq.ext (hx4.trans hx5)
  replace hrm := hrm.ext (hx4.trans hx5)
  replace hy := hy.trans (hx4.trans hx5)
  clear hx4 hx5 h4 C2 D2
  go_wp2_with fail
  refine (CP.out _ _ hrm.is).mono ?_
  rintro e w6 ⟨r6, rfl, h6, hx6⟩
  go_wp2_with fail
  refine (CB.out _ (hy.trans hx6)).mono ?_
  rintro e w7 ⟨r7, rfl, h7, hx7⟩
  go_wp2_with fail
  refine (CC.out _ _ _ (h6.ext hx7).is h7).mono ?_
  rintro e w8 ⟨rfl, hx8⟩
  rw [ek]
  have hz := hx6.trans (hx7.trans hx8)
  replace hrq := hrq.ext hz
  replace ho5 := ho5.ext hz
  replace hy := hy.trans hz
  clear hx6 hx7 hx8 hz h6 h7 hrm CP CC CB ek
  go_wp2_with fail
  refine (CS.out _ hy).mono ?_
  rintro e w11 ⟨rfl, hx11⟩
  have CN := Lib.hid (new_any (b := cn) (hrq.ext hx11).is)
  go_wp2_with fail
  refine CN.out.mono ?_
  rintro e w12 ⟨r12, rfl, h12, hx12⟩
  go_wp2
  go_ret
  exact ⟨r12, rfl, h12, hy.trans (hx11.trans hx12)⟩

set_option maxHeartbeats 1000000 in
theorem whole_lt {w : World} {u v : Value} {n : Int} {d : Nat} {mode : Int} (hu : IsInt w u n) (hv : IsInt w v d) (hd : 0 < d) (hn : n.natAbs < BIG) (hdB : d < BIG) (hc : n.natAbs % d + n.natAbs % d < d) :
    Calls Tryz.prog 104 #[u, v, .int .i64 mode] w (Ans (fun r w' => IntAt w' r (sg (decide (n < 0)) (n.natAbs / d))) w) := by
  have CA := Lib.hid (fun W (hW : Ext w W) => abs_any (hu.ext hW))
  have CB := Lib.hid (fun W (hW : Ext w W) => abs_any (hv.ext hW))
  have CS := Lib.hid (fun W (hW : Ext w W) => sign_any (hu.ext hW))
  have es := sgn_lt n
  obtain ⟨cn, hcn⟩ : ∃ cn, decide (n < 0) = cn := ⟨_, rfl⟩
  obtain ⟨s, hs⟩ : ∃ s, sgn n = s := ⟨_, rfl⟩
  rw [hs] at CS es
  rw [hcn] at es
  rw [Int.natAbs_natCast] at CB
  obtain ⟨a, ha⟩ : ∃ a, n.natAbs = a := ⟨_, rfl⟩
  rw [ha] at CA hn hc
  have hm0 : a % d < d := Nat.mod_lt _ hd
  have D1 := Lib.hid (fun W x y (h1 : IsNat W x a) (h2 : IsNat W y d) => div_any h1 h2 hd hn)
  have hqB : a / d < BIG := Nat.lt_of_le_of_lt (Nat.div_le_self _ _) hn
  have hmB : a % d < BIG := Nat.lt_trans hm0 hdB
  have h1B : (1 : Nat) < BIG := lt_BIG_of 1 (by decide) (by decide)
  unfold DivPost at D1
  obtain ⟨q, hq⟩ : ∃ q, a / d = q := ⟨_, rfl⟩
  obtain ⟨m, hm⟩ : ∃ m, a % d = m := ⟨_, rfl⟩
  rw [hq, hm] at D1
  rw [hm] at hc hmB
  rw [hq] at hqB
  have D2 := Lib.hid (fun W x y (h1 : IsNat W x q) (h2 : IsNat W y 2) => div_any h1 h2 (by decide) hqB)
  unfold DivPost at D2
  have C2 := Lib.hid (of_any 2 (by unfold B64; decide))
  have CP := Lib.hid (fun W x (h1 : IsNat W x m) => add_any h1 h1 hmB hmB)
  have CC := Lib.hid (fun W x y (h1 : IsNat W x (m + m)) (h2 : IsNat W y d) => cmp_any h1 h2)
  have ek : cmpI (m + m : Nat) d = -1 := cmpI_lt (by omega)
  rw [hcn, ha, hq]
  clear hn hdB hd hm0 hqB hmB h1B hs hcn ha hq hm hc
  go_enter Tryz.func104, Tryz.ntmps104
  go_wp2_with fail
  refine (CA.out _ (Ext.refl _)).mono ?_
  rintro e w1 ⟨r1, rfl, h1, hx1⟩
  go_wp2_with fail
  refine (CB.out _ hx1).mono ?_
  rintro e w2 ⟨r2, rfl, h2, hx2⟩
  go_wp2_with fail
  refine (D1.out _ _ _ (h1.ext hx2) h2).mono ?_
  rintro e w3 ⟨rq, rm, re, rfl, ⟨hrq, hrm, rfl⟩, hx3⟩
  have hy := hx1.trans (hx2.trans hx3)
  clear hx1 hx2 hx3 h1 h2 D1 CA
  go_wp2_with fail
  refine (C2.out _).mono ?_
  rintro e w4 ⟨r4, rfl, h4, hx4⟩
  go_wp2_with fail
  refine (D2.out _ _ _ (hrq.ext hx4).is h4.is).mono ?_
  rintro e w5 ⟨rq5, rm5, re5, rfl, ⟨-, ho5, rfl⟩, hx5⟩
  replace hrq := hrq.ext (hx4.trans hx5)
  replace hrm := hrm.ext (hx4.trans hx5)
  replace hy := hy.trans (hx4.trans hx5)
  clear hx4 hx5 h4 C2 D2
  go_wp2_with fail
  refine (CP.out _ _ hrm.is).mono ?_
  rintro e w6 ⟨r6, rfl, h6, hx6⟩
  go_wp2_with fail
  refine (CB.out _ (hy.trans hx6)).mono ?_
  rintro e w7 ⟨r7, rfl, h7, hx7⟩
  go_wp2_with fail
  refine (CC.out _ _ _ (h6.ext hx7).is h7).mono ?_
  rintro e w8 ⟨rfl, hx8⟩
  rw [ek]
  have hz := hx6.trans (hx7.trans hx8)
  replace hrq := hrq.ext hz
  replace ho5 := ho5.ext hz
  replace hy := hy.trans hz
  clear hx6 hx7 hx8 hz h6 h7 hrm CP CC CB ek
  go_wp2_with fail
  refine (CS.out _ hy).mono ?_
  rintro e w11 ⟨rfl, hx11⟩
  have CN := Lib.hid (new_any (b := cn) (hrq.ext hx11).is)
  go_wp2_with fail
  refine CN.out.mono ?_
  rintro e w12 ⟨r12, rfl, h12, hx12⟩
  go_wp2
  go_ret
  exact ⟨r12, rfl, h12, hy.trans (hx11.trans hx12)⟩

set_option maxHeartbeats 1000000 in
theorem whole_eq1 {w : World} {u v : Value} {n : Int} {d : Nat} {mode : Int} (hu : IsInt w u n) (hv : IsInt w v d) (hd : 0 < d) (hn : n.natAbs < BIG) (hdB : d < BIG) (hc : n.natAbs % d + n.natAbs % d = d) (hmo : mode = 1) :
    Calls Tryz.prog 104 #[u, v, .int .i64 mode] w (Ans (fun r w' => IntAt w' r (sg (decide (n < 0)) (n.natAbs / d + 1))) w) := by
  have CA := Lib.hid (fun W (hW : Ext w W) => abs_any (hu.ext hW))
  have CB := Lib.hid (fun W (hW : Ext w W) => abs_any (hv.ext hW))
  have CS := Lib.hid (fun W (hW : Ext w W) => sign_any (hu.ext hW))
  have es := sgn_lt n
  obtain ⟨cn, hcn⟩ : ∃ cn, decide (n < 0) = cn := ⟨_, rfl⟩
  obtain ⟨s, hs⟩ : ∃ s, sgn n = s := ⟨_, rfl⟩
  rw [hs] at CS es
  rw [hcn] at es
  rw [Int.natAbs_natCast] at CB
  obtain ⟨a, ha⟩ : ∃ a, n.natAbs = a := ⟨_, rfl⟩
  rw [ha] at CA hn hc
  have hm0 : a % d < d := Nat.mod_lt _ hd
  have D1 := Lib.hid (fun W x y (h1 : IsNat W x a) (h2 : IsNat W y d) => div_any h1 h2 hd hn)
  have hqB : a / d < BIG := Nat.lt_of_le_of_lt (Nat.div_le_self _ _) hn
  have hmB : a % d < BIG := Nat.lt_trans hm0 hdB
  have h1B : (1 : Nat) < BIG := lt_BIG_of 1 (by decide) (by decide)
  unfold DivPost at D1
  obtain ⟨q, hq⟩ : ∃ q, a / d = q := ⟨_, rfl⟩
  obtain ⟨m, hm⟩ : ∃ m, a % d = m := ⟨_, rfl⟩
  rw [hq, hm] at D1
  rw [hm] at hc hmB
  rw [hq] at hqB
  have D2 := Lib.hid (fun W x y (h1 : IsNat W x q) (h2 : IsNat W y 2) => div_any h1 h2 (by decide) hqB)
  unfold DivPost at D2
  have C2 := Lib.hid (of_any 2 (by unfold B64; decide))
  have CP := Lib.hid (fun W x (h1 : IsNat W x m) => add_any h1 h1 hmB hmB)
  have CC := Lib.hid (fun W x y (h1 : IsNat W x (m + m)) (h2 : IsNat W y d) => cmp_any h1 h2)
  have C1 := Lib.hid (of_any 1 (by unfold B64; decide))
  have CQ := Lib.hid (fun W x y (h1 : IsNat W x q) (h2 : IsNat W y 1) => add_any h1 h2 hqB h1B)
  have ek : cmpI (m + m : Nat) d = 0 := by rw [hc]; exact cmpI_eq _
  subst hmo
  rw [hcn, ha, hq]
  clear hn hdB hd hm0 hqB hmB h1B hs hcn ha hq hm hc
  go_enter Tryz.func104, Tryz.ntmps104
  go_wp2_with fail
  refine (CA.out _ (Ext.refl _)).mono ?_
  rintro e w1 ⟨r1, rfl, h1, hx1⟩
  go_wp2_with fail
  refine (CB.out _ hx1).mono ?_
  rintro e w2 ⟨r2, rfl, h2, hx2⟩
  go_wp2_with fail
  refine (D1.out _ _ _ (h1.ext hx2) h2).mono ?_
  rintro e w3 ⟨rq, rm, re, rfl, ⟨hrq, hrm, rfl⟩, hx3⟩
  have hy := hx1.trans (hx2.trans hx3)
  clear hx1 hx2 hx3 h1 h2 D1 CA
  go_wp2_with fail
  refine (C2.out _).mono ?_
  rintro e w4 ⟨r4, rfl, h4, hx4⟩
  go_wp2_with fail
  refine (D2.out _ _ _ (hrq.ext hx4).is h4.is).mono ?_
  rintro e w5 ⟨rq5, rm5, re5, rfl, ⟨-, ho5, rfl⟩, hx5⟩
  replace hrq := hrq.ext (hx4.trans hx5)
  replace hrm := hrm.ext (hx4.trans hx5)
  replace hy := hy.trans (hx4.trans hx5)
  clear hx4 hx5 h4 C2 D2
  go_wp2_with fail
  refine (CP.out _ _ hrm.is).mono ?_
  rintro e w6 ⟨r6, rfl, h6, hx6⟩
  go_wp2_with fail
  refine (CB.out _ (hy.trans hx6)).mono ?_
  rintro e w7 ⟨r7, rfl, h7, hx7⟩
  go_wp2_with fail
  refine (CC.out _ _ _ (h6.ext hx7).is h7).mono ?_
  rintro e w8 ⟨rfl, hx8⟩
  rw [ek]
  have hz := hx6.trans (hx7.trans hx8)
  replace hrq := hrq.ext hz
  replace ho5 := ho5.ext hz
  replace hy := hy.trans hz
  clear hx6 hx7 hx8 hz h6 h7 hrm CP CC CB ek
  go_wp2_with fail
  refine (C1.out _).mono ?_
  rintro e w9 ⟨r9, rfl, h9, hx9⟩
  go_wp2_with fail
  refine (CQ.out _ _ _ (hrq.ext hx9).is h9.is).mono ?_
  rintro e w10 ⟨r10, rfl, hrq, hx10⟩
  replace hy := hy.trans (hx9.trans hx10)
  clear hx9 hx10 h9 CQ C1
  go_wp2_with fail
  refine (CS.out _ hy).mono ?_
  rintro e w11 ⟨rfl, hx11⟩
  have CN := Lib.hid (new_any (b := cn) (hrq.ext hx11).is)
  go_wp2_with fail
  refine CN.out.mono ?_
  rintro e w12 ⟨r12, rfl, h12, hx12⟩
  go_wp2
  go_ret
  exact ⟨r12, rfl, h12, hy.trans (hx11.trans hx12)⟩

set_option maxHeartbeats 1000000 in
theorem whole_eq2o {w : World} {u v : Value} {n : Int} {d : Nat} {mode : Int} (hu : IsInt w u n) (hv : IsInt w v d) (hd : 0 < d) (hn : n.natAbs < BIG) (hdB : d < BIG) (hc : n.natAbs % d + n.natAbs % d = d) (hmo : mode = 2) (ho : n.natAbs / d % 2 = 1) :
    Calls Tryz.prog 104 #[u, v, .int .i64 mode] w (Ans (fun r w' => IntAt w' r (sg (decide (n < 0)) (n.natAbs / d + 1))) w) := by
  have CA := Lib.hid (fun W (hW : Ext w W) => abs_any (hu.ext hW))
  have CB := Lib.hid (fun W (hW : Ext w W) => abs_any (hv.ext hW))
  have CS := Lib.hid (fun W (hW : Ext w W) => sign_any (hu.ext hW))
  have es := sgn_lt n
  obtain ⟨cn, hcn⟩ : ∃ cn, decide (n < 0) = cn := ⟨_, rfl⟩
  obtain ⟨s, hs⟩ : ∃ s, sgn n = s := ⟨_, rfl⟩
  rw [hs] at CS es
  rw [hcn] at es
  rw [Int.natAbs_natCast] at CB
  obtain ⟨a, ha⟩ : ∃ a, n.natAbs = a := ⟨_, rfl⟩
  rw [ha] at CA hn hc ho
  have hm0 : a % d < d := Nat.mod_lt _ hd
  have D1 := Lib.hid (fun W x y (h1 : IsNat W x a) (h2 : IsNat W y d) => div_any h1 h2 hd hn)
  have hqB : a / d < BIG := Nat.lt_of_le_of_lt (Nat.div_le_self _ _) hn
  have hmB : a % d < BIG := Nat.lt_trans hm0 hdB
  have h1B : (1 : Nat) < BIG := lt_BIG_of 1 (by decide) (by decide)
  unfold DivPost at D1
  obtain ⟨q, hq⟩ : ∃ q, a / d = q := ⟨_, rfl⟩
  obtain ⟨m, hm⟩ : ∃ m, a % d = m := ⟨_, rfl⟩
  rw [hq, hm] at D1
  rw [hm] at hc hmB
  rw [hq] at hqB ho
  have D2 := Lib.hid (fun W x y (h1 : IsNat W x q) (h2 : IsNat W y 2) => div_any h1 h2 (by decide) hqB)
  unfold DivPost at D2
  have C2 := Lib.hid (of_any 2 (by unfold B64; decide))
  have CP := Lib.hid (fun W x (h1 : IsNat W x m) => add_any h1 h1 hmB hmB)
  have CC := Lib.hid (fun W x y (h1 : IsNat W x (m + m)) (h2 : IsNat W y d) => cmp_any h1 h2)
  have C1 := Lib.hid (of_any 1 (by unfold B64; decide))
  have CQ := Lib.hid (fun W x y (h1 : IsNat W x q) (h2 : IsNat W y 1) => add_any h1 h2 hqB h1B)
  have ek : cmpI (m + m : Nat) d = 0 := by rw [hc]; exact cmpI_eq _
  have ez : decide (q % 2 = 0) = false := decide_eq_false (by omega)
  obtain ⟨od, hod⟩ : ∃ od, q % 2 = od := ⟨_, rfl⟩
  rw [hod] at ez D2
  subst hmo
  rw [hcn, ha, hq]
  clear hn hdB hd hm0 hqB hmB h1B hs hcn ha hq hm hc ho hod
  go_enter Tryz.func104, Tryz.ntmps104
  go_wp2_with fail
  refine (CA.out _ (Ext.refl _)).mono ?_
  rintro e w1 ⟨r1, rfl, h1, hx1⟩
  go_wp2_with fail
  refine (CB.out _ hx1).mono ?_
  rintro e w2 ⟨r2, rfl, h2, hx2⟩
  go_wp2_with fail
  refine (D1.out _ _ _ (h1.ext hx2) h2).mono ?_
  rintro e w3 ⟨rq, rm, re, rfl, ⟨hrq, hrm, rfl⟩, hx3⟩
  have hy := hx1.trans (hx2.trans hx3)
  clear hx1 hx2 hx3 h1 h2 D1 CA
  go_wp2_with fail
  refine (C2.out _).mono ?_
  rintro e w4 ⟨r4, rfl, h4, hx4⟩
  go_wp2_with fail
  refine (D2.out _ _ _ (hrq.ext hx4).is h4.is).mono ?_
  rintro e w5 ⟨rq5, rm5, re5, rfl, ⟨-, ho5, rfl⟩, hx5⟩
  replace hrq := hrq.ext (hx4.trans hx5)
  replace hrm := hrm.ext (hx4.trans hx5)
  replace hy := hy.trans (hx4.trans hx5)
  clear hx4 hx5 h4 C2 D2
  go_wp2_with fail
  refine (CP.out _ _ hrm.is).mono ?_
  rintro e w6 ⟨r6, rfl, h6, hx6⟩
  go_wp2_with fail
  refine (CB.out _ (hy.trans hx6)).mono ?_
  rintro e w7 ⟨r7, rfl, h7, hx7⟩
  go_wp2_with fail
  refine (CC.out _ _ _ (h6.ext hx7).is h7).mono ?_
  rintro e w8 ⟨rfl, hx8⟩
  rw [ek]
  have hz := hx6.trans (hx7.trans hx8)
  replace hrq := hrq.ext hz
  replace ho5 := ho5.ext hz
  replace hy := hy.trans hz
  clear hx6 hx7 hx8 hz h6 h7 hrm CP CC CB ek
  have CZ := Lib.hid (zero_any ho5.is)
  go_wp2_with fail
  refine CZ.out.mono ?_
  rintro e w8' ⟨rfl, rfl⟩
  rw [ez]
  clear ez CZ
  go_wp2_with fail
  refine (C1.out _).mono ?_
  rintro e w9 ⟨r9, rfl, h9, hx9⟩
  go_wp2_with fail
  refine (CQ.out _ _ _ (hrq.ext hx9).is h9.is).mono ?_
  rintro e w10 ⟨r10, rfl, hrq, hx10⟩
  replace hy := hy.trans (hx9.trans hx10)
  clear hx9 hx10 h9 CQ C1
  go_wp2_with fail
  refine (CS.out _ hy).mono ?_
  rintro e w11 ⟨rfl, hx11⟩
  have CN := Lib.hid (new_any (b := cn) (hrq.ext hx11).is)
  go_wp2_with fail
  refine CN.out.mono ?_
  rintro e w12 ⟨r12, rfl, h12, hx12⟩
  go_wp2
  go_ret
  exact ⟨r12, rfl, h12, hy.trans (hx11.trans hx12)⟩

set_option maxHeartbeats 1000000 in
theorem whole_eq2e {w : World} {u v : Value} {n : Int} {d : Nat} {mode : Int} (hu : IsInt w u n) (hv : IsInt w v d) (hd : 0 < d) (hn : n.natAbs < BIG) (hdB : d < BIG) (hc : n.natAbs % d + n.natAbs % d = d) (hmo : mode = 2) (ho : n.natAbs / d % 2 = 0) :
    Calls Tryz.prog 104 #[u, v, .int .i64 mode] w (Ans (fun r w' => IntAt w' r (sg (decide (n < 0)) (n.natAbs / d))) w) := by
  have CA := Lib.hid (fun W (hW : Ext w W) => abs_any (hu.ext hW))
  have CB := Lib.hid (fun W (hW : Ext w W) => abs_any (hv.ext hW))
  have CS := Lib.hid (fun W (hW : Ext w W) => sign_any (hu.ext hW))
  have es := sgn_lt n
  obtain ⟨cn, hcn⟩ : ∃ cn, decide (n < 0) = cn := ⟨_, rfl⟩
  obtain ⟨s, hs⟩ : ∃ s, sgn n = s := ⟨_, rfl⟩
  rw [hs] at CS es
  rw [hcn] at es
  rw [Int.natAbs_natCast] at CB
  obtain ⟨a, ha⟩ : ∃ a, n.natAbs = a := ⟨_, rfl⟩
  rw [ha] at CA hn hc ho
  have hm0 : a % d < d := Nat.mod_lt _ hd
  have D1 := Lib.hid (fun W x y (h1 : IsNat W x a) (h2 : IsNat W y d) => div_any h1 h2 hd hn)
  have hqB : a / d < BIG := Nat.lt_of_le_of_lt (Nat.div_le_self _ _) hn
  have hmB : a % d < BIG := Nat.lt_trans hm0 hdB
  have h1B : (1 : Nat) < BIG := lt_BIG_of 1 (by decide) (by decide)
  unfold DivPost at D1
  obtain ⟨q, hq⟩ : ∃ q, a / d = q := ⟨_, rfl⟩
  obtain ⟨m, hm⟩ : ∃ m, a % d = m := ⟨_, rfl⟩
  rw [hq, hm] at D1
  rw [hm] at hc hmB
  rw [hq] at hqB ho
  have D2 := Lib.hid (fun W x y (h1 : IsNat W x q) (h2 : IsNat W y 2) => div_any h1 h2 (by decide) hqB)
  unfold DivPost at D2
  have C2 := Lib.hid (of_any 2 (by unfold B64; decide))
  have CP := Lib.hid (fun W x (h1 : IsNat W x m) => add_any h1 h1 hmB hmB)
  have CC := Lib.hid (fun W x y (h1 : IsNat W x (m + m)) (h2 : IsNat W y d) => cmp_any h1 h2)
  have ek : cmpI (m + m : Nat) d = 0 := by rw [hc]; exact cmpI_eq _
  have ez : decide (q % 2 = 0) = true := decide_eq_true (by omega)
  obtain ⟨od, hod⟩ : ∃ od, q % 2 = od := ⟨_, rfl⟩
  rw [hod] at ez D2
  subst hmo
  rw [hcn, ha, hq]
  clear hn hdB hd hm0 hqB hmB h1B hs hcn ha hq hm hc ho hod
  go_enter Tryz.func104, Tryz.ntmps104
  go_wp2_with fail
  refine (CA.out _ (Ext.refl _)).mono ?_
  rintro e w1 ⟨r1, rfl, h1, hx1⟩
  go_wp2_with fail
  refine (CB.out _ hx1).mono ?_
  rintro e w2 ⟨r2, rfl, h2, hx2⟩
  go_wp2_with fail
  refine (D1.out _ _ _ (h1.ext hx2) h2).mono ?_
  rintro e w3 ⟨rq, rm, re, rfl, ⟨hrq, hrm, rfl⟩, hx3⟩
  have hy := hx1.trans (hx2.trans hx3)
  clear hx1 hx2 hx3 h1 h2 D1 CA
  go_wp2_with fail
  refine (C2.out _).mono ?_
  rintro e w4 ⟨r4, rfl, h4, hx4⟩
  go_wp2_with fail
  refine (D2.out _ _ _ (hrq.ext hx4).is h4.is).mono ?_
  rintro e w5 ⟨rq5, rm5, re5, rfl, ⟨-, ho5, rfl⟩, hx5⟩
  replace hrq := hrq.ext (hx4.trans hx5)
  replace hrm := hrm.ext (hx4.trans hx5)
  replace hy := hy.trans (hx4.trans hx5)
  clear hx4 hx5 h4 C2 D2
  go_wp2_with fail
  refine (CP.out _ _ hrm.is).mono ?_
  rintro e w6 ⟨r6, rfl, h6, hx6⟩
  go_wp2_with fail
  refine (CB.out _ (hy.trans hx6)).mono ?_
  rintro e w7 ⟨r7, rfl, h7, hx7⟩
  go_wp2_with fail
  refine (CC.out _ _ _ (h6.ext hx7).is h7).mono ?_
  rintro e w8 ⟨rfl, hx8⟩
  rw [ek]
  have hz := hx6.trans (hx7.trans hx8)
  replace hrq := hrq.ext hz
  replace ho5 := ho5.ext hz
  replace hy := hy.trans hz
  clear hx6 hx7 hx8 hz h6 h7 hrm CP CC CB ek
  have CZ := Lib.hid (zero_any ho5.is)
  go_wp2_with fail
  refine CZ.out.mono ?_
  rintro e w8' ⟨rfl, rfl⟩
  rw [ez]
  clear ez CZ
  go_wp2_with fail
  refine (CS.out _ hy).mono ?_
  rintro e w11 ⟨rfl, hx11⟩
  have CN := Lib.hid (new_any (b := cn) (hrq.ext hx11).is)
  go_wp2_with fail
  refine CN.out.mono ?_
  rintro e w12 ⟨r12, rfl, h12, hx12⟩
  go_wp2
  go_ret
  exact ⟨r12, rfl, h12, hy.trans (hx11.trans hx12)⟩

set_option maxHeartbeats 1000000 in
theorem whole_eq3o {w : World} {u v : Value} {n : Int} {d : Nat} {mode : Int} (hu : IsInt w u n) (hv : IsInt w v d) (hd : 0 < d) (hn : n.natAbs < BIG) (hdB : d < BIG) (hc : n.natAbs % d + n.natAbs % d = d) (hmo : mode = 3) (ho : n.natAbs / d % 2 = 1) :
    Calls Tryz.prog 104 #[u, v, .int .i64 mode] w (Ans (fun r w' => IntAt w' r (sg (decide (n < 0)) (n.natAbs / d))) w) := by
  have CA := Lib.hid (fun W (hW : Ext w W) => abs_any (hu.ext hW))
  have CB := Lib.hid (fun W (hW : Ext w W) => abs_any (hv.ext hW))
  have CS := Lib.hid (fun W (hW : Ext w W) => sign_any (hu.ext hW))
  have es := sgn_lt n
  obtain ⟨cn, hcn⟩ : ∃ cn, decide (n < 0) = cn := ⟨_, rfl⟩
  obtain ⟨s, hs⟩ : ∃ s, sgn n = s := ⟨_, rfl⟩
  rw [hs] at CS es
  rw [hcn] at es
  rw [Int.natAbs_natCast] at CB
  obtain ⟨a, ha⟩ : ∃ a, n.natAbs = a := ⟨_, rfl⟩
  rw [ha] at CA hn hc ho
  have hm0 : a % d < d := Nat.mod_lt _ hd
  have D1 := Lib.hid (fun W x y (h1 : IsNat W x a) (h2 : IsNat W y d) => div_any h1 h2 hd hn)
  have hqB : a / d < BIG := Nat.lt_of_le_of_lt (Nat.div_le_self _ _) hn
  have hmB : a % d < BIG := Nat.lt_trans hm0 hdB
  have h1B : (1 : Nat) < BIG := lt_BIG_of 1 (by decide) (by decide)
  unfold DivPost at D1
  obtain ⟨q, hq⟩ : ∃ q, a / d = q := ⟨_, rfl⟩
  obtain ⟨m, hm⟩ : ∃ m, a % d = m := ⟨_, rfl⟩
  rw [hq, hm] at D1
  rw [hm] at hc hmB
  rw [hq] at hqB ho
  have D2 := Lib.hid (fun W x y (h1 : IsNat W x q) (h2 : IsNat W y 2) => div_any h1 h2 (by decide) hqB)
  unfold DivPost at D2
  have C2 := Lib.hid (of_any 2 (by unfold B64; decide))
  have CP := Lib.hid (fun W x (h1 : IsNat W x m) => add_any h1 h1 hmB hmB)
  have CC := Lib.hid (fun W x y (h1 : IsNat W x (m + m)) (h2 : IsNat W y d) => cmp_any h1 h2)
  have ek : cmpI (m + m : Nat) d = 0 := by rw [hc]; exact cmpI_eq _
  have ez : decide (q % 2 = 0) = false := decide_eq_false (by omega)
  obtain ⟨od, hod⟩ : ∃ od, q % 2 = od := ⟨_, rfl⟩
  rw [hod] at ez D2
  subst hmo
  rw [hcn, ha, hq]
  clear hn hdB hd hm0 hqB hmB h1B hs hcn ha hq hm hc ho hod
  go_enter Tryz.func104, Tryz.ntmps104
  go_wp2_with fail
  refine (CA.out _ (Ext.refl _)).mono ?_
  rintro e w1 ⟨r1, rfl, h1, hx1⟩
  go_wp2_with fail
  refine (CB.out _ hx1).mono ?_
  rintro e w2 ⟨r2, rfl, h2, hx2⟩
  go_wp2_with fail
  refine (D1.out _ _ _ (h1.ext hx2) h2).mono ?_
  rintro e w3 ⟨rq, rm, re, rfl, ⟨hrq, hrm, rfl⟩, hx3⟩
  have hy := hx1.trans (hx2.trans hx3)
  clear hx1 hx2 hx3 h1 h2 D1 CA
  go_wp2_with fail
  refine (C2.out _).mono ?_
  rintro e w4 ⟨r4, rfl, h4, hx4⟩
  go_wp2_with fail
  refine (D2.out _ _ _ (hrq.ext hx4).is h4.is).mono ?_
  rintro e w5 ⟨rq5, rm5, re5, rfl, ⟨-, ho5, rfl⟩, hx5⟩
  replace hrq := hrq.ext (hx4.trans hx5)
  replace hrm := hrm.ext (hx4.trans hx5)
  replace hy := hy.trans (hx4.trans hx5)
  clear hx4 hx5 h4 C2 D2
  go_wp2_with fail
  refine (CP.out _ _ hrm.is).mono ?_
  rintro e w6 ⟨r6, rfl, h6, hx6⟩
  go_wp2_with fail
  refine (CB.out _ (hy.trans hx6)).mono ?_
  rintro e w7 ⟨r7, rfl, h7, hx7⟩
  go_wp2_with fail
  refine (CC.out _ _ _ (h6.ext hx7).is h7).mono ?_
  rintro e w8 ⟨rfl, hx8⟩
  rw [ek]
  have hz := hx6.trans (hx7.trans hx8)
  replace hrq := hrq.ext hz
  replace ho5 := ho5.ext hz
  replace hy := hy.trans hz
  clear hx6 hx7 hx8 hz h6 h7 hrm CP CC CB ek
  have CZ := Lib.hid (zero_any ho5.is)
  go_wp2_with fail
  refine CZ.out.mono ?_
  rintro e w8' ⟨rfl, rfl⟩
  rw [ez]
  clear ez CZ
  go_wp2_with fail
  refine (CS.out _ hy).mono ?_
  rintro e w11 ⟨rfl, hx11⟩
  have CN := Lib.hid (new_any (b := cn) (hrq.ext hx11).is)
  go_wp2_with fail
  refine CN.out.mono ?_
  rintro e w12 ⟨r12, rfl, h12, hx12⟩
  go_wp2
  go_ret
  exact ⟨r12, rfl, h12, hy.trans (hx11.trans hx12)⟩

set_option maxHeartbeats 1000000 in
theorem whole_eq3e {w : World} {u v : Value} {n : Int} {d : Nat} {mode : Int} (hu : IsInt w u n) (hv : IsInt w v d) (hd : 0 < d) (hn : n.natAbs < BIG) (hdB : d < BIG) (hc : n.natAbs % d + n.natAbs % d = d) (hmo : mode = 3) (ho : n.natAbs / d % 2 = 0) :
    Calls Tryz.prog 104 #[u, v, .int .i64 mode] w (Ans (fun r w' => IntAt w' r (sg (decide (n < 0)) (n.natAbs / d))) w) := by
  have CA := Lib.hid (fun W (hW : Ext w W) => abs_any (hu.ext hW))
  have CB := Lib.hid (fun W (hW : Ext w W) => abs_any (hv.ext hW))
  have CS := Lib.hid (fun W (hW : Ext w W) => sign_any (hu.ext hW))
  have es := sgn_lt n
  obtain ⟨cn, hcn⟩ : ∃ cn, decide (n < 0) = cn := ⟨_, rfl⟩
  obtain ⟨s, hs⟩ : ∃ s, sgn n = s := ⟨_, rfl⟩
  rw [hs] at CS es
  rw [hcn] at es
  rw [Int.natAbs_natCast] at CB
  obtain ⟨a, ha⟩ : ∃ a, n.natAbs = a := ⟨_, rfl⟩
  rw [ha] at CA hn hc ho
  have hm0 : a % d < d := Nat.mod_lt _ hd
  have D1 := Lib.hid (fun W x y (h1 : IsNat W x a) (h2 : IsNat W y d) => div_any h1 h2 hd hn)
  have hqB : a / d < BIG := Nat.lt_of_le_of_lt (Nat.div_le_self _ _) hn
  have hmB : a % d < BIG := Nat.lt_trans hm0 hdB
  have h1B : (1 : Nat) < BIG := lt_BIG_of 1 (by decide) (by decide)
  unfold DivPost at D1
  obtain ⟨q, hq⟩ : ∃ q, a / d = q := ⟨_, rfl⟩
  obtain ⟨m, hm⟩ : ∃ m, a % d = m := ⟨_, rfl⟩
  rw [hq, hm] at D1
  rw [hm] at hc hmB
  rw [hq] at hqB ho
  have D2 := Lib.hid (fun W x y (h1 : IsNat W x q) (h2 : IsNat W y 2) => div_any h1 h2 (by decide) hqB)
  unfold DivPost at D2
  have C2 := Lib.hid (of_any 2 (by unfold B64; decide))
  have CP := Lib.hid (fun W x (h1 : IsNat W x m) => add_any h1 h1 hmB hmB)
  have CC := Lib.hid (fun W x y (h1 : IsNat W x (m + m)) (h2 : IsNat W y d) => cmp_any h1 h2)
  have ek : cmpI (m + m : Nat) d = 0 := by rw [hc]; exact cmpI_eq _
  have ez : decide (q % 2 = 0) = true := decide_eq_true (by omega)
  obtain ⟨od, hod⟩ : ∃ od, q % 2 = od := ⟨_, rfl⟩
  rw [hod] at ez D2
  subst hmo
  rw [hcn, ha, hq]
  clear hn hdB hd hm0 hqB hmB h1B hs hcn ha hq hm hc ho hod
  go_enter Tryz.func104, Tryz.ntmps104
  go_wp2_with fail
  refine (CA.out _ (Ext.refl _)).mono ?_
  rintro e w1 ⟨r1, rfl, h1, hx1⟩
  go_wp2_with fail
  refine (CB.out _ hx1).mono ?_
  rintro e w2 ⟨r2, rfl, h2, hx2⟩
  go_wp2_with fail
  refine (D1.out _ _ _ (h1.ext hx2) h2).mono ?_
  rintro e w3 ⟨rq, rm, re, rfl, ⟨hrq, hrm, rfl⟩, hx3⟩
  have hy := hx1.trans (hx2.trans hx3)
  clear hx1 hx2 hx3 h1 h2 D1 CA
  go_wp2_with fail
  refine (C2.out _).mono ?_
  rintro e w4 ⟨r4, rfl, h4, hx4⟩
  go_wp2_with fail
  refine (D2.out _ _ _ (hrq.ext hx4).is h4.is).mono ?_
  rintro e w5 ⟨rq5, rm5, re5, rfl, ⟨-, ho5, rfl⟩, hx5⟩
  replace hrq := hrq.ext (hx4.trans hx5)
  replace hrm := hrm.ext (hx4.trans hx5)
  replace hy := hy.trans (hx4.trans hx5)
  clear hx4 hx5 h4 C2 D2
  go_wp2_with fail
  refine (CP.out _ _ hrm.is).mono ?_
  rintro e w6 ⟨r6, rfl, h6, hx6⟩
  go_wp2_with fail
  refine (CB.out _ (hy.trans hx6)).mono ?_
  rintro e w7 ⟨r7, rfl, h7, hx7⟩
  go_wp2_with fail
  refine (CC.out _ _ _ (h6.ext hx7).is h7).mono ?_
  rintro e w8 ⟨rfl, hx8⟩
  rw [ek]
  have hz := hx6.trans (hx7.trans hx8)
  replace hrq := hrq.ext hz
  replace ho5 := ho5.ext hz
  replace hy := hy.trans hz
  clear hx6 hx7 hx8 hz h6 h7 hrm CP CC CB ek
  have CZ := Lib.hid (zero_any ho5.is)
  go_wp2_with fail
  refine CZ.out.mono ?_
  rintro e w8' ⟨rfl, rfl⟩
  rw [ez]
  clear ez CZ
  go_wp2_with fail
  refine (CS.out _ hy).mono ?_
  rintro e w11 ⟨rfl, hx11⟩
  have CN := Lib.hid (new_any (b := cn) (hrq.ext hx11).is)
  go_wp2_with fail
  refine CN.out.mono ?_
  rintro e w12 ⟨r12, rfl, h12, hx12⟩
  go_wp2
  go_ret
  exact ⟨r12, rfl, h12, hy.trans (hx11.trans hx12)⟩

/-- A quotient rounded, by its size. -/
def rq (a d : Nat) (mode : Int) : Nat := if (d < a % d + a % d ∨ (a % d + a % d = d ∧ (mode = 1 ∨ a / d % 2 = 1))) ∧ mode ≠ 3 then a / d + 1 else a / d
theorem rq_yes {a d : Nat} {mode : Int} (h : (d < a % d + a % d ∨ (a % d + a % d = d ∧ (mode = 1 ∨ a / d % 2 = 1))) ∧ mode ≠ 3) : rq a d mode = a / d + 1 := if_pos h
theorem rq_no {a d : Nat} {mode : Int} (h : ¬((d < a % d + a % d ∨ (a % d + a % d = d ∧ (mode = 1 ∨ a / d % 2 = 1))) ∧ mode ≠ 3)) : rq a d mode = a / d := if_neg h

theorem whole_any {w : World} {u v : Value} {n : Int} {d : Nat} {mode : Int} (hu : IsInt w u n) (hv : IsInt w v d) (hd : 0 < d) (hn : n.natAbs < BIG) (hdB : d < BIG) (hm : mode = 1 ∨ mode = 2 ∨ mode = 3) :
    Calls Tryz.prog 104 #[u, v, .int .i64 mode] w (Ans (fun r w' => IntAt w' r (sg (decide (n < 0)) (rq n.natAbs d mode))) w) := by
  rcases Nat.lt_trichotomy (n.natAbs % d + n.natAbs % d) d with hc | hc | hc
  · rw [rq_no (by omega)]; exact whole_lt hu hv hd hn hdB hc
  · rcases hm with hm | hm | hm
    · rw [rq_yes (by omega)]; exact whole_eq1 hu hv hd hn hdB hc hm
    · rcases Nat.mod_two_eq_zero_or_one (n.natAbs / d) with ho | ho
      · rw [rq_no (by omega)]; exact whole_eq2e hu hv hd hn hdB hc hm ho
      · rw [rq_yes (by omega)]; exact whole_eq2o hu hv hd hn hdB hc hm ho
    · rcases Nat.mod_two_eq_zero_or_one (n.natAbs / d) with ho | ho
      · rw [rq_no (by omega)]; exact whole_eq3e hu hv hd hn hdB hc hm ho
      · rw [rq_no (by omega)]; exact whole_eq3o hu hv hd hn hdB hc hm ho
  · by_cases h3 : mode = 3
    · rw [rq_no (by omega)]; exact whole_gt3 hu hv hd hn hdB hc h3
    · rw [rq_yes ⟨.inl hc, h3⟩]; exact whole_gt hu hv hd hn hdB hc h3
end Go.Proofs.YtdlcleecjeipnaaGreatDoor

/- Package dec: Round, Put, Units; num.Small. -/
namespace Go.Proofs.YtdlcleecjeipnaaGreatDoor
open Go.RowKit Go.Proofs.YtdlcleecjeipnaaGreatDoorW.PrintWords Limbs Go.Sort Go.Lib
set_option linter.unusedVariables false

theorem sg_natAbs (b : Bool) (n : Nat) : (sg b n).natAbs = n := by unfold sg; split <;> omega
theorem rq_le (a d : Nat) (m : Int) : rq a d m ≤ a + 1 := by
  unfold rq
  have := Nat.div_le_self a d
  split <;> omega

set_option maxHeartbeats 1000000 in
theorem round_any {w : World} {v : Value} {n : Int} {d p : Nat} {mode : Int} (h : IsRat w v n d) (hn : n.natAbs < BIG) (hd : d < BIG) (hp : p ≤ 20) (hm : mode = 1 ∨ mode = 2 ∨ mode = 3) (hb : (n * ((10 ^ p : Nat) : Int)).natAbs + 1 < BIG) (hT : Tens w) :
    Calls Tryz.prog 27 #[v, .int .i64 p, .int .i64 mode] w fun e w' => e = .returned (.tuple #[tx (ptx (sg (decide (n * ((10 ^ p : Nat) : Int) < 0)) (rq (n * ((10 ^ p : Nat) : Int)).natAbs d mode)) p), .nilIface]) ∧ Ext w w' := by
  have CN := Lib.hid (num_any h)
  have CD := Lib.hid (fun W (hW : Ext w W) => den_any (h.ext hW))
  have CT := Lib.hid (fun W => ten_any p (by omega) W)
  have hpos := h.pos
  have CM : Hid (∀ W x y, IntAt W x n → IntAt W y ((10 ^ p : Nat) : Int) → Calls Tryz.prog 101 #[x, y] W (Ans (fun r w' => IntAt w' r (n * ((10 ^ p : Nat) : Int))) W)) := Lib.hid (fun W x y h1 h2 => times_any h1.is h2.is hn (by rw [Int.natAbs_natCast]; exact ten_pow_big (by omega)))
  obtain ⟨z, hz⟩ : ∃ z, n * ((10 ^ p : Nat) : Int) = z := ⟨_, rfl⟩
  rw [hz] at CM hb ⊢
  have CW := Lib.hid (fun W x y (h1 : IntAt W x z) (h2 : IntAt W y (d : Int)) => whole_any (mode := mode) h1.is h2.is hpos (by omega) hd hm)
  obtain ⟨q, hq⟩ : ∃ q, sg (decide (z < 0)) (rq z.natAbs d mode) = q := ⟨_, rfl⟩
  have hqB : q.natAbs < BIG := by rw [← hq, sg_natAbs]; have := rq_le z.natAbs d mode; omega
  rw [hq] at CW ⊢
  have CP := Lib.hid (fun W x (h1 : IntAt W x q) (hW : Ext w W) => placed_any (p := p) h1.is hqB (hT.ext hW) (by omega))
  have CMo : Hid (∀ W, Calls Tryz.prog 102 #[.int .i64 mode] W fun e w' => e = .returned (.bool true) ∧ W = w') := Lib.hid (fun W => by have := mode_any mode W; rwa [decide_eq_true hm] at this)
  clear hn hd hm hb hT hz hq hqB hpos
  go_enter Tryz.func27, Tryz.ntmps27
  go_wp2_with fail
  refine (CMo.out _).mono ?_
  rintro e w0 ⟨rfl, rfl⟩
  go_wp2_with fail
  refine CN.out.mono ?_
  rintro e w1 ⟨r1, rfl, h1, hx1⟩
  go_wp2_with fail
  refine (CT.out _).mono ?_
  rintro e w2 ⟨r2, rfl, h2, hx2⟩
  go_wp2_with fail
  refine (CM.out _ _ _ (h1.ext hx2) h2).mono ?_
  rintro e w3 ⟨r3, rfl, h3, hx3⟩
  have hy := hx1.trans (hx2.trans hx3)
  clear hx1 hx2 hx3 h1 h2 CM CT CN CMo
  go_wp2_with fail
  refine (CD.out _ hy).mono ?_
  rintro e w4 ⟨r4, rfl, h4, hx4⟩
  go_wp2_with fail
  refine (CW.out _ _ _ (h3.ext hx4) h4).mono ?_
  rintro e w5 ⟨r5, rfl, h5, hx5⟩
  go_wp2_with fail
  refine (CP.out _ _ h5 (hy.trans (hx4.trans hx5))).mono ?_
  rintro e w6 ⟨rfl, hx6⟩
  go_wp2
  go_ret2
  exact ⟨rfl, hy.trans (hx4.trans (hx5.trans hx6))⟩

end Go.Proofs.YtdlcleecjeipnaaGreatDoor

/- nat.Get: the laws. -/
namespace Go.Proofs.YtdlcleecjeipnaaGreatDoor
open Go.RowKit Go.Proofs.YtdlcleecjeipnaaGreatDoorW.PrintWords Limbs Go.Sort Go.Lib
set_option linter.unusedVariables false

theorem drop_nil_iff (l : List UInt8) (p : UInt8 → Bool) : l.dropWhile p = [] ↔ ∀ c ∈ l, p c = true := by
  induction l with
  | nil => simp
  | cons x l ih =>
    rw [List.dropWhile_cons]
    by_cases h : p x
    · rw [if_pos h, ih]; simp [h]
    · rw [if_neg h]; simp [h]

theorem trim_nil_iff (l cs : List UInt8) : trimS l cs = [] ↔ ∀ c ∈ l, cs.contains c = true := by
  unfold trimS trimLeftS trimRightS
  constructor
  · intro h
    rw [drop_nil_iff] at h
    intro c hc
    by_cases hall : ∀ c ∈ l, cs.contains c = true
    · exact hall c hc
    · exfalso
      have hne : l.reverse.dropWhile (cs.contains ·) ≠ [] := by
        intro e
        rw [drop_nil_iff] at e
        exact hall (fun c hc => e c (List.mem_reverse.2 hc))
      have hh := List.head_dropWhile_not (cs.contains ·) hne
      have := h ((l.reverse.dropWhile (cs.contains ·)).head hne) (List.mem_reverse.2 (List.head_mem hne))
      rw [hh] at this; cases this
  · intro h
    have e : l.reverse.dropWhile (cs.contains ·) = [] := (drop_nil_iff _ _).2 (fun c hc => h c (List.mem_reverse.1 hc))
    rw [e]; rfl

def digits : List UInt8 := [48, 49, 50, 51, 52, 53, 54, 55, 56, 57]
theorem digits_iff : ∀ c : UInt8, digits.contains c = true ↔ Decimal.isDig c := by
  intro c
  unfold Decimal.isDig digits
  constructor
  · intro h
    simp only [List.contains_cons, List.contains_nil, Bool.or_false, Bool.or_eq_true, beq_iff_eq] at h
    rcases h with h | h | h | h | h | h | h | h | h | h <;> subst h <;> decide
  · intro ⟨h1, h2⟩
    have : c = UInt8.ofNat c.toNat := by simp
    rw [this]
    obtain ⟨k, hk⟩ : ∃ k, c.toNat = k := ⟨_, rfl⟩
    rw [hk] at h1 h2 ⊢
    have : k = 48 ∨ k = 49 ∨ k = 50 ∨ k = 51 ∨ k = 52 ∨ k = 53 ∨ k = 54 ∨ k = 55 ∨ k = 56 ∨ k = 57 := by omega
    rcases this with h | h | h | h | h | h | h | h | h | h <;> subst h <;> decide

theorem trim_digits (l : List UInt8) : trimS l digits = [] ↔ ∀ c ∈ l, Decimal.isDig c := by
  rw [trim_nil_iff]
  exact ⟨fun h c hc => (digits_iff c).1 (h c hc), fun h c hc => (digits_iff c).2 (h c hc)⟩

theorem info203 : (Tryz.prog.info? 203).map (fun i => (i.zero, i.size)) = some (some (.agg (Array.replicate 256 (.bool false))), 256) := by kernel_rfl

/-- strings.Trim of the digits. -/
theorem trim_any (l : List UInt8) (hl : l.length ≤ 9223372036854775807) (w : World) :
    Calls Tryz.prog 109 #[.string ⟨l.toArray⟩, .string ⟨#[48, 49, 50, 51, 52, 53, 54, 55, 56, 57]⟩] w fun e w' => e = .returned (tx (trimS l digits)) ∧ Ext w w' := by
  refine (Any.strings_Trim_laid Tryz.lays160 info203 ⟨l.toArray⟩ ⟨#[48, 49, 50, 51, 52, 53, 54, 55, 56, 57]⟩ w hl (by decide) (ascii_of_all (by decide))).mono ?_
  rintro e w' ⟨rfl, hb⟩
  exact ⟨rfl, hb⟩
theorem parse_law (l : List UInt8) (hd : ∀ c ∈ l, Decimal.isDig c) : ∀ (acc k : Nat), acc < 10 ^ k → k + l.length ≤ 18 → parseUintM (2 ^ 64 - 1) acc l = .ok (acc * 10 ^ l.length + Decimal.num l) := by
  induction l with
  | nil => intro acc k _ _; simp [parseUintM, Decimal.num]
  | cons c l ih =>
    intro acc k ha hk
    have hc := hd c (by simp)
    unfold Decimal.isDig at hc
    have hk' : k + 1 + l.length ≤ 18 := by simp at hk; omega
    have h17 : 10 ^ k ≤ 10 ^ 17 := Nat.pow_le_pow_right (by decide) (by omega)
    unfold parseUintM
    rw [if_pos hc, if_neg (by omega), if_neg (by omega), ih (fun x hx => hd x (by simp [hx])) (acc * 10 + (c.toNat - 48)) (k + 1) (by rw [Nat.pow_succ]; omega) hk']
    rw [Decimal.num_cons, List.length_cons, Nat.pow_succ]
    congr 1
    grind

theorem parse_any (l : List UInt8) (hd : ∀ c ∈ l, Decimal.isDig c) (h0 : l ≠ []) (hl : l.length ≤ 18) (w : World) :
    Calls Tryz.prog 149 #[.string ⟨l.toArray⟩, .int .i64 10, .int .i64 64] w fun e w' => e = .returned (.tuple #[.int .u64 (Decimal.num l : Nat), .nilIface]) ∧ Ext w w' := by
  have hp := parse_law l hd 0 0 (by decide) (by omega)
  rw [Nat.zero_mul, Nat.zero_add] at hp
  refine (Tryz.strconv_ParseUint_10_at64_ok ⟨l.toArray⟩ (by show l.toArray.size ≤ _; simp; omega) (Decimal.num l) (by show parseUintB 64 l = _; unfold parseUintB; rw [if_neg h0]; exact hp) w).mono ?_
  rintro e w' ⟨rfl, h⟩
  refine ⟨rfl, ?_⟩
  rcases h with rfl | rfl
  · exact Ext.refl _
  · exact bytes_below (Below.refl _ w) (Nat.le_refl _) 5 _

/-- Which texts are numbers. -/
def isNum (l : List UInt8) : Prop := l ≠ [] ∧ l.length ≤ 4000 ∧ ¬(1 < l.length ∧ l.getD 0 0 = 48) ∧ ∀ c ∈ l, Decimal.isDig c
end Go.Proofs.YtdlcleecjeipnaaGreatDoor

/- nat.Get: the walk. -/
namespace Go.Proofs.YtdlcleecjeipnaaGreatDoor
open Go.RowKit Go.Proofs.YtdlcleecjeipnaaGreatDoorW.PrintWords Limbs Go.Sort Go.Lib
set_option linter.unusedVariables false

/-- What stands between the rounds of Get: l is still to be read, in pieces of n (the first) and 18. -/
structure GetInv (t l : List UInt8) (a n : Nat) : Prop where
  dig : ∀ c ∈ l, Decimal.isDig c
  eqn : a * 10 ^ l.length + Decimal.num l = Decimal.num t
  cut : (∃ j, l.length = n + 18 * j) ∨ l = []
  n0 : 0 < n
  n1 : n ≤ 18
  one : n = 18 ∨ a = 0
  all : ∀ c ∈ t, Decimal.isDig c
  tl : t.length ≤ 4000
  ll : l.length ≤ 4000

theorem GetInv.start {t : List UInt8} (h : ∀ c ∈ t, Decimal.isDig c) (hl : t.length ≤ 4000) (h0 : t ≠ []) : GetInv t t 0 ((t.length - 1) % 18 + 1) := by
  have : 0 < t.length := List.length_pos_iff.2 h0
  exact ⟨h, by simp, .inl ⟨(t.length - 1) / 18, by omega⟩, by omega, by omega, .inr rfl, h, hl, hl⟩
theorem GetInv.le {t l : List UInt8} {a n : Nat} (h : GetInv t l a n) : a < BIG := by
  have h1 := h.eqn
  have h2 := Decimal.num_lt h.all
  have h3 : a * 1 ≤ a * 10 ^ l.length := Nat.mul_le_mul_left a (Nat.pow_pos (by decide))
  have h4 : 10 ^ t.length < BIG := ten_pow_big (by have := h.tl; omega)
  omega
theorem GetInv.room {t l : List UInt8} {a n : Nat} (h : GetInv t l a n) (hl : l ≠ []) : n ≤ l.length := by
  rcases h.cut with ⟨j, hj⟩ | h1
  · omega
  · exact absurd h1 hl
theorem GetInv.step {t l : List UInt8} {a n : Nat} (h : GetInv t l a n) (hl : l ≠ []) : GetInv t (l.drop n) (a * 1000000000000000000 + Decimal.num (l.take n)) 18 := by
  have hr := h.room hl
  have e := h.eqn
  have hs : Decimal.num l = Decimal.num (l.take n) * 10 ^ (l.drop n).length + Decimal.num (l.drop n) := by
    rw [← Decimal.num_append, List.take_append_drop]
  have hlen : l.length = n + (l.drop n).length := by rw [List.length_drop]; omega
  refine ⟨fun c hc => h.dig c (List.mem_of_mem_drop hc), ?_, ?_, by decide, by decide, .inl rfl, h.all, h.tl, by have := h.ll; omega⟩
  · rw [hs, hlen, Nat.pow_add] at e
    rcases h.one with h1 | h1
    · rw [h1] at e ⊢
      rw [show (1000000000000000000 : Nat) = 10 ^ 18 from by decide]
      rw [← e]; grind
    · rw [h1] at e ⊢
      rw [← e]; grind
  · rcases h.cut with ⟨j, hj⟩ | h1
    · rcases Nat.eq_zero_or_pos j with hj0 | hj0
      · right
        exact List.drop_eq_nil_of_le (by omega)
      · left
        exact ⟨j - 1, by rw [List.length_drop]; omega⟩
    · exact absurd h1 hl
theorem GetInv.fin {t : List UInt8} {a n : Nat} (h : GetInv t [] a n) : a = Decimal.num t := by
  have := h.eqn
  simpa [Decimal.num] using this

set_option maxHeartbeats 2000000 in
theorem get_yes {w : World} {t : List UInt8} (ht : isNum t) (hB : Bits w) :
    Calls Tryz.prog 84 #[.string ⟨t.toArray⟩] w (Ans2 (fun r e w' => NatAt w' r (Decimal.num t) ∧ e = .nilIface) w) := by
  obtain ⟨h1, h2, h3, h4⟩ := ht
  have hI0 := GetInv.start h4 h2 h1
  have CT : Hid (∀ W, Calls Tryz.prog 109 #[.string ⟨t.toArray⟩, .string ⟨#[48, 49, 50, 51, 52, 53, 54, 55, 56, 57]⟩] W fun e w' => e = .returned (.string ⟨#[]⟩) ∧ Ext W w') := Lib.hid (fun W => (trim_any t (by omega) W).mono fun e w' h => ⟨by rw [h.1, (trim_digits t).2 h4]; rfl, h.2⟩)
  have C0 := Lib.hid (of_any 0 (by unfold B64; decide))
  have CB : Hid (∀ W, Calls Tryz.prog 85 #[.int .u64 1000000000000000000] W (Ans (fun r w' => NatAt w' r 1000000000000000000) W)) := Lib.hid (fun W => of_any 1000000000000000000 (by unfold B64; decide) W)
  obtain ⟨S, hS⟩ : ∃ S : ByteArray, (⟨t.toArray⟩ : ByteArray) = S := ⟨_, rfl⟩
  obtain ⟨tn, htn⟩ : ∃ tn, t.length = tn := ⟨_, rfl⟩
  have hSs : S.size = tn := by rw [← hS, ← htn]; rfl
  have htn0 : 0 < tn := by rw [← htn]; exact List.length_pos_iff.2 h1
  have htn1 : tn ≤ 4000 := by omega
  rw [hS] at CT ⊢
  have b0 : S.toList.isEmpty = false := by
    rw [ByteArray.toList_eq, ← hS]
    cases t with
    | nil => exact absurd rfl h1
    | cons c t => rfl
  have b1 : decide ((4000 : Int) < tn) = false := decide_eq_false (by omega)
  have b3 : 1 < tn → ∀ (h : 0 < S.size), ((((S[0]'h).toNat : Nat) : Int) == 48) = false := by
    intro hl h
    apply beq_eq_false_iff_ne.2
    intro e
    apply h3
    refine ⟨by omega, ?_⟩
    subst hS
    cases t with
    | nil => exact absurd rfl h1
    | cons c t =>
      have : (c.toNat : Int) = 48 := e
      show c = 48
      apply UInt8.toNat_inj.1
      have h48 : (48 : UInt8).toNat = 48 := rfl
      omega
  obtain ⟨nw, hnw⟩ : ∃ nw, (t.length - 1) % 18 + 1 = nw := ⟨_, rfl⟩
  have enw : ((tn : Int) - 1) % 18 + 1 = nw := by omega
  rw [hnw] at hI0
  have HS := Lib.hid hS
  clear h1 h2 h3 h4 hnw htn hS
  have key : Calls Tryz.prog 84 #[.string S] w (Ans2 (fun r e w' => NatAt w' r (Decimal.num t) ∧ e = .nilIface) w) := by
    by_cases hone : tn = 1
    · have b2 : decide ((1 : Int) < tn) = false := decide_eq_false (by omega)
      clear b3
      obtain rfl : nw = 1 := by omega
      go_enter Tryz.func84, Tryz.ntmps84
      go_wp2_with fail
      refine (CT.out _).mono ?_
      rintro e w1 ⟨rfl, hx1⟩
      go_wp2_with fail
      refine (C0.out _).mono ?_
      rintro e w2 ⟨r0, rfl, hr0, hx2⟩
      go_wp2_with fail
      refine (CB.out _).mono ?_
      rintro e w3 ⟨rb, rfl, hrb, hx3⟩
      replace hr0 := hr0.ext hx3
      have hy := hx1.trans (hx2.trans hx3)
      go_wp2_with fail
      clear hx1 hx2 hx3 b0 b1 b2 CT C0 CB htn1 enw
      go_loopg [0, 5, 7] t.length (fun kq sv av nv wr => ∃ (l : List UInt8) (a n : Nat), sv = .string ⟨l.toArray⟩ ∧ nv = .int .i64 n ∧ NatAt wr av a ∧ GetInv t l a n ∧ Ext w3 wr ∧ Hid (kq = l.length))
      case atStart => exact ⟨t, 0, _, by rw [HS.out], rfl, hr0, hI0, Ext.refl _, Lib.hid rfl⟩
      case round =>
        clear hI0 hr0
        obtain ⟨l, a, n, rfl, rfl, ha, hI, hE, hk⟩ := hrel
        by_cases hl : l = []
        · subst hl
          have hf := hI.fin
          rw [hf] at ha
          clear hI hf
          go_wp2
          go_ret2
          exact ⟨_, _, rfl, ⟨ha, rfl⟩, hy.trans hE⟩
        · have hroom := hI.room hl
          have hst := hI.step hl
          have h18 := hI.n1
          have hn0 := hI.n0
          have hdc : ∀ c ∈ l.take n, Decimal.isDig c := fun c hc => hI.dig c (List.mem_of_mem_take hc)
          have htl : (l.take n).length = n := by rw [List.length_take]; omega
          have CPa := Lib.hid (parse_any (l.take n) hdc (by intro h; rw [h] at htl; simp at htl; omega) (by omega))
          have hcl := Decimal.num_lt hdc
          rw [htl] at hcl
          have hc18 : 10 ^ n ≤ 1000000000000000000 := by
            have : (10 : Nat) ^ n ≤ 10 ^ 18 := Nat.pow_le_pow_right (by decide) h18
            omega
          obtain ⟨cv, hcv⟩ : ∃ cv, Decimal.num (l.take n) = cv := ⟨_, rfl⟩
          rw [hcv] at CPa hst hcl
          have hcB : (cv : Int) < B64 := by unfold B64; omega
          have hsB := hst.le
          have hcB2 : cv < BIG := Nat.lt_of_le_of_lt (Nat.le_add_left _ _) hsB
          have haB : a * 1000000000000000000 < BIG := Nat.lt_of_le_of_lt (Nat.le_add_right _ _) hsB
          have CO := Lib.hid (fun W => of_any cv hcB W)
          have CM : Hid (∀ W x y, NatAt W x a → NatAt W y 1000000000000000000 → Calls Tryz.prog 90 #[x, y] W (Ans (fun r w' => NatAt w' r (a * 1000000000000000000)) W)) := Lib.hid (fun W x y h1 h2 => mul_any h1.is h2.is hI.le (lt_BIG_of 64 (by decide) (by omega)))
          have CA := Lib.hid (fun W x y (h1 : NatAt W x (a * 1000000000000000000)) (h2 : NatAt W y cv) => add_any h1.is h2.is haB hcB2)
          obtain ⟨na, hna⟩ : ∃ na, a * 1000000000000000000 + cv = na := ⟨_, rfl⟩
          rw [hna] at CA hst
          obtain ⟨ma, hma⟩ : ∃ ma, a * 1000000000000000000 = ma := ⟨_, rfl⟩
          rw [hma] at CA CM
          obtain ⟨V, hV⟩ : ∃ V : ByteArray, (⟨l.toArray⟩ : ByteArray) = V := ⟨_, rfl⟩
          obtain ⟨ln, hln⟩ : ∃ ln, l.length = ln := ⟨_, rfl⟩
          have hVs : V.size = ln := by rw [← hV, ← hln]; rfl
          have v0 : V.toList.isEmpty = false := by
            rw [ByteArray.toList_eq, ← hV]
            cases l with
            | nil => exact absurd rfl hl
            | cons c l => rfl
          have v1 : V.extract 0 n = ⟨(l.take n).toArray⟩ := by rw [← hV, tx_extract]; simp
          obtain ⟨X1, hX1⟩ : ∃ X : ByteArray, (⟨(l.take n).toArray⟩ : ByteArray) = X := ⟨_, rfl⟩
          obtain ⟨X2, hX2⟩ : ∃ X : ByteArray, Hid ((⟨(l.drop n).toArray⟩ : ByteArray) = X) := ⟨_, Lib.hid rfl⟩
          have v2 : V.extract n ln = X2 := by rw [← hV, tx_extract, ← hX2.out, ← hln, List.take_of_length_le (by simp)]
          rw [hX1] at v1 CPa
          rw [hV]
          rw [hln] at hroom
          have HST := Lib.hid hst
          have HDN : Hid ((l.drop n).length < l.length) := Lib.hid (by rw [List.length_drop]; omega)
          have hlb : ln ≤ 4000 := by have := hI.ll; omega
          clear hI hst h18 hdc htl hcl hc18 hcv hcB hsB hcB2 haB hna hma hV hX1 hl
          go_wp2_with fail
          refine (CPa.out _).mono ?_
          rintro e w4 ⟨rfl, hx4⟩
          have hrb4 := (hrb.ext hE).ext hx4
          go_wp2_with fail
          refine (CM.out _ _ _ (ha.ext hx4) hrb4).mono ?_
          rintro e w5 ⟨r5, rfl, h5, hx5⟩
          go_wp2_with fail
          refine (CO.out _).mono ?_
          rintro e w6 ⟨r6, rfl, h6, hx6⟩
          go_wp2_with fail
          refine (CA.out _ _ _ (h5.ext hx6) h6).mono ?_
          rintro e w7 ⟨r7, rfl, h7, hx7⟩
          have hE7 := hE.trans (hx4.trans (hx5.trans (hx6.trans hx7)))
          clear CPa CM CO CA h5 h6 hx4 hx5 hx6 hx7 ha hrb4
          go_wp2
          go_roundg (l.drop n).length
          case measure => have := hk.out; have := HDN.out; omega
          case rel => exact ⟨l.drop n, na, 18, by rw [hX2.out], rfl, h7, HST.out, hE7, Lib.hid rfl⟩
    · have b2 : decide ((1 : Int) < tn) = true := decide_eq_true (by omega)
      have b4 := b3 (by omega)
      clear b3
      go_enter Tryz.func84, Tryz.ntmps84
      go_wp2_with fail
      refine (CT.out _).mono ?_
      rintro e w1 ⟨rfl, hx1⟩
      go_wp2_with fail
      refine (C0.out _).mono ?_
      rintro e w2 ⟨r0, rfl, hr0, hx2⟩
      go_wp2_with fail
      refine (CB.out _).mono ?_
      rintro e w3 ⟨rb, rfl, hrb, hx3⟩
      replace hr0 := hr0.ext hx3
      have hy := hx1.trans (hx2.trans hx3)
      go_wp2_with fail
      clear hx1 hx2 hx3 b0 b1 b2 CT C0 CB htn1 enw
      go_loopg [0, 5, 7] t.length (fun kq sv av nv wr => ∃ (l : List UInt8) (a n : Nat), sv = .string ⟨l.toArray⟩ ∧ nv = .int .i64 n ∧ NatAt wr av a ∧ GetInv t l a n ∧ Ext w3 wr ∧ Hid (kq = l.length))
      case atStart => exact ⟨t, 0, _, by rw [HS.out], rfl, hr0, hI0, Ext.refl _, Lib.hid rfl⟩
      case round =>
        clear hI0 hr0
        obtain ⟨l, a, n, rfl, rfl, ha, hI, hE, hk⟩ := hrel
        by_cases hl : l = []
        · subst hl
          have hf := hI.fin
          rw [hf] at ha
          clear hI hf
          go_wp2
          go_ret2
          exact ⟨_, _, rfl, ⟨ha, rfl⟩, hy.trans hE⟩
        · have hroom := hI.room hl
          have hst := hI.step hl
          have h18 := hI.n1
          have hn0 := hI.n0
          have hdc : ∀ c ∈ l.take n, Decimal.isDig c := fun c hc => hI.dig c (List.mem_of_mem_take hc)
          have htl : (l.take n).length = n := by rw [List.length_take]; omega
          have CPa := Lib.hid (parse_any (l.take n) hdc (by intro h; rw [h] at htl; simp at htl; omega) (by omega))
          have hcl := Decimal.num_lt hdc
          rw [htl] at hcl
          have hc18 : 10 ^ n ≤ 1000000000000000000 := by
            have : (10 : Nat) ^ n ≤ 10 ^ 18 := Nat.pow_le_pow_right (by decide) h18
            omega
          obtain ⟨cv, hcv⟩ : ∃ cv, Decimal.num (l.take n) = cv := ⟨_, rfl⟩
          rw [hcv] at CPa hst hcl
          have hcB : (cv : Int) < B64 := by unfold B64; omega
          have hsB := hst.le
          have hcB2 : cv < BIG := Nat.lt_of_le_of_lt (Nat.le_add_left _ _) hsB
          have haB : a * 1000000000000000000 < BIG := Nat.lt_of_le_of_lt (Nat.le_add_right _ _) hsB
          have CO := Lib.hid (fun W => of_any cv hcB W)
          have CM : Hid (∀ W x y, NatAt W x a → NatAt W y 1000000000000000000 → Calls Tryz.prog 90 #[x, y] W (Ans (fun r w' => NatAt w' r (a * 1000000000000000000)) W)) := Lib.hid (fun W x y h1 h2 => mul_any h1.is h2.is hI.le (lt_BIG_of 64 (by decide) (by omega)))
          have CA := Lib.hid (fun W x y (h1 : NatAt W x (a * 1000000000000000000)) (h2 : NatAt W y cv) => add_any h1.is h2.is haB hcB2)
          obtain ⟨na, hna⟩ : ∃ na, a * 1000000000000000000 + cv = na := ⟨_, rfl⟩
          rw [hna] at CA hst
          obtain ⟨ma, hma⟩ : ∃ ma, a * 1000000000000000000 = ma := ⟨_, rfl⟩
          rw [hma] at CA CM
          obtain ⟨V, hV⟩ : ∃ V : ByteArray, (⟨l.toArray⟩ : ByteArray) = V := ⟨_, rfl⟩
          obtain ⟨ln, hln⟩ : ∃ ln, l.length = ln := ⟨_, rfl⟩
          have hVs : V.size = ln := by rw [← hV, ← hln]; rfl
          have v0 : V.toList.isEmpty = false := by
            rw [ByteArray.toList_eq, ← hV]
            cases l with
            | nil => exact absurd rfl hl
            | cons c l => rfl
          have v1 : V.extract 0 n = ⟨(l.take n).toArray⟩ := by rw [← hV, tx_extract]; simp
          obtain ⟨X1, hX1⟩ : ∃ X : ByteArray, (⟨(l.take n).toArray⟩ : ByteArray) = X := ⟨_, rfl⟩
          obtain ⟨X2, hX2⟩ : ∃ X : ByteArray, Hid ((⟨(l.drop n).toArray⟩ : ByteArray) = X) := ⟨_, Lib.hid rfl⟩
          have v2 : V.extract n ln = X2 := by rw [← hV, tx_extract, ← hX2.out, ← hln, List.take_of_length_le (by simp)]
          rw [hX1] at v1 CPa
          rw [hV]
          rw [hln] at hroom
          have HST := Lib.hid hst
          have HDN : Hid ((l.drop n).length < l.length) := Lib.hid (by rw [List.length_drop]; omega)
          have hlb : ln ≤ 4000 := by have := hI.ll; omega
          clear hI hst h18 hdc htl hcl hc18 hcv hcB hsB hcB2 haB hna hma hV hX1 hl
          go_wp2_with fail
          refine (CPa.out _).mono ?_
          rintro e w4 ⟨rfl, hx4⟩
          have hrb4 := (hrb.ext hE).ext hx4
          go_wp2_with fail
          refine (CM.out _ _ _ (ha.ext hx4) hrb4).mono ?_
          rintro e w5 ⟨r5, rfl, h5, hx5⟩
          go_wp2_with fail
          refine (CO.out _).mono ?_
          rintro e w6 ⟨r6, rfl, h6, hx6⟩
          go_wp2_with fail
          refine (CA.out _ _ _ (h5.ext hx6) h6).mono ?_
          rintro e w7 ⟨r7, rfl, h7, hx7⟩
          have hE7 := hE.trans (hx4.trans (hx5.trans (hx6.trans hx7)))
          clear CPa CM CO CA h5 h6 hx4 hx5 hx6 hx7 ha hrb4
          go_wp2
          go_roundg (l.drop n).length
          case measure => have := hk.out; have := HDN.out; omega
          case rel => exact ⟨l.drop n, na, 18, by rw [hX2.out], rfl, h7, HST.out, hE7, Lib.hid rfl⟩
  exact key
end Go.Proofs.YtdlcleecjeipnaaGreatDoor

/- nat.Get of a text that is no number. -/
namespace Go.Proofs.YtdlcleecjeipnaaGreatDoor
open Go.RowKit Go.Proofs.YtdlcleecjeipnaaGreatDoorW.PrintWords Limbs Go.Sort Go.Lib
set_option linter.unusedVariables false

end Go.Proofs.YtdlcleecjeipnaaGreatDoor

/- num.Get. -/
namespace Go.Proofs.YtdlcleecjeipnaaGreatDoor
open Go.RowKit Go.Proofs.YtdlcleecjeipnaaGreatDoorW.PrintWords Limbs Go.Sort Go.Lib
set_option linter.unusedVariables false

theorem cutsign (l : List UInt8) (w : World) : Calls Tryz.prog 107 #[.string ⟨l.toArray⟩, .string ⟨#[45]⟩] w fun e w' => e = .returned (.tuple #[.string ⟨(trimPrefix l [45]).toArray⟩, .bool (hasPrefix l [45])]) ∧ w = w' :=
  (Tryz.strings_CutPrefix ⟨l.toArray⟩ ⟨#[45]⟩ w).mono fun e w' h => ⟨h.1, h.2.symm⟩

end Go.Proofs.YtdlcleecjeipnaaGreatDoor

/- rat.Get. -/
namespace Go.Proofs.YtdlcleecjeipnaaGreatDoor
open Go.RowKit Go.Proofs.YtdlcleecjeipnaaGreatDoorW.PrintWords Limbs Go.Sort Go.Lib
set_option linter.unusedVariables false

theorem low_unique {N N' : Int} {D D' : Nat} (hD : 0 < D) (hD' : 0 < D') (h : Nat.gcd N.natAbs D = 1) (h' : Nat.gcd N'.natAbs D' = 1) (e : N * D' = N' * D) : N = N' ∧ D = D' := by
  have e1 : N.natAbs * D' = N'.natAbs * D := by
    have := congrArg Int.natAbs e
    rwa [Int.natAbs_mul, Int.natAbs_mul, Int.natAbs_natCast, Int.natAbs_natCast] at this
  have d1 : D ∣ D' := by
    have : D ∣ N.natAbs * D' := ⟨N'.natAbs, by rw [e1, Nat.mul_comm]⟩
    exact (Nat.Coprime.symm h).dvd_of_dvd_mul_left this
  have d2 : D' ∣ D := by
    have : D' ∣ N'.natAbs * D := ⟨N.natAbs, by rw [← e1, Nat.mul_comm]⟩
    exact (Nat.Coprime.symm h').dvd_of_dvd_mul_left this
  have ed : D = D' := Nat.dvd_antisymm d1 d2
  subst ed
  refine ⟨?_, rfl⟩
  exact Int.eq_of_mul_eq_mul_right (by omega) e
/-- The library's bytealg.MaxLen holds a number. -/
def Lens (w : World) : Prop := ∃ m, w.cell? ⟨3, 0, none⟩ = some (.int .i64 m)
theorem Lens.ext {w w' : World} (h : Lens w) (he : Ext w w') : Lens w' := by
  obtain ⟨m, hm⟩ := h
  exact ⟨m, he.cell hm⟩
theorem cut_any (l s : List UInt8) (hl : l.length < 4294967281) (w : World) (hL : Lens w) :
    Calls Tryz.prog 108 #[.string ⟨l.toArray⟩, .string ⟨s.toArray⟩] w fun e w' => e = .returned (.tuple #[.string ⟨(cut l s).1.toArray⟩, .string ⟨(cut l s).2.1.toArray⟩, .bool (cut l s).2.2]) ∧ Ext w w' := by
  obtain ⟨m, hm⟩ := hL
  refine (Tryz.strings_Cut ⟨l.toArray⟩ ⟨s.toArray⟩ m w hl hm).mono ?_
  rintro e w' ⟨rfl, n, rfl⟩
  exact ⟨rfl, Ext.drewN _ _⟩

theorem isNum.big {l : List UInt8} (h : isNum l) : Decimal.num l < BIG :=
  Nat.lt_trans (Decimal.num_lt h.2.2.2) (ten_pow_big (by have := h.2.1; omega))
end Go.Proofs.YtdlcleecjeipnaaGreatDoor

/- rat.Get: the walk. -/
namespace Go.Proofs.YtdlcleecjeipnaaGreatDoor
open Go.RowKit Go.Proofs.YtdlcleecjeipnaaGreatDoorW.PrintWords Limbs Go.Sort Go.Lib
set_option linter.unusedVariables false

end Go.Proofs.YtdlcleecjeipnaaGreatDoor

/- rat.Get of a text that is no fraction. -/
namespace Go.Proofs.YtdlcleecjeipnaaGreatDoor
open Go.RowKit Go.Proofs.YtdlcleecjeipnaaGreatDoorW.PrintWords Limbs Go.Sort Go.Lib
set_option linter.unusedVariables false

end Go.Proofs.YtdlcleecjeipnaaGreatDoor

/- num.Small, dec.Units. -/
namespace Go.Proofs.YtdlcleecjeipnaaGreatDoor
open Go.RowKit Go.Proofs.YtdlcleecjeipnaaGreatDoorW.PrintWords Limbs Go.Sort Go.Lib
set_option linter.unusedVariables false

set_option maxHeartbeats 1000000 in
theorem nsmall_yes {w : World} {v : Value} {z : Int} (h : IsInt w v z) (h0 : -9223372036854775808 ≤ z) (h1 : z ≤ 9223372036854775807) :
    Calls Tryz.prog 155 #[v] w fun e w' => e = .returned (.tuple #[.int .i64 z, .bool true]) ∧ Ext w w' := by
  have CA := Lib.hid (abs_any h)
  have CS := Lib.hid (fun W (hW : Ext w W) => sign_any (h.ext hW))
  have CY := Lib.hid (fun W x (h1 : IsNat W x z.natAbs) => small_yes h1 (by unfold B64; omega))
  obtain ⟨k, hk⟩ : ∃ k : Int, (z.natAbs : Int) = k := ⟨_, rfl⟩
  rw [hk] at CY
  obtain ⟨s, hs⟩ : ∃ s, sgn z = s := ⟨_, rfl⟩
  rcases Int.lt_or_le z 0 with hz | hz
  · have es := sgn_neg hz
    rw [es] at hs
    subst hs
    rw [es] at CS
    have ek : k = -z := by omega
    have c1 : k ≤ 9223372036854775808 := by omega
    obtain ⟨m, hm⟩ : ∃ m, IntKind.u64.wrap (-k) = m := ⟨_, rfl⟩
    have e2 : IntKind.i64.wrap m = z := by rw [IntKind.wrap_u64] at hm; rw [IntKind.wrap_i64]; omega
    clear h0 h1 hz es ek hk
    go_enter Tryz.func155, Tryz.ntmps155
    go_wp2_with fail
    refine CA.out.mono ?_
    rintro e w1 ⟨r, rfl, hr, hx1⟩
    go_wp2_with fail
    refine (CY.out _ _ hr).mono ?_
    rintro e w2 ⟨rfl, rfl⟩
    go_wp2_with fail
    refine (CS.out _ hx1).mono ?_
    rintro e w3 ⟨rfl, hx3⟩
    go_wp2
    go_ret2
    exact ⟨rfl, hx1.trans hx3⟩
  · have hs0 : 0 ≤ s := by rcases sgn_cases z with ⟨h1, h2⟩ | ⟨h1, h2⟩ | ⟨h1, h2⟩ <;> omega
    rw [hs] at CS
    have ek : k = z := by omega
    have c1 : k < 9223372036854775808 := by omega
    have e2 : IntKind.i64.wrap k = z := by rw [IntKind.wrap_i64]; omega
    clear h0 h1 hz hk hs ek
    go_enter Tryz.func155, Tryz.ntmps155
    go_wp2_with fail
    refine CA.out.mono ?_
    rintro e w1 ⟨r, rfl, hr, hx1⟩
    go_wp2_with fail
    refine (CY.out _ _ hr).mono ?_
    rintro e w2 ⟨rfl, rfl⟩
    go_wp2_with fail
    refine (CS.out _ hx1).mono ?_
    rintro e w3 ⟨rfl, hx3⟩
    go_wp2_with fail
    refine (CS.out _ (hx1.trans hx3)).mono ?_
    rintro e w4 ⟨rfl, hx4⟩
    go_wp2
    go_ret2
    exact ⟨rfl, hx1.trans (hx3.trans hx4)⟩

set_option maxHeartbeats 1000000 in
theorem units_any {w : World} {v : Value} {n : Int} {d : Nat} {mode : Int} (h : IsRat w v n d) (hn : n.natAbs < 4611686018427387904) (hd : d < BIG) (hm : mode = 1 ∨ mode = 2 ∨ mode = 3) :
    Calls Tryz.prog 88 #[v, .int .i64 mode] w fun e w' => e = .returned (.tuple #[.int .i64 (sg (decide (n < 0)) (rq n.natAbs d mode)), .nilIface]) ∧ Ext w w' := by
  have CN := Lib.hid (num_any h)
  have CD := Lib.hid (fun W (hW : Ext w W) => den_any (h.ext hW))
  have hpos := h.pos
  have hnB : n.natAbs < BIG := lt_BIG_of 64 (by decide) (by omega)
  have CW := Lib.hid (fun W x y (h1 : IntAt W x n) (h2 : IntAt W y (d : Int)) => whole_any (mode := mode) h1.is h2.is hpos hnB hd hm)
  obtain ⟨q, hq⟩ : ∃ q, sg (decide (n < 0)) (rq n.natAbs d mode) = q := ⟨_, rfl⟩
  have hqB : q.natAbs ≤ 4611686018427387904 := by rw [← hq, sg_natAbs]; have := rq_le n.natAbs d mode; omega
  rw [hq] at CW ⊢
  have CS := Lib.hid (fun W x (h1 : IntAt W x q) => nsmall_yes h1.is (by omega) (by omega))
  have CMo : Hid (∀ W, Calls Tryz.prog 102 #[.int .i64 mode] W fun e w' => e = .returned (.bool true) ∧ W = w') := Lib.hid (fun W => by have := mode_any mode W; rwa [decide_eq_true hm] at this)
  clear hn hd hm hq hqB hpos hnB
  go_enter Tryz.func88, Tryz.ntmps88
  go_wp2_with fail
  refine (CMo.out _).mono ?_
  rintro e w0 ⟨rfl, rfl⟩
  go_wp2_with fail
  refine CN.out.mono ?_
  rintro e w1 ⟨r1, rfl, h1, hx1⟩
  go_wp2_with fail
  refine (CD.out _ hx1).mono ?_
  rintro e w2 ⟨r2, rfl, h2, hx2⟩
  go_wp2_with fail
  refine (CW.out _ _ _ (h1.ext hx2) h2).mono ?_
  rintro e w3 ⟨r3, rfl, h3, hx3⟩
  go_wp2_with fail
  refine (CS.out _ _ h3).mono ?_
  rintro e w4 ⟨rfl, hx4⟩
  go_wp2
  go_ret2
  exact ⟨rfl, hx1.trans (hx2.trans (hx3.trans hx4))⟩
end Go.Proofs.YtdlcleecjeipnaaGreatDoor

/- dec.Get: the laws. -/
namespace Go.Proofs.YtdlcleecjeipnaaGreatDoor
open Go.RowKit Go.Proofs.YtdlcleecjeipnaaGreatDoorW.PrintWords Limbs Go.Sort Go.Lib
set_option linter.unusedVariables false

theorem num_trim0 (l : List UInt8) : Decimal.num (trimLeftB l 48) = Decimal.num l := by
  unfold trimLeftB
  induction l with
  | nil => rfl
  | cons c l ih =>
    rw [List.dropWhile_cons]
    by_cases h : (c == 48) = true
    · rw [if_pos h, ih, Decimal.num_cons]
      have : c = 48 := by simpa using h
      subst this
      simp
    · rw [if_neg h]

theorem trim0_isNum {l : List UInt8} (h0 : trimLeftB l 48 ≠ []) (hd : ∀ c ∈ l, Decimal.isDig c) (hl : l.length ≤ 4000) : isNum (trimLeftB l 48) := by
  unfold trimLeftB at *
  refine ⟨h0, ?_, ?_, ?_⟩
  · have := (List.dropWhile_sublist (· == (48 : UInt8)) (l := l)).length_le
    omega
  · rintro ⟨-, h⟩
    have hh := List.head_dropWhile_not (· == (48 : UInt8)) h0
    cases hc : l.dropWhile (· == 48) with
    | nil => exact h0 hc
    | cons c r =>
      rw [hc] at h
      have h1 : c = 48 := h
      simp only [hc, List.head_cons, h1] at hh
      simp at hh
  · intro c hc
    exact hd c ((List.dropWhile_sublist _).subset hc)

theorem trim0_nil {l : List UInt8} (h : trimLeftB l 48 = []) : Decimal.num l = 0 := by rw [← num_trim0, h]; rfl

/-- The parts of a decimal's text. -/
def dW (l : List UInt8) : List UInt8 := (cut (trimPrefix l [45]) [46]).1
def dF (l : List UInt8) : List UInt8 := (cut (trimPrefix l [45]) [46]).2.1
def dP (l : List UInt8) : Bool := (cut (trimPrefix l [45]) [46]).2.2
/-- Which texts are decimals. -/
def isD (l : List UInt8) : Prop := l.length ≤ 60 ∧ (dP l = true → dF l ≠ [] ∧ (dF l).length ≤ 20 ∧ ∀ c ∈ dF l, Decimal.isDig c) ∧ isNum (dW l) ∧ ¬(hasPrefix l [45] = true ∧ Decimal.num (dW l ++ dF l) = 0)
end Go.Proofs.YtdlcleecjeipnaaGreatDoor

/- rat.sure: a fraction that is surely one. -/
namespace Go.Proofs.YtdlcleecjeipnaaGreatDoor
open Go.RowKit Go.Proofs.YtdlcleecjeipnaaGreatDoorW.PrintWords Limbs
set_option linter.unusedVariables false

/-- A fraction that is n / d, in lowest terms. -/
def RatOf (w : World) (r : Value) (n d : Int) : Prop := ∃ (N : Int) (D : Nat), RatAt w r N D ∧ N * d = n * D ∧ N.natAbs ≤ n.natAbs ∧ D ≤ d.natAbs
theorem RatOf.ext {w w' : World} {r : Value} {n d : Int} (h : RatOf w r n d) (he : Ext w w') : RatOf w' r n d := by
  obtain ⟨N, D, h1, h2⟩ := h
  exact ⟨N, D, h1.ext he, h2⟩

end Go.Proofs.YtdlcleecjeipnaaGreatDoor

/- dec.Get: the walk of a decimal. -/
namespace Go.Proofs.YtdlcleecjeipnaaGreatDoor
open Go.RowKit Go.Proofs.YtdlcleecjeipnaaGreatDoorW.PrintWords Limbs Go.Sort Go.Lib
set_option linter.unusedVariables false

theorem cut_false {l s : List UInt8} (h : (cut l s).2.2 = false) : (cut l s).2.1 = [] := by
  unfold cut at *
  split at h
  · cases h
  · rw [if_neg (by assumption)]

/-- What dec.Get answers of a decimal. -/
def DGetPost (l : List UInt8) (w : World) : Ending → World → Prop :=
  Ans3 (fun r p e w' => RatOf w' r (sg (hasPrefix l [45]) (Decimal.num (dW l ++ dF l))) ((10 ^ (dF l).length : Nat) : Int) ∧ p = .int .i64 (dF l).length ∧ e = .nilIface) w

theorem trimleft0 (l : List UInt8) (w : World) : Calls Tryz.prog 110 #[.string ⟨l.toArray⟩, .string ⟨#[48]⟩] w fun e w' => e = .returned (.string ⟨(trimLeftB l 48).toArray⟩) ∧ w = w' :=
  (Tryz.strings_TrimLeft_one ⟨l.toArray⟩ 48 (by decide) w).mono fun e w' h => ⟨h.1, h.2.symm⟩
theorem isNum_zero : isNum [48] := ⟨by decide, by decide, by decide, by intro c hc; simp at hc; subst hc; exact ⟨by decide, by decide⟩⟩
end Go.Proofs.YtdlcleecjeipnaaGreatDoor

/- dec.Get of a decimal. -/
namespace Go.Proofs.YtdlcleecjeipnaaGreatDoor
open Go.RowKit Go.Proofs.YtdlcleecjeipnaaGreatDoorW.PrintWords Limbs Go.Sort Go.Lib
set_option linter.unusedVariables false

set_option maxHeartbeats 2000000 in
theorem dget_p {w : World} {l : List UInt8} (h60 : l.length ≤ 60) (hp : dP l = true) (hF0 : dF l ≠ []) (hF1 : (dF l).length ≤ 20) (hFd : ∀ c ∈ dF l, Decimal.isDig c) (hW : isNum (dW l)) (hs : hasPrefix l [45] = false) (hE : trimLeftB (dW l ++ dF l) 48 ≠ []) (hl : (dW l ++ dF l).length ≤ 4000)
    (hB : Bits w) (hL : Lens w) : Calls Tryz.prog 31 #[.string ⟨l.toArray⟩] w (DGetPost l w) := by
  have hdig : ∀ c ∈ dW l ++ dF l, Decimal.isDig c := by
    intro c hc
    rcases List.mem_append.1 hc with hc | hc
    · exact hW.2.2.2 c hc
    · exact hFd c hc
  have htp : (trimPrefix l [45]).length < 4294967281 := by
    have : (trimPrefix l [45]).length ≤ l.length := by unfold trimPrefix; split <;> simp
    omega
  have C1 := Lib.hid (cutsign l w)
  have C2 := Lib.hid (cut_any (trimPrefix l [45]) [46] htp w hL)
  have C3 := Lib.hid (fun W (hW' : Ext w W) => get_yes (w := W) hW (hB.ext hW'))
  have C4 : Hid (∀ W, Ext w W → Calls Tryz.prog 84 #[.string ⟨#[48]⟩] W (Ans2 (fun r e w' => NatAt w' r 0 ∧ e = .nilIface) W)) := Lib.hid (fun W hW' => get_yes (w := W) isNum_zero (hB.ext hW'))
  have C5 := Lib.hid (fun W => trimleft0 (dW l ++ dF l) W)
  have CT : Hid (∀ W, Calls Tryz.prog 109 #[.string ⟨(dF l).toArray⟩, .string ⟨#[48, 49, 50, 51, 52, 53, 54, 55, 56, 57]⟩] W fun e w' => e = .returned (.string ⟨#[]⟩) ∧ Ext W w') := Lib.hid (fun W => (trim_any (dF l) (by omega) W).mono fun e w' h => ⟨by rw [h.1, (trim_digits (dF l)).2 hFd]; rfl, h.2⟩)
  have hnum : Decimal.num (dW l ++ dF l) < BIG := Nat.lt_trans (Decimal.num_lt hdig) (ten_pow_big (by omega))
  obtain ⟨n, hn⟩ : ∃ n, Decimal.num (dW l ++ dF l) = n := ⟨_, rfl⟩
  have C6 := Lib.hid (fun W (hW' : Ext w W) => get_yes (w := W) (trim0_isNum hE hdig hl) (hB.ext hW'))
  rw [num_trim0, hn] at C6
  have hD : DGetPost l w = Ans3 (fun r p e w' => RatOf w' r (sg false n) ((10 ^ (dF l).length : Nat) : Int) ∧ p = .int .i64 (dF l).length ∧ e = .nilIface) w := by unfold DGetPost; rw [hs, hn]
  rw [hD]
  rw [hn] at hnum
  unfold dW dF dP at *
  obtain ⟨S, hS⟩ : ∃ X : ByteArray, (⟨(l).toArray⟩ : ByteArray) = X := ⟨_, rfl⟩
  obtain ⟨sl, hsl⟩ : ∃ k, (l).length = k := ⟨_, rfl⟩
  have sS : S.size = sl := by rw [← hS, ← hsl]; rfl
  obtain ⟨A, hA⟩ : ∃ X : ByteArray, (⟨((cut (trimPrefix l [45]) [46]).1).toArray⟩ : ByteArray) = X := ⟨_, rfl⟩
  obtain ⟨al, hal⟩ : ∃ k, ((cut (trimPrefix l [45]) [46]).1).length = k := ⟨_, rfl⟩
  have sA : A.size = al := by rw [← hA, ← hal]; rfl
  obtain ⟨F, hF⟩ : ∃ X : ByteArray, (⟨((cut (trimPrefix l [45]) [46]).2.1).toArray⟩ : ByteArray) = X := ⟨_, rfl⟩
  obtain ⟨fl, hfl⟩ : ∃ k, ((cut (trimPrefix l [45]) [46]).2.1).length = k := ⟨_, rfl⟩
  have sF : F.size = fl := by rw [← hF, ← hfl]; rfl
  have iF : F.toList.isEmpty = false := by
    rw [ByteArray.toList_eq, ← hF]
    cases hh : ((cut (trimPrefix l [45]) [46]).2.1) with
    | nil => exact absurd hh hF0
    | cons c t => rfl
  obtain ⟨J, hJ⟩ : ∃ X : ByteArray, (⟨((cut (trimPrefix l [45]) [46]).1 ++ (cut (trimPrefix l [45]) [46]).2.1).toArray⟩ : ByteArray) = X := ⟨_, rfl⟩
  obtain ⟨jl, hjl⟩ : ∃ k, ((cut (trimPrefix l [45]) [46]).1 ++ (cut (trimPrefix l [45]) [46]).2.1).length = k := ⟨_, rfl⟩
  have sJ : J.size = jl := by rw [← hJ, ← hjl]; rfl
  have eJ : A ++ F = J := by rw [← hA, ← hF, ← hJ, tx_append]
  obtain ⟨L, hL1⟩ : ∃ X : ByteArray, (⟨(trimLeftB ((cut (trimPrefix l [45]) [46]).1 ++ (cut (trimPrefix l [45]) [46]).2.1) 48).toArray⟩ : ByteArray) = X := ⟨_, rfl⟩
  obtain ⟨ll, hll⟩ : ∃ k, (trimLeftB ((cut (trimPrefix l [45]) [46]).1 ++ (cut (trimPrefix l [45]) [46]).2.1) 48).length = k := ⟨_, rfl⟩
  have sL : L.size = ll := by rw [← hL1, ← hll]; rfl
  have iL : L.toList.isEmpty = false := by
    rw [ByteArray.toList_eq, ← hL1]
    cases hh : (trimLeftB ((cut (trimPrefix l [45]) [46]).1 ++ (cut (trimPrefix l [45]) [46]).2.1) 48) with
    | nil => exact absurd hh hE
    | cons c t => rfl
  obtain ⟨U, hU⟩ : ∃ X : ByteArray, (⟨(trimPrefix l [45]).toArray⟩ : ByteArray) = X := ⟨_, rfl⟩
  have hsum : al + fl ≤ 9223372036854775807 := by rw [List.length_append] at hl; omega
  have b60 : decide ((60 : Int) < sl) = false := decide_eq_false (by omega)
  have b20 : decide ((20 : Int) < fl) = false := decide_eq_false (by omega)
  have hten : 10 ^ fl < BIG := ten_pow_big (by omega)
  have CTn := Lib.hid (fun W => ten_any fl (by omega) W)
  have CNw := Lib.hid (fun W x y (h1 : IntAt W x (sg false n)) (h2 : IntAt W y ((10 ^ fl : Nat) : Int)) (hW : Ext w W) => rnew_any h1.is h2.is (by have := Nat.pow_pos (n := fl) (show 0 < 10 by decide); omega) (by rw [sg_natAbs]; exact hnum) (by rw [Int.natAbs_natCast]; exact hten) (hB.ext hW))
  rw [hS] at C1 ⊢
  rw [hU, hs] at C1
  rw [hU, hA, hF, hp] at C2
  rw [hA] at C3
  rw [hJ, hL1] at C5
  rw [hF] at CT
  rw [hL1] at C6
  rw [hfl]
  have HR := Lib.hid (fun (w' : World) r N D (h1 : RatAt w' r N D) (h2 : N * ((10 ^ fl : Nat) : Int) = sg false n * (D : Nat)) (h3 : N.natAbs ≤ (sg false n).natAbs) (h4 : D ≤ ((10 ^ fl : Nat) : Int).natAbs) => (⟨N, D, h1, h2, h3, h4⟩ : RatOf w' r (sg false n) ((10 ^ fl : Nat) : Int)))
  obtain ⟨tn, htn⟩ : ∃ z, ((10 ^ fl : Nat) : Int) = z := ⟨_, rfl⟩
  rw [htn] at CTn CNw HR ⊢
  obtain ⟨zn, hzn⟩ : ∃ z, sg false n = z := ⟨_, rfl⟩
  rw [hzn] at CNw HR ⊢
  have HZ := Lib.hid hzn
  clear h60 hp hF1 hFd hW hs hE hl hB hL hdig htp hnum hn hD hS hsl hA hal hF hfl hJ hjl hL1 hll hU hten htn hzn sJ sL hF0
  go_enter Tryz.func31, Tryz.ntmps31
  go_wp2_with fail
  refine C1.out.mono ?_
  rintro e w1 ⟨rfl, rfl⟩
  go_wp2_with fail
  refine C2.out.mono ?_
  rintro e w2 ⟨rfl, hx2⟩
  go_wp2_with fail
  refine (CT.out _).mono ?_
  rintro e w3 ⟨rfl, hx3⟩
  replace hx2 := hx2.trans hx3
  go_wp2_with fail
  refine (C3.out _ hx2).mono ?_
  rintro e w4 ⟨r4, e4, rfl, ⟨h4, rfl⟩, hx4⟩
  replace hx2 := hx2.trans hx4
  clear h4 hx4 C1 C2 C3
  go_wp2_with fail
  refine (C4.out _ hx2).mono ?_
  rintro e w5 ⟨r5, e5, rfl, ⟨h5, rfl⟩, hx5⟩
  replace hx2 := hx2.trans hx5
  go_wp2_with fail
  refine (C5.out _).mono ?_
  rintro e w6 ⟨rfl, rfl⟩
  go_wp2_with fail
  refine (C6.out _ hx2).mono ?_
  rintro e w7 ⟨r7, e7, rfl, ⟨h7, rfl⟩, hx7⟩
  replace hx2 := hx2.trans hx7
  go_wp2_with fail
  have CN := Lib.hid (new_any (b := false) h7.is)
  rw [HZ.out] at CN
  refine CN.out.mono ?_
  rintro e w9 ⟨r9, rfl, h9, hx9⟩
  go_wp2_with fail
  refine (CTn.out _).mono ?_
  rintro e wa ⟨ra, rfl, ha, hxa⟩
  go_wp2_with fail
  refine (CNw.out _ _ _ (h9.ext hxa) ha (hx2.trans (hx9.trans hxa))).mono ?_
  rintro e wb ⟨rb, N, D, rfl, g3, g4, g5, g6, hxb⟩
  have HQ := Lib.hid (HR.out _ _ _ _ g3 g4 g5 g6)
  clear g3 g4 g5 g6 HR CNw CTn CN
  go_wp2
  go_ret3
  exact ⟨_, _, _, rfl, ⟨HQ.out, rfl, rfl⟩, hx2.trans (hx9.trans (hxa.trans hxb))⟩

set_option maxHeartbeats 2000000 in
theorem dget_pe {w : World} {l : List UInt8} (h60 : l.length ≤ 60) (hp : dP l = true) (hF0 : dF l ≠ []) (hF1 : (dF l).length ≤ 20) (hFd : ∀ c ∈ dF l, Decimal.isDig c) (hW : isNum (dW l)) (hs : hasPrefix l [45] = false) (hE : trimLeftB (dW l ++ dF l) 48 = []) (hl : (dW l ++ dF l).length ≤ 4000)
    (hB : Bits w) (hL : Lens w) : Calls Tryz.prog 31 #[.string ⟨l.toArray⟩] w (DGetPost l w) := by
  have hdig : ∀ c ∈ dW l ++ dF l, Decimal.isDig c := by
    intro c hc
    rcases List.mem_append.1 hc with hc | hc
    · exact hW.2.2.2 c hc
    · exact hFd c hc
  have htp : (trimPrefix l [45]).length < 4294967281 := by
    have : (trimPrefix l [45]).length ≤ l.length := by unfold trimPrefix; split <;> simp
    omega
  have C1 := Lib.hid (cutsign l w)
  have C2 := Lib.hid (cut_any (trimPrefix l [45]) [46] htp w hL)
  have C3 := Lib.hid (fun W (hW' : Ext w W) => get_yes (w := W) hW (hB.ext hW'))
  have C4 : Hid (∀ W, Ext w W → Calls Tryz.prog 84 #[.string ⟨#[48]⟩] W (Ans2 (fun r e w' => NatAt w' r 0 ∧ e = .nilIface) W)) := Lib.hid (fun W hW' => get_yes (w := W) isNum_zero (hB.ext hW'))
  have C5 := Lib.hid (fun W => trimleft0 (dW l ++ dF l) W)
  have CT : Hid (∀ W, Calls Tryz.prog 109 #[.string ⟨(dF l).toArray⟩, .string ⟨#[48, 49, 50, 51, 52, 53, 54, 55, 56, 57]⟩] W fun e w' => e = .returned (.string ⟨#[]⟩) ∧ Ext W w') := Lib.hid (fun W => (trim_any (dF l) (by omega) W).mono fun e w' h => ⟨by rw [h.1, (trim_digits (dF l)).2 hFd]; rfl, h.2⟩)
  have hnum : Decimal.num (dW l ++ dF l) < BIG := Nat.lt_trans (Decimal.num_lt hdig) (ten_pow_big (by omega))
  obtain ⟨n, hn⟩ : ∃ n, Decimal.num (dW l ++ dF l) = n := ⟨_, rfl⟩
  have hn00 : n = 0 := by rw [← hn]; exact trim0_nil hE
  have hD : DGetPost l w = Ans3 (fun r p e w' => RatOf w' r (sg false n) ((10 ^ (dF l).length : Nat) : Int) ∧ p = .int .i64 (dF l).length ∧ e = .nilIface) w := by unfold DGetPost; rw [hs, hn]
  rw [hD]
  rw [hn] at hnum
  unfold dW dF dP at *
  obtain ⟨S, hS⟩ : ∃ X : ByteArray, (⟨(l).toArray⟩ : ByteArray) = X := ⟨_, rfl⟩
  obtain ⟨sl, hsl⟩ : ∃ k, (l).length = k := ⟨_, rfl⟩
  have sS : S.size = sl := by rw [← hS, ← hsl]; rfl
  obtain ⟨A, hA⟩ : ∃ X : ByteArray, (⟨((cut (trimPrefix l [45]) [46]).1).toArray⟩ : ByteArray) = X := ⟨_, rfl⟩
  obtain ⟨al, hal⟩ : ∃ k, ((cut (trimPrefix l [45]) [46]).1).length = k := ⟨_, rfl⟩
  have sA : A.size = al := by rw [← hA, ← hal]; rfl
  obtain ⟨F, hF⟩ : ∃ X : ByteArray, (⟨((cut (trimPrefix l [45]) [46]).2.1).toArray⟩ : ByteArray) = X := ⟨_, rfl⟩
  obtain ⟨fl, hfl⟩ : ∃ k, ((cut (trimPrefix l [45]) [46]).2.1).length = k := ⟨_, rfl⟩
  have sF : F.size = fl := by rw [← hF, ← hfl]; rfl
  have iF : F.toList.isEmpty = false := by
    rw [ByteArray.toList_eq, ← hF]
    cases hh : ((cut (trimPrefix l [45]) [46]).2.1) with
    | nil => exact absurd hh hF0
    | cons c t => rfl
  obtain ⟨J, hJ⟩ : ∃ X : ByteArray, (⟨((cut (trimPrefix l [45]) [46]).1 ++ (cut (trimPrefix l [45]) [46]).2.1).toArray⟩ : ByteArray) = X := ⟨_, rfl⟩
  obtain ⟨jl, hjl⟩ : ∃ k, ((cut (trimPrefix l [45]) [46]).1 ++ (cut (trimPrefix l [45]) [46]).2.1).length = k := ⟨_, rfl⟩
  have sJ : J.size = jl := by rw [← hJ, ← hjl]; rfl
  have eJ : A ++ F = J := by rw [← hA, ← hF, ← hJ, tx_append]
  obtain ⟨L, hL1⟩ : ∃ X : ByteArray, (⟨(trimLeftB ((cut (trimPrefix l [45]) [46]).1 ++ (cut (trimPrefix l [45]) [46]).2.1) 48).toArray⟩ : ByteArray) = X := ⟨_, rfl⟩
  obtain ⟨ll, hll⟩ : ∃ k, (trimLeftB ((cut (trimPrefix l [45]) [46]).1 ++ (cut (trimPrefix l [45]) [46]).2.1) 48).length = k := ⟨_, rfl⟩
  have sL : L.size = ll := by rw [← hL1, ← hll]; rfl
  have iL : L.toList.isEmpty = true := by rw [ByteArray.toList_eq, ← hL1, hE]; rfl
  obtain ⟨U, hU⟩ : ∃ X : ByteArray, (⟨(trimPrefix l [45]).toArray⟩ : ByteArray) = X := ⟨_, rfl⟩
  have hsum : al + fl ≤ 9223372036854775807 := by rw [List.length_append] at hl; omega
  have b60 : decide ((60 : Int) < sl) = false := decide_eq_false (by omega)
  have b20 : decide ((20 : Int) < fl) = false := decide_eq_false (by omega)
  have hten : 10 ^ fl < BIG := ten_pow_big (by omega)
  have CTn := Lib.hid (fun W => ten_any fl (by omega) W)
  have CNw := Lib.hid (fun W x y (h1 : IntAt W x (sg false n)) (h2 : IntAt W y ((10 ^ fl : Nat) : Int)) (hW : Ext w W) => rnew_any h1.is h2.is (by have := Nat.pow_pos (n := fl) (show 0 < 10 by decide); omega) (by rw [sg_natAbs]; exact hnum) (by rw [Int.natAbs_natCast]; exact hten) (hB.ext hW))
  rw [hS] at C1 ⊢
  rw [hU, hs] at C1
  rw [hU, hA, hF, hp] at C2
  rw [hA] at C3
  rw [hJ, hL1] at C5
  rw [hF] at CT
  rw [hfl]
  have HR := Lib.hid (fun (w' : World) r N D (h1 : RatAt w' r N D) (h2 : N * ((10 ^ fl : Nat) : Int) = sg false n * (D : Nat)) (h3 : N.natAbs ≤ (sg false n).natAbs) (h4 : D ≤ ((10 ^ fl : Nat) : Int).natAbs) => (⟨N, D, h1, h2, h3, h4⟩ : RatOf w' r (sg false n) ((10 ^ fl : Nat) : Int)))
  obtain ⟨tn, htn⟩ : ∃ z, ((10 ^ fl : Nat) : Int) = z := ⟨_, rfl⟩
  rw [htn] at CTn CNw HR ⊢
  obtain ⟨zn, hzn⟩ : ∃ z, sg false n = z := ⟨_, rfl⟩
  rw [hzn] at CNw HR ⊢
  have HZ := Lib.hid hzn
  clear h60 hp hF1 hFd hW hs hE hl hB hL hdig htp hnum hn hD hS hsl hA hal hF hfl hJ hjl hL1 hll hU hten htn hzn sJ sL hF0
  go_enter Tryz.func31, Tryz.ntmps31
  go_wp2_with fail
  refine C1.out.mono ?_
  rintro e w1 ⟨rfl, rfl⟩
  go_wp2_with fail
  refine C2.out.mono ?_
  rintro e w2 ⟨rfl, hx2⟩
  go_wp2_with fail
  refine (CT.out _).mono ?_
  rintro e w3 ⟨rfl, hx3⟩
  replace hx2 := hx2.trans hx3
  go_wp2_with fail
  refine (C3.out _ hx2).mono ?_
  rintro e w4 ⟨r4, e4, rfl, ⟨h4, rfl⟩, hx4⟩
  replace hx2 := hx2.trans hx4
  clear h4 hx4 C1 C2 C3
  go_wp2_with fail
  refine (C4.out _ hx2).mono ?_
  rintro e w5 ⟨r5, e5, rfl, ⟨h5, rfl⟩, hx5⟩
  replace hx2 := hx2.trans hx5
  go_wp2_with fail
  refine (C5.out _).mono ?_
  rintro e w6 ⟨rfl, rfl⟩
  go_wp2_with fail
  rw [← hn00] at h5
  have h7 := h5
  have hx7 := Ext.refl w5
  have CN := Lib.hid (new_any (b := false) h7.is)
  rw [HZ.out] at CN
  refine CN.out.mono ?_
  rintro e w9 ⟨r9, rfl, h9, hx9⟩
  go_wp2_with fail
  refine (CTn.out _).mono ?_
  rintro e wa ⟨ra, rfl, ha, hxa⟩
  go_wp2_with fail
  refine (CNw.out _ _ _ (h9.ext hxa) ha (hx2.trans (hx9.trans hxa))).mono ?_
  rintro e wb ⟨rb, N, D, rfl, g3, g4, g5, g6, hxb⟩
  have HQ := Lib.hid (HR.out _ _ _ _ g3 g4 g5 g6)
  clear g3 g4 g5 g6 HR CNw CTn CN
  go_wp2
  go_ret3
  exact ⟨_, _, _, rfl, ⟨HQ.out, rfl, rfl⟩, hx2.trans (hx9.trans (hxa.trans hxb))⟩

set_option maxHeartbeats 2000000 in
theorem dget_ps {w : World} {l : List UInt8} (h60 : l.length ≤ 60) (hp : dP l = true) (hF0 : dF l ≠ []) (hF1 : (dF l).length ≤ 20) (hFd : ∀ c ∈ dF l, Decimal.isDig c) (hW : isNum (dW l)) (hs : hasPrefix l [45] = true) (hE : trimLeftB (dW l ++ dF l) 48 ≠ []) (hn0 : Decimal.num (dW l ++ dF l) ≠ 0) (hl : (dW l ++ dF l).length ≤ 4000)
    (hB : Bits w) (hL : Lens w) : Calls Tryz.prog 31 #[.string ⟨l.toArray⟩] w (DGetPost l w) := by
  have hdig : ∀ c ∈ dW l ++ dF l, Decimal.isDig c := by
    intro c hc
    rcases List.mem_append.1 hc with hc | hc
    · exact hW.2.2.2 c hc
    · exact hFd c hc
  have htp : (trimPrefix l [45]).length < 4294967281 := by
    have : (trimPrefix l [45]).length ≤ l.length := by unfold trimPrefix; split <;> simp
    omega
  have C1 := Lib.hid (cutsign l w)
  have C2 := Lib.hid (cut_any (trimPrefix l [45]) [46] htp w hL)
  have C3 := Lib.hid (fun W (hW' : Ext w W) => get_yes (w := W) hW (hB.ext hW'))
  have C4 : Hid (∀ W, Ext w W → Calls Tryz.prog 84 #[.string ⟨#[48]⟩] W (Ans2 (fun r e w' => NatAt w' r 0 ∧ e = .nilIface) W)) := Lib.hid (fun W hW' => get_yes (w := W) isNum_zero (hB.ext hW'))
  have C5 := Lib.hid (fun W => trimleft0 (dW l ++ dF l) W)
  have CT : Hid (∀ W, Calls Tryz.prog 109 #[.string ⟨(dF l).toArray⟩, .string ⟨#[48, 49, 50, 51, 52, 53, 54, 55, 56, 57]⟩] W fun e w' => e = .returned (.string ⟨#[]⟩) ∧ Ext W w') := Lib.hid (fun W => (trim_any (dF l) (by omega) W).mono fun e w' h => ⟨by rw [h.1, (trim_digits (dF l)).2 hFd]; rfl, h.2⟩)
  have hnum : Decimal.num (dW l ++ dF l) < BIG := Nat.lt_trans (Decimal.num_lt hdig) (ten_pow_big (by omega))
  obtain ⟨n, hn⟩ : ∃ n, Decimal.num (dW l ++ dF l) = n := ⟨_, rfl⟩
  have C6 := Lib.hid (fun W (hW' : Ext w W) => get_yes (w := W) (trim0_isNum hE hdig hl) (hB.ext hW'))
  rw [num_trim0, hn] at C6
  have ez : decide (n = 0) = false := decide_eq_false (by rw [← hn]; exact hn0)
  have hD : DGetPost l w = Ans3 (fun r p e w' => RatOf w' r (sg true n) ((10 ^ (dF l).length : Nat) : Int) ∧ p = .int .i64 (dF l).length ∧ e = .nilIface) w := by unfold DGetPost; rw [hs, hn]
  rw [hD]
  rw [hn] at hnum
  unfold dW dF dP at *
  obtain ⟨S, hS⟩ : ∃ X : ByteArray, (⟨(l).toArray⟩ : ByteArray) = X := ⟨_, rfl⟩
  obtain ⟨sl, hsl⟩ : ∃ k, (l).length = k := ⟨_, rfl⟩
  have sS : S.size = sl := by rw [← hS, ← hsl]; rfl
  obtain ⟨A, hA⟩ : ∃ X : ByteArray, (⟨((cut (trimPrefix l [45]) [46]).1).toArray⟩ : ByteArray) = X := ⟨_, rfl⟩
  obtain ⟨al, hal⟩ : ∃ k, ((cut (trimPrefix l [45]) [46]).1).length = k := ⟨_, rfl⟩
  have sA : A.size = al := by rw [← hA, ← hal]; rfl
  obtain ⟨F, hF⟩ : ∃ X : ByteArray, (⟨((cut (trimPrefix l [45]) [46]).2.1).toArray⟩ : ByteArray) = X := ⟨_, rfl⟩
  obtain ⟨fl, hfl⟩ : ∃ k, ((cut (trimPrefix l [45]) [46]).2.1).length = k := ⟨_, rfl⟩
  have sF : F.size = fl := by rw [← hF, ← hfl]; rfl
  have iF : F.toList.isEmpty = false := by
    rw [ByteArray.toList_eq, ← hF]
    cases hh : ((cut (trimPrefix l [45]) [46]).2.1) with
    | nil => exact absurd hh hF0
    | cons c t => rfl
  obtain ⟨J, hJ⟩ : ∃ X : ByteArray, (⟨((cut (trimPrefix l [45]) [46]).1 ++ (cut (trimPrefix l [45]) [46]).2.1).toArray⟩ : ByteArray) = X := ⟨_, rfl⟩
  obtain ⟨jl, hjl⟩ : ∃ k, ((cut (trimPrefix l [45]) [46]).1 ++ (cut (trimPrefix l [45]) [46]).2.1).length = k := ⟨_, rfl⟩
  have sJ : J.size = jl := by rw [← hJ, ← hjl]; rfl
  have eJ : A ++ F = J := by rw [← hA, ← hF, ← hJ, tx_append]
  obtain ⟨L, hL1⟩ : ∃ X : ByteArray, (⟨(trimLeftB ((cut (trimPrefix l [45]) [46]).1 ++ (cut (trimPrefix l [45]) [46]).2.1) 48).toArray⟩ : ByteArray) = X := ⟨_, rfl⟩
  obtain ⟨ll, hll⟩ : ∃ k, (trimLeftB ((cut (trimPrefix l [45]) [46]).1 ++ (cut (trimPrefix l [45]) [46]).2.1) 48).length = k := ⟨_, rfl⟩
  have sL : L.size = ll := by rw [← hL1, ← hll]; rfl
  have iL : L.toList.isEmpty = false := by
    rw [ByteArray.toList_eq, ← hL1]
    cases hh : (trimLeftB ((cut (trimPrefix l [45]) [46]).1 ++ (cut (trimPrefix l [45]) [46]).2.1) 48) with
    | nil => exact absurd hh hE
    | cons c t => rfl
  obtain ⟨U, hU⟩ : ∃ X : ByteArray, (⟨(trimPrefix l [45]).toArray⟩ : ByteArray) = X := ⟨_, rfl⟩
  have hsum : al + fl ≤ 9223372036854775807 := by rw [List.length_append] at hl; omega
  have b60 : decide ((60 : Int) < sl) = false := decide_eq_false (by omega)
  have b20 : decide ((20 : Int) < fl) = false := decide_eq_false (by omega)
  have hten : 10 ^ fl < BIG := ten_pow_big (by omega)
  have CTn := Lib.hid (fun W => ten_any fl (by omega) W)
  have CNw := Lib.hid (fun W x y (h1 : IntAt W x (sg true n)) (h2 : IntAt W y ((10 ^ fl : Nat) : Int)) (hW : Ext w W) => rnew_any h1.is h2.is (by have := Nat.pow_pos (n := fl) (show 0 < 10 by decide); omega) (by rw [sg_natAbs]; exact hnum) (by rw [Int.natAbs_natCast]; exact hten) (hB.ext hW))
  rw [hS] at C1 ⊢
  rw [hU, hs] at C1
  rw [hU, hA, hF, hp] at C2
  rw [hA] at C3
  rw [hJ, hL1] at C5
  rw [hF] at CT
  rw [hL1] at C6
  rw [hfl]
  have HR := Lib.hid (fun (w' : World) r N D (h1 : RatAt w' r N D) (h2 : N * ((10 ^ fl : Nat) : Int) = sg true n * (D : Nat)) (h3 : N.natAbs ≤ (sg true n).natAbs) (h4 : D ≤ ((10 ^ fl : Nat) : Int).natAbs) => (⟨N, D, h1, h2, h3, h4⟩ : RatOf w' r (sg true n) ((10 ^ fl : Nat) : Int)))
  obtain ⟨tn, htn⟩ : ∃ z, ((10 ^ fl : Nat) : Int) = z := ⟨_, rfl⟩
  rw [htn] at CTn CNw HR ⊢
  obtain ⟨zn, hzn⟩ : ∃ z, sg true n = z := ⟨_, rfl⟩
  rw [hzn] at CNw HR ⊢
  have HZ := Lib.hid hzn
  clear h60 hp hF1 hFd hW hs hE hl hB hL hdig htp hnum hn hD hS hsl hA hal hF hfl hJ hjl hL1 hll hU hten htn hzn sJ sL hF0 hn0
  go_enter Tryz.func31, Tryz.ntmps31
  go_wp2_with fail
  refine C1.out.mono ?_
  rintro e w1 ⟨rfl, rfl⟩
  go_wp2_with fail
  refine C2.out.mono ?_
  rintro e w2 ⟨rfl, hx2⟩
  go_wp2_with fail
  refine (CT.out _).mono ?_
  rintro e w3 ⟨rfl, hx3⟩
  replace hx2 := hx2.trans hx3
  go_wp2_with fail
  refine (C3.out _ hx2).mono ?_
  rintro e w4 ⟨r4, e4, rfl, ⟨h4, rfl⟩, hx4⟩
  replace hx2 := hx2.trans hx4
  clear h4 hx4 C1 C2 C3
  go_wp2_with fail
  refine (C4.out _ hx2).mono ?_
  rintro e w5 ⟨r5, e5, rfl, ⟨h5, rfl⟩, hx5⟩
  replace hx2 := hx2.trans hx5
  go_wp2_with fail
  refine (C5.out _).mono ?_
  rintro e w6 ⟨rfl, rfl⟩
  go_wp2_with fail
  refine (C6.out _ hx2).mono ?_
  rintro e w7 ⟨r7, e7, rfl, ⟨h7, rfl⟩, hx7⟩
  replace hx2 := hx2.trans hx7
  go_wp2_with fail
  have CZ := Lib.hid (zero_any h7.is)
  refine CZ.out.mono ?_
  rintro e w8 ⟨rfl, rfl⟩
  rw [ez]
  clear ez CZ
  go_wp2_with fail
  have CN := Lib.hid (new_any (b := true) h7.is)
  rw [HZ.out] at CN
  refine CN.out.mono ?_
  rintro e w9 ⟨r9, rfl, h9, hx9⟩
  go_wp2_with fail
  refine (CTn.out _).mono ?_
  rintro e wa ⟨ra, rfl, ha, hxa⟩
  go_wp2_with fail
  refine (CNw.out _ _ _ (h9.ext hxa) ha (hx2.trans (hx9.trans hxa))).mono ?_
  rintro e wb ⟨rb, N, D, rfl, g3, g4, g5, g6, hxb⟩
  have HQ := Lib.hid (HR.out _ _ _ _ g3 g4 g5 g6)
  clear g3 g4 g5 g6 HR CNw CTn CN
  go_wp2
  go_ret3
  exact ⟨_, _, _, rfl, ⟨HQ.out, rfl, rfl⟩, hx2.trans (hx9.trans (hxa.trans hxb))⟩

set_option maxHeartbeats 2000000 in
theorem dget_w {w : World} {l : List UInt8} (h60 : l.length ≤ 60) (hp : dP l = false) (hF1 : (dF l).length ≤ 20) (hFd : ∀ c ∈ dF l, Decimal.isDig c) (hW : isNum (dW l)) (hs : hasPrefix l [45] = false) (hE : trimLeftB (dW l ++ dF l) 48 ≠ []) (hl : (dW l ++ dF l).length ≤ 4000)
    (hB : Bits w) (hL : Lens w) : Calls Tryz.prog 31 #[.string ⟨l.toArray⟩] w (DGetPost l w) := by
  have hdig : ∀ c ∈ dW l ++ dF l, Decimal.isDig c := by
    intro c hc
    rcases List.mem_append.1 hc with hc | hc
    · exact hW.2.2.2 c hc
    · exact hFd c hc
  have htp : (trimPrefix l [45]).length < 4294967281 := by
    have : (trimPrefix l [45]).length ≤ l.length := by unfold trimPrefix; split <;> simp
    omega
  have C1 := Lib.hid (cutsign l w)
  have C2 := Lib.hid (cut_any (trimPrefix l [45]) [46] htp w hL)
  have C3 := Lib.hid (fun W (hW' : Ext w W) => get_yes (w := W) hW (hB.ext hW'))
  have C4 : Hid (∀ W, Ext w W → Calls Tryz.prog 84 #[.string ⟨#[48]⟩] W (Ans2 (fun r e w' => NatAt w' r 0 ∧ e = .nilIface) W)) := Lib.hid (fun W hW' => get_yes (w := W) isNum_zero (hB.ext hW'))
  have C5 := Lib.hid (fun W => trimleft0 (dW l ++ dF l) W)
  have hnum : Decimal.num (dW l ++ dF l) < BIG := Nat.lt_trans (Decimal.num_lt hdig) (ten_pow_big (by omega))
  obtain ⟨n, hn⟩ : ∃ n, Decimal.num (dW l ++ dF l) = n := ⟨_, rfl⟩
  have C6 := Lib.hid (fun W (hW' : Ext w W) => get_yes (w := W) (trim0_isNum hE hdig hl) (hB.ext hW'))
  rw [num_trim0, hn] at C6
  have hD : DGetPost l w = Ans3 (fun r p e w' => RatOf w' r (sg false n) ((10 ^ (dF l).length : Nat) : Int) ∧ p = .int .i64 (dF l).length ∧ e = .nilIface) w := by unfold DGetPost; rw [hs, hn]
  rw [hD]
  rw [hn] at hnum
  unfold dW dF dP at *
  obtain ⟨S, hS⟩ : ∃ X : ByteArray, (⟨(l).toArray⟩ : ByteArray) = X := ⟨_, rfl⟩
  obtain ⟨sl, hsl⟩ : ∃ k, (l).length = k := ⟨_, rfl⟩
  have sS : S.size = sl := by rw [← hS, ← hsl]; rfl
  obtain ⟨A, hA⟩ : ∃ X : ByteArray, (⟨((cut (trimPrefix l [45]) [46]).1).toArray⟩ : ByteArray) = X := ⟨_, rfl⟩
  obtain ⟨al, hal⟩ : ∃ k, ((cut (trimPrefix l [45]) [46]).1).length = k := ⟨_, rfl⟩
  have sA : A.size = al := by rw [← hA, ← hal]; rfl
  obtain ⟨F, hF⟩ : ∃ X : ByteArray, (⟨((cut (trimPrefix l [45]) [46]).2.1).toArray⟩ : ByteArray) = X := ⟨_, rfl⟩
  obtain ⟨fl, hfl⟩ : ∃ k, ((cut (trimPrefix l [45]) [46]).2.1).length = k := ⟨_, rfl⟩
  have sF : F.size = fl := by rw [← hF, ← hfl]; rfl
  obtain ⟨J, hJ⟩ : ∃ X : ByteArray, (⟨((cut (trimPrefix l [45]) [46]).1 ++ (cut (trimPrefix l [45]) [46]).2.1).toArray⟩ : ByteArray) = X := ⟨_, rfl⟩
  obtain ⟨jl, hjl⟩ : ∃ k, ((cut (trimPrefix l [45]) [46]).1 ++ (cut (trimPrefix l [45]) [46]).2.1).length = k := ⟨_, rfl⟩
  have sJ : J.size = jl := by rw [← hJ, ← hjl]; rfl
  have eJ : A ++ F = J := by rw [← hA, ← hF, ← hJ, tx_append]
  obtain ⟨L, hL1⟩ : ∃ X : ByteArray, (⟨(trimLeftB ((cut (trimPrefix l [45]) [46]).1 ++ (cut (trimPrefix l [45]) [46]).2.1) 48).toArray⟩ : ByteArray) = X := ⟨_, rfl⟩
  obtain ⟨ll, hll⟩ : ∃ k, (trimLeftB ((cut (trimPrefix l [45]) [46]).1 ++ (cut (trimPrefix l [45]) [46]).2.1) 48).length = k := ⟨_, rfl⟩
  have sL : L.size = ll := by rw [← hL1, ← hll]; rfl
  have iL : L.toList.isEmpty = false := by
    rw [ByteArray.toList_eq, ← hL1]
    cases hh : (trimLeftB ((cut (trimPrefix l [45]) [46]).1 ++ (cut (trimPrefix l [45]) [46]).2.1) 48) with
    | nil => exact absurd hh hE
    | cons c t => rfl
  obtain ⟨U, hU⟩ : ∃ X : ByteArray, (⟨(trimPrefix l [45]).toArray⟩ : ByteArray) = X := ⟨_, rfl⟩
  have hsum : al + fl ≤ 9223372036854775807 := by rw [List.length_append] at hl; omega
  have b60 : decide ((60 : Int) < sl) = false := decide_eq_false (by omega)
  have b20 : decide ((20 : Int) < fl) = false := decide_eq_false (by omega)
  have hten : 10 ^ fl < BIG := ten_pow_big (by omega)
  have CTn := Lib.hid (fun W => ten_any fl (by omega) W)
  have CNw := Lib.hid (fun W x y (h1 : IntAt W x (sg false n)) (h2 : IntAt W y ((10 ^ fl : Nat) : Int)) (hW : Ext w W) => rnew_any h1.is h2.is (by have := Nat.pow_pos (n := fl) (show 0 < 10 by decide); omega) (by rw [sg_natAbs]; exact hnum) (by rw [Int.natAbs_natCast]; exact hten) (hB.ext hW))
  rw [hS] at C1 ⊢
  rw [hU, hs] at C1
  rw [hU, hA, hF, hp] at C2
  rw [hA] at C3
  rw [hJ, hL1] at C5
  rw [hL1] at C6
  rw [hfl]
  have HR := Lib.hid (fun (w' : World) r N D (h1 : RatAt w' r N D) (h2 : N * ((10 ^ fl : Nat) : Int) = sg false n * (D : Nat)) (h3 : N.natAbs ≤ (sg false n).natAbs) (h4 : D ≤ ((10 ^ fl : Nat) : Int).natAbs) => (⟨N, D, h1, h2, h3, h4⟩ : RatOf w' r (sg false n) ((10 ^ fl : Nat) : Int)))
  obtain ⟨tn, htn⟩ : ∃ z, ((10 ^ fl : Nat) : Int) = z := ⟨_, rfl⟩
  rw [htn] at CTn CNw HR ⊢
  obtain ⟨zn, hzn⟩ : ∃ z, sg false n = z := ⟨_, rfl⟩
  rw [hzn] at CNw HR ⊢
  have HZ := Lib.hid hzn
  clear h60 hp hF1 hFd hW hs hE hl hB hL hdig htp hnum hn hD hS hsl hA hal hF hfl hJ hjl hL1 hll hU hten htn hzn sJ sL
  go_enter Tryz.func31, Tryz.ntmps31
  go_wp2_with fail
  refine C1.out.mono ?_
  rintro e w1 ⟨rfl, rfl⟩
  go_wp2_with fail
  refine C2.out.mono ?_
  rintro e w2 ⟨rfl, hx2⟩
  go_wp2_with fail
  refine (C3.out _ hx2).mono ?_
  rintro e w4 ⟨r4, e4, rfl, ⟨h4, rfl⟩, hx4⟩
  replace hx2 := hx2.trans hx4
  clear h4 hx4 C1 C2 C3
  go_wp2_with fail
  refine (C4.out _ hx2).mono ?_
  rintro e w5 ⟨r5, e5, rfl, ⟨h5, rfl⟩, hx5⟩
  replace hx2 := hx2.trans hx5
  go_wp2_with fail
  refine (C5.out _).mono ?_
  rintro e w6 ⟨rfl, rfl⟩
  go_wp2_with fail
  refine (C6.out _ hx2).mono ?_
  rintro e w7 ⟨r7, e7, rfl, ⟨h7, rfl⟩, hx7⟩
  replace hx2 := hx2.trans hx7
  go_wp2_with fail
  have CN := Lib.hid (new_any (b := false) h7.is)
  rw [HZ.out] at CN
  refine CN.out.mono ?_
  rintro e w9 ⟨r9, rfl, h9, hx9⟩
  go_wp2_with fail
  refine (CTn.out _).mono ?_
  rintro e wa ⟨ra, rfl, ha, hxa⟩
  go_wp2_with fail
  refine (CNw.out _ _ _ (h9.ext hxa) ha (hx2.trans (hx9.trans hxa))).mono ?_
  rintro e wb ⟨rb, N, D, rfl, g3, g4, g5, g6, hxb⟩
  have HQ := Lib.hid (HR.out _ _ _ _ g3 g4 g5 g6)
  clear g3 g4 g5 g6 HR CNw CTn CN
  go_wp2
  go_ret3
  exact ⟨_, _, _, rfl, ⟨HQ.out, rfl, rfl⟩, hx2.trans (hx9.trans (hxa.trans hxb))⟩

set_option maxHeartbeats 2000000 in
theorem dget_we {w : World} {l : List UInt8} (h60 : l.length ≤ 60) (hp : dP l = false) (hF1 : (dF l).length ≤ 20) (hFd : ∀ c ∈ dF l, Decimal.isDig c) (hW : isNum (dW l)) (hs : hasPrefix l [45] = false) (hE : trimLeftB (dW l ++ dF l) 48 = []) (hl : (dW l ++ dF l).length ≤ 4000)
    (hB : Bits w) (hL : Lens w) : Calls Tryz.prog 31 #[.string ⟨l.toArray⟩] w (DGetPost l w) := by
  have hdig : ∀ c ∈ dW l ++ dF l, Decimal.isDig c := by
    intro c hc
    rcases List.mem_append.1 hc with hc | hc
    · exact hW.2.2.2 c hc
    · exact hFd c hc
  have htp : (trimPrefix l [45]).length < 4294967281 := by
    have : (trimPrefix l [45]).length ≤ l.length := by unfold trimPrefix; split <;> simp
    omega
  have C1 := Lib.hid (cutsign l w)
  have C2 := Lib.hid (cut_any (trimPrefix l [45]) [46] htp w hL)
  have C3 := Lib.hid (fun W (hW' : Ext w W) => get_yes (w := W) hW (hB.ext hW'))
  have C4 : Hid (∀ W, Ext w W → Calls Tryz.prog 84 #[.string ⟨#[48]⟩] W (Ans2 (fun r e w' => NatAt w' r 0 ∧ e = .nilIface) W)) := Lib.hid (fun W hW' => get_yes (w := W) isNum_zero (hB.ext hW'))
  have C5 := Lib.hid (fun W => trimleft0 (dW l ++ dF l) W)
  have hnum : Decimal.num (dW l ++ dF l) < BIG := Nat.lt_trans (Decimal.num_lt hdig) (ten_pow_big (by omega))
  obtain ⟨n, hn⟩ : ∃ n, Decimal.num (dW l ++ dF l) = n := ⟨_, rfl⟩
  have hn00 : n = 0 := by rw [← hn]; exact trim0_nil hE
  have hD : DGetPost l w = Ans3 (fun r p e w' => RatOf w' r (sg false n) ((10 ^ (dF l).length : Nat) : Int) ∧ p = .int .i64 (dF l).length ∧ e = .nilIface) w := by unfold DGetPost; rw [hs, hn]
  rw [hD]
  rw [hn] at hnum
  unfold dW dF dP at *
  obtain ⟨S, hS⟩ : ∃ X : ByteArray, (⟨(l).toArray⟩ : ByteArray) = X := ⟨_, rfl⟩
  obtain ⟨sl, hsl⟩ : ∃ k, (l).length = k := ⟨_, rfl⟩
  have sS : S.size = sl := by rw [← hS, ← hsl]; rfl
  obtain ⟨A, hA⟩ : ∃ X : ByteArray, (⟨((cut (trimPrefix l [45]) [46]).1).toArray⟩ : ByteArray) = X := ⟨_, rfl⟩
  obtain ⟨al, hal⟩ : ∃ k, ((cut (trimPrefix l [45]) [46]).1).length = k := ⟨_, rfl⟩
  have sA : A.size = al := by rw [← hA, ← hal]; rfl
  obtain ⟨F, hF⟩ : ∃ X : ByteArray, (⟨((cut (trimPrefix l [45]) [46]).2.1).toArray⟩ : ByteArray) = X := ⟨_, rfl⟩
  obtain ⟨fl, hfl⟩ : ∃ k, ((cut (trimPrefix l [45]) [46]).2.1).length = k := ⟨_, rfl⟩
  have sF : F.size = fl := by rw [← hF, ← hfl]; rfl
  obtain ⟨J, hJ⟩ : ∃ X : ByteArray, (⟨((cut (trimPrefix l [45]) [46]).1 ++ (cut (trimPrefix l [45]) [46]).2.1).toArray⟩ : ByteArray) = X := ⟨_, rfl⟩
  obtain ⟨jl, hjl⟩ : ∃ k, ((cut (trimPrefix l [45]) [46]).1 ++ (cut (trimPrefix l [45]) [46]).2.1).length = k := ⟨_, rfl⟩
  have sJ : J.size = jl := by rw [← hJ, ← hjl]; rfl
  have eJ : A ++ F = J := by rw [← hA, ← hF, ← hJ, tx_append]
  obtain ⟨L, hL1⟩ : ∃ X : ByteArray, (⟨(trimLeftB ((cut (trimPrefix l [45]) [46]).1 ++ (cut (trimPrefix l [45]) [46]).2.1) 48).toArray⟩ : ByteArray) = X := ⟨_, rfl⟩
  obtain ⟨ll, hll⟩ : ∃ k, (trimLeftB ((cut (trimPrefix l [45]) [46]).1 ++ (cut (trimPrefix l [45]) [46]).2.1) 48).length = k := ⟨_, rfl⟩
  have sL : L.size = ll := by rw [← hL1, ← hll]; rfl
  have iL : L.toList.isEmpty = true := by rw [ByteArray.toList_eq, ← hL1, hE]; rfl
  obtain ⟨U, hU⟩ : ∃ X : ByteArray, (⟨(trimPrefix l [45]).toArray⟩ : ByteArray) = X := ⟨_, rfl⟩
  have hsum : al + fl ≤ 9223372036854775807 := by rw [List.length_append] at hl; omega
  have b60 : decide ((60 : Int) < sl) = false := decide_eq_false (by omega)
  have b20 : decide ((20 : Int) < fl) = false := decide_eq_false (by omega)
  have hten : 10 ^ fl < BIG := ten_pow_big (by omega)
  have CTn := Lib.hid (fun W => ten_any fl (by omega) W)
  have CNw := Lib.hid (fun W x y (h1 : IntAt W x (sg false n)) (h2 : IntAt W y ((10 ^ fl : Nat) : Int)) (hW : Ext w W) => rnew_any h1.is h2.is (by have := Nat.pow_pos (n := fl) (show 0 < 10 by decide); omega) (by rw [sg_natAbs]; exact hnum) (by rw [Int.natAbs_natCast]; exact hten) (hB.ext hW))
  rw [hS] at C1 ⊢
  rw [hU, hs] at C1
  rw [hU, hA, hF, hp] at C2
  rw [hA] at C3
  rw [hJ, hL1] at C5
  rw [hfl]
  have HR := Lib.hid (fun (w' : World) r N D (h1 : RatAt w' r N D) (h2 : N * ((10 ^ fl : Nat) : Int) = sg false n * (D : Nat)) (h3 : N.natAbs ≤ (sg false n).natAbs) (h4 : D ≤ ((10 ^ fl : Nat) : Int).natAbs) => (⟨N, D, h1, h2, h3, h4⟩ : RatOf w' r (sg false n) ((10 ^ fl : Nat) : Int)))
  obtain ⟨tn, htn⟩ : ∃ z, ((10 ^ fl : Nat) : Int) = z := ⟨_, rfl⟩
  rw [htn] at CTn CNw HR ⊢
  obtain ⟨zn, hzn⟩ : ∃ z, sg false n = z := ⟨_, rfl⟩
  rw [hzn] at CNw HR ⊢
  have HZ := Lib.hid hzn
  clear h60 hp hF1 hFd hW hs hE hl hB hL hdig htp hnum hn hD hS hsl hA hal hF hfl hJ hjl hL1 hll hU hten htn hzn sJ sL
  go_enter Tryz.func31, Tryz.ntmps31
  go_wp2_with fail
  refine C1.out.mono ?_
  rintro e w1 ⟨rfl, rfl⟩
  go_wp2_with fail
  refine C2.out.mono ?_
  rintro e w2 ⟨rfl, hx2⟩
  go_wp2_with fail
  refine (C3.out _ hx2).mono ?_
  rintro e w4 ⟨r4, e4, rfl, ⟨h4, rfl⟩, hx4⟩
  replace hx2 := hx2.trans hx4
  clear h4 hx4 C1 C2 C3
  go_wp2_with fail
  refine (C4.out _ hx2).mono ?_
  rintro e w5 ⟨r5, e5, rfl, ⟨h5, rfl⟩, hx5⟩
  replace hx2 := hx2.trans hx5
  go_wp2_with fail
  refine (C5.out _).mono ?_
  rintro e w6 ⟨rfl, rfl⟩
  go_wp2_with fail
  rw [← hn00] at h5
  have h7 := h5
  have hx7 := Ext.refl w5
  have CN := Lib.hid (new_any (b := false) h7.is)
  rw [HZ.out] at CN
  refine CN.out.mono ?_
  rintro e w9 ⟨r9, rfl, h9, hx9⟩
  go_wp2_with fail
  refine (CTn.out _).mono ?_
  rintro e wa ⟨ra, rfl, ha, hxa⟩
  go_wp2_with fail
  refine (CNw.out _ _ _ (h9.ext hxa) ha (hx2.trans (hx9.trans hxa))).mono ?_
  rintro e wb ⟨rb, N, D, rfl, g3, g4, g5, g6, hxb⟩
  have HQ := Lib.hid (HR.out _ _ _ _ g3 g4 g5 g6)
  clear g3 g4 g5 g6 HR CNw CTn CN
  go_wp2
  go_ret3
  exact ⟨_, _, _, rfl, ⟨HQ.out, rfl, rfl⟩, hx2.trans (hx9.trans (hxa.trans hxb))⟩

set_option maxHeartbeats 2000000 in
theorem dget_ws {w : World} {l : List UInt8} (h60 : l.length ≤ 60) (hp : dP l = false) (hF1 : (dF l).length ≤ 20) (hFd : ∀ c ∈ dF l, Decimal.isDig c) (hW : isNum (dW l)) (hs : hasPrefix l [45] = true) (hE : trimLeftB (dW l ++ dF l) 48 ≠ []) (hn0 : Decimal.num (dW l ++ dF l) ≠ 0) (hl : (dW l ++ dF l).length ≤ 4000)
    (hB : Bits w) (hL : Lens w) : Calls Tryz.prog 31 #[.string ⟨l.toArray⟩] w (DGetPost l w) := by
  have hdig : ∀ c ∈ dW l ++ dF l, Decimal.isDig c := by
    intro c hc
    rcases List.mem_append.1 hc with hc | hc
    · exact hW.2.2.2 c hc
    · exact hFd c hc
  have htp : (trimPrefix l [45]).length < 4294967281 := by
    have : (trimPrefix l [45]).length ≤ l.length := by unfold trimPrefix; split <;> simp
    omega
  have C1 := Lib.hid (cutsign l w)
  have C2 := Lib.hid (cut_any (trimPrefix l [45]) [46] htp w hL)
  have C3 := Lib.hid (fun W (hW' : Ext w W) => get_yes (w := W) hW (hB.ext hW'))
  have C4 : Hid (∀ W, Ext w W → Calls Tryz.prog 84 #[.string ⟨#[48]⟩] W (Ans2 (fun r e w' => NatAt w' r 0 ∧ e = .nilIface) W)) := Lib.hid (fun W hW' => get_yes (w := W) isNum_zero (hB.ext hW'))
  have C5 := Lib.hid (fun W => trimleft0 (dW l ++ dF l) W)
  have hnum : Decimal.num (dW l ++ dF l) < BIG := Nat.lt_trans (Decimal.num_lt hdig) (ten_pow_big (by omega))
  obtain ⟨n, hn⟩ : ∃ n, Decimal.num (dW l ++ dF l) = n := ⟨_, rfl⟩
  have C6 := Lib.hid (fun W (hW' : Ext w W) => get_yes (w := W) (trim0_isNum hE hdig hl) (hB.ext hW'))
  rw [num_trim0, hn] at C6
  have ez : decide (n = 0) = false := decide_eq_false (by rw [← hn]; exact hn0)
  have hD : DGetPost l w = Ans3 (fun r p e w' => RatOf w' r (sg true n) ((10 ^ (dF l).length : Nat) : Int) ∧ p = .int .i64 (dF l).length ∧ e = .nilIface) w := by unfold DGetPost; rw [hs, hn]
  rw [hD]
  rw [hn] at hnum
  unfold dW dF dP at *
  obtain ⟨S, hS⟩ : ∃ X : ByteArray, (⟨(l).toArray⟩ : ByteArray) = X := ⟨_, rfl⟩
  obtain ⟨sl, hsl⟩ : ∃ k, (l).length = k := ⟨_, rfl⟩
  have sS : S.size = sl := by rw [← hS, ← hsl]; rfl
  obtain ⟨A, hA⟩ : ∃ X : ByteArray, (⟨((cut (trimPrefix l [45]) [46]).1).toArray⟩ : ByteArray) = X := ⟨_, rfl⟩
  obtain ⟨al, hal⟩ : ∃ k, ((cut (trimPrefix l [45]) [46]).1).length = k := ⟨_, rfl⟩
  have sA : A.size = al := by rw [← hA, ← hal]; rfl
  obtain ⟨F, hF⟩ : ∃ X : ByteArray, (⟨((cut (trimPrefix l [45]) [46]).2.1).toArray⟩ : ByteArray) = X := ⟨_, rfl⟩
  obtain ⟨fl, hfl⟩ : ∃ k, ((cut (trimPrefix l [45]) [46]).2.1).length = k := ⟨_, rfl⟩
  have sF : F.size = fl := by rw [← hF, ← hfl]; rfl
  obtain ⟨J, hJ⟩ : ∃ X : ByteArray, (⟨((cut (trimPrefix l [45]) [46]).1 ++ (cut (trimPrefix l [45]) [46]).2.1).toArray⟩ : ByteArray) = X := ⟨_, rfl⟩
  obtain ⟨jl, hjl⟩ : ∃ k, ((cut (trimPrefix l [45]) [46]).1 ++ (cut (trimPrefix l [45]) [46]).2.1).length = k := ⟨_, rfl⟩
  have sJ : J.size = jl := by rw [← hJ, ← hjl]; rfl
  have eJ : A ++ F = J := by rw [← hA, ← hF, ← hJ, tx_append]
  obtain ⟨L, hL1⟩ : ∃ X : ByteArray, (⟨(trimLeftB ((cut (trimPrefix l [45]) [46]).1 ++ (cut (trimPrefix l [45]) [46]).2.1) 48).toArray⟩ : ByteArray) = X := ⟨_, rfl⟩
  obtain ⟨ll, hll⟩ : ∃ k, (trimLeftB ((cut (trimPrefix l [45]) [46]).1 ++ (cut (trimPrefix l [45]) [46]).2.1) 48).length = k := ⟨_, rfl⟩
  have sL : L.size = ll := by rw [← hL1, ← hll]; rfl
  have iL : L.toList.isEmpty = false := by
    rw [ByteArray.toList_eq, ← hL1]
    cases hh : (trimLeftB ((cut (trimPrefix l [45]) [46]).1 ++ (cut (trimPrefix l [45]) [46]).2.1) 48) with
    | nil => exact absurd hh hE
    | cons c t => rfl
  obtain ⟨U, hU⟩ : ∃ X : ByteArray, (⟨(trimPrefix l [45]).toArray⟩ : ByteArray) = X := ⟨_, rfl⟩
  have hsum : al + fl ≤ 9223372036854775807 := by rw [List.length_append] at hl; omega
  have b60 : decide ((60 : Int) < sl) = false := decide_eq_false (by omega)
  have b20 : decide ((20 : Int) < fl) = false := decide_eq_false (by omega)
  have hten : 10 ^ fl < BIG := ten_pow_big (by omega)
  have CTn := Lib.hid (fun W => ten_any fl (by omega) W)
  have CNw := Lib.hid (fun W x y (h1 : IntAt W x (sg true n)) (h2 : IntAt W y ((10 ^ fl : Nat) : Int)) (hW : Ext w W) => rnew_any h1.is h2.is (by have := Nat.pow_pos (n := fl) (show 0 < 10 by decide); omega) (by rw [sg_natAbs]; exact hnum) (by rw [Int.natAbs_natCast]; exact hten) (hB.ext hW))
  rw [hS] at C1 ⊢
  rw [hU, hs] at C1
  rw [hU, hA, hF, hp] at C2
  rw [hA] at C3
  rw [hJ, hL1] at C5
  rw [hL1] at C6
  rw [hfl]
  have HR := Lib.hid (fun (w' : World) r N D (h1 : RatAt w' r N D) (h2 : N * ((10 ^ fl : Nat) : Int) = sg true n * (D : Nat)) (h3 : N.natAbs ≤ (sg true n).natAbs) (h4 : D ≤ ((10 ^ fl : Nat) : Int).natAbs) => (⟨N, D, h1, h2, h3, h4⟩ : RatOf w' r (sg true n) ((10 ^ fl : Nat) : Int)))
  obtain ⟨tn, htn⟩ : ∃ z, ((10 ^ fl : Nat) : Int) = z := ⟨_, rfl⟩
  rw [htn] at CTn CNw HR ⊢
  obtain ⟨zn, hzn⟩ : ∃ z, sg true n = z := ⟨_, rfl⟩
  rw [hzn] at CNw HR ⊢
  have HZ := Lib.hid hzn
  clear h60 hp hF1 hFd hW hs hE hl hB hL hdig htp hnum hn hD hS hsl hA hal hF hfl hJ hjl hL1 hll hU hten htn hzn sJ sL hn0
  go_enter Tryz.func31, Tryz.ntmps31
  go_wp2_with fail
  refine C1.out.mono ?_
  rintro e w1 ⟨rfl, rfl⟩
  go_wp2_with fail
  refine C2.out.mono ?_
  rintro e w2 ⟨rfl, hx2⟩
  go_wp2_with fail
  refine (C3.out _ hx2).mono ?_
  rintro e w4 ⟨r4, e4, rfl, ⟨h4, rfl⟩, hx4⟩
  replace hx2 := hx2.trans hx4
  clear h4 hx4 C1 C2 C3
  go_wp2_with fail
  refine (C4.out _ hx2).mono ?_
  rintro e w5 ⟨r5, e5, rfl, ⟨h5, rfl⟩, hx5⟩
  replace hx2 := hx2.trans hx5
  go_wp2_with fail
  refine (C5.out _).mono ?_
  rintro e w6 ⟨rfl, rfl⟩
  go_wp2_with fail
  refine (C6.out _ hx2).mono ?_
  rintro e w7 ⟨r7, e7, rfl, ⟨h7, rfl⟩, hx7⟩
  replace hx2 := hx2.trans hx7
  go_wp2_with fail
  have CZ := Lib.hid (zero_any h7.is)
  refine CZ.out.mono ?_
  rintro e w8 ⟨rfl, rfl⟩
  rw [ez]
  clear ez CZ
  go_wp2_with fail
  have CN := Lib.hid (new_any (b := true) h7.is)
  rw [HZ.out] at CN
  refine CN.out.mono ?_
  rintro e w9 ⟨r9, rfl, h9, hx9⟩
  go_wp2_with fail
  refine (CTn.out _).mono ?_
  rintro e wa ⟨ra, rfl, ha, hxa⟩
  go_wp2_with fail
  refine (CNw.out _ _ _ (h9.ext hxa) ha (hx2.trans (hx9.trans hxa))).mono ?_
  rintro e wb ⟨rb, N, D, rfl, g3, g4, g5, g6, hxb⟩
  have HQ := Lib.hid (HR.out _ _ _ _ g3 g4 g5 g6)
  clear g3 g4 g5 g6 HR CNw CTn CN
  go_wp2
  go_ret3
  exact ⟨_, _, _, rfl, ⟨HQ.out, rfl, rfl⟩, hx2.trans (hx9.trans (hxa.trans hxb))⟩

end Go.Proofs.YtdlcleecjeipnaaGreatDoor

/- dec.Get of a text that is none. -/
namespace Go.Proofs.YtdlcleecjeipnaaGreatDoor
open Go.RowKit Go.Proofs.YtdlcleecjeipnaaGreatDoorW.PrintWords Limbs Go.Sort Go.Lib
set_option linter.unusedVariables false

end Go.Proofs.YtdlcleecjeipnaaGreatDoor

/- strings.Cut at one sign: the plain law. -/
namespace Go.Proofs.YtdlcleecjeipnaaGreatDoor
open Go.Lib
set_option linter.unusedVariables false
theorem idx_one (l : List UInt8) (c : UInt8) : index l [c] = if c ∈ l then ((l.takeWhile (· != c)).length : Int) else -1 := by
  induction l with
  | nil => rfl
  | cons x l ih =>
    unfold index
    by_cases hx : x = c
    · subst hx
      simp [List.isPrefixOf]
    · have h1 : ([c] : List UInt8).isPrefixOf (x :: l) = false := by simp [List.isPrefixOf]; exact fun h => hx h.symm
      rw [h1, ih]
      by_cases hc : c ∈ l
      · rw [if_pos hc, if_pos (List.mem_cons_of_mem _ hc)]
        have h2 : ((((l.takeWhile (· != c)).length : Nat) : Int) == -1) = false := beq_eq_false_iff_ne.2 (by omega)
        simp [h2, hx]
      · have h3 : ¬ c ∈ x :: l := by simp; exact ⟨fun h => hx h.symm, hc⟩
        rw [if_neg hc, if_neg h3]
        simp
theorem takeWhile_len_lt {l : List UInt8} {c : UInt8} (h : c ∈ l) : (l.takeWhile (· != c)).length < l.length := by
  induction l with
  | nil => cases h
  | cons x l ih =>
    by_cases hx : x = c
    · subst hx; simp
    · simp [hx]
      rcases List.mem_cons.1 h with h | h
      · exact absurd h.symm hx
      · exact ih h
theorem takeWhile_all {l : List UInt8} {c : UInt8} (h : ¬ c ∈ l) : l.takeWhile (· != c) = l := by
  induction l with
  | nil => rfl
  | cons x l ih =>
    have hx : x ≠ c := fun e => h (by simp [e])
    rw [List.takeWhile_cons, if_pos (by simp [hx]), ih (fun e => h (by simp [e]))]
/-- Where the first c stands (the length, if there is none). -/
def fst (l : List UInt8) (c : UInt8) : Nat := (l.takeWhile (· != c)).length
theorem fst_lt_iff (l : List UInt8) (c : UInt8) : fst l c < l.length ↔ c ∈ l := by
  constructor
  · intro h
    by_cases hc : c ∈ l
    · exact hc
    · unfold fst at h; rw [takeWhile_all hc] at h; omega
  · exact takeWhile_len_lt
theorem cut_fst (l : List UInt8) (c : UInt8) : cut l [c] = (l.take (fst l c), l.drop (fst l c + 1), decide (fst l c < l.length)) := by
  unfold cut
  rw [idx_one]
  by_cases hc : c ∈ l
  · rw [if_pos hc, if_pos (by omega)]
    have := (fst_lt_iff l c).2 hc
    rw [show decide (fst l c < l.length) = true from decide_eq_true this]
    simp [fst]
  · have h2 : fst l c = l.length := by unfold fst; rw [takeWhile_all hc]
    rw [if_neg hc, h2]
    simp
theorem cut_len (l : List UInt8) (c : UInt8) : (cut l [c]).1.length + (cut l [c]).2.1.length ≤ l.length := by
  rw [cut_fst]; simp; omega
end Go.Proofs.YtdlcleecjeipnaaGreatDoor

/- dec.Get: of any text. -/
namespace Go.Proofs.YtdlcleecjeipnaaGreatDoor
open Go.RowKit Go.Proofs.YtdlcleecjeipnaaGreatDoorW.PrintWords Limbs Go.Sort Go.Lib
set_option linter.unusedVariables false

theorem dlen (l : List UInt8) : (dW l ++ dF l).length ≤ l.length := by
  have h1 := cut_len (trimPrefix l [45]) 46
  have h2 : (trimPrefix l [45]).length ≤ l.length := by unfold trimPrefix; split <;> simp
  rw [List.length_append]
  unfold dW dF
  omega
theorem dget_yes {w : World} {l : List UInt8} (h : isD l) (hB : Bits w) (hL : Lens w) : Calls Tryz.prog 31 #[.string ⟨l.toArray⟩] w (DGetPost l w) := by
  obtain ⟨h60, hp, hW, hz⟩ := h
  have hl := dlen l
  cases hP : dP l with
  | true =>
    obtain ⟨f0, f1, fd⟩ := hp hP
    by_cases hE : trimLeftB (dW l ++ dF l) 48 = []
    · cases hs : hasPrefix l [45] with
      | true => exact absurd ⟨hs, trim0_nil hE⟩ hz
      | false => exact dget_pe h60 hP f0 f1 fd hW hs hE (by omega) hB hL
    · cases hs : hasPrefix l [45] with
      | true => exact dget_ps h60 hP f0 f1 fd hW hs hE (fun e => hz ⟨hs, e⟩) (by omega) hB hL
      | false => exact dget_p h60 hP f0 f1 fd hW hs hE (by omega) hB hL
  | false =>
    have f0 : dF l = [] := cut_false hP
    have f1 : (dF l).length ≤ 20 := by rw [f0]; decide
    have fd : ∀ c ∈ dF l, Decimal.isDig c := by rw [f0]; intro c hc; cases hc
    by_cases hE : trimLeftB (dW l ++ dF l) 48 = []
    · cases hs : hasPrefix l [45] with
      | true => exact absurd ⟨hs, trim0_nil hE⟩ hz
      | false => exact dget_we h60 hP f1 fd hW hs hE (by omega) hB hL
    · cases hs : hasPrefix l [45] with
      | true => exact dget_ws h60 hP f1 fd hW hs hE (fun e => hz ⟨hs, e⟩) (by omega) hB hL
      | false => exact dget_w h60 hP f1 fd hW hs hE (by omega) hB hL

end Go.Proofs.YtdlcleecjeipnaaGreatDoor

/- The texts of integers and of fractions are read back as what they are. -/
namespace Go.Proofs.YtdlcleecjeipnaaGreatDoor
open Go.RowKit Go.Proofs.YtdlcleecjeipnaaGreatDoorW.PrintWords Limbs Go.Sort Go.Lib
set_option linter.unusedVariables false

end Go.Proofs.YtdlcleecjeipnaaGreatDoor

/- The statement of layers 2 to 5 with which all begin: its calls, at their fixed numbers. -/
namespace Go.Proofs.YtdlcleecjeipnaaGreatDoor
open Go.RowKit Go.Proofs.YtdlcleecjeipnaaGreatDoorW.PrintWords Limbs Go.Sort Go.Lib
set_option linter.unusedVariables false

/-- A world whose library tables are as they were laid. -/
structure Good (w : World) : Prop where
  bits : Bits w
  lens : Lens w
  tens : Tens w
  errT : ErrT w
theorem Good.ext {w w' : World} (h : Good w) (he : Ext w w') : Good w' := ⟨h.bits.ext he, h.lens.ext he, h.tens.ext he, h.errT.ext he⟩

theorem IntAt.ptr {w : World} {v : Value} {z : Int} (h : IntAt w v z) : ∃ g, v = .pointer (some ⟨g, 0, none⟩) := by
  obtain ⟨g, b, u, n, h1, _⟩ := h
  exact ⟨g, h1⟩
theorem RatAt.ptr {w : World} {v : Value} {n : Int} {d : Nat} (h : RatAt w v n d) : ∃ g, v = .pointer (some ⟨g, 0, none⟩) := by
  obtain ⟨g, a, b, h1, _⟩ := h
  exact ⟨g, h1⟩
def lit30 : List UInt8 := [49, 50, 51, 52, 53, 54, 55, 56, 57, 48, 49, 50, 51, 52, 53, 54, 55, 56, 57, 48, 49, 50, 51, 52, 53, 54, 55, 56, 57, 48]
theorem isDig_all {l : List UInt8} (h : l.all (fun c => decide (48 ≤ c.toNat) && decide (c.toNat ≤ 57)) = true) : ∀ c ∈ l, Decimal.isDig c := by
  intro c hc
  have := List.all_eq_true.1 h c hc
  simpa [Decimal.isDig] using this
theorem dec_of {l : List UInt8} {n : Nat} (hd : l.all (fun c => decide (48 ≤ c.toNat) && decide (c.toNat ≤ 57)) = true) (hl : l ≠ []) (h0 : l.head? ≠ some 48 ∨ l.length = 1) (hn : Decimal.num l = n) : decDigits n = l := by
  rw [← hn]; exact Decimal.dec_num l (isDig_all hd) hl h0
theorem isNum30 : isNum lit30 := ⟨by decide, by decide, by decide, isDig_all (by decide)⟩
theorem dec30 : decDigits (Decimal.num lit30) = lit30 := dec_of (by decide) (by decide) (.inl (by decide)) rfl
theorem dec150 : decDigits 150 = [49, 53, 48] := dec_of (by decide) (by decide) (.inl (by decide)) rfl
theorem dec7 : decDigits 7 = [55] := Decimal.dec_small (by decide)
theorem dec3 : decDigits 3 = [51] := Decimal.dec_small (by decide)
theorem dec2 : decDigits 2 = [50] := Decimal.dec_small (by decide)
theorem decT : decDigits 10000000000 = [49, 48, 48, 48, 48, 48, 48, 48, 48, 48, 48] := dec_of (by decide) (by decide) (.inl (by decide)) rfl
theorem ptx150 : ptx (sg (decide ((-3 : Int) * ((10 ^ 2 : Nat) : Int) < 0)) (rq ((-3 : Int) * ((10 ^ 2 : Nat) : Int)).natAbs 2 1)) 2 = [45, 49, 46, 53, 48] := by
  have e : sg (decide ((-3 : Int) * ((10 ^ 2 : Nat) : Int) < 0)) (rq ((-3 : Int) * ((10 ^ 2 : Nat) : Int)).natAbs 2 1) = -150 := by decide
  rw [e]
  unfold ptx body
  rw [if_pos (by decide), show ((-150 : Int).natAbs) = 150 from rfl, dec150]
  rfl
def litD : List UInt8 := [45, 49, 46, 53, 48]
theorem litD_parts : hasPrefix litD [45] = true ∧ dW litD = [49] ∧ dF litD = [53, 48] ∧ dP litD = true := by decide
theorem isDlit : isD litD := by
  obtain ⟨h1, h2, h3, h4⟩ := litD_parts
  unfold isD
  rw [h1, h2, h3, h4]
  refine ⟨by decide, fun _ => ⟨by decide, by decide, isDig_all (by decide)⟩, ⟨by decide, by decide, by decide, isDig_all (by decide)⟩, ?_⟩
  rintro ⟨_, h⟩
  revert h
  decide

theorem b_of {w : World} (hG : Good w) : Calls Tryz.prog 24 #[.int .i64 (-6), .int .i64 4] w (Ans2 (fun r e w' => RatAt w' r (-3) 2 ∧ e = .nilIface) w) := by
  refine (rof_any (by decide) (by decide) (by decide) (by decide) (by decide) hG.bits).mono ?_
  rintro e w' ⟨r, N, D, rfl, h, h2, -, -, hx⟩
  obtain ⟨rfl, rfl⟩ := low_unique (N' := -3) (D' := 2) h.is.pos (by decide) h.is.cop (by decide) (by omega)
  exact ⟨r, _, rfl, ⟨h, rfl⟩, hx⟩
theorem small_big {n : Nat} (h : n < 1000000000000000) : n < BIG := lt_BIG_of 64 (by decide) (by omega)
theorem b_round {w : World} {v : Value} (hG : Good w) (h : RatAt w v (-3) 2) : Calls Tryz.prog 27 #[v, .int .i64 2, .int .i64 1] w fun e w' => e = .returned (.tuple #[.string ⟨#[45, 49, 46, 53, 48]⟩, .nilIface]) ∧ Ext w w' := by
  refine (round_any (p := 2) (mode := 1) h.is (small_big (by decide)) (small_big (by decide)) (by decide) (.inl rfl) (small_big (by decide)) hG.tens).mono ?_
  rintro e w' ⟨rfl, hx⟩
  refine ⟨?_, hx⟩
  rw [ptx150]; rfl
theorem b_units {w : World} {v : Value} (h : RatAt w v (-3) 2) : Calls Tryz.prog 88 #[v, .int .i64 2] w fun e w' => e = .returned (.tuple #[.int .i64 (-2), .nilIface]) ∧ Ext w w' := by
  refine (units_any (mode := 2) h.is (by decide) (small_big (by decide)) (.inr (.inl rfl))).mono ?_
  rintro e w' ⟨rfl, hx⟩
  exact ⟨rfl, hx⟩
theorem b_get {w : World} (hG : Good w) : Calls Tryz.prog 31 #[.string ⟨#[45, 49, 46, 53, 48]⟩] w (Ans3 (fun r p e w' => RatAt w' r (-3) 2 ∧ p = .int .i64 2 ∧ e = .nilIface) w) := by
  refine (dget_yes (l := litD) isDlit hG.bits hG.lens).mono ?_
  rintro e w' ⟨r, p, x, rfl, ⟨⟨N, D, h, h2, -, -⟩, rfl, rfl⟩, hx⟩
  obtain ⟨l1, l2, l3, l4⟩ := litD_parts
  rw [l1, l2, l3] at h2
  have e1 : sg true (Decimal.num ([49] ++ [53, 48])) = -150 := by decide
  rw [e1] at h2
  have h2' : N * 100 = -150 * D := h2
  obtain ⟨rfl, rfl⟩ := low_unique (N' := -3) (D' := 2) h.is.pos (by decide) h.is.cop (by decide) (by omega)
  refine ⟨r, _, _, rfl, ⟨h, ?_, rfl⟩, hx⟩
  rw [l3]; rfl
theorem b_text {w : World} {v : Value} (hG : Good w) (h : RatAt w v (-3) 2) : Calls Tryz.prog 35 #[v] w fun e w' => e = .returned (.string ⟨#[45, 51, 47, 50]⟩) ∧ Ext w w' := by
  refine (rtext_any h.is (small_big (by decide)) (small_big (by decide)) hG.tens).mono ?_
  rintro e w' ⟨rfl, hx⟩
  refine ⟨?_, hx⟩
  have e1 : rtx (-3) 2 = [45, 51, 47, 50] := by
    unfold rtx ztx
    rw [if_neg (by decide), if_pos (by decide), show ((-3 : Int).natAbs) = 3 from rfl, dec3, dec2]; rfl
  rw [e1]; rfl
theorem b_ntext {w : World} {v : Value} (hG : Good w) (h : IntAt w v (-7)) : Calls Tryz.prog 48 #[v] w fun e w' => e = .returned (.string ⟨#[45, 55]⟩) ∧ Ext w w' := by
  refine (ntext_any h.is (small_big (by decide)) hG.tens).mono ?_
  rintro e w' ⟨rfl, hx⟩
  refine ⟨?_, hx⟩
  have e1 : ztx (-7) = [45, 55] := by
    unfold ztx
    rw [if_pos (by decide), show ((-7 : Int).natAbs) = 7 from rfl, dec7]
  rw [e1]; rfl
theorem b_cmp {w : World} {u v : Value} (hu : RatAt w u (-3) 2) (hv : RatAt w v (-3) 2) : Calls Tryz.prog 46 #[u, v] w fun e w' => e = .returned (.int .i64 0) ∧ Ext w w' := by
  refine (rcmp_any hu.is hv.is (small_big (by decide)) (small_big (by decide)) (small_big (by decide)) (small_big (by decide)) (small_big (by decide)) (small_big (by decide))).mono ?_
  rintro e w' ⟨rfl, hx⟩
  exact ⟨rfl, hx⟩
theorem b_sign {w : World} {v : Value} (h : RatAt w v 0 1) : Calls Tryz.prog 71 #[v] w fun e w' => e = .returned (.int .i64 0) ∧ Ext w w' := by
  refine (rsign_any h.is).mono ?_
  rintro e w' ⟨rfl, hx⟩
  exact ⟨rfl, hx⟩
end Go.Proofs.YtdlcleecjeipnaaGreatDoor

/- The statement of layers 2 to 5 with which all begin. -/
namespace Go.Proofs.YtdlcleecjeipnaaGreatDoor
open Go.RowKit Go.Proofs.YtdlcleecjeipnaaGreatDoorW.PrintWords Limbs Go.Sort Go.Lib
set_option linter.unusedVariables false

theorem root20 {r0 : Nat} (h1 : r0 ^ 2 ≤ 10 ^ 20) (h2 : 10 ^ 20 < (r0 + 1) ^ 2) : r0 = 10000000000 := by
  rcases Nat.lt_trichotomy r0 10000000000 with h | h | h
  · have : (r0 + 1) ^ 2 ≤ 10000000000 ^ 2 := Nat.pow_le_pow_left (by omega) 2
    omega
  · exact h
  · have : 10000000001 ^ 2 ≤ r0 ^ 2 := Nat.pow_le_pow_left (by omega) 2
    omega
theorem b_root {w : World} {v : Value} {P : Nat} (hP : P = 10 ^ 20) (h : NatAt w v P) : Calls Tryz.prog 95 #[v, .int .i64 2] w (Ans (fun r w' => NatAt w' r 10000000000) w) := by
  subst hP
  have hw : wid (10 ^ 20) = 67 := wid_of (by decide) (by decide)
  refine (root_any (k := 2) h.is (by decide) (by rw [hw]; decide) (by rw [hw]; decide)).mono ?_
  rintro e w' ⟨r, rfl, ⟨r0, h1, h2, h3⟩, hx⟩
  have := root20 h2 h3
  subst this
  exact ⟨r, rfl, h1, hx⟩

set_option maxHeartbeats 8000000 in
theorem begun2 {w : World} (hG : Good w) : Calls Tryz.prog 23 #[] w fun e w' => e = .returned (.bool true) ∧ Ext w w' := by
  obtain ⟨A, hA⟩ : ∃ A, Decimal.num lit30 = A := ⟨_, rfl⟩
  have hAB : A < BIG := by rw [← hA]; exact isNum30.big
  have hAt : decDigits A = lit30 := by rw [← hA]; exact dec30
  have C1 : Hid (Calls Tryz.prog 84 #[.string ⟨lit30.toArray⟩] w (Ans2 (fun r e w' => NatAt w' r A ∧ e = .nilIface) w)) := Lib.hid (by rw [← hA]; exact get_yes isNum30 hG.bits)
  obtain ⟨Q, hQ⟩ : ∃ Q, A / 7 = Q := ⟨_, rfl⟩
  obtain ⟨R, hR⟩ : ∃ R, A % 7 = R := ⟨_, rfl⟩
  have hQR : Q * 7 + R = A := by omega
  have hQB : Q < BIG := Nat.lt_of_le_of_lt (by omega : Q ≤ A) hAB
  have hRB : R < BIG := Nat.lt_of_le_of_lt (by omega : R ≤ A) hAB
  have hQ7 : Q * 7 < BIG := Nat.lt_of_le_of_lt (by omega : Q * 7 ≤ A) hAB
  have C2 := Lib.hid (fun W => of_any 7 (by unfold B64; decide) W)
  have C3 : Hid (∀ W x y, NatAt W x A → NatAt W y 7 → Calls Tryz.prog 86 #[x, y] W (Ans3 (fun q r e w' => NatAt w' q Q ∧ NatAt w' r R ∧ e = .nilIface) W)) := Lib.hid (fun W x y h1 h2 => by
    have := div_any h1.is h2.is (by decide) hAB
    unfold DivPost at this
    rwa [hQ, hR] at this)
  have C4 := Lib.hid (fun W => numof_any (-7) (by decide) (by decide) W)
  have C5 := Lib.hid (fun W (hW : Ext w W) => b_of (w := W) (hG.ext hW))
  have C6 := Lib.hid (fun W x (hW : Ext w W) (h : RatAt W x (-3) 2) => b_round (w := W) (hG.ext hW) h)
  have C7 := Lib.hid (fun W (hW : Ext w W) => b_get (w := W) (hG.ext hW))
  have C8 := Lib.hid (fun W x (h : RatAt W x (-3) 2) => b_units (w := W) h)
  have C9 := Lib.hid (fun W (hW : Ext w W) => Begun1 W (hG.ext hW).errT)
  have C10 := Lib.hid (fun W x y (h1 : NatAt W x Q) (h2 : NatAt W y 7) => mul_any h1.is h2.is hQB (small_big (by decide)))
  have C11 : Hid (∀ W x y, NatAt W x (Q * 7) → NatAt W y R → Calls Tryz.prog 91 #[x, y] W (Ans (fun r w' => NatAt w' r A) W)) := Lib.hid (fun W x y h1 h2 => by
    have := add_any h1.is h2.is hQ7 hRB
    rwa [hQR] at this)
  have C12 : Hid (∀ W x y, NatAt W x A → NatAt W y A → Calls Tryz.prog 92 #[x, y] W fun e w' => e = .returned (.int .i64 0) ∧ Ext W w') := Lib.hid (fun W x y h1 h2 => by
    have := cmp_any h1.is h2.is
    rwa [cmpI_eq] at this)
  have C13 : Hid (∀ W x, Ext w W → NatAt W x A → Calls Tryz.prog 93 #[x] W fun e w' => e = .returned (.string ⟨#[49, 50, 51, 52, 53, 54, 55, 56, 57, 48, 49, 50, 51, 52, 53, 54, 55, 56, 57, 48, 49, 50, 51, 52, 53, 54, 55, 56, 57, 48]⟩) ∧ Ext W w') := Lib.hid (fun W x hW h => by
    have := text_any h.is hAB (hG.ext hW).tens
    rw [hAt] at this
    exact this)
  have C14 := Lib.hid (fun W x (hW : Ext w W) (h : IntAt W x (-7)) => b_ntext (w := W) (hG.ext hW) h)
  have C15 := Lib.hid (fun W x (h : RatAt W x 0 1) => b_sign (w := W) h)
  have C16 := Lib.hid (fun W x (hW : Ext w W) (h : RatAt W x (-3) 2) => b_text (w := W) (hG.ext hW) h)
  have C17 := Lib.hid (fun W x y (h : RatAt W x (-3) 2) (h2 : RatAt W y (-3) 2) => b_cmp (w := W) h h2)
  have C18 := Lib.hid (fun W => of_any 10 (by unfold B64; decide) W)
  obtain ⟨P, hP⟩ : ∃ P, P = 10 ^ 20 := ⟨_, rfl⟩
  have C19 : Hid (∀ W x, NatAt W x 10 → Calls Tryz.prog 94 #[x, .int .i64 20] W (Ans (fun r w' => NatAt w' r P) W)) := Lib.hid (fun W x h => by
    have := pow_any (k := 20) h.is (small_big (by decide)) (ten_pow_big (by decide)) (by decide)
    rw [← hP] at this
    exact this)
  have C20 := Lib.hid (fun W x (h : NatAt W x P) => b_root (w := W) hP h)
  have C21 : Hid (∀ W x, Ext w W → NatAt W x 10000000000 → Calls Tryz.prog 93 #[x] W fun e w' => e = .returned (.string ⟨#[49, 48, 48, 48, 48, 48, 48, 48, 48, 48, 48]⟩) ∧ Ext W w') := Lib.hid (fun W x hW h => by
    have := text_any h.is (small_big (by decide)) (hG.ext hW).tens
    rw [decT] at this
    exact this)
  clear hA hAB hAt hQ hR hQR hQB hRB hQ7 hP hG
  go_enter Tryz.func23, Tryz.ntmps23
  go_wp2_with fail
  refine (C1.out).mono ?_
  rintro e w1 ⟨ra, ea, rfl, ⟨ha, rfl⟩, hxN⟩
  obtain ⟨ga, rfl⟩ := ha.2
  have hx := hxN
  clear hxN
  clear  C1
  go_wp2_with fail
  refine (C2.out _).mono ?_
  rintro e w2 ⟨rb, rfl, hb, hxN⟩
  obtain ⟨gb, rfl⟩ := hb.2
  replace ha := ha.ext hxN
  replace hx := hx.trans hxN
  clear hxN
  clear  C2
  go_wp2_with fail
  refine (C3.out _ _ _ ha hb).mono ?_
  rintro e w3 ⟨rq, rr, er, rfl, ⟨hq, hr, rfl⟩, hxN⟩
  obtain ⟨gq, rfl⟩ := hq.2
  obtain ⟨gr, rfl⟩ := hr.2
  replace ha := ha.ext hxN
  replace hb := hb.ext hxN
  replace hx := hx.trans hxN
  clear hxN
  clear  C3
  go_wp2_with fail
  refine (C4.out _).mono ?_
  rintro e w4 ⟨rx, rfl, hX, hxN⟩
  obtain ⟨gx, rfl⟩ := hX.ptr
  replace ha := ha.ext hxN
  replace hb := hb.ext hxN
  replace hq := hq.ext hxN
  replace hr := hr.ext hxN
  replace hx := hx.trans hxN
  clear hxN
  clear  C4
  have hy : RatAt (w4.alloc (Obj.cells #[Value.pointer none, Value.pointer none] 130)) (.pointer (some ⟨w4.heap.size, 0, none⟩)) 0 1 := ⟨_, _, _, rfl, by simp, by simp, .inl ⟨rfl, rfl⟩, .inl ⟨rfl, rfl⟩, by decide, rfl⟩
  have hxN := Ext.alloc w4 (Obj.cells #[Value.pointer none, Value.pointer none] 130)
  replace ha := ha.ext hxN
  replace hb := hb.ext hxN
  replace hq := hq.ext hxN
  replace hr := hr.ext hxN
  replace hX := hX.ext hxN
  replace hx := hx.trans hxN
  clear hxN
  go_wp2_with fail
  refine (C5.out _ hx).mono ?_
  rintro e w5 ⟨rz, ez, rfl, ⟨hz, rfl⟩, hxN⟩
  obtain ⟨gz, rfl⟩ := hz.ptr
  replace ha := ha.ext hxN
  replace hb := hb.ext hxN
  replace hq := hq.ext hxN
  replace hr := hr.ext hxN
  replace hX := hX.ext hxN
  replace hy := hy.ext hxN
  replace hx := hx.trans hxN
  clear hxN
  clear  C5
  go_wp2_with fail
  refine (C6.out _ _ hx hz).mono ?_
  rintro e w6 ⟨rfl, hxN⟩
  replace ha := ha.ext hxN
  replace hb := hb.ext hxN
  replace hq := hq.ext hxN
  replace hr := hr.ext hxN
  replace hX := hX.ext hxN
  replace hy := hy.ext hxN
  replace hz := hz.ext hxN
  replace hx := hx.trans hxN
  clear hxN
  clear  C6
  go_wp2_with fail
  refine (C7.out _ hx).mono ?_
  rintro e w7 ⟨rp, pl, ei, rfl, ⟨hp, rfl, rfl⟩, hxN⟩
  obtain ⟨gp, rfl⟩ := hp.ptr
  replace ha := ha.ext hxN
  replace hb := hb.ext hxN
  replace hq := hq.ext hxN
  replace hr := hr.ext hxN
  replace hX := hX.ext hxN
  replace hy := hy.ext hxN
  replace hz := hz.ext hxN
  replace hx := hx.trans hxN
  clear hxN
  clear  C7
  go_wp2_with fail
  refine (C8.out _ _ hz).mono ?_
  rintro e w8 ⟨rfl, hxN⟩
  replace ha := ha.ext hxN
  replace hb := hb.ext hxN
  replace hq := hq.ext hxN
  replace hr := hr.ext hxN
  replace hX := hX.ext hxN
  replace hy := hy.ext hxN
  replace hz := hz.ext hxN
  replace hp := hp.ext hxN
  replace hx := hx.trans hxN
  clear hxN
  clear  C8
  go_wp2_with fail
  refine (C9.out _ hx).mono ?_
  rintro e w9 ⟨rfl, hxN⟩
  replace ha := ha.ext hxN
  replace hb := hb.ext hxN
  replace hq := hq.ext hxN
  replace hr := hr.ext hxN
  replace hX := hX.ext hxN
  replace hy := hy.ext hxN
  replace hz := hz.ext hxN
  replace hp := hp.ext hxN
  replace hx := hx.trans hxN
  clear hxN
  clear  C9
  go_wp2_with fail
  refine (C10.out _ _ _ hq hb).mono ?_
  rintro e w10 ⟨rm, rfl, hm, hxN⟩
  replace ha := ha.ext hxN
  replace hb := hb.ext hxN
  replace hq := hq.ext hxN
  replace hr := hr.ext hxN
  replace hX := hX.ext hxN
  replace hy := hy.ext hxN
  replace hz := hz.ext hxN
  replace hp := hp.ext hxN
  replace hx := hx.trans hxN
  clear hxN
  clear hq hb C10
  go_wp2_with fail
  refine (C11.out _ _ _ hm hr).mono ?_
  rintro e w11 ⟨rs, rfl, hs, hxN⟩
  replace ha := ha.ext hxN
  replace hr := hr.ext hxN
  replace hX := hX.ext hxN
  replace hy := hy.ext hxN
  replace hz := hz.ext hxN
  replace hp := hp.ext hxN
  replace hm := hm.ext hxN
  replace hx := hx.trans hxN
  clear hxN
  clear hm hr C11
  go_wp2_with fail
  refine (C12.out _ _ _ hs ha).mono ?_
  rintro e w12 ⟨rfl, hxN⟩
  replace ha := ha.ext hxN
  replace hX := hX.ext hxN
  replace hy := hy.ext hxN
  replace hz := hz.ext hxN
  replace hp := hp.ext hxN
  replace hs := hs.ext hxN
  replace hx := hx.trans hxN
  clear hxN
  clear hs C12
  go_wp2_with fail
  refine (C13.out _ _ hx ha).mono ?_
  rintro e w13 ⟨rfl, hxN⟩
  replace ha := ha.ext hxN
  replace hX := hX.ext hxN
  replace hy := hy.ext hxN
  replace hz := hz.ext hxN
  replace hp := hp.ext hxN
  replace hx := hx.trans hxN
  clear hxN
  clear ha C13
  go_wp2_with fail
  refine (C14.out _ _ hx hX).mono ?_
  rintro e w14 ⟨rfl, hxN⟩
  replace hX := hX.ext hxN
  replace hy := hy.ext hxN
  replace hz := hz.ext hxN
  replace hp := hp.ext hxN
  replace hx := hx.trans hxN
  clear hxN
  clear hX C14
  go_wp2_with fail
  refine (C15.out _ _ hy).mono ?_
  rintro e w15 ⟨rfl, hxN⟩
  replace hy := hy.ext hxN
  replace hz := hz.ext hxN
  replace hp := hp.ext hxN
  replace hx := hx.trans hxN
  clear hxN
  clear hy C15
  go_wp2_with fail
  refine (C16.out _ _ hx hz).mono ?_
  rintro e w16 ⟨rfl, hxN⟩
  replace hz := hz.ext hxN
  replace hp := hp.ext hxN
  replace hx := hx.trans hxN
  clear hxN
  clear  C16
  go_wp2_with fail
  refine (C17.out _ _ _ hp hz).mono ?_
  rintro e w17 ⟨rfl, hxN⟩
  replace hz := hz.ext hxN
  replace hp := hp.ext hxN
  replace hx := hx.trans hxN
  clear hxN
  clear hp hz C17
  go_wp2_with fail
  refine (C18.out _).mono ?_
  rintro e w18 ⟨rt, rfl, ht, hxN⟩
  replace hx := hx.trans hxN
  clear hxN
  clear  C18
  go_wp2_with fail
  refine (C19.out _ _ ht).mono ?_
  rintro e w19 ⟨ru, rfl, hu, hxN⟩
  replace ht := ht.ext hxN
  replace hx := hx.trans hxN
  clear hxN
  clear ht C19
  go_wp2_with fail
  refine (C20.out _ _ hu).mono ?_
  rintro e w20 ⟨rv, rfl, hv, hxN⟩
  replace hu := hu.ext hxN
  replace hx := hx.trans hxN
  clear hxN
  clear hu C20
  go_wp2_with fail
  refine (C21.out _ _ hx hv).mono ?_
  rintro e w21 ⟨rfl, hxN⟩
  replace hv := hv.ext hxN
  replace hx := hx.trans hxN
  clear hxN
  clear hv C21
  go_wp2
  go_ret
  exact ⟨rfl, hx⟩

end Go.Proofs.YtdlcleecjeipnaaGreatDoor

-- PRINTED by print.py out of the translation, by the session's own call, and taken apart by split.py. Not trusted: Lean checks it.
namespace Go.Proofs.YtdlcleecjeipnaaGreatDoor.PAll
open Go.RowKit Go.Proofs.YtdlcleecjeipnaaGreatDoorW.PrintWords Go.Proofs.YtdlcleecjeipnaaGreatDoorW.PrintLast Go.Proofs.YtdlcleecjeipnaaGreatDoorW.PrintMore
attribute [local go_sem] max2_int min2_int max_two min_two max_three min_three max_four min_four   -- for this text's walks alone
set_option linter.unusedVariables false
set_option linter.unusedSimpArgs false



/-! ### rentierref2_N_Text: function 106 -/
mutual
def rentierref2_N_Text.l0 : Nat → List Int → ByteArray → Int → Option (ByteArray)
  | 0, _, _, _ => none
  | k + 1, x0, x3, x4 => if x4 < (x0.length : Int) then (if 0 ≤ x4 then (rentierref2_N_Text.l1 k x0 x3 x4 (rd x0 x4) 0) else (none)) else (rentierref2_N_Text.l2 k x3)
def rentierref2_N_Text.l1 : Nat → List Int → ByteArray → Int → Int → Int → Option (ByteArray)
  | 0, _, _, _, _, _ => none
  | k + 1, x0, x3, x4, x5, x6 => if x6 < 9 then ((some (([(IntKind.u64.wrap (48 + (Int.tmod x5 10))) % 256] : List Int) : List Int)).bind fun y212 => (if (strOfNums y212).size + x3.size ≤ 9223372036854775807 then (rentierref2_N_Text.l1 k x0 ((strOfNums y212) ++ x3) x4 (IntKind.u64.wrap (Int.tdiv x5 10)) (wrap64 (x6 + 1))) else (none))) else (rentierref2_N_Text.l0 k x0 x3 (wrap64 (x4 + 1)))
def rentierref2_N_Text.l2 : Nat → ByteArray → Option (ByteArray)
  | 0, _ => none
  | k + 1, x3 => if (x3.size : Int) > 1 then (if 0 < (x3.size : Int) then (if (bt x3 0) = 48 then (if 1 ≤ (x3.size : Int) then (rentierref2_N_Text.l2 k (x3.extract 1 x3.size)) else (none)) else (if x3.toList = ([] : List UInt8) then (some (⟨#[48]⟩ : ByteArray)) else (some x3))) else (none)) else (if x3.toList = ([] : List UInt8) then (some (⟨#[48]⟩ : ByteArray)) else (some x3))
end
def rentierref2_N_Text.f (k : Nat) (l0 : List Int) : Option (ByteArray) := rentierref2_N_Text.l0 k l0 (⟨#[]⟩ : ByteArray) 0
theorem rentierref2_N_Text.mono_l : ∀ k, (∀ y0 y1 y2, LeO (rentierref2_N_Text.l0 k y0 y1 y2) (rentierref2_N_Text.l0 (k + 1) y0 y1 y2)) ∧ (∀ y0 y1 y2 y3 y4, LeO (rentierref2_N_Text.l1 k y0 y1 y2 y3 y4) (rentierref2_N_Text.l1 (k + 1) y0 y1 y2 y3 y4)) ∧ (∀ y0, LeO (rentierref2_N_Text.l2 k y0) (rentierref2_N_Text.l2 (k + 1) y0))
  | 0 => ⟨fun _ _ _ r h => by simp [rentierref2_N_Text.l0] at h, fun _ _ _ _ _ r h => by simp [rentierref2_N_Text.l1] at h, fun _ r h => by simp [rentierref2_N_Text.l2] at h⟩
  | k + 1 => by
    obtain ⟨ih0, ih1, ih2⟩ := rentierref2_N_Text.mono_l k
    refine ⟨?_, ?_, ?_⟩
    · intro y0 y1 y2
      unfold rentierref2_N_Text.l0
      repeat' first
      | (with_reducible exact ih0 _ _ _)
      | (with_reducible exact ih1 _ _ _ _ _)
      | (with_reducible exact ih2 _)
      | (with_reducible exact LeO.refl _)
      | (with_reducible exact LeO.none _)
      | (with_reducible refine LeO.ite ?_ ?_)
      | (with_reducible refine LeO.bind ?_ (fun _ => ?_))
      | exact ih0 _ _ _
      | exact ih1 _ _ _ _ _
      | exact ih2 _
      | exact LeO.none _
      | refine LeO.ite ?_ ?_
      | refine LeO.bind ?_ (fun _ => ?_)
    · intro y0 y1 y2 y3 y4
      unfold rentierref2_N_Text.l1
      repeat' first
      | (with_reducible exact ih0 _ _ _)
      | (with_reducible exact ih1 _ _ _ _ _)
      | (with_reducible exact ih2 _)
      | (with_reducible exact LeO.refl _)
      | (with_reducible exact LeO.none _)
      | (with_reducible refine LeO.ite ?_ ?_)
      | (with_reducible refine LeO.bind ?_ (fun _ => ?_))
      | exact ih0 _ _ _
      | exact ih1 _ _ _ _ _
      | exact ih2 _
      | exact LeO.none _
      | refine LeO.ite ?_ ?_
      | refine LeO.bind ?_ (fun _ => ?_)
    · intro y0
      unfold rentierref2_N_Text.l2
      repeat' first
      | (with_reducible exact ih0 _ _ _)
      | (with_reducible exact ih1 _ _ _ _ _)
      | (with_reducible exact ih2 _)
      | (with_reducible exact LeO.refl _)
      | (with_reducible exact LeO.none _)
      | (with_reducible refine LeO.ite ?_ ?_)
      | (with_reducible refine LeO.bind ?_ (fun _ => ?_))
      | exact ih0 _ _ _
      | exact ih1 _ _ _ _ _
      | exact ih2 _
      | exact LeO.none _
      | refine LeO.ite ?_ ?_
      | refine LeO.bind ?_ (fun _ => ?_)
theorem rentierref2_N_Text.mono : ∀ a0 k, LeO (rentierref2_N_Text.f k a0) (rentierref2_N_Text.f (k + 1) a0) := by
  intro a0 k
  obtain ⟨ih0, ih1, ih2⟩ := rentierref2_N_Text.mono_l k
  unfold rentierref2_N_Text.f
  repeat' first
      | (with_reducible exact ih0 _ _ _)
      | (with_reducible exact ih1 _ _ _ _ _)
      | (with_reducible exact ih2 _)
      | (with_reducible exact LeO.refl _)
      | (with_reducible exact LeO.none _)
      | (with_reducible refine LeO.ite ?_ ?_)
      | (with_reducible refine LeO.bind ?_ (fun _ => ?_))
      | exact ih0 _ _ _
      | exact ih1 _ _ _ _ _
      | exact ih2 _
      | exact LeO.none _
      | refine LeO.ite ?_ ?_
      | refine LeO.bind ?_ (fun _ => ?_)
set_option maxHeartbeats 8000000 in
set_option maxRecDepth 100000 in
theorem rentierref2_N_Text.calls (k : Nat) (A0 : Option Addr) (c0 : Nat) (l0 : List Int) (r : ByteArray) (w : World) (hr0 : Kd.C (Kd.int .u64) w A0 l0.length l0) (hc0 : l0.length ≤ c0) (h : rentierref2_N_Text.f k l0 = some r) :
    Calls Tryz.prog 106 #[.slice A0 l0.length c0] w fun e w' => e = .returned (.string r) ∧ Below w.heap.size w w' := by
  have HR0 := Aside0.mk hr0
  have HC0 := Aside0.mk hc0
  clear hr0 hc0
  have HB := Aside0.mk (Below.refl w.heap.size w)
  have H : (rentierref2_N_Text.l0 k l0 (⟨#[]⟩ : ByteArray) 0) = some r := h
  clear h
  have H' := Aside0.mk H
  clear H
  go_enter Tryz.func106, Tryz.ntmps106
  go_wp2
  go_loopg [3, 4] k (fun kq v3 v4 w' => ∃ (x3_1 : ByteArray) (x4_1 : Int), v3 = .string x3_1 ∧ v4 = .int .i64 x4_1 ∧ Aside0 (rentierref2_N_Text.l0 kq l0 x3_1 x4_1 = some r) ∧ Aside0 (kq ≤ k) ∧ Aside0 (Below w.heap.size w w'))
  case atStart => exact ⟨((⟨#[]⟩ : ByteArray)), (0), (by first | rfl | (simp; done) | (simp [*]; done)), (by first | rfl | (simp; done) | (simp [*]; done)), H', ⟨Nat.le_refl _⟩, ⟨by repeat (first | (with_reducible first | exact HB.out | apply below_alloc | apply pw_below_drewN | apply below_drew1) | exact HB.out)⟩⟩
  case round =>
    clear H'
    try clear c1
    obtain ⟨x3_1, x4_1, rfl, rfl, HA, HK1, HB⟩ := hrel
    cases gk with
    | zero => exact absurd HA.out (by simp [rentierref2_N_Text.l0])
    | succ k1 =>
      have H := HA.out
      clear HA
      simp only [rentierref2_N_Text.l0] at H
      by_cases c2 : x4_1 < (l0.length : Int)
      · rw [if_pos c2] at H
        have c2b0 : decide (x4_1 < (l0.length : Int)) = true := decide_eq_true c2
        clear c2
        by_cases c3 : 0 ≤ x4_1
        · rw [if_pos c3] at H
          have c3b0 : decide (0 ≤ x4_1) = true := decide_eq_true c3
          clear c3
          have H' := Aside0.mk H
          clear H
          have p211 : 0 ≤ (x4_1 : Int) := of_decide_eq_true (by first | (with_reducible assumption) | assumption)
          have q211 : x4_1 < (l0.length : Int) := of_decide_eq_true (by first | (with_reducible assumption) | assumption)
          obtain ⟨ad211, e211, hx211_0⟩ := Kd.at_int HR0.out x4_1 p211 q211
          cases e211
          replace hx211_0 := (HB.out.cell (World.block_lt_of_cell? w _ hx211_0)).trans hx211_0
          replace p211 := eq_true p211
          replace q211 := eq_true q211
          go_wp2
          go_loopg [3, 5, 6] k1 (fun kq v3 v5 v6 w' => ∃ (x3_2 : ByteArray) (x5_2 : Int) (x6_2 : Int), v3 = .string x3_2 ∧ v5 = .int .u64 x5_2 ∧ v6 = .int .i64 x6_2 ∧ Aside0 (rentierref2_N_Text.l1 kq l0 x3_2 x4_1 x5_2 x6_2 = some r) ∧ Aside0 (kq ≤ k1) ∧ Aside0 (Below w.heap.size w w'))
          case atStart => exact ⟨(x3_1), (rd l0 x4_1), (0), (by first | rfl | (simp; done) | (simp [*]; done)), (by first | rfl | (simp; done) | (simp [*]; done)), (by first | rfl | (simp; done) | (simp [*]; done)), H', ⟨Nat.le_refl _⟩, ⟨by repeat (first | (with_reducible first | exact HB.out | apply below_alloc | apply pw_below_drewN | apply below_drew1) | exact HB.out)⟩⟩
          case round =>
            clear H'
            try clear c1
            try clear c2
            try clear c2b0
            try clear p2
            try clear q2
            try clear hx2
            try clear c3
            try clear c3b0
            try clear hx211_0
            try clear p211
            try clear q211
            obtain ⟨x3_2, x5_2, x6_2, rfl, rfl, rfl, HA, HK2, HB⟩ := hrel
            cases gk with
            | zero => exact absurd HA.out (by simp [rentierref2_N_Text.l1])
            | succ k2 =>
              have H := HA.out
              clear HA
              simp only [rentierref2_N_Text.l1] at H
              by_cases c4 : x6_2 < 9
              · rw [if_pos c4] at H
                have c4b0 : decide (x6_2 < 9) = true := decide_eq_true c4
                clear c4
                obtain ⟨y212, hy212⟩ : ∃ y_ : List Int, y_ = (([(IntKind.u64.wrap (48 + (Int.tmod x5_2 10))) % 256] : List Int)) := ⟨_, rfl⟩
                replace H : (if (strOfNums y212).size + x3_2.size ≤ 9223372036854775807 then (rentierref2_N_Text.l1 k2 l0 ((strOfNums y212) ++ x3_2) x4_1 (IntKind.u64.wrap (Int.tdiv x5_2 10)) (wrap64 (x6_2 + 1))) else (none)) = some r := by first | (rw [hy212]; with_reducible exact H) | (have H2_ := (Option.bind_some _ _).symm.trans H; rw [hy212]; with_reducible exact H2_) | (have H2_ := (Option.bind_some _ _).symm.trans H; with_reducible exact H2_) | with_reducible exact H | (rw [hy212]; exact H) | exact H
                have Ny212 := Aside0.mk hy212
                clear hy212
                by_cases c5 : (strOfNums y212).size + x3_2.size ≤ 9223372036854775807
                · rw [if_pos c5] at H
                  have c5b0 := eq_true c5
                  have c5b1 : decide ((strOfNums y212).size + x3_2.size ≤ 9223372036854775807) = true := decide_eq_true c5
                  try have c5b2 : (9223372036854775807 < (strOfNums y212).size + x3_2.size) = False := eq_false (Nat.not_lt.2 c5)
                  have H' := Aside0.mk H
                  clear H
                  go_wp2_with (first | ((with_reducible refine gate_dst (N := 25) rfl ?_); refine Kd.R_lit (Kd.int .u8) _ 5 ?hg (N := 25) ?hd (xs := ([(IntKind.u64.wrap (48 + (Int.tmod x5_2 10))) % 256] : List Int)) (inner := [.int .u8 ((IntKind.u64.wrap (48 + (Int.tmod x5_2 10))) % 256)]) (ok := fun _ => True) (okp := fun _ => True) ?hr ?hp (fun _ hk => hk) trivial (Below.refl _ _) (Nat.le_refl _) (by simp) ?_; (case hd => rfl); (case hg => rfl); (case hr => first | (go_simp; done) | (go_simp; rfl)); (case hp => exact (Reps.one (show Kd.M (Kd.int .u8) _ _ _ ((IntKind.u64.wrap (48 + (Int.tmod x5_2 10))) % 256) [.int .u8 ((IntKind.u64.wrap (48 + (Int.tmod x5_2 10))) % 256)] from rfl) (Reps.none _ _))); intro v213 w6 ho7 hb hg_ hnew_; clear hg_ hnew_; (first | rw [← Ny212.out] at ho7 | (simp only [Int.reduceToNat] at ho7; rw [← Ny212.out] at ho7)); have n0_ := Aside0.mk (Kd.R_lower ho7 (below_size (by repeat (first | (with_reducible first | exact HB.out | apply below_alloc | apply pw_below_drewN | apply below_drew1) | exact HB.out)))); have n1_ := Aside0.mk (below_step (by repeat (first | (with_reducible first | exact HB.out | apply below_alloc | apply pw_below_drewN | apply below_drew1) | exact HB.out)) hb); clear HB; have HO214 := n0_; have HB := n1_; clear n0_ n1_; clear hb ho7; have hcv8 := own_string (P := Tryz.prog) Tryz.underlying200 Tryz.underlying5 Tryz.underlying9 (Kd.own_of_R HO214.out)))
                  go_roundg k2
                  case measure => have := HK1.out; have := HK2.out; omega
                  case rel => exact ⟨((strOfNums y212) ++ x3_2), (IntKind.u64.wrap (Int.tdiv x5_2 10)), (wrap64 (x6_2 + 1)), (by first | rfl | (simp; done) | (simp [*]; done)), (by first | rfl | (simp; done) | (simp [*]; done)), (by first | rfl | (simp; done) | (simp [*]; done)), H', ⟨by have := HK1.out; have := HK2.out; omega⟩, ⟨by repeat (first | (with_reducible first | exact HB.out | apply below_alloc | apply pw_below_drewN | apply below_drew1) | exact HB.out)⟩⟩
                · rw [if_neg c5] at H
                  exact absurd H (by simp)
              · rw [if_neg c4] at H
                have c4b0 : decide (x6_2 < 9) = false := decide_eq_false c4
                clear c4
                have H' := Aside0.mk H
                clear H
                go_wp2
                go_roundg k2
                case measure => have := HK1.out; have := HK2.out; omega
                case rel => exact ⟨(x3_2), (wrap64 (x4_1 + 1)), (by first | rfl | (simp; done) | (simp [*]; done)), (by first | rfl | (simp; done) | (simp [*]; done)), H', ⟨by have := HK1.out; have := HK2.out; omega⟩, ⟨by repeat (first | (with_reducible first | exact HB.out | apply below_alloc | apply pw_below_drewN | apply below_drew1) | exact HB.out)⟩⟩
        · rw [if_neg c3] at H
          exact absurd H (by simp)
      · rw [if_neg c2] at H
        have c2b0 : decide (x4_1 < (l0.length : Int)) = false := decide_eq_false c2
        clear c2
        have H' := Aside0.mk H
        clear H
        go_wp2
        go_loopg [3] k1 (fun kq v3 w' => ∃ (x3_2 : ByteArray), v3 = .string x3_2 ∧ Aside0 (rentierref2_N_Text.l2 kq x3_2 = some r) ∧ Aside0 (kq ≤ k1) ∧ Aside0 (Below w.heap.size w w'))
        case atStart => exact ⟨(x3_1), (by first | rfl | (simp; done) | (simp [*]; done)), H', ⟨Nat.le_refl _⟩, ⟨by repeat (first | (with_reducible first | exact HB.out | apply below_alloc | apply pw_below_drewN | apply below_drew1) | exact HB.out)⟩⟩
        case round =>
          clear H'
          try clear c1
          try clear c2
          try clear c2b0
          try clear p2
          try clear q2
          try clear hx2
          try clear c3
          try clear c3b0
          try clear c4
          try clear c4b0
          try clear c5
          try clear c5b0
          try clear c5b1
          try clear c5b2
          try clear p6
          try clear hcv8
          try clear hx211_0
          try clear p2
          try clear p211
          try clear q2
          try clear q211
          obtain ⟨x3_2, rfl, HA, HK2, HB⟩ := hrel
          cases gk with
          | zero => exact absurd HA.out (by simp [rentierref2_N_Text.l2])
          | succ k2 =>
            have H := HA.out
            clear HA
            simp only [rentierref2_N_Text.l2] at H
            by_cases c9 : (x3_2.size : Int) > 1
            · rw [if_pos c9] at H
              have c9b0 : decide (1 < (x3_2.size : Int)) = true := decide_eq_true c9
              have c9b1 : decide (1 < x3_2.size) = true := decide_eq_true (by omega)
              clear c9
              by_cases c10 : 0 < (x3_2.size : Int)
              · rw [if_pos c10] at H
                have c10b0 : decide (0 < (x3_2.size : Int)) = true := decide_eq_true c10
                have c10b1 : decide (0 < x3_2.size) = true := decide_eq_true (by omega)
                clear c10
                by_cases c12 : (bt x3_2 0) = 48
                · rw [if_pos c12] at H
                  have c12b0 : ((bt x3_2 0) == 48) = true := beq_iff_eq.mpr c12
                  have c12b1 : ((bt x3_2 0) != 48) = false := bne_eq_false_iff_eq.mpr c12
                  clear c12
                  by_cases c13 : 1 ≤ (x3_2.size : Int)
                  · rw [if_pos c13] at H
                    have c13b0 := eq_true c13
                    have c13b1 : decide (1 ≤ (x3_2.size : Int)) = true := decide_eq_true c13
                    clear c13
                    have H' := Aside0.mk H
                    clear H
                    have p11 : 0 ≤ (0 : Int) := (by omega)
                    have q11 : 0 < x3_2.size := (by have : (0 : Int) < (x3_2.size : Int) := of_decide_eq_true (by first | (with_reducible assumption) | assumption); omega)
                    have hx11 : ∀ h : 0 < x3_2.size, ((x3_2[0]'h).toNat : Int) = bt x3_2 0 := bt_at x3_2 0
                    clear p11
                    have qi11 : (0 < (x3_2.size : Int)) = True := eq_true (of_decide_eq_true (by first | (with_reducible assumption) | assumption))
                    replace q11 := eq_true q11
                    go_wp2
                    go_roundg k2
                    case measure => have := HK1.out; have := HK2.out; omega
                    case rel => exact ⟨(x3_2.extract 1 x3_2.size), (by first | rfl | (simp; done) | (simp [*]; done)), H', ⟨by have := HK1.out; have := HK2.out; omega⟩, ⟨by repeat (first | (with_reducible first | exact HB.out | apply below_alloc | apply pw_below_drewN | apply below_drew1) | exact HB.out)⟩⟩
                  · rw [if_neg c13] at H
                    exact absurd H (by simp)
                · rw [if_neg c12] at H
                  have c12b0 : ((bt x3_2 0) == 48) = false := beq_eq_false_iff_ne.mpr c12
                  have c12b1 : ((bt x3_2 0) != 48) = true := bne_iff_ne.mpr c12
                  by_cases c14 : x3_2.toList = ([] : List UInt8)
                  · rw [if_pos c14] at H
                    have c14b0 : (x3_2.toList == ([] : List UInt8)) = true := beq_iff_eq.mpr c14
                    have c14b1 : (x3_2.toList != ([] : List UInt8)) = false := bne_eq_false_iff_eq.mpr c14
                    clear c14
                    obtain rfl := Option.some.inj H
                    have p11 : 0 ≤ (0 : Int) := (by omega)
                    have q11 : 0 < x3_2.size := (by have : (0 : Int) < (x3_2.size : Int) := of_decide_eq_true (by first | (with_reducible assumption) | assumption); omega)
                    have hx11 : ∀ h : 0 < x3_2.size, ((x3_2[0]'h).toNat : Int) = bt x3_2 0 := bt_at x3_2 0
                    clear p11
                    have qi11 : (0 < (x3_2.size : Int)) = True := eq_true (of_decide_eq_true (by first | (with_reducible assumption) | assumption))
                    replace q11 := eq_true q11
                    go_wp2
                    go_ret
                    exact ⟨by first | rfl | (simp [errW_none, errW_some] <;> rfl) | (simp [*, errW_none, errW_some] <;> rfl), by repeat (first | (with_reducible first | exact HB.out | apply below_alloc | apply pw_below_drewN | apply below_drew1) | exact HB.out)⟩
                  · rw [if_neg c14] at H
                    have c14b0 : (x3_2.toList == ([] : List UInt8)) = false := beq_eq_false_iff_ne.mpr c14
                    have c14b1 : (x3_2.toList != ([] : List UInt8)) = true := bne_iff_ne.mpr c14
                    obtain rfl := Option.some.inj H
                    have p11 : 0 ≤ (0 : Int) := (by omega)
                    have q11 : 0 < x3_2.size := (by have : (0 : Int) < (x3_2.size : Int) := of_decide_eq_true (by first | (with_reducible assumption) | assumption); omega)
                    have hx11 : ∀ h : 0 < x3_2.size, ((x3_2[0]'h).toNat : Int) = bt x3_2 0 := bt_at x3_2 0
                    clear p11
                    have qi11 : (0 < (x3_2.size : Int)) = True := eq_true (of_decide_eq_true (by first | (with_reducible assumption) | assumption))
                    replace q11 := eq_true q11
                    go_wp2
                    go_ret
                    exact ⟨by first | rfl | (simp [errW_none, errW_some] <;> rfl) | (simp [*, errW_none, errW_some] <;> rfl), by repeat (first | (with_reducible first | exact HB.out | apply below_alloc | apply pw_below_drewN | apply below_drew1) | exact HB.out)⟩
              · rw [if_neg c10] at H
                exact absurd H (by simp)
            · rw [if_neg c9] at H
              have c9b0 : decide (1 < (x3_2.size : Int)) = false := decide_eq_false c9
              have c9b1 : decide (1 < x3_2.size) = false := decide_eq_false (by omega)
              clear c9
              by_cases c15 : x3_2.toList = ([] : List UInt8)
              · rw [if_pos c15] at H
                have c15b0 : (x3_2.toList == ([] : List UInt8)) = true := beq_iff_eq.mpr c15
                have c15b1 : (x3_2.toList != ([] : List UInt8)) = false := bne_eq_false_iff_eq.mpr c15
                clear c15
                obtain rfl := Option.some.inj H
                go_wp2
                go_ret
                exact ⟨by first | rfl | (simp [errW_none, errW_some] <;> rfl) | (simp [*, errW_none, errW_some] <;> rfl), by repeat (first | (with_reducible first | exact HB.out | apply below_alloc | apply pw_below_drewN | apply below_drew1) | exact HB.out)⟩
              · rw [if_neg c15] at H
                have c15b0 : (x3_2.toList == ([] : List UInt8)) = false := beq_eq_false_iff_ne.mpr c15
                have c15b1 : (x3_2.toList != ([] : List UInt8)) = true := bne_iff_ne.mpr c15
                obtain rfl := Option.some.inj H
                go_wp2
                go_ret
                exact ⟨by first | rfl | (simp [errW_none, errW_some] <;> rfl) | (simp [*, errW_none, errW_some] <;> rfl), by repeat (first | (with_reducible first | exact HB.out | apply below_alloc | apply pw_below_drewN | apply below_drew1) | exact HB.out)⟩

end Go.Proofs.YtdlcleecjeipnaaGreatDoor.PAll

-- PRINTED by print.py out of the translation, by the session's own call, and taken apart by split.py. Not trusted: Lean checks it.
namespace Go.Proofs.YtdlcleecjeipnaaGreatDoor.PAll
open Go.RowKit Go.Proofs.YtdlcleecjeipnaaGreatDoorW.PrintWords Go.Proofs.YtdlcleecjeipnaaGreatDoorW.PrintLast Go.Proofs.YtdlcleecjeipnaaGreatDoorW.PrintMore
attribute [local go_sem] max2_int min2_int max_two min_two max_three min_three max_four min_four   -- for this text's walks alone
set_option linter.unusedVariables false
set_option linter.unusedSimpArgs false



/-! ### rentierref2_OfU: function 40 -/
def rentierref2_OfU.l0 : Nat → Int → List Int → Option (List Int)
  | 0, _, _ => none
  | k + 1, x0, x3 => if x0 > 0 then (if x3.length < 17592186044416 then (rentierref2_OfU.l0 k (IntKind.u64.wrap (Int.tdiv x0 1000000000)) (x3 ++ [Int.tmod x0 1000000000])) else (none)) else (some x3)
def rentierref2_OfU.f (k : Nat) (a0 : Int) : Option (List Int) := rentierref2_OfU.l0 k a0 ([] : List Int)
theorem rentierref2_OfU.mono_l : ∀ k, (∀ y0 y1, LeO (rentierref2_OfU.l0 k y0 y1) (rentierref2_OfU.l0 (k + 1) y0 y1))
  | 0 => fun _ _ r h => by simp [rentierref2_OfU.l0] at h
  | k + 1 => by
    have ih0 := rentierref2_OfU.mono_l k
    · intro y0 y1
      unfold rentierref2_OfU.l0
      repeat' first
      | (with_reducible exact ih0 _ _)
      | (with_reducible exact LeO.refl _)
      | (with_reducible exact LeO.none _)
      | (with_reducible refine LeO.ite ?_ ?_)
      | (with_reducible refine LeO.bind ?_ (fun _ => ?_))
      | exact ih0 _ _
      | exact LeO.none _
      | refine LeO.ite ?_ ?_
      | refine LeO.bind ?_ (fun _ => ?_)
theorem rentierref2_OfU.mono : ∀ a0 k, LeO (rentierref2_OfU.f k a0) (rentierref2_OfU.f (k + 1) a0) := by
  intro a0 k
  have ih0 := rentierref2_OfU.mono_l k
  unfold rentierref2_OfU.f
  repeat' first
      | (with_reducible exact ih0 _ _)
      | (with_reducible exact LeO.refl _)
      | (with_reducible exact LeO.none _)
      | (with_reducible refine LeO.ite ?_ ?_)
      | (with_reducible refine LeO.bind ?_ (fun _ => ?_))
      | exact ih0 _ _
      | exact LeO.none _
      | refine LeO.ite ?_ ?_
      | refine LeO.bind ?_ (fun _ => ?_)
set_option maxHeartbeats 8000000 in
set_option maxRecDepth 100000 in
theorem rentierref2_OfU.calls (k : Nat) (a0 : Int) (r : List Int) (w : World) (h : rentierref2_OfU.f k a0 = some r) :
    Calls Tryz.prog 40 #[.int .u64 a0] w fun e w' => ∃ v0_ : Value, e = .returned (v0_) ∧ Kd.R (Kd.int .u64) 57 w' w.heap.size (fun _ => True) v0_ r ∧ Below w.heap.size w w' := by
  have HB := Aside0.mk (Below.refl w.heap.size w)
  have H : (rentierref2_OfU.l0 k a0 ([] : List Int)) = some r := h
  clear h
  have H' := Aside0.mk H
  clear H
  go_enter Tryz.func40, Tryz.ntmps40
  go_wp2
  go_loopg [0, 3] k (fun kq v0 v3 w' => ∃ (x0_1 : Int) (x3_1 : List Int), v0 = .int .u64 x0_1 ∧ Aside0 (rentierref2_OfU.l0 kq x0_1 x3_1 = some r) ∧ Aside0 (kq ≤ k) ∧ Aside0 (Kd.R (Kd.int .u64) 57 w' w.heap.size (fun _ => True) v3 x3_1) ∧ Aside0 (Below w.heap.size w w'))
  case atStart => exact ⟨(a0), (([] : List Int)), (by first | rfl | (simp; done) | (simp [*]; done)), H', ⟨Nat.le_refl _⟩, ⟨by first | exact Kd.R_nil _ _ _ _ _ | exact Kd.N_nil _ _ _ _ _ | exact Kd.V_nil _ _ _ _ _ | exact Kd.Q_nil _ _ _ _ _ | exact Kd.S_nil _ _ _ _ _⟩, ⟨by repeat (first | (with_reducible first | exact HB.out | apply below_alloc | apply pw_below_drewN | apply below_drew1) | exact HB.out)⟩⟩
  case round =>
    clear H'
    obtain ⟨x0_1, x3_1, rfl, HA, HK1, HO_3, HB⟩ := hrel
    cases gk with
    | zero => exact absurd HA.out (by simp [rentierref2_OfU.l0])
    | succ k1 =>
      have H := HA.out
      clear HA
      simp only [rentierref2_OfU.l0] at H
      by_cases c2 : x0_1 > 0
      · rw [if_pos c2] at H
        have c2b0 : decide (0 < x0_1) = true := decide_eq_true c2
        clear c2
        by_cases c3 : x3_1.length < 17592186044416
        · rw [if_pos c3] at H
          have LMc3 := Aside0.mk c3
          clear c3
          obtain ⟨y217, hy217⟩ : ∃ y_ : List Int, y_ = (x3_1 ++ [Int.tmod x0_1 1000000000]) := ⟨_, rfl⟩
          replace H : (rentierref2_OfU.l0 k1 (IntKind.u64.wrap (Int.tdiv x0_1 1000000000)) y217) = some r := by first | (rw [hy217]; with_reducible exact H) | (have H2_ := (Option.bind_some _ _).symm.trans H; rw [hy217]; with_reducible exact H2_) | (have H2_ := (Option.bind_some _ _).symm.trans H; with_reducible exact H2_) | with_reducible exact H | (rw [hy217]; exact H) | exact H
          have Ny217 := Aside0.mk hy217
          clear hy217
          have H' := Aside0.mk H
          clear H
          go_wp2_with (first | ((with_reducible refine gate_builtin (b := .append) (xs := #[.tmp 8, .tmp 11]) rfl ?_); at_builtin; refine Kd.R_append (Kd.int .u64) (w0 := w) w.heap.size rfl (.tmp 8) (.tmp 11) 34 57 (.int .u64 0) 8 rfl Tryz.underlying34 info57 rfl (by decide) (by omega) u3 x3_1 (Int.tmod x0_1 1000000000) [.int .u64 (Int.tmod x0_1 1000000000)] (fun _ => True) (fun _ => False) rfl rfl ?aP (fun _ hk => hk.elim) ?aF ?aO ?aB ?aS ?aL ?_; (case aP => exact rfl); (case aB => exact (by repeat (first | (with_reducible first | exact HB.out | apply below_alloc | apply pw_below_drewN | apply below_drew1) | exact HB.out))); (case aF => exact (fun _ _ => trivial)); (case aO => exact (by (with_reducible repeat (first | apply Kd.R_alloc | apply Kd.R_drewN | apply Kd.R_drew)); exact HO_3.out)); (case aS => exact (below_size (by repeat (first | (with_reducible first | exact HB.out | apply below_alloc | apply pw_below_drewN | apply below_drew1) | exact HB.out)))); (case aL => have := LMc3.out; omega); intro v218 w4 ho hb hg hat; rw [← Ny217.out] at ho; have n0_ := Aside0.mk (hb); have n1_ := Aside0.mk (ho); clear HB; clear HO_3; have HB := n0_; have HO219 := n1_; clear n0_ n1_; clear ho hb hg hat))
          go_roundg k1
          case measure => have := HK1.out; omega
          case rel => exact ⟨(IntKind.u64.wrap (Int.tdiv x0_1 1000000000)), (y217), (by first | rfl | (simp; done) | (simp [*]; done)), H', ⟨by have := HK1.out; omega⟩, ⟨by (with_reducible repeat (first | apply Kd.R_alloc | apply Kd.R_drewN | apply Kd.R_drew)); exact HO219.out⟩, ⟨by repeat (first | (with_reducible first | exact HB.out | apply below_alloc | apply pw_below_drewN | apply below_drew1) | exact HB.out)⟩⟩
        · rw [if_neg c3] at H
          exact absurd H (by simp)
      · rw [if_neg c2] at H
        have c2b0 : decide (0 < x0_1) = false := decide_eq_false c2
        clear c2
        obtain rfl := Option.some.inj H
        go_wp2
        go_ret
        exact ⟨_, by first | rfl | (simp [errW_none, errW_some] <;> rfl) | (simp [*, errW_none, errW_some] <;> rfl), by (with_reducible repeat (first | apply Kd.R_alloc | apply Kd.R_drewN | apply Kd.R_drew)); exact HO_3.out, by repeat (first | (with_reducible first | exact HB.out | apply below_alloc | apply pw_below_drewN | apply below_drew1) | exact HB.out)⟩

end Go.Proofs.YtdlcleecjeipnaaGreatDoor.PAll

-- PRINTED by print.py out of the translation, by the session's own call, and taken apart by split.py. Not trusted: Lean checks it.
namespace Go.Proofs.YtdlcleecjeipnaaGreatDoor.PAll
open Go.RowKit Go.Proofs.YtdlcleecjeipnaaGreatDoorW.PrintWords Go.Proofs.YtdlcleecjeipnaaGreatDoorW.PrintLast Go.Proofs.YtdlcleecjeipnaaGreatDoorW.PrintMore
attribute [local go_sem] max2_int min2_int max_two min_two max_three min_three max_four min_four   -- for this text's walks alone
set_option linter.unusedVariables false
set_option linter.unusedSimpArgs false



/-! ### rentierref2_Of: function 29 -/
def rentierref2_Of.f (k : Nat) (a0 : Int) : Option (Bool × List Int) := if a0 < 0 then ((rentierref2_OfU.f k (IntKind.u64.wrap ((IntKind.u64.wrap (wrap64 (-(wrap64 (a0 + 1))))) + 1))).bind fun t221 => (some (true, t221))) else ((rentierref2_OfU.f k (IntKind.u64.wrap (a0))).bind fun t224 => (some (false, t224)))
theorem rentierref2_Of.mono : ∀ a0 k, LeO (rentierref2_Of.f k a0) (rentierref2_Of.f (k + 1) a0) := by
  intro a0 k
  unfold rentierref2_Of.f
  repeat' first
      | (with_reducible exact rentierref2_OfU.mono _ _)
      | (with_reducible exact LeO.refl _)
      | (with_reducible exact LeO.none _)
      | (with_reducible refine LeO.ite ?_ ?_)
      | (with_reducible refine LeO.bind ?_ (fun _ => ?_))
      | exact rentierref2_OfU.mono _ _
      | exact LeO.none _
      | refine LeO.ite ?_ ?_
      | refine LeO.bind ?_ (fun _ => ?_)
set_option maxHeartbeats 8000000 in
set_option maxRecDepth 100000 in
theorem rentierref2_Of.calls (k : Nat) (a0 : Int) (r1 : Bool) (r2 : List Int) (w : World) (h : rentierref2_Of.f k a0 = some (r1, r2)) :
    Calls Tryz.prog 29 #[.int .i64 a0] w fun e w' => ∃ v1_ : Value, e = .returned (.agg #[.bool r1, v1_]) ∧ Kd.R (Kd.int .u64) 57 w' w.heap.size (fun _ => True) v1_ r2 ∧ Below w.heap.size w w' := by
  have hu36 := Tryz.underlying36
  have HB := Aside0.mk (Below.refl w.heap.size w)
  have H : (if a0 < 0 then ((rentierref2_OfU.f k (IntKind.u64.wrap ((IntKind.u64.wrap (wrap64 (-(wrap64 (a0 + 1))))) + 1))).bind fun t221 => (some (true, t221))) else ((rentierref2_OfU.f k (IntKind.u64.wrap (a0))).bind fun t224 => (some (false, t224)))) = some (r1, r2) := h
  clear h
  by_cases c2 : a0 < 0
  · rw [if_pos c2] at H
    have c2b0 : decide (a0 < 0) = true := decide_eq_true c2
    clear c2
    replace H := Option.bind_eq_some_iff.mp H
    obtain ⟨t221, A30, H⟩ := H
    replace H : (some (true, t221)) = some (r1, r2) := H
    have A3 := Aside0.mk A30
    clear A30
    simp only [Option.some.injEq, Prod.mk.injEq] at H
    obtain ⟨rfl, rfl⟩ := H
    go_enter Tryz.func29, Tryz.ntmps29
    go_wp2_with (first | ((with_reducible refine gate_dst (N := 2) rfl ?_); refine box_event ?hg (N := 2) ?hd (cs := #[.bool false, .slice none 0 0]) (t := 36) ?hr ?_; (case hd => rfl); (case hg => rfl); (case hr => first | (go_simp; done) | (go_simp; rfl)); intro gb220 hg w4 hbox hb; have n0_ := Aside0.mk (below_step (by repeat (first | (with_reducible first | exact HB.out | apply below_alloc | apply pw_below_drewN | apply below_drew1) | exact HB.out)) hb); have n1_ := Aside0.mk (hbox); have n2_ := Aside0.mk ((by rw [hg]; exact (below_size (by repeat (first | (with_reducible first | exact HB.out | apply below_alloc | apply pw_below_drewN | apply below_drew1) | exact HB.out))) : w.heap.size ≤ gb220)); have n3_ := Aside0.mk ((by rw [hg]; exact (below_size (by repeat (first | (with_reducible first | exact HB.out | apply below_alloc | apply pw_below_drewN | apply below_drew1) | exact HB.out))) : w.heap.size ≤ gb220)); clear HB; have HB := n0_; have BK220 := n1_; have GW220 := n2_; have GE220 := n3_; clear n0_ n1_ n2_ n3_; clear hb hbox hg) | ((with_reducible refine gate_callee (f := 40) rfl ?_); refine goesL_ (some 10) rfl rfl Tryz.func40 (by kernel_rfl) rfl #[.int .u64 (IntKind.u64.wrap ((IntKind.u64.wrap (wrap64 (-(wrap64 (a0 + 1))))) + 1))] rfl (by (try simp only [List.map_toArray, List.map_cons, List.map_nil]); first | done | rfl | (simp only [List.length_drop, List.length_take]; rfl)) ?_; (with_reducible refine (rentierref2_OfU.calls k (IntKind.u64.wrap ((IntKind.u64.wrap (wrap64 (-(wrap64 (a0 + 1))))) + 1)) t221 _ A3.out).mono ?_); rintro e w5 ⟨v222, rfl, ho0, hb⟩; refine ⟨_, rfl, ?_⟩; have n0_ := Aside0.mk (Kd.R_lower ho0 (below_size (by repeat (first | (with_reducible first | exact HB.out | apply below_alloc | apply pw_below_drewN | apply below_drew1 | refine below_set ?_ GE220.out) | exact HB.out)))); have n1_ := Aside0.mk (blk_below (g := gb220) (o := .cells #[.bool false, .slice none 0 0] 36 (0, 0)) (by (with_reducible repeat (first | refine blk_drewN ?_ _ | refine blk_drew ?_ | refine blk_alloc ?_ _)); exact BK220.out) hb); have n2_ := Aside0.mk (below_step (by repeat (first | (with_reducible first | exact HB.out | apply below_alloc | apply pw_below_drewN | apply below_drew1 | refine below_set ?_ GE220.out) | exact HB.out)) hb); clear BK220; clear HB; have HO223 := n0_; have BK220 := n1_; have HB := n2_; clear n0_ n1_ n2_; (try clear hb); (try clear hb2); (try clear hk); (try clear hi); (try clear ho0); obtain ⟨Ao6, co6, eo6⟩ := Kd.R_slice HO223.out; subst eo6; have hcz7_0 : w5.cell? ⟨gb220, 0, none⟩ = some (.bool false) := (blk_cell BK220.out 0).trans rfl; have hcz7_1 : w5.cell? ⟨gb220, 1, none⟩ = some (.slice none 0 0) := (blk_cell BK220.out 1).trans rfl; have hfz7_0 := blk_frozen BK220.out 0; have hfz7_1 := blk_frozen BK220.out 1))
    refine bodyPost_ret (results_cell_row rfl _ _ gb220 36 #[.bool true, .slice Ao6 t221.length co6] (0, 0) _ rfl (by (with_reducible repeat (first | refine blk_drewN ?_ _ | refine blk_drew ?_ | refine blk_alloc ?_ _)); refine blk_put (cs := #[.bool true, .slice none 0 0]) ?_ 1 _ rfl; (with_reducible repeat (first | refine blk_drewN ?_ _ | refine blk_drew ?_ | refine blk_alloc ?_ _)); refine blk_put (cs := #[.bool false, .slice none 0 0]) ?_ 0 _ rfl; (with_reducible repeat (first | refine blk_drewN ?_ _ | refine blk_drew ?_ | refine blk_alloc ?_ _)); exact BK220.out) Tryz.underlying36 rfl (by kernel_rfl)) rfl ?_
    exact ⟨_, by first | rfl | (simp [errW_none, errW_some] <;> rfl) | (simp [*, errW_none, errW_some] <;> rfl), by (with_reducible repeat (first | apply Kd.R_alloc | apply Kd.R_drewN | apply Kd.R_drew)); exact Kd.R_mono (Kd.R_far (p := ⟨gb220, 1, none⟩) (Kd.R_far (p := ⟨gb220, 0, none⟩) (Kd.R_types HO223.out BK220.out (by decide)) (fun _ hk => hk.2) (.bool true)) (fun _ hk => hk.2) (.slice Ao6 t221.length co6)) (fun _ hk => trivial), by repeat (first | (with_reducible first | exact HB.out | apply below_alloc | apply pw_below_drewN | apply below_drew1 | refine below_set ?_ GE220.out) | exact HB.out)⟩
  · rw [if_neg c2] at H
    have c2b0 : decide (a0 < 0) = false := decide_eq_false c2
    clear c2
    replace H := Option.bind_eq_some_iff.mp H
    obtain ⟨t224, A80, H⟩ := H
    replace H : (some (false, t224)) = some (r1, r2) := H
    have A8 := Aside0.mk A80
    clear A80
    simp only [Option.some.injEq, Prod.mk.injEq] at H
    obtain ⟨rfl, rfl⟩ := H
    go_enter Tryz.func29, Tryz.ntmps29
    go_wp2_with (first | ((with_reducible refine gate_dst (N := 2) rfl ?_); refine box_event ?hg (N := 2) ?hd (cs := #[.bool false, .slice none 0 0]) (t := 36) ?hr ?_; (case hd => rfl); (case hg => rfl); (case hr => first | (go_simp; done) | (go_simp; rfl)); intro gb220 hg w9 hbox hb; have n0_ := Aside0.mk (below_step (by repeat (first | (with_reducible first | exact HB.out | apply below_alloc | apply pw_below_drewN | apply below_drew1) | exact HB.out)) hb); have n1_ := Aside0.mk (hbox); have n2_ := Aside0.mk ((by rw [hg]; exact (below_size (by repeat (first | (with_reducible first | exact HB.out | apply below_alloc | apply pw_below_drewN | apply below_drew1) | exact HB.out))) : w.heap.size ≤ gb220)); have n3_ := Aside0.mk ((by rw [hg]; exact (below_size (by repeat (first | (with_reducible first | exact HB.out | apply below_alloc | apply pw_below_drewN | apply below_drew1) | exact HB.out))) : w.heap.size ≤ gb220)); clear HB; have HB := n0_; have BK220 := n1_; have GW220 := n2_; have GE220 := n3_; clear n0_ n1_ n2_ n3_; clear hb hbox hg) | ((with_reducible refine gate_callee (f := 40) rfl ?_); refine goesL_ (some 14) rfl rfl Tryz.func40 (by kernel_rfl) rfl #[.int .u64 (IntKind.u64.wrap (a0))] rfl (by (try simp only [List.map_toArray, List.map_cons, List.map_nil]); first | done | rfl | (simp only [List.length_drop, List.length_take]; rfl)) ?_; (with_reducible refine (rentierref2_OfU.calls k (IntKind.u64.wrap (a0)) t224 _ A8.out).mono ?_); rintro e w10 ⟨v225, rfl, ho0, hb⟩; refine ⟨_, rfl, ?_⟩; have n0_ := Aside0.mk (Kd.R_lower ho0 (below_size (by repeat (first | (with_reducible first | exact HB.out | apply below_alloc | apply pw_below_drewN | apply below_drew1 | refine below_set ?_ GE220.out) | exact HB.out)))); have n1_ := Aside0.mk (blk_below (g := gb220) (o := .cells #[.bool false, .slice none 0 0] 36 (0, 0)) (by (with_reducible repeat (first | refine blk_drewN ?_ _ | refine blk_drew ?_ | refine blk_alloc ?_ _)); exact BK220.out) hb); have n2_ := Aside0.mk (below_step (by repeat (first | (with_reducible first | exact HB.out | apply below_alloc | apply pw_below_drewN | apply below_drew1 | refine below_set ?_ GE220.out) | exact HB.out)) hb); clear BK220; clear HB; have HO226 := n0_; have BK220 := n1_; have HB := n2_; clear n0_ n1_ n2_; (try clear hb); (try clear hb2); (try clear hk); (try clear hi); (try clear ho0); obtain ⟨Ao11, co11, eo11⟩ := Kd.R_slice HO226.out; subst eo11; have hcz12_0 : w10.cell? ⟨gb220, 0, none⟩ = some (.bool false) := (blk_cell BK220.out 0).trans rfl; have hcz12_1 : w10.cell? ⟨gb220, 1, none⟩ = some (.slice none 0 0) := (blk_cell BK220.out 1).trans rfl; have hfz12_0 := blk_frozen BK220.out 0; have hfz12_1 := blk_frozen BK220.out 1))
    refine bodyPost_ret (results_cell_row rfl _ _ gb220 36 #[.bool false, .slice Ao11 t224.length co11] (0, 0) _ rfl (by (with_reducible repeat (first | refine blk_drewN ?_ _ | refine blk_drew ?_ | refine blk_alloc ?_ _)); refine blk_put (cs := #[.bool false, .slice none 0 0]) ?_ 1 _ rfl; (with_reducible repeat (first | refine blk_drewN ?_ _ | refine blk_drew ?_ | refine blk_alloc ?_ _)); refine blk_put (cs := #[.bool false, .slice none 0 0]) ?_ 0 _ rfl; (with_reducible repeat (first | refine blk_drewN ?_ _ | refine blk_drew ?_ | refine blk_alloc ?_ _)); exact BK220.out) Tryz.underlying36 rfl (by kernel_rfl)) rfl ?_
    exact ⟨_, by first | rfl | (simp [errW_none, errW_some] <;> rfl) | (simp [*, errW_none, errW_some] <;> rfl), by (with_reducible repeat (first | apply Kd.R_alloc | apply Kd.R_drewN | apply Kd.R_drew)); exact Kd.R_mono (Kd.R_far (p := ⟨gb220, 1, none⟩) (Kd.R_far (p := ⟨gb220, 0, none⟩) (Kd.R_types HO226.out BK220.out (by decide)) (fun _ hk => hk.2) (.bool false)) (fun _ hk => hk.2) (.slice Ao11 t224.length co11)) (fun _ hk => trivial), by repeat (first | (with_reducible first | exact HB.out | apply below_alloc | apply pw_below_drewN | apply below_drew1 | refine below_set ?_ GE220.out) | exact HB.out)⟩

end Go.Proofs.YtdlcleecjeipnaaGreatDoor.PAll

/- The document's naturals: numbers of 64 bits, texts: the plain law of the printed functions. -/
namespace Go.Proofs.YtdlcleecjeipnaaGreatDoor
open Go.RowKit Go.Proofs.YtdlcleecjeipnaaGreatDoorW.PrintWords Limbs PAll Go.Lib
set_option linter.unusedVariables false

/-- One digit of the document's numbers stands for so many. -/
def NB : Int := 1000000000
theorem NB_pos : 0 < NB := by unfold NB; omega
/-- These digits, without noughts above, are n. -/
structure LimN (xs : List Int) (n : Nat) : Prop where
  dig : Dig NB xs
  nrm : Nrm xs
  val : val NB xs = (n : Int)
theorem LimN.nil : LimN [] 0 := ⟨Dig.nil _, Nrm.nil, rfl⟩
theorem LimN.inj {xs ys : List Int} {n : Nat} (h : LimN xs n) (k : LimN ys n) : xs = ys := nrm_inj NB_pos h.dig k.dig h.nrm k.nrm (by rw [h.val, k.val])
theorem LimN.zero_iff {xs : List Int} {n : Nat} (h : LimN xs n) : xs = [] ↔ n = 0 := by
  rw [← val_zero_iff NB_pos h.dig h.nrm, h.val]; omega
theorem LimN.cons {ds : List Int} {q r : Nat} (h : LimN ds q) (hr : r < 1000000000) (h0 : 0 < q * 1000000000 + r) : LimN ((r : Int) :: ds) (q * 1000000000 + r) := by
  refine ⟨Dig.cons (by omega) (by unfold NB; omega) h.dig, ?_, ?_⟩
  · intro x hx
    cases ds with
    | nil =>
      have hq : q = 0 := h.zero_iff.1 rfl
      simp at hx
      omega
    | cons d ds => exact h.nrm x (by simpa using hx)
  · rw [val_cons, h.val]; unfold NB; rw [Int.natCast_add, Int.natCast_mul]; omega

theorem wrapU_small {n : Int} (h0 : 0 ≤ n) (h1 : n < 18446744073709551616) : IntKind.u64.wrap n = n := by rw [IntKind.wrap_u64]; omega

theorem ofu_l0 : ∀ (m x : Nat), x < 1000000000 ^ m → m ≤ 3 → x < 18446744073709551616 → ∃ ds, LimN ds x ∧ ds.length ≤ m ∧ ∀ xs : List Int, xs.length + m ≤ 17592186044415 → Ev (fun k => rentierref2_OfU.l0 k (x : Int) xs) (xs ++ ds)
  | 0, x, h, _, _ => by
    have : x = 0 := by rw [Nat.pow_zero] at h; omega
    subst this
    refine ⟨[], LimN.nil, Nat.le_refl _, fun xs _ => ?_⟩
    refine Ev.step (f := fun _ => some (xs ++ [])) (fun k => ?_) (Ev.now _)
    simp only [rentierref2_OfU.l0]
    rw [if_neg (by omega), List.append_nil]
  | m + 1, x, h, hm, hx => by
    rcases Nat.eq_zero_or_pos x with h0 | h0
    · subst h0
      refine ⟨[], LimN.nil, by simp, fun xs _ => ?_⟩
      refine Ev.step (f := fun _ => some (xs ++ [])) (fun k => ?_) (Ev.now _)
      simp only [rentierref2_OfU.l0]
      rw [if_neg (by omega), List.append_nil]
    · obtain ⟨ds, h1, h2, h3⟩ := ofu_l0 m (x / 1000000000) (by rw [Nat.pow_succ] at h; omega) (by omega) (by omega)
      refine ⟨((x % 1000000000 : Nat) : Int) :: ds, ?_, by simp; omega, fun xs hl => ?_⟩
      · have := h1.cons (r := x % 1000000000) (by omega) (by omega)
        rwa [show x / 1000000000 * 1000000000 + x % 1000000000 = x by omega] at this
      · have e1 : IntKind.u64.wrap (Int.tdiv (x : Int) 1000000000) = ((x / 1000000000 : Nat) : Int) := by
          rw [Int.tdiv_eq_ediv_of_nonneg (by omega)]
          rw [wrapU_small (by omega) (by omega)]; omega
        have e2 : Int.tmod (x : Int) 1000000000 = ((x % 1000000000 : Nat) : Int) := by
          rw [Int.tmod_eq_emod_of_nonneg (by omega)]; omega
        have := h3 (xs ++ [((x % 1000000000 : Nat) : Int)]) (by simp; omega)
        rw [List.append_assoc] at this
        refine Ev.step (f := fun k => rentierref2_OfU.l0 k ((x / 1000000000 : Nat) : Int) (xs ++ [((x % 1000000000 : Nat) : Int)])) (fun k => ?_) this
        simp only [rentierref2_OfU.l0]
        rw [if_pos (by omega), if_pos (by omega), e1, e2]
theorem ofu_law {x : Nat} (hx : x < 18446744073709551616) : ∃ ds, LimN ds x ∧ ds.length ≤ 3 ∧ Ev (fun k => rentierref2_OfU.f k (x : Int)) ds := by
  obtain ⟨ds, h1, h2, h3⟩ := ofu_l0 3 x (Nat.lt_trans hx (by decide)) (by omega) hx
  refine ⟨ds, h1, h2, ?_⟩
  have := h3 [] (by simp)
  rwa [List.nil_append] at this
theorem of_law {z : Int} (h0 : -9223372036854775808 ≤ z) (h1 : z ≤ 9223372036854775807) : ∃ ds, LimN ds z.natAbs ∧ ds.length ≤ 3 ∧ Ev (fun k => rentierref2_Of.f k z) (decide (z < 0), ds) := by
  obtain ⟨ds, k1, k2, k3⟩ := ofu_law (x := z.natAbs) (by omega)
  refine ⟨ds, k1, k2, ?_⟩
  by_cases hz : z < 0
  · have e1 : IntKind.u64.wrap ((IntKind.u64.wrap (wrap64 (-(wrap64 (z + 1))))) + 1) = (z.natAbs : Int) := by
      unfold wrap64
      rw [IntKind.wrap_u64, IntKind.wrap_u64]; omega
    refine Ev.congr (f := fun k => (rentierref2_OfU.f k (z.natAbs : Int)).bind fun t => some (decide (z < 0), t)) (fun k => ?_) (Ev.bind k3 (Ev.now _))
    unfold rentierref2_Of.f
    rw [if_pos hz, e1, decide_eq_true hz]
  · have e1 : IntKind.u64.wrap z = (z.natAbs : Int) := by rw [wrapU_small (by omega) (by omega)]; omega
    refine Ev.congr (f := fun k => (rentierref2_OfU.f k (z.natAbs : Int)).bind fun t => some (decide (z < 0), t)) (fun k => ?_) (Ev.bind k3 (Ev.now _))
    unfold rentierref2_Of.f
    rw [if_neg hz, e1, decide_eq_false hz]
end Go.Proofs.YtdlcleecjeipnaaGreatDoor

/- The document's texts of naturals and of decimals: the plain law of the printed functions. -/
namespace Go.Proofs.YtdlcleecjeipnaaGreatDoor
open Go.RowKit Go.Proofs.YtdlcleecjeipnaaGreatDoorW.PrintWords Limbs PAll Go.Lib
set_option linter.unusedVariables false

/-- All digits of these numbers, nine each. -/
def nines : List Int → List UInt8
  | [] => []
  | x :: xs => nines xs ++ Decimal.pad 9 x.toNat
theorem nines_snoc (xs : List Int) (x : Int) : nines (xs ++ [x]) = Decimal.pad 9 x.toNat ++ nines xs := by
  induction xs with
  | nil => simp [nines]
  | cons y ys ih => simp [nines, ih]
theorem nines_len (xs : List Int) : (nines xs).length = 9 * xs.length := by
  induction xs with
  | nil => rfl
  | cons y ys ih => simp only [nines, List.length_append, ih, Decimal.pad_length, List.length_cons]; omega
theorem pad_num (k : Nat) : ∀ r, Decimal.num (Decimal.pad k r) = r % 10 ^ k := by
  induction k with
  | zero => intro r; simp [Decimal.pad, Decimal.num]; omega
  | succ k ih =>
    intro r
    have e : Decimal.pad (k + 1) r = Decimal.pad k (r / 10) ++ [UInt8.ofNat (48 + r % 10)] := rfl
    rw [e, Decimal.num_append_one, ih, Decimal.ofNat_toNat (by omega), Nat.pow_succ, Nat.mul_comm (10 ^ k) 10, Nat.mod_mul]
    omega
theorem pad_dig (k : Nat) : ∀ r, ∀ c ∈ Decimal.pad k r, Decimal.isDig c := by
  induction k with
  | zero => intro r c hc; simp [Decimal.pad] at hc
  | succ k ih =>
    intro r c hc
    have e : Decimal.pad (k + 1) r = Decimal.pad k (r / 10) ++ [UInt8.ofNat (48 + r % 10)] := rfl
    rw [e] at hc
    rcases List.mem_append.1 hc with hc | hc
    · exact ih _ c hc
    · simp only [List.mem_singleton] at hc
      subst hc
      unfold Decimal.isDig
      rw [Decimal.ofNat_toNat (by omega)]
      omega
theorem nines_dig (xs : List Int) : ∀ c ∈ nines xs, Decimal.isDig c := by
  induction xs with
  | nil => intro c hc; simp [nines] at hc
  | cons y ys ih =>
    intro c hc
    rcases List.mem_append.1 hc with hc | hc
    · exact ih c hc
    · exact pad_dig _ _ c hc
theorem nines_num {xs : List Int} (h : Dig NB xs) : (Decimal.num (nines xs) : Int) = val NB xs := by
  induction xs with
  | nil => rfl
  | cons y ys ih =>
    have hy := h.head
    unfold NB at hy
    have h1 := ih h.tail
    rw [val_cons, ← h1]
    show ((Decimal.num (nines ys ++ Decimal.pad 9 y.toNat) : Nat) : Int) = _
    rw [Decimal.num_append, Decimal.pad_length, pad_num, Nat.mod_eq_of_lt (by omega)]
    obtain ⟨n, hn⟩ : ∃ n, Decimal.num (nines ys) = n := ⟨_, rfl⟩
    rw [hn]
    show ((n * 1000000000 + y.toNat : Nat) : Int) = y + 1000000000 * (n : Int)
    omega

theorem ba_append (l m : List UInt8) : (⟨l.toArray⟩ : ByteArray) ++ ⟨m.toArray⟩ = ⟨(l ++ m).toArray⟩ := by
  have := tx_append l m
  unfold tx at this
  exact this
theorem strOf_one (v : Nat) (hv : v < 256) : strOfNums [((v : Nat) : Int) % 256] = ⟨[UInt8.ofNat v].toArray⟩ := by
  unfold strOfNums
  congr 3
  simp
  congr 1
  omega

/-- Nine digits of one number. -/
theorem text_l1 (xs : List Int) (i : Int) : ∀ (d j v : Nat) (l : List UInt8), j + d = 9 → v < 10 ^ d → l.length + d ≤ 9223372036854775807 → ∀ r, Ev (fun k => rentierref2_N_Text.l0 k xs ⟨(Decimal.pad d v ++ l).toArray⟩ (wrap64 (i + 1))) r → Ev (fun k => rentierref2_N_Text.l1 k xs ⟨l.toArray⟩ i (v : Int) (j : Int)) r
  | 0, j, v, l, hj, hv, hl, r, h => by
    refine Ev.step (fun k => ?_) h
    simp only [rentierref2_N_Text.l1]
    rw [if_neg (by omega)]
    rfl
  | d + 1, j, v, l, hj, hv, hl, r, h => by
    have e1 : IntKind.u64.wrap (48 + Int.tmod (v : Int) 10) = ((48 + v % 10 : Nat) : Int) := by
      rw [Int.tmod_eq_emod_of_nonneg (by omega), wrapU_small (by omega) (by omega)]; omega
    have h18 : (10 : Nat) ^ (d + 1) ≤ 10 ^ 9 := Nat.pow_le_pow_right (by decide) (by omega)
    have e2 : IntKind.u64.wrap (Int.tdiv (v : Int) 10) = ((v / 10 : Nat) : Int) := by
      rw [Int.tdiv_eq_ediv_of_nonneg (by omega), wrapU_small (by omega) (by omega)]; omega
    have e3 : wrap64 ((j : Int) + 1) = ((j + 1 : Nat) : Int) := by unfold wrap64; omega
    refine Ev.step (f := fun k => rentierref2_N_Text.l1 k xs ⟨(UInt8.ofNat (48 + v % 10) :: l).toArray⟩ i ((v / 10 : Nat) : Int) ((j + 1 : Nat) : Int)) (fun k => ?_) ?_
    · have hsz : (⟨[UInt8.ofNat (48 + v % 10)].toArray⟩ : ByteArray).size + (⟨l.toArray⟩ : ByteArray).size ≤ 9223372036854775807 := by show 1 + l.length ≤ _; omega
      simp only [rentierref2_N_Text.l1]
      rw [if_pos (by omega), Option.bind_some, e1, strOf_one _ (by omega), if_pos hsz, ba_append, e2, e3]
      rfl
    · refine text_l1 xs i d (j + 1) (v / 10) (UInt8.ofNat (48 + v % 10) :: l) (by omega) (by rw [Nat.pow_succ] at hv; omega) (by simp; omega) r ?_
      have e4 : Decimal.pad d (v / 10) ++ UInt8.ofNat (48 + v % 10) :: l = Decimal.pad (d + 1) v ++ l := by
        show _ = (Decimal.pad d (v / 10) ++ [UInt8.ofNat (48 + v % 10)]) ++ l
        simp
      rw [e4]
      exact h
end Go.Proofs.YtdlcleecjeipnaaGreatDoor

/- The document's text of a natural: the law of the printed function, and its call. -/
namespace Go.Proofs.YtdlcleecjeipnaaGreatDoor
open Go.RowKit Go.Proofs.YtdlcleecjeipnaaGreatDoorW.PrintWords Limbs PAll Go.Lib
set_option linter.unusedVariables false

theorem text_l2 : ∀ (l : List UInt8), (∀ c ∈ l, Decimal.isDig c) → l.length ≤ 9223372036854775807 → Ev (fun k => rentierref2_N_Text.l2 k ⟨l.toArray⟩) ⟨(decDigits (Decimal.num l)).toArray⟩
  | [], _, _ => by
    refine Ev.step (f := fun _ => some ⟨(decDigits (Decimal.num [])).toArray⟩) (fun k => ?_) (Ev.now _)
    have e : decDigits (Decimal.num []) = [48] := Decimal.dec_small (by decide)
    rw [e]
    have h1 : ¬ (((⟨([] : List UInt8).toArray⟩ : ByteArray).size : Int) > 1) := by show ¬ ((0 : Nat) : Int) > 1; omega
    have h2 : (⟨([] : List UInt8).toArray⟩ : ByteArray).toList = ([] : List UInt8) := by rw [ByteArray.toList_eq]
    simp only [rentierref2_N_Text.l2]
    rw [if_neg h1, if_pos h2]
  | [c], hd, _ => by
    refine Ev.step (f := fun _ => some ⟨(decDigits (Decimal.num [c])).toArray⟩) (fun k => ?_) (Ev.now _)
    rw [Decimal.dec_num [c] hd (by simp) (.inr rfl)]
    have h1 : ¬ (((⟨([c] : List UInt8).toArray⟩ : ByteArray).size : Int) > 1) := by show ¬ ((1 : Nat) : Int) > 1; omega
    have h2 : ¬ ((⟨([c] : List UInt8).toArray⟩ : ByteArray).toList = ([] : List UInt8)) := by rw [ByteArray.toList_eq]; simp
    simp only [rentierref2_N_Text.l2]
    rw [if_neg h1, if_neg h2]
  | c :: d :: l, hd, hl => by
    have hs : (⟨(c :: d :: l).toArray⟩ : ByteArray).size = l.length + 2 := rfl
    have h1 : (((⟨(c :: d :: l).toArray⟩ : ByteArray).size : Int) > 1) := by rw [hs]; omega
    have h2 : (0 : Int) < ((⟨(c :: d :: l).toArray⟩ : ByteArray).size : Int) := by rw [hs]; omega
    have h3 : (1 : Int) ≤ ((⟨(c :: d :: l).toArray⟩ : ByteArray).size : Int) := by rw [hs]; omega
    have hb : bt ⟨(c :: d :: l).toArray⟩ 0 = (c.toNat : Int) := by
      have := bt_at ⟨(c :: d :: l).toArray⟩ 0 (by rw [hs]; show 0 < _; omega)
      rw [← this]; rfl
    have he : (⟨(c :: d :: l).toArray⟩ : ByteArray).extract 1 (⟨(c :: d :: l).toArray⟩ : ByteArray).size = ⟨(d :: l).toArray⟩ := by
      rw [tx_extract, hs]
      simp [List.take_of_length_le]
    by_cases hc : c = 48
    · subst hc
      have e : Decimal.num (48 :: d :: l) = Decimal.num (d :: l) := by rw [Decimal.num_cons]; show (48 - 48) * _ + _ = _; omega
      rw [e]
      refine Ev.step (fun k => ?_) (text_l2 (d :: l) (fun x hx => hd x (by simp at hx ⊢; right; exact hx)) (by simp at hl ⊢; omega))
      simp only [rentierref2_N_Text.l2]
      rw [if_pos h1, if_pos h2, if_pos (by rw [hb]; rfl), if_pos h3, he]
    · refine Ev.step (f := fun _ => some ⟨(decDigits (Decimal.num (c :: d :: l))).toArray⟩) (fun k => ?_) (Ev.now _)
      rw [Decimal.dec_num _ hd (by simp) (.inl (by simpa using hc))]
      have h5 : ¬ bt ⟨(c :: d :: l).toArray⟩ 0 = 48 := by
        rw [hb]
        intro e
        apply hc
        apply UInt8.toNat_inj.1
        have h48 : (48 : UInt8).toNat = 48 := rfl
        omega
      have h6 : ¬ ((⟨(c :: d :: l).toArray⟩ : ByteArray).toList = ([] : List UInt8)) := by rw [ByteArray.toList_eq]; simp
      simp only [rentierref2_N_Text.l2]
      rw [if_pos h1, if_pos h2, if_neg h5, if_neg h6]

theorem text_l0 (xs : List Int) (hd : Dig NB xs) (hl : xs.length ≤ 1000000000000) : ∀ (d i : Nat), i + d = xs.length → Ev (fun k => rentierref2_N_Text.l0 k xs ⟨(nines (xs.take i)).toArray⟩ (i : Int)) ⟨(decDigits (Decimal.num (nines xs))).toArray⟩
  | 0, i, hi => by
    have e : xs.take i = xs := List.take_of_length_le (by omega)
    rw [e]
    refine Ev.step (fun k => ?_) (text_l2 (nines xs) (nines_dig xs) (by rw [nines_len]; omega))
    simp only [rentierref2_N_Text.l0]
    rw [if_neg (by omega)]
  | d + 1, i, hi => by
    have h1 := hd.get i NB_pos
    unfold NB at h1
    have ex : rd xs (i : Int) = (((xs.getD i 0).toNat : Nat) : Int) := by
      unfold rd
      rw [Int.toNat_natCast]; omega
    have ew : wrap64 ((i : Int) + 1) = ((i + 1 : Nat) : Int) := by unfold wrap64; omega
    refine Ev.step (f := fun k => rentierref2_N_Text.l1 k xs ⟨(nines (xs.take i)).toArray⟩ (i : Int) (((xs.getD i 0).toNat : Nat) : Int) ((0 : Nat) : Int)) (fun k => ?_) ?_
    · simp only [rentierref2_N_Text.l0]
      rw [if_pos (by omega), if_pos (by omega), ex]
      rfl
    · refine text_l1 xs i 9 0 (xs.getD i 0).toNat (nines (xs.take i)) rfl ?_ ?_ _ ?_
      · show _ < 1000000000; omega
      · rw [nines_len, List.length_take]; omega
      · have e2 : Decimal.pad 9 (xs.getD i 0).toNat ++ nines (xs.take i) = nines (xs.take (i + 1)) := by
          rw [← nines_snoc]
          congr 1
          rw [List.take_add_one, List.getElem?_eq_getElem (show i < xs.length by omega)]
          simp [List.getD_eq_getElem?_getD, List.getElem?_eq_getElem (show i < xs.length by omega)]
        rw [e2, ew]
        exact text_l0 xs hd hl d (i + 1) (by omega)

theorem text_law {xs : List Int} {n : Nat} (h : LimN xs n) (hl : xs.length ≤ 1000000000000) : Ev (fun k => rentierref2_N_Text.f k xs) ⟨(decDigits n).toArray⟩ := by
  have h1 := text_l0 xs h.dig hl xs.length 0 (by omega)
  have h2 := nines_num h.dig
  rw [h.val] at h2
  have h3 : Decimal.num (nines xs) = n := by omega
  rw [h3] at h1
  exact h1

/-- A slice that reads as a number of the document's. -/
def IsN (w : World) (v : Value) (n : Nat) : Prop := ∃ A c xs, v = .slice A xs.length c ∧ xs.length ≤ c ∧ U.C w A xs.length xs ∧ LimN xs n ∧ xs.length ≤ 1000000000
theorem IsN.ext {w w' : World} {v : Value} {n : Nat} (h : IsN w v n) (he : Ext w w') : IsN w' v n := by
  obtain ⟨A, c, xs, h1, h2, h3, h4⟩ := h
  exact ⟨A, c, xs, h1, h2, Kd.C_below h3 he, h4⟩
theorem IsN.of_row {w : World} {v : Value} {base : Nat} {ok : Nat → Prop} {xs : List Int} {n : Nat} (h : Kd.R (Kd.int .u64) 57 w base ok v xs) (hL : LimN xs n) (hl : xs.length ≤ 1000000000) : IsN w v n := by
  obtain ⟨A, c, rfl⟩ := Kd.R_slice h
  have h2 := Kd.R_reads' h
  exact ⟨A, c, xs, rfl, h2.2.1, h2.2.2, hL, hl⟩
/-- An integer of the document's. -/
def IsI (w : World) (v : Value) (z : Int) : Prop := ∃ u, v = .agg #[.bool (decide (z < 0)), u] ∧ IsN w u z.natAbs
theorem IsI.ext {w w' : World} {v : Value} {z : Int} (h : IsI w v z) (he : Ext w w') : IsI w' v z := by
  obtain ⟨u, h1, h2⟩ := h
  exact ⟨u, h1, h2.ext he⟩

theorem refof_any {z : Int} (h0 : -9223372036854775808 ≤ z) (h1 : z ≤ 9223372036854775807) (w : World) : Calls Tryz.prog 29 #[.int .i64 z] w (Ans (fun r w' => IsI w' r z) w) := by
  obtain ⟨ds, k1, k2, k3⟩ := of_law h0 h1
  obtain ⟨k, hk⟩ := k3.rounds
  refine (rentierref2_Of.calls k z _ ds w hk).mono ?_
  rintro e w' ⟨v, rfl, hR, hb⟩
  exact ⟨_, rfl, ⟨v, rfl, IsN.of_row hR k1 (by omega)⟩, hb⟩
theorem reftext_any {w : World} {v : Value} {n : Nat} (h : IsN w v n) : Calls Tryz.prog 106 #[v] w fun e w' => e = .returned (tx (decDigits n)) ∧ Ext w w' := by
  obtain ⟨A, c, xs, rfl, h2, h3, h4, h5⟩ := h
  obtain ⟨k, hk⟩ := (text_law h4 (by omega)).rounds
  refine (rentierref2_N_Text.calls k A c xs _ w h3 h2 hk).mono ?_
  rintro e w' ⟨rfl, hb⟩
  exact ⟨rfl, hb⟩
end Go.Proofs.YtdlcleecjeipnaaGreatDoor

/- The document's text of a decimal. -/
namespace Go.Proofs.YtdlcleecjeipnaaGreatDoor
open Go.RowKit Go.Proofs.YtdlcleecjeipnaaGreatDoorW.PrintWords Limbs Go.Sort Go.Lib
set_option linter.unusedVariables false

set_option maxHeartbeats 2000000 in
theorem rdec_0 {w : World} {v : Value} {z : Int} {p : Nat} (h : IsI w v z) (hz : z.natAbs < BIG) (hp : p = 0) (hp2 : p ≤ 4194304) (hn : 0 ≤ z) :
    Calls Tryz.prog 28 #[v, .int .i64 p] w fun e w' => e = .returned (tx (ptx z p)) ∧ Ext w w' := by
  obtain ⟨u, rfl, hu⟩ := h
  rw [show decide (z < 0) = false from decide_eq_false (by omega)]
  have CT := Lib.hid (fun W (hW : Ext w W) => reftext_any (hu.ext hW))
  have hdl := dec_len hz
  have hd0 := Decimal.dec_ne_nil z.natAbs
  obtain ⟨A, c, xs, rfl, -⟩ := hu
  obtain ⟨dl, hdd⟩ : ∃ dl, decDigits z.natAbs = dl := ⟨_, rfl⟩
  rw [hdd] at CT hdl hd0
  have hd1 : 0 < dl.length := List.length_pos_iff.2 hd0
  obtain ⟨cn, hcn⟩ : ∃ cn, p + 1 - dl.length = cn := ⟨_, rfl⟩
  subst hp
  have hcn0 : cn = 0 := by omega
  subst hcn0
  obtain ⟨E4, hE4⟩ : ∃ E4 : ByteArray, (⟨dl.toArray⟩ : ByteArray) = E4 := ⟨_, rfl⟩
  have EZ : Hid (tx (ptx z 0) = .string E4) := Lib.hid (by
    unfold ptx body
    rw [if_neg (by omega)]
    rw [if_pos rfl, hdd, ← hE4]
    rfl)
  have z4 : E4.size = dl.length := by rw [← hE4]; rfl
  have HE4 := Lib.hid hE4
  obtain ⟨dn, hdn⟩ : ∃ n, dl.length = n := ⟨_, rfl⟩
  have HD := Lib.hid hdn
  rw [hdn] at hdl hd1 z4
  clear hz hdd hd0 hdn hn hcn hE4
  go_enter Tryz.func28, Tryz.ntmps28
  go_wp2_with fail
  refine (CT.out _ (Ext.alloc w _)).mono ?_
  rintro e w1 ⟨rfl, hx1⟩
  have c0 : w1.cell? ⟨w.heap.size, 0, none⟩ = some (.bool false) := hx1.cell (by simp)
  have hx : Ext w w1 := (Ext.alloc w _).trans hx1
  clear CT hx1
  unfold tx
  go_wp2_with fail
  go_loopg [5] 1 (fun g sv wr => sv = .string ⟨dl.toArray⟩ ∧ w1 = wr)
  case atStart => exact ⟨rfl, rfl⟩
  case round =>
    obtain ⟨rfl, rfl⟩ := hrel
    rw [HE4.out]
    go_wp2
    go_ret
    exact ⟨by rw [EZ.out]; rfl, hx⟩

set_option maxHeartbeats 2000000 in
theorem rdec_0n {w : World} {v : Value} {z : Int} {p : Nat} (h : IsI w v z) (hz : z.natAbs < BIG) (hp : p = 0) (hp2 : p ≤ 4194304) (hn : z < 0) :
    Calls Tryz.prog 28 #[v, .int .i64 p] w fun e w' => e = .returned (tx (ptx z p)) ∧ Ext w w' := by
  obtain ⟨u, rfl, hu⟩ := h
  rw [show decide (z < 0) = true from decide_eq_true hn]
  have CT := Lib.hid (fun W (hW : Ext w W) => reftext_any (hu.ext hW))
  have hdl := dec_len hz
  have hd0 := Decimal.dec_ne_nil z.natAbs
  obtain ⟨A, c, xs, rfl, -⟩ := hu
  obtain ⟨dl, hdd⟩ : ∃ dl, decDigits z.natAbs = dl := ⟨_, rfl⟩
  rw [hdd] at CT hdl hd0
  have hd1 : 0 < dl.length := List.length_pos_iff.2 hd0
  obtain ⟨cn, hcn⟩ : ∃ cn, p + 1 - dl.length = cn := ⟨_, rfl⟩
  subst hp
  have hcn0 : cn = 0 := by omega
  subst hcn0
  obtain ⟨E4, hE4⟩ : ∃ E4 : ByteArray, (⟨dl.toArray⟩ : ByteArray) = E4 := ⟨_, rfl⟩
  obtain ⟨E5, hE5⟩ : ∃ E5 : ByteArray, ⟨#[45]⟩ ++ E4 = E5 := ⟨_, rfl⟩
  have EZ : Hid (tx (ptx z 0) = .string E5) := Lib.hid (by
    unfold ptx body
    rw [if_pos hn]
    rw [if_pos rfl, hdd, ← hE5, ← hE4]
    rw [show (⟨#[45]⟩ : ByteArray) = ⟨[45].toArray⟩ from rfl, tx_append]; rfl)
  have z4 : E4.size = dl.length := by rw [← hE4]; rfl
  have HE4 := Lib.hid hE4
  obtain ⟨dn, hdn⟩ : ∃ n, dl.length = n := ⟨_, rfl⟩
  have HD := Lib.hid hdn
  rw [hdn] at hdl hd1 z4
  clear hz hdd hd0 hdn hn hcn hE4
  go_enter Tryz.func28, Tryz.ntmps28
  go_wp2_with fail
  refine (CT.out _ (Ext.alloc w _)).mono ?_
  rintro e w1 ⟨rfl, hx1⟩
  have c0 : w1.cell? ⟨w.heap.size, 0, none⟩ = some (.bool true) := hx1.cell (by simp)
  have hx : Ext w w1 := (Ext.alloc w _).trans hx1
  clear CT hx1
  unfold tx
  go_wp2_with fail
  go_loopg [5] 1 (fun g sv wr => sv = .string ⟨dl.toArray⟩ ∧ w1 = wr)
  case atStart => exact ⟨rfl, rfl⟩
  case round =>
    obtain ⟨rfl, rfl⟩ := hrel
    rw [HE4.out]
    go_wp2
    go_ret
    exact ⟨by rw [EZ.out]; rfl, hx⟩

set_option maxHeartbeats 2000000 in
theorem rdec_p {w : World} {v : Value} {z : Int} {p : Nat} (h : IsI w v z) (hz : z.natAbs < BIG) (hp : 0 < p) (hp2 : p ≤ 4194304) (hn : 0 ≤ z) :
    Calls Tryz.prog 28 #[v, .int .i64 p] w fun e w' => e = .returned (tx (ptx z p)) ∧ Ext w w' := by
  obtain ⟨u, rfl, hu⟩ := h
  rw [show decide (z < 0) = false from decide_eq_false (by omega)]
  have CT := Lib.hid (fun W (hW : Ext w W) => reftext_any (hu.ext hW))
  have hdl := dec_len hz
  have hd0 := Decimal.dec_ne_nil z.natAbs
  obtain ⟨A, c, xs, rfl, -⟩ := hu
  obtain ⟨dl, hdd⟩ : ∃ dl, decDigits z.natAbs = dl := ⟨_, rfl⟩
  rw [hdd] at CT hdl hd0
  have hd1 : 0 < dl.length := List.length_pos_iff.2 hd0
  obtain ⟨cn, hcn⟩ : ∃ cn, p + 1 - dl.length = cn := ⟨_, rfl⟩
  have hm : (List.replicate cn 48 ++ dl).length = (cn + dl.length - p) + p := by rw [List.length_append, List.length_replicate]; omega
  obtain ⟨E1, E2, E3, E4, hP⟩ := Pieces.of hm
  obtain ⟨m, hm1⟩ : ∃ m : Nat, cn + dl.length - p = m := ⟨_, rfl⟩
  rw [hm1] at hP hm
  have EZ : Hid (tx (ptx z p) = .string E4) := Lib.hid (by
    unfold ptx body
    rw [if_neg (by omega)]
    rw [if_neg (by omega), hdd, hcn, hP.fin]
    rfl)
  have q1 := hP.e1
  have q2 := hP.e2
  have q3 := hP.e3
  have q4 := hP.e4
  have z1 := hP.s1
  have z2 := hP.s2
  have z3 := hP.s3
  have s0 := hP.s
  have z4 : E4.size = m + 1 + p := by rw [← q4, ByteArray.size_append, z3, z2]
  have hm0 : 0 < m := by omega
  have hmb : m + p ≤ 33554432 := by omega
  obtain ⟨SF, hSF⟩ : ∃ S : ByteArray, Hid ((⟨(List.replicate cn 48 ++ dl).toArray⟩ : ByteArray) = S) := ⟨_, Lib.hid rfl⟩
  rw [hSF.out] at q1 q2 s0
  have HL : Hid (p + 1 - dl.length = cn) := Lib.hid hcn
  obtain ⟨dn, hdn⟩ : ∃ n, dl.length = n := ⟨_, rfl⟩
  have HD := Lib.hid hdn
  rw [hdn] at hdl hd1
  have hcnb : cn ≤ 4194305 := by omega
  have hcd : p + 1 - dn = cn := by omega
  clear hz hdd hd0 hdn hn hcn hm hP hm1
  have HC := Lib.hid hcd
  clear hcd
  go_enter Tryz.func28, Tryz.ntmps28
  go_wp2_with fail
  refine (CT.out _ (Ext.alloc w _)).mono ?_
  rintro e w1 ⟨rfl, hx1⟩
  have c0 : w1.cell? ⟨w.heap.size, 0, none⟩ = some (.bool false) := hx1.cell (by simp)
  have hx : Ext w w1 := (Ext.alloc w _).trans hx1
  clear CT hx1
  unfold tx
  go_wp2_with fail
  go_loopg [5] (cn + 1) (fun g sv wr => ∃ j, sv = .string ⟨(List.replicate j 48 ++ dl).toArray⟩ ∧ j ≤ cn ∧ Hid (g = cn + 1 - j) ∧ w1 = wr)
  case atStart => exact ⟨0, rfl, by omega, Lib.hid (by omega), rfl⟩
  case round =>
    obtain ⟨j, rfl, hj, hg, rfl⟩ := hrel
    by_cases hjn : j = cn
    · subst hjn
      rw [hSF.out]
      have hge : ¬ ((m : Int) + p ≤ p) := by omega
      clear hg hj
      go_wp2_with fail
      go_quiet (fail)
      go_wp2
      go_ret
      exact ⟨by rw [EZ.out]; rfl, hx.trans (Ext.drewN _ _)⟩
    · obtain ⟨V, hV⟩ : ∃ V : ByteArray, (⟨(List.replicate j 48 ++ dl).toArray⟩ : ByteArray) = V := ⟨_, rfl⟩
      have hVs : V.size = j + dn := by rw [← hV, ← HD.out]; show (List.toArray _).size = _; simp
      obtain ⟨V2, hV2⟩ : ∃ V : ByteArray, Hid ((⟨(List.replicate (j + 1) 48 ++ dl).toArray⟩ : ByteArray) = V) := ⟨_, Lib.hid rfl⟩
      have hcat : ⟨#[48]⟩ ++ V = V2 := by
        rw [← hV2.out, ← hV, show (⟨#[48]⟩ : ByteArray) = ⟨[48].toArray⟩ from rfl, tx_append]
        rfl
      have hle : ((j : Int) + dn ≤ p) := by have := HC.out; omega
      have HN := Lib.hid hjn
      have HJ := Lib.hid hj
      rw [hV]
      clear hV hjn q1 q2 q3 q4
      go_wp2
      go_roundg (cn + 1 - (j + 1))
      case measure => have := hg.out; have := HN.out; have := HJ.out; omega
      case rel => exact ⟨j + 1, by rw [hV2.out], by have := HN.out; have := HJ.out; omega, Lib.hid rfl, rfl⟩

set_option maxHeartbeats 2000000 in
theorem rdec_pn {w : World} {v : Value} {z : Int} {p : Nat} (h : IsI w v z) (hz : z.natAbs < BIG) (hp : 0 < p) (hp2 : p ≤ 4194304) (hn : z < 0) :
    Calls Tryz.prog 28 #[v, .int .i64 p] w fun e w' => e = .returned (tx (ptx z p)) ∧ Ext w w' := by
  obtain ⟨u, rfl, hu⟩ := h
  rw [show decide (z < 0) = true from decide_eq_true hn]
  have CT := Lib.hid (fun W (hW : Ext w W) => reftext_any (hu.ext hW))
  have hdl := dec_len hz
  have hd0 := Decimal.dec_ne_nil z.natAbs
  obtain ⟨A, c, xs, rfl, -⟩ := hu
  obtain ⟨dl, hdd⟩ : ∃ dl, decDigits z.natAbs = dl := ⟨_, rfl⟩
  rw [hdd] at CT hdl hd0
  have hd1 : 0 < dl.length := List.length_pos_iff.2 hd0
  obtain ⟨cn, hcn⟩ : ∃ cn, p + 1 - dl.length = cn := ⟨_, rfl⟩
  have hm : (List.replicate cn 48 ++ dl).length = (cn + dl.length - p) + p := by rw [List.length_append, List.length_replicate]; omega
  obtain ⟨E1, E2, E3, E4, hP⟩ := Pieces.of hm
  obtain ⟨m, hm1⟩ : ∃ m : Nat, cn + dl.length - p = m := ⟨_, rfl⟩
  rw [hm1] at hP hm
  obtain ⟨E5, hE5⟩ : ∃ E5 : ByteArray, ⟨#[45]⟩ ++ E4 = E5 := ⟨_, rfl⟩
  have EZ : Hid (tx (ptx z p) = .string E5) := Lib.hid (by
    unfold ptx body
    rw [if_pos hn]
    rw [if_neg (by omega), hdd, hcn, ← hE5, hP.fin]
    rw [show (⟨#[45]⟩ : ByteArray) = ⟨[45].toArray⟩ from rfl, tx_append]; rfl)
  have q1 := hP.e1
  have q2 := hP.e2
  have q3 := hP.e3
  have q4 := hP.e4
  have z1 := hP.s1
  have z2 := hP.s2
  have z3 := hP.s3
  have s0 := hP.s
  have z4 : E4.size = m + 1 + p := by rw [← q4, ByteArray.size_append, z3, z2]
  have hm0 : 0 < m := by omega
  have hmb : m + p ≤ 33554432 := by omega
  obtain ⟨SF, hSF⟩ : ∃ S : ByteArray, Hid ((⟨(List.replicate cn 48 ++ dl).toArray⟩ : ByteArray) = S) := ⟨_, Lib.hid rfl⟩
  rw [hSF.out] at q1 q2 s0
  have HL : Hid (p + 1 - dl.length = cn) := Lib.hid hcn
  obtain ⟨dn, hdn⟩ : ∃ n, dl.length = n := ⟨_, rfl⟩
  have HD := Lib.hid hdn
  rw [hdn] at hdl hd1
  have hcnb : cn ≤ 4194305 := by omega
  have hcd : p + 1 - dn = cn := by omega
  clear hz hdd hd0 hdn hn hcn hm hP hm1
  have HC := Lib.hid hcd
  clear hcd
  go_enter Tryz.func28, Tryz.ntmps28
  go_wp2_with fail
  refine (CT.out _ (Ext.alloc w _)).mono ?_
  rintro e w1 ⟨rfl, hx1⟩
  have c0 : w1.cell? ⟨w.heap.size, 0, none⟩ = some (.bool true) := hx1.cell (by simp)
  have hx : Ext w w1 := (Ext.alloc w _).trans hx1
  clear CT hx1
  unfold tx
  go_wp2_with fail
  go_loopg [5] (cn + 1) (fun g sv wr => ∃ j, sv = .string ⟨(List.replicate j 48 ++ dl).toArray⟩ ∧ j ≤ cn ∧ Hid (g = cn + 1 - j) ∧ w1 = wr)
  case atStart => exact ⟨0, rfl, by omega, Lib.hid (by omega), rfl⟩
  case round =>
    obtain ⟨j, rfl, hj, hg, rfl⟩ := hrel
    by_cases hjn : j = cn
    · subst hjn
      rw [hSF.out]
      have hge : ¬ ((m : Int) + p ≤ p) := by omega
      clear hg hj
      go_wp2_with fail
      go_quiet (fail)
      go_wp2
      go_ret
      exact ⟨by rw [EZ.out]; rfl, hx.trans (Ext.drewN _ _)⟩
    · obtain ⟨V, hV⟩ : ∃ V : ByteArray, (⟨(List.replicate j 48 ++ dl).toArray⟩ : ByteArray) = V := ⟨_, rfl⟩
      have hVs : V.size = j + dn := by rw [← hV, ← HD.out]; show (List.toArray _).size = _; simp
      obtain ⟨V2, hV2⟩ : ∃ V : ByteArray, Hid ((⟨(List.replicate (j + 1) 48 ++ dl).toArray⟩ : ByteArray) = V) := ⟨_, Lib.hid rfl⟩
      have hcat : ⟨#[48]⟩ ++ V = V2 := by
        rw [← hV2.out, ← hV, show (⟨#[48]⟩ : ByteArray) = ⟨[48].toArray⟩ from rfl, tx_append]
        rfl
      have hle : ((j : Int) + dn ≤ p) := by have := HC.out; omega
      have HN := Lib.hid hjn
      have HJ := Lib.hid hj
      rw [hV]
      clear hV hjn q1 q2 q3 q4
      go_wp2
      go_roundg (cn + 1 - (j + 1))
      case measure => have := hg.out; have := HN.out; have := HJ.out; omega
      case rel => exact ⟨j + 1, by rw [hV2.out], by have := HN.out; have := HJ.out; omega, Lib.hid rfl, rfl⟩

theorem rdec_any {w : World} {v : Value} {z : Int} {p : Nat} (h : IsI w v z) (hz : z.natAbs < BIG) (hp : p ≤ 4194304) :
    Calls Tryz.prog 28 #[v, .int .i64 p] w fun e w' => e = .returned (tx (ptx z p)) ∧ Ext w w' := by
  rcases Nat.eq_zero_or_pos p with h0 | h0
  · rcases Int.lt_or_le z 0 with hn | hn
    · have := rdec_0n h hz h0 hp hn
      exact this
    · exact rdec_0 h hz h0 hp hn
  · rcases Int.lt_or_le z 0 with hn | hn
    · exact rdec_pn h hz h0 hp hn
    · exact rdec_p h hz h0 hp hn
end Go.Proofs.YtdlcleecjeipnaaGreatDoor
