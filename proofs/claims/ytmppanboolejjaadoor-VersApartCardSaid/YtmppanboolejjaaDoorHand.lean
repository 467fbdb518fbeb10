/- slices.Delete and slices.Insert of this seat, walked; the environment for closed laws. Printed by mkhand.py. -/
import Derived.Test.YtmppanboolejjaaDoorAb
import Derived.Test.YtmppanboolejjaaDoorAbExt
import Derived.Lib.AppendZeros
import Derived.Lib.AppendZerosOnto
import Derived.Lib.Overlaps
import Derived.Laws.Externs
import Derived.Laws.IdiomCopy
import Derived.Shelf.Spec.SlicesInsert
import Derived.WalkKit
import Derived.LaidEql
import Derived.Stop.Asserts
import Derived.RowKitTokens
set_option maxRecDepth 100000
set_option maxHeartbeats 4000000
namespace Go.Ab
open Go Go.Proofs
end Go.Ab
namespace Go.Hand
open Go Go.Proofs Go.RowKit Go.Extern.Stop Go.Stop Go.Extern
theorem rlm (z : Sem Value) (f : TypeId → Addr → Nat → Nat → Sem Value) (v : Value) :
    ReflectliteValue.method z f #[v] = (do match ← ReflectliteValue.parts v with | none => z | some (t, a, fl) => f t a fl (fl % 32)) := rfl
theorem rls (v x : Value) : ReflectliteValue.set #[v, x] = (do
    let (some (dst, a, fl), some (src, b, _)) := (← ReflectliteValue.parts v, ← ReflectliteValue.parts x)
      | unsupported (.noEntry "extern/(internal/reflectlite.Value).Set.zeroValue")
    if fl / ReflectliteValue.flagAddr % 2 == 0 then unsupported (.noEntry "extern/(internal/reflectlite.Value).Set.unaddressable")
    let val ← loadVar src b
    if ← Rtype.directlyAssignable dst src then storeVar dst a val
    else if ← Rtype.implements dst src then
      if (← Rtype.kind src) == 20 then
        match val with
        | .nilIface => unsupported (.noEntry "extern/reflectlite: a nil value of one interface type handed on as a value of another")
        | _ => storeVar dst a val
      else storeVar dst a (.iface src val)
    else panicString ("reflectlite.Set: value of type " ++ (← Rtype.spelt src) ++ " is not assignable to type " ++ (← Rtype.spelt dst))
    pure (.tuple #[])) := rfl
theorem valueOfP46 (x : Value) (w : World) : ((fun args => ReflectliteValue.unpack (args.getD 0 (.tuple #[]))) #[.iface 46 x]).run Tryd.prog w = .ok (.agg #[.pointer (some ⟨4, 46, none⟩), .pointer (some ⟨w.heap.size, 0, none⟩), .int .u64 150]) (w.alloc (.cells x.cells 46)) := by kernel_rfl
theorem valueOfE41 (x : Value) (w : World) : ((fun args => ReflectliteValue.unpack (args.getD 0 (.tuple #[]))) #[.iface 41 x]).run Tryd.prog w = .ok (.agg #[.pointer (some ⟨4, 41, none⟩), .pointer (some ⟨w.heap.size, 0, none⟩), .int .u64 150]) (w.alloc (.cells x.cells 41)) := by kernel_rfl
theorem type46 (a : Addr) (w : World) : (ReflectliteValue.methodAny (ReflectliteValue.valueError "reflectlite.Value.Type" 0) (fun t _ _ _ => ReflectliteType.toType t) #[.agg #[.pointer (some ⟨4, 46, none⟩), .pointer (some a), .int .u64 150]]).run Tryd.prog w = .ok (.iface 81 (.agg #[.pointer (some ⟨4, 46, none⟩)])) w := by kernel_rfl
theorem kindP46 (w : World) : ((ReflectliteType.abiMethod fun t => do pure (.int .u8 (← Rtype.kind t))) #[.pointer (some ⟨4, 46, none⟩)]).run Tryd.prog w = .ok (.int .u8 22) w := by kernel_rfl
theorem kindE41 (w : World) : ((ReflectliteType.abiMethod fun t => do pure (.int .u8 (← Rtype.kind t))) #[.pointer (some ⟨4, 41, none⟩)]).run Tryd.prog w = .ok (.int .u8 22) w := by kernel_rfl
theorem parts46 (a : Addr) (w : World) : (ReflectliteValue.parts (.agg #[.pointer (some ⟨4, 46, none⟩), .pointer (some a), .int .u64 150])).run Tryd.prog w = .ok (some (46, a, 150)) w := by kernel_rfl
theorem isNil46 (a p : Addr) (W : World) (ha : W.cell? a = some (.pointer (some p))) :
    (ReflectliteValue.method (ReflectliteValue.valueError "reflectlite.Value.IsNil" 0) ReflectliteValue.isNil #[.agg #[.pointer (some ⟨4, 46, none⟩), .pointer (some a), .int .u64 150]]).run Tryd.prog W = .ok (.bool false) W := by
  rw [rlm]
  simp only [Sem.run_bind, parts46, Result.andThen]
  simp [ReflectliteValue.isNil, loadVar, isAgg, underlying, Tryd.underlying46, ha, Result.andThen]
theorem elem46 (w : World) : (ReflectliteType.method ReflectliteType.elem #[.agg #[.pointer (some ⟨4, 46, none⟩)]]).run Tryd.prog w = .ok (.iface 81 (.agg #[.pointer (some ⟨4, 41, none⟩)])) w := by kernel_rfl
theorem implements41 (rt : TypeId) (w : World) : (ReflectliteType.relation "Implements" ReflectliteType.implements_ #[.agg #[.pointer (some ⟨4, 41, none⟩)], .iface rt (.agg #[.pointer (some ⟨4, 44, none⟩)])]).run Tryd.prog w = .ok (.bool true) w := by kernel_rfl
theorem elemOf46 (w : World) : (Rtype.elem? 46).run Tryd.prog w = .ok (some 41) w := by kernel_rfl
theorem mk41 (p : Addr) (w : World) : (ReflectliteValue.mk 41 p ReflectliteValue.flagAddr).run Tryd.prog w = .ok (.agg #[.pointer (some ⟨4, 41, none⟩), .pointer (some p), .int .u64 406]) w := by kernel_rfl
theorem elemV46 (a p : Addr) (W : World) (ha : W.cell? a = some (.pointer (some p))) :
    (ReflectliteValue.method (ReflectliteValue.valueError "reflectlite.Value.Elem" 0) ReflectliteValue.elem #[.agg #[.pointer (some ⟨4, 46, none⟩), .pointer (some a), .int .u64 150]]).run Tryd.prog W
      = .ok (.agg #[.pointer (some ⟨4, 41, none⟩), .pointer (some p), .int .u64 406]) W := by
  rw [rlm]
  simp only [Sem.run_bind, parts46, Result.andThen]
  simp [ReflectliteValue.elem, loadVar, isAgg, underlying, Tryd.underlying46, ha, Result.andThen, elemOf46, mk41]
theorem parts41a (a : Addr) (w : World) : (ReflectliteValue.parts (.agg #[.pointer (some ⟨4, 41, none⟩), .pointer (some a), .int .u64 406])).run Tryd.prog w = .ok (some (41, a, 406)) w := by kernel_rfl
theorem parts41 (a : Addr) (w : World) : (ReflectliteValue.parts (.agg #[.pointer (some ⟨4, 41, none⟩), .pointer (some a), .int .u64 150])).run Tryd.prog w = .ok (some (41, a, 150)) w := by kernel_rfl
theorem direct41 (w : World) : (Rtype.directlyAssignable 41 41).run Tryd.prog w = .ok true w := by kernel_rfl
theorem size41 (w : World) : (sizeOf 41).run Tryd.prog w = .ok 1 w := by kernel_rfl
theorem load41 (b : Addr) (x : Value) (W : World) (hb : W.cell? b = some x) : (loadVar 41 b).run Tryd.prog W = .ok x W := by
  simp [loadVar, isAgg, underlying, Tryd.underlying41, hb, Result.andThen]
theorem set41 (ta b : Addr) (x old : Value) (W : World) (hb : W.cell? b = some x) (ht : W.cell? ta = some old) (hf : W.frozen? ta = false) (_hx : x.oneCell' = true) :
    (ReflectliteValue.set #[.agg #[.pointer (some ⟨4, 41, none⟩), .pointer (some ta), .int .u64 406], .agg #[.pointer (some ⟨4, 41, none⟩), .pointer (some b), .int .u64 150]]).run Tryd.prog W
      = .ok (.tuple #[]) (W.setCell ta x) := by
  rw [rls]
  have h0 : ta.add 0 = ta := by simp [Addr.add]
  simp only [Sem.run_bind, parts41a, parts41, Result.andThen]
  simp [ReflectliteValue.flagAddr, load41 b x W hb, Result.andThen, direct41, storeVar, Go.Ab.cells1 _hx, storeCells, h0]
  rw [run_store Tryd.prog W ta _ _ _hx]
  simp [ht, hf]
theorem rel9_41 (rt : TypeId) (w : World) : (ReflectliteType.relation "AssignableTo" ReflectliteType.assignableTo #[.agg #[.pointer (some ⟨4, 9, none⟩)], .iface rt (.agg #[.pointer (some ⟨4, 41, none⟩)])]).run Go.Proofs.Tryd.prog w = .ok (.bool false) w := by kernel_rfl
theorem rel41_41 (rt : TypeId) (w : World) : (ReflectliteType.relation "AssignableTo" ReflectliteType.assignableTo #[.agg #[.pointer (some ⟨4, 41, none⟩)], .iface rt (.agg #[.pointer (some ⟨4, 41, none⟩)])]).run Go.Proofs.Tryd.prog w = .ok (.bool true) w := by kernel_rfl
theorem rel46_41 (rt : TypeId) (w : World) : (ReflectliteType.relation "AssignableTo" ReflectliteType.assignableTo #[.agg #[.pointer (some ⟨4, 46, none⟩)], .iface rt (.agg #[.pointer (some ⟨4, 41, none⟩)])]).run Go.Proofs.Tryd.prog w = .ok (.bool false) w := by kernel_rfl
theorem rel73_41 (rt : TypeId) (w : World) : (ReflectliteType.relation "AssignableTo" ReflectliteType.assignableTo #[.agg #[.pointer (some ⟨4, 73, none⟩)], .iface rt (.agg #[.pointer (some ⟨4, 41, none⟩)])]).run Go.Proofs.Tryd.prog w = .ok (.bool false) w := by kernel_rfl
theorem rel97_41 (rt : TypeId) (w : World) : (ReflectliteType.relation "AssignableTo" ReflectliteType.assignableTo #[.agg #[.pointer (some ⟨4, 97, none⟩)], .iface rt (.agg #[.pointer (some ⟨4, 41, none⟩)])]).run Go.Proofs.Tryd.prog w = .ok (.bool false) w := by kernel_rfl
theorem rel113_41 (rt : TypeId) (w : World) : (ReflectliteType.relation "AssignableTo" ReflectliteType.assignableTo #[.agg #[.pointer (some ⟨4, 113, none⟩)], .iface rt (.agg #[.pointer (some ⟨4, 41, none⟩)])]).run Go.Proofs.Tryd.prog w = .ok (.bool false) w := by kernel_rfl
theorem rel117_41 (rt : TypeId) (w : World) : (ReflectliteType.relation "AssignableTo" ReflectliteType.assignableTo #[.agg #[.pointer (some ⟨4, 117, none⟩)], .iface rt (.agg #[.pointer (some ⟨4, 41, none⟩)])]).run Go.Proofs.Tryd.prog w = .ok (.bool false) w := by kernel_rfl
theorem rel159_41 (rt : TypeId) (w : World) : (ReflectliteType.relation "AssignableTo" ReflectliteType.assignableTo #[.agg #[.pointer (some ⟨4, 159, none⟩)], .iface rt (.agg #[.pointer (some ⟨4, 41, none⟩)])]).run Go.Proofs.Tryd.prog w = .ok (.bool false) w := by kernel_rfl
end Go.Hand
namespace Go.Ab
open Go Go.Proofs
def Tryd.meths : List (Nat × String × Nat × Bool) := [(73, "Unwrap", 85, false), (81, "AssignableTo", 87, false), (81, "Comparable", 88, false), (81, "Elem", 89, false), (81, "Implements", 90, false), (113, "Unwrap", 99, false), (117, "Unwrap", 101, false), (81, "Kind", 76, true)]
theorem Tryd.methsOk : MethTab Go.Proofs.Tryd.prog Tryd.meths := ⟨fun w v => by kernel_rfl, fun w v => by kernel_rfl, fun w v => by kernel_rfl, fun w v => by kernel_rfl, fun w v => by kernel_rfl, fun w v => by kernel_rfl, fun w v => by kernel_rfl, fun w v => by kernel_rfl, trivial⟩
def Tryd.tas : List (Nat × Nat × Bool) := [(9, 86, false), (9, 89, false), (9, 91, false), (9, 110, false), (41, 86, false), (41, 89, false), (41, 91, false), (41, 110, false), (46, 86, false), (46, 89, false), (46, 91, false), (46, 110, false), (73, 86, false), (73, 89, true), (73, 91, false), (73, 110, false), (97, 86, false), (97, 89, false), (97, 91, false), (97, 110, false), (113, 86, false), (113, 89, false), (113, 91, true), (113, 110, false), (117, 86, false), (117, 89, true), (117, 91, false), (117, 110, false), (159, 86, false), (159, 89, false), (159, 91, false), (159, 110, false)]
theorem Tryd.tasOk : taB Go.Proofs.Tryd.prog Tryd.tas = true := by kernel_rfl
def Tryd.cmps : List (Nat × Bool) := [(9, true), (41, true), (46, true), (73, true), (97, true), (113, true), (117, true), (159, true)]
theorem Tryd.cmpsOk : HandleTab Go.Proofs.Tryd.prog (Extern.ReflectliteType.method fun t => do Extern.Rtype.noPackHeld "Comparable" t; pure (.bool (← typeInfo t).comparable)) 4 Tryd.cmps := ⟨fun w => by kernel_rfl, fun w => by kernel_rfl, fun w => by kernel_rfl, fun w => by kernel_rfl, fun w => by kernel_rfl, fun w => by kernel_rfl, fun w => by kernel_rfl, fun w => by kernel_rfl, trivial⟩
theorem Tryd.typeOf (t : TypeId) (v : Value) (w : World) : (Extern.ReflectliteType.typeOf #[.iface t v]).run Go.Proofs.Tryd.prog w = .ok (.iface 81 (.agg #[.pointer (some ⟨4, t, none⟩)])) w := by kernel_rfl
noncomputable def Tryd.E : Env := { cfg := Tryd.cfg, fn := look1 Tryd.fns, meth := lookM Tryd.meths, ta := look2o Tryd.tas, known := orK (kIdx 61) (orK (kHandle 88 4 Tryd.cmps) (orK (kTypeOf 32 81 4) (orK (kValueOf 23 4 46 150) (orK (kValueOf 23 4 41 150) (orK (kPat 24 (patType 4 81 46 150)) (orK (kPat 76 (patKind 4 46 22)) (orK (kPat 76 (patKind 4 41 22)) (orK (kPat 25 (patIsNil 4 46 150)) (orK (kPat 89 (patElem 4 81 46 41)) (orK (kPat 90 (patRel 4 41 44 true)) (orK (kPat 33 (patElemV 4 46 41 150 406)) (orK (kSet 34 4 41 406 150) (orK (kPat 87 (patRel 4 9 41 false)) (orK (kPat 87 (patRel 4 41 41 true)) (orK (kPat 87 (patRel 4 46 41 false)) (orK (kPat 87 (patRel 4 73 41 false)) (orK (kPat 87 (patRel 4 97 41 false)) (orK (kPat 87 (patRel 4 113 41 false)) (orK (kPat 87 (patRel 4 117 41 false)) (orK (kPat 87 (patRel 4 159 41 false)) (fun _ _ _ => none))))))))))))))))))))) }
theorem Tryd.envOk : EnvOk Go.Proofs.Tryd.prog Tryd.phi Tryd.X Tryd.E := Go.Ab.envOk Tryd.ok rfl rfl rfl Tryd.fnsOk (fun _ _ _ _ h => MethTab.get Tryd.methsOk h) (fun _ _ _ h => taB_ok Tryd.tasOk h) (orK_ok (fun _ _ _ _ h => kIdx_ok Go.Proofs.Tryd.func61 (by kernel_rfl) (by kernel_rfl) (by kernel_rfl) (by kernel_rfl) h) (orK_ok (fun _ _ _ _ h => kHandle_ok Go.Proofs.Tryd.func88 (by kernel_rfl) (by kernel_rfl) (by kernel_rfl) (by kernel_rfl) Tryd.cmpsOk h) (orK_ok (fun _ _ _ _ h => kTypeOf_ok Go.Proofs.Tryd.func32 (by kernel_rfl) (by kernel_rfl) (by kernel_rfl) (by kernel_rfl) Tryd.typeOf h) (orK_ok (fun _ _ _ _ h => kValueOf_ok (e := fun args => Extern.ReflectliteValue.unpack (args.getD 0 (.tuple #[]))) Go.Proofs.Tryd.func23 (by kernel_rfl) (by kernel_rfl) (by kernel_rfl) (by kernel_rfl) Go.Hand.valueOfP46 h) (orK_ok (fun _ _ _ _ h => kValueOf_ok (e := fun args => Extern.ReflectliteValue.unpack (args.getD 0 (.tuple #[]))) Go.Proofs.Tryd.func23 (by kernel_rfl) (by kernel_rfl) (by kernel_rfl) (by kernel_rfl) Go.Hand.valueOfE41 h) (orK_ok (fun _ _ _ _ h => kPat_ok Go.Proofs.Tryd.func24 (by kernel_rfl) (by kernel_rfl) (by kernel_rfl) (by kernel_rfl) (patType_ok Go.Hand.type46) h) (orK_ok (fun _ _ _ _ h => kPat_ok Go.Proofs.Tryd.func76 (by kernel_rfl) (by kernel_rfl) (by kernel_rfl) (by kernel_rfl) (patKind_ok Go.Hand.kindP46) h) (orK_ok (fun _ _ _ _ h => kPat_ok Go.Proofs.Tryd.func76 (by kernel_rfl) (by kernel_rfl) (by kernel_rfl) (by kernel_rfl) (patKind_ok Go.Hand.kindE41) h) (orK_ok (fun _ _ _ _ h => kPat_ok Go.Proofs.Tryd.func25 (by kernel_rfl) (by kernel_rfl) (by kernel_rfl) (by kernel_rfl) (patIsNil_ok Go.Hand.isNil46) h) (orK_ok (fun _ _ _ _ h => kPat_ok Go.Proofs.Tryd.func89 (by kernel_rfl) (by kernel_rfl) (by kernel_rfl) (by kernel_rfl) (patElem_ok Go.Hand.elem46) h) (orK_ok (fun _ _ _ _ h => kPat_ok Go.Proofs.Tryd.func90 (by kernel_rfl) (by kernel_rfl) (by kernel_rfl) (by kernel_rfl) (patRel_ok Go.Hand.implements41) h) (orK_ok (fun _ _ _ _ h => kPat_ok Go.Proofs.Tryd.func33 (by kernel_rfl) (by kernel_rfl) (by kernel_rfl) (by kernel_rfl) (patElemV_ok Go.Hand.elemV46) h) (orK_ok (fun _ _ _ _ h => kSet_ok Go.Proofs.Tryd.func34 (by kernel_rfl) (by kernel_rfl) (by kernel_rfl) (by kernel_rfl) Go.Hand.set41 h) (orK_ok (fun _ _ _ _ h => kPat_ok Go.Proofs.Tryd.func87 (by kernel_rfl) (by kernel_rfl) (by kernel_rfl) (by kernel_rfl) (patRel_ok Go.Hand.rel9_41) h) (orK_ok (fun _ _ _ _ h => kPat_ok Go.Proofs.Tryd.func87 (by kernel_rfl) (by kernel_rfl) (by kernel_rfl) (by kernel_rfl) (patRel_ok Go.Hand.rel41_41) h) (orK_ok (fun _ _ _ _ h => kPat_ok Go.Proofs.Tryd.func87 (by kernel_rfl) (by kernel_rfl) (by kernel_rfl) (by kernel_rfl) (patRel_ok Go.Hand.rel46_41) h) (orK_ok (fun _ _ _ _ h => kPat_ok Go.Proofs.Tryd.func87 (by kernel_rfl) (by kernel_rfl) (by kernel_rfl) (by kernel_rfl) (patRel_ok Go.Hand.rel73_41) h) (orK_ok (fun _ _ _ _ h => kPat_ok Go.Proofs.Tryd.func87 (by kernel_rfl) (by kernel_rfl) (by kernel_rfl) (by kernel_rfl) (patRel_ok Go.Hand.rel97_41) h) (orK_ok (fun _ _ _ _ h => kPat_ok Go.Proofs.Tryd.func87 (by kernel_rfl) (by kernel_rfl) (by kernel_rfl) (by kernel_rfl) (patRel_ok Go.Hand.rel113_41) h) (orK_ok (fun _ _ _ _ h => kPat_ok Go.Proofs.Tryd.func87 (by kernel_rfl) (by kernel_rfl) (by kernel_rfl) (by kernel_rfl) (patRel_ok Go.Hand.rel117_41) h) (orK_ok (fun _ _ _ _ h => kPat_ok Go.Proofs.Tryd.func87 (by kernel_rfl) (by kernel_rfl) (by kernel_rfl) (by kernel_rfl) (patRel_ok Go.Hand.rel159_41) h) (fun _ _ _ _ h => by cases h))))))))))))))))))))))
end Go.Ab
