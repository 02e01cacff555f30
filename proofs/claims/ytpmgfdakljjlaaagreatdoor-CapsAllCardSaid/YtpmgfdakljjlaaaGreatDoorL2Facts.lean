/- What errors.Is and errors.As ask internal/reflectlite, at this dump's numbers. (Printed by gen_facts.py; after the worked example ToyasAs.) -/
import Derived.Test.YtpmgfdakljjlaaaGreatDoorL2Cfg
import Derived.Test.YtpmgfdakljjlaaaGreatDoorProg
import Derived.KernelRfl
import Derived.LaidEql
import Derived.Stop.Asserts
import Derived.RowKitTokens
set_option linter.unusedVariables false
set_option linter.constructorNameAsVariable false
open Go Go.Sx
namespace Go.Proofs.YtpmgfdakljjlaaaGreatDoor
open Go.RowKit Go.Extern.Stop Go.Stop Go.Extern

theorem rlm (z : Sem Value) (f : TypeId → Addr → Nat → Nat → Sem Value) (v : Value) :
    ReflectliteValue.method z f #[v] = (do match ← ReflectliteValue.parts v with | none => z | some (t, a, fl) => f t a fl (fl % 32)) := rfl
theorem rls (v x : Value) : ReflectliteValue.set #[v, x] = (do
    let (some (dst, a, fl), some (src, b, _)) := (← ReflectliteValue.parts v, ← ReflectliteValue.parts x)
      | unsupported (.noEntry "extern/(internal/reflectlite.Value).Set.zeroValue")
    if fl / ReflectliteValue.flagAddr % 2 == 0 then unsupported (.noEntry "extern/(internal/reflectlite.Value).Set.unaddressable")
    let val ← loadVar src b
    if ← Rtype.directlyAssignable dst src then storeVar dst a val
    else if ← Rtype.implements dst src then
      if (← Rtype.kind src) == 20 then
        match val with
        | .nilIface => unsupported (.noEntry "extern/reflectlite: a nil value of one interface type handed on as a value of another")
        | _ => storeVar dst a val
      else storeVar dst a (.iface src val)
    else panicString ("reflectlite.Set: value of type " ++ (← Rtype.spelt src) ++ " is not assignable to type " ++ (← Rtype.spelt dst))
    pure (.tuple #[])) := rfl

abbrev Hnd (t : Nat) : Value := .pointer (some ⟨4, t, none⟩)
theorem partsPP (a : Addr) (w : World) : (ReflectliteValue.parts (.agg #[Hnd 219, .pointer (some a), .int .u64 150])).run Tryz.prog w = .ok (some (219, a, 150)) w := by kernel_rfl
theorem partsP (a : Addr) (w : World) : (ReflectliteValue.parts (.agg #[Hnd 161, .pointer (some a), .int .u64 150])).run Tryz.prog w = .ok (some (161, a, 150)) w := by kernel_rfl
theorem partsPa (a : Addr) (w : World) : (ReflectliteValue.parts (.agg #[Hnd 161, .pointer (some a), .int .u64 406])).run Tryz.prog w = .ok (some (161, a, 406)) w := by kernel_rfl
theorem elemOfPP (w : World) : (Rtype.elem? 219).run Tryz.prog w = .ok (some 161) w := by kernel_rfl
theorem mkP (p : Addr) (w : World) : (ReflectliteValue.mk 161 p ReflectliteValue.flagAddr).run Tryz.prog w = .ok (.agg #[Hnd 161, .pointer (some p), .int .u64 406]) w := by kernel_rfl
theorem directP (w : World) : (Rtype.directlyAssignable 161 161).run Tryz.prog w = .ok true w := by kernel_rfl
set_option maxRecDepth 100000
theorem x80 (args : Array Value) (w : World) : (callFunc 80 args).run Tryz.prog w = ((ReflectliteType.typeOf args).run Tryz.prog w).andThen fun v w' => .ok (.value v) w' :=
  run_callFunc_extern (e := fun args => ReflectliteType.typeOf args) Tryz.func80 (by kernel_rfl) (by kernel_rfl) (by kernel_rfl) (by kernel_rfl) args w
theorem x137 (args : Array Value) (w : World) : (callFunc 137 args).run Tryz.prog w = ((ReflectliteValue.unpack (args.getD 0 (.tuple #[]))).run Tryz.prog w).andThen fun v w' => .ok (.value v) w' :=
  run_callFunc_extern (e := fun args => ReflectliteValue.unpack (args.getD 0 (.tuple #[]))) Tryz.func137 (by kernel_rfl) (by kernel_rfl) (by kernel_rfl) (by kernel_rfl) args w
theorem x138 (args : Array Value) (w : World) : (callFunc 138 args).run Tryz.prog w = ((ReflectliteValue.methodAny (ReflectliteValue.valueError "reflectlite.Value.Type" 0) (fun t _ _ _ => ReflectliteType.toType t) args).run Tryz.prog w).andThen fun v w' => .ok (.value v) w' :=
  run_callFunc_extern (e := fun args => ReflectliteValue.methodAny (ReflectliteValue.valueError "reflectlite.Value.Type" 0) (fun t _ _ _ => ReflectliteType.toType t) args) Tryz.func138 (by kernel_rfl) (by kernel_rfl) (by kernel_rfl) (by kernel_rfl) args w
theorem x139 (args : Array Value) (w : World) : (callFunc 139 args).run Tryz.prog w = ((ReflectliteValue.method (ReflectliteValue.valueError "reflectlite.Value.IsNil" 0) ReflectliteValue.isNil args).run Tryz.prog w).andThen fun v w' => .ok (.value v) w' :=
  run_callFunc_extern (e := fun args => ReflectliteValue.method (ReflectliteValue.valueError "reflectlite.Value.IsNil" 0) ReflectliteValue.isNil args) Tryz.func139 (by kernel_rfl) (by kernel_rfl) (by kernel_rfl) (by kernel_rfl) args w
theorem x145 (args : Array Value) (w : World) : (callFunc 145 args).run Tryz.prog w = ((ReflectliteValue.method (ReflectliteValue.valueError "reflectlite.Value.Elem" 0) ReflectliteValue.elem args).run Tryz.prog w).andThen fun v w' => .ok (.value v) w' :=
  run_callFunc_extern (e := fun args => ReflectliteValue.method (ReflectliteValue.valueError "reflectlite.Value.Elem" 0) ReflectliteValue.elem args) Tryz.func145 (by kernel_rfl) (by kernel_rfl) (by kernel_rfl) (by kernel_rfl) args w
theorem x146 (args : Array Value) (w : World) : (callFunc 146 args).run Tryz.prog w = ((ReflectliteValue.set args).run Tryz.prog w).andThen fun v w' => .ok (.value v) w' :=
  run_callFunc_extern (e := fun args => ReflectliteValue.set args) Tryz.func146 (by kernel_rfl) (by kernel_rfl) (by kernel_rfl) (by kernel_rfl) args w
theorem x164 (args : Array Value) (w : World) : (callFunc 164 args).run Tryz.prog w = ((ReflectliteType.abiMethod (fun t => do pure (.int .u8 (← Rtype.kind t))) args).run Tryz.prog w).andThen fun v w' => .ok (.value v) w' :=
  run_callFunc_extern (e := fun args => ReflectliteType.abiMethod (fun t => do pure (.int .u8 (← Rtype.kind t))) args) Tryz.func164 (by kernel_rfl) (by kernel_rfl) (by kernel_rfl) (by kernel_rfl) args w
theorem x186 (args : Array Value) (w : World) : (callFunc 186 args).run Tryz.prog w = ((ReflectliteType.relation "AssignableTo" ReflectliteType.assignableTo args).run Tryz.prog w).andThen fun v w' => .ok (.value v) w' :=
  run_callFunc_extern (e := fun args => ReflectliteType.relation "AssignableTo" ReflectliteType.assignableTo args) Tryz.func186 (by kernel_rfl) (by kernel_rfl) (by kernel_rfl) (by kernel_rfl) args w
theorem x187 (args : Array Value) (w : World) : (callFunc 187 args).run Tryz.prog w = ((ReflectliteType.method (fun t => do Rtype.noPackHeld "Comparable" t; pure (.bool (← typeInfo t).comparable)) args).run Tryz.prog w).andThen fun v w' => .ok (.value v) w' :=
  run_callFunc_extern (e := fun args => ReflectliteType.method (fun t => do Rtype.noPackHeld "Comparable" t; pure (.bool (← typeInfo t).comparable)) args) Tryz.func187 (by kernel_rfl) (by kernel_rfl) (by kernel_rfl) (by kernel_rfl) args w
theorem x188 (args : Array Value) (w : World) : (callFunc 188 args).run Tryz.prog w = ((ReflectliteType.method ReflectliteType.elem args).run Tryz.prog w).andThen fun v w' => .ok (.value v) w' :=
  run_callFunc_extern (e := fun args => ReflectliteType.method ReflectliteType.elem args) Tryz.func188 (by kernel_rfl) (by kernel_rfl) (by kernel_rfl) (by kernel_rfl) args w
theorem x189 (args : Array Value) (w : World) : (callFunc 189 args).run Tryz.prog w = ((ReflectliteType.relation "Implements" ReflectliteType.implements_ args).run Tryz.prog w).andThen fun v w' => .ok (.value v) w' :=
  run_callFunc_extern (e := fun args => ReflectliteType.relation "Implements" ReflectliteType.implements_ args) Tryz.func189 (by kernel_rfl) (by kernel_rfl) (by kernel_rfl) (by kernel_rfl) args w

theorem rd_ok : L2.rd.Ok Tryz.prog where
  typeOf := by
    intro t ht v w
    simp only [L2.rd, List.mem_cons, List.not_mem_nil, or_false] at ht
    show (callFunc 80 _).run _ _ = _
    rw [x80]
    rcases ht with rfl | rfl <;> kernel_rfl
  valueOf := by
    intro t ht a w
    simp only [L2.rd, List.mem_cons, List.not_mem_nil, or_false] at ht
    show (callFunc 137 _).run _ _ = _
    rw [x137]
    rcases ht with rfl | rfl <;> kernel_rfl
  vType := by
    intro t ht a w
    simp only [L2.rd, List.mem_cons, List.not_mem_nil, or_false] at ht
    show (callFunc 138 _).run _ _ = _
    rw [x138]
    rcases ht with rfl | rfl <;> kernel_rfl
  isNil := by
    intro q hq a p w ha
    simp only [L2.rd, List.mem_cons, List.not_mem_nil, or_false] at hq
    subst hq
    replace ha : (loadVar 219 a).run Tryz.prog w = .ok (.pointer (some p)) w := ha
    show (callFunc 139 #[.agg #[Hnd 219, .pointer (some a), .int .u64 150]]).run _ _ = _
    rw [x139]
    rw [rlm]
    simp only [Sem.run_bind, partsPP, Result.andThen]
    simp [ReflectliteValue.isNil, ha, Result.andThen]
  vElem := by
    intro q hq a p w ha
    simp only [L2.rd, List.mem_cons, List.not_mem_nil, or_false] at hq
    subst hq
    replace ha : (loadVar 219 a).run Tryz.prog w = .ok (.pointer (some p)) w := ha
    show (callFunc 145 #[.agg #[Hnd 219, .pointer (some a), .int .u64 150]]).run _ _ = _
    rw [x145]
    rw [rlm]
    simp only [Sem.run_bind, partsPP, Result.andThen]
    simp [ReflectliteValue.elem, ha, Result.andThen, elemOfPP, mkP]
    rfl
  set := by
    intro t ht a b v w w' hb hs
    simp only [L2.rd, List.mem_cons, List.not_mem_nil, or_false] at ht
    subst ht
    replace hb : (loadVar 161 b).run Tryz.prog w = .ok v w := hb
    replace hs : (storeVar 161 a v).run Tryz.prog w = .ok () w' := hs
    show (callFunc 146 #[.agg #[Hnd 161, .pointer (some a), .int .u64 406], .agg #[Hnd 161, .pointer (some b), .int .u64 150]]).run _ _ = _
    rw [x146]
    rw [rls]
    simp only [Sem.run_bind, partsPa, partsP, Result.andThen]
    simp [ReflectliteValue.flagAddr, hb, hs, Result.andThen, directP]
  rows := by
    intro r hr w
    simp only [L2.rd, List.mem_cons, List.not_mem_nil, or_false] at hr
    rcases hr with rfl | rfl | rfl | rfl | rfl | rfl <;> kernel_rfl

theorem cfg_ok : (L2.cfg Tryz.prog).Ok Tryz.prog := by
  refine ⟨RD.specs_ok rd_ok, ?_⟩
  intro m hm v w
  simp only [L2.cfg, L2.meths, List.mem_cons, List.not_mem_nil, or_false] at hm
  rcases hm with rfl | rfl | rfl | rfl | rfl | rfl | rfl | rfl <;> kernel_rfl
theorem mixed : Tryz.prog.follows .mixedOrders = true := by kernel_rfl
end Go.Proofs.YtpmgfdakljjlaaaGreatDoor

