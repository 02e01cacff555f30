/- What errors.Is and errors.As ask internal/reflectlite, at this dump's numbers. (Printed by gen_facts.py; after the worked example ToyasAs.) -/
import Derived.Test.YtpmgfdakljjlaabGreatDoorL2Cfg
import Derived.Test.YtpmgfdakljjlaabGreatDoorProg
import Derived.KernelRfl
import Derived.LaidEql
import Derived.Stop.Asserts
import Derived.RowKitTokens
set_option linter.unusedVariables false
set_option linter.constructorNameAsVariable false
open Go Go.Sx
namespace Go.Proofs.YtpmgfdakljjlaabGreatDoor
open Go.RowKit Go.Extern.Stop Go.Stop Go.Extern

theorem rlm (z : Sem Value) (f : TypeId → Addr → Nat → Nat → Sem Value) (v : Value) :
    ReflectliteValue.method z f #[v] = (do match ← ReflectliteValue.parts v with | none => z | some (t, a, fl) => f t a fl (fl % 32)) := rfl
theorem rls (v x : Value) : ReflectliteValue.set #[v, x] = (do
    let (some (dst, a, fl), some (src, b, _)) := (← ReflectliteValue.parts v, ← ReflectliteValue.parts x)
      | unsupported (.noEntry "extern/(internal/reflectlite.Value).Set.zeroValue")
    if fl / ReflectliteValue.flagAddr % 2 == 0 then unsupported (.noEntry "extern/(internal/reflectlite.Value).Set.unaddressable")
    let val ← loadVar src b
    if ← Rtype.directlyAssignable dst src then storeVar dst a val
    else if ← Rtype.implements dst src then
      if (← Rtype.kind src) == 20 then
        match val with
        | .nilIface => unsupported (.noEntry "extern/reflectlite: a nil value of one interface type handed on as a value of another")
        | _ => storeVar dst a val
      else storeVar dst a (.iface src val)
    else panicString ("reflectlite.Set: value of type " ++ (← Rtype.spelt src) ++ " is not assignable to type " ++ (← Rtype.spelt dst))
    pure (.tuple #[])) := rfl

abbrev Hnd (t : Nat) : Value := .pointer (some ⟨4, t, none⟩)
theorem partsPP (a : Addr) (w : World) : (ReflectliteValue.parts (.agg #[Hnd 127, .pointer (some a), .int .u64 150])).run Tryz.prog w = .ok (some (127, a, 150)) w := by kernel_rfl
theorem partsP (a : Addr) (w : World) : (ReflectliteValue.parts (.agg #[Hnd 114, .pointer (some a), .int .u64 150])).run Tryz.prog w = .ok (some (114, a, 150)) w := by kernel_rfl
theorem partsPa (a : Addr) (w : World) : (ReflectliteValue.parts (.agg #[Hnd 114, .pointer (some a), .int .u64 406])).run Tryz.prog w = .ok (some (114, a, 406)) w := by kernel_rfl
theorem elemOfPP (w : World) : (Rtype.elem? 127).run Tryz.prog w = .ok (some 114) w := by kernel_rfl
theorem mkP (p : Addr) (w : World) : (ReflectliteValue.mk 114 p ReflectliteValue.flagAddr).run Tryz.prog w = .ok (.agg #[Hnd 114, .pointer (some p), .int .u64 406]) w := by kernel_rfl
theorem directP (w : World) : (Rtype.directlyAssignable 114 114).run Tryz.prog w = .ok true w := by kernel_rfl
set_option maxRecDepth 100000
theorem x69 (args : Array Value) (w : World) : (callFunc 69 args).run Tryz.prog w = ((ReflectliteType.typeOf args).run Tryz.prog w).andThen fun v w' => .ok (.value v) w' :=
  run_callFunc_extern (e := fun args => ReflectliteType.typeOf args) Tryz.func69 (by kernel_rfl) (by kernel_rfl) (by kernel_rfl) (by kernel_rfl) args w
theorem x72 (args : Array Value) (w : World) : (callFunc 72 args).run Tryz.prog w = ((ReflectliteValue.unpack (args.getD 0 (.tuple #[]))).run Tryz.prog w).andThen fun v w' => .ok (.value v) w' :=
  run_callFunc_extern (e := fun args => ReflectliteValue.unpack (args.getD 0 (.tuple #[]))) Tryz.func72 (by kernel_rfl) (by kernel_rfl) (by kernel_rfl) (by kernel_rfl) args w
theorem x73 (args : Array Value) (w : World) : (callFunc 73 args).run Tryz.prog w = ((ReflectliteValue.methodAny (ReflectliteValue.valueError "reflectlite.Value.Type" 0) (fun t _ _ _ => ReflectliteType.toType t) args).run Tryz.prog w).andThen fun v w' => .ok (.value v) w' :=
  run_callFunc_extern (e := fun args => ReflectliteValue.methodAny (ReflectliteValue.valueError "reflectlite.Value.Type" 0) (fun t _ _ _ => ReflectliteType.toType t) args) Tryz.func73 (by kernel_rfl) (by kernel_rfl) (by kernel_rfl) (by kernel_rfl) args w
theorem x74 (args : Array Value) (w : World) : (callFunc 74 args).run Tryz.prog w = ((ReflectliteValue.method (ReflectliteValue.valueError "reflectlite.Value.IsNil" 0) ReflectliteValue.isNil args).run Tryz.prog w).andThen fun v w' => .ok (.value v) w' :=
  run_callFunc_extern (e := fun args => ReflectliteValue.method (ReflectliteValue.valueError "reflectlite.Value.IsNil" 0) ReflectliteValue.isNil args) Tryz.func74 (by kernel_rfl) (by kernel_rfl) (by kernel_rfl) (by kernel_rfl) args w
theorem x76 (args : Array Value) (w : World) : (callFunc 76 args).run Tryz.prog w = ((ReflectliteValue.method (ReflectliteValue.valueError "reflectlite.Value.Elem" 0) ReflectliteValue.elem args).run Tryz.prog w).andThen fun v w' => .ok (.value v) w' :=
  run_callFunc_extern (e := fun args => ReflectliteValue.method (ReflectliteValue.valueError "reflectlite.Value.Elem" 0) ReflectliteValue.elem args) Tryz.func76 (by kernel_rfl) (by kernel_rfl) (by kernel_rfl) (by kernel_rfl) args w
theorem x77 (args : Array Value) (w : World) : (callFunc 77 args).run Tryz.prog w = ((ReflectliteValue.set args).run Tryz.prog w).andThen fun v w' => .ok (.value v) w' :=
  run_callFunc_extern (e := fun args => ReflectliteValue.set args) Tryz.func77 (by kernel_rfl) (by kernel_rfl) (by kernel_rfl) (by kernel_rfl) args w
theorem x92 (args : Array Value) (w : World) : (callFunc 92 args).run Tryz.prog w = ((ReflectliteType.abiMethod (fun t => do pure (.int .u8 (← Rtype.kind t))) args).run Tryz.prog w).andThen fun v w' => .ok (.value v) w' :=
  run_callFunc_extern (e := fun args => ReflectliteType.abiMethod (fun t => do pure (.int .u8 (← Rtype.kind t))) args) Tryz.func92 (by kernel_rfl) (by kernel_rfl) (by kernel_rfl) (by kernel_rfl) args w
theorem x117 (args : Array Value) (w : World) : (callFunc 117 args).run Tryz.prog w = ((ReflectliteType.relation "AssignableTo" ReflectliteType.assignableTo args).run Tryz.prog w).andThen fun v w' => .ok (.value v) w' :=
  run_callFunc_extern (e := fun args => ReflectliteType.relation "AssignableTo" ReflectliteType.assignableTo args) Tryz.func117 (by kernel_rfl) (by kernel_rfl) (by kernel_rfl) (by kernel_rfl) args w
theorem x118 (args : Array Value) (w : World) : (callFunc 118 args).run Tryz.prog w = ((ReflectliteType.method (fun t => do Rtype.noPackHeld "Comparable" t; pure (.bool (← typeInfo t).comparable)) args).run Tryz.prog w).andThen fun v w' => .ok (.value v) w' :=
  run_callFunc_extern (e := fun args => ReflectliteType.method (fun t => do Rtype.noPackHeld "Comparable" t; pure (.bool (← typeInfo t).comparable)) args) Tryz.func118 (by kernel_rfl) (by kernel_rfl) (by kernel_rfl) (by kernel_rfl) args w
theorem x119 (args : Array Value) (w : World) : (callFunc 119 args).run Tryz.prog w = ((ReflectliteType.method ReflectliteType.elem args).run Tryz.prog w).andThen fun v w' => .ok (.value v) w' :=
  run_callFunc_extern (e := fun args => ReflectliteType.method ReflectliteType.elem args) Tryz.func119 (by kernel_rfl) (by kernel_rfl) (by kernel_rfl) (by kernel_rfl) args w
theorem x120 (args : Array Value) (w : World) : (callFunc 120 args).run Tryz.prog w = ((ReflectliteType.relation "Implements" ReflectliteType.implements_ args).run Tryz.prog w).andThen fun v w' => .ok (.value v) w' :=
  run_callFunc_extern (e := fun args => ReflectliteType.relation "Implements" ReflectliteType.implements_ args) Tryz.func120 (by kernel_rfl) (by kernel_rfl) (by kernel_rfl) (by kernel_rfl) args w

theorem rd_ok : L2.rd.Ok Tryz.prog where
  typeOf := by
    intro t ht v w
    simp only [L2.rd, List.mem_cons, List.not_mem_nil, or_false] at ht
    show (callFunc 69 _).run _ _ = _
    rw [x69]
    rcases ht with rfl | rfl <;> kernel_rfl
  valueOf := by
    intro t ht a w
    simp only [L2.rd, List.mem_cons, List.not_mem_nil, or_false] at ht
    show (callFunc 72 _).run _ _ = _
    rw [x72]
    rcases ht with rfl | rfl <;> kernel_rfl
  vType := by
    intro t ht a w
    simp only [L2.rd, List.mem_cons, List.not_mem_nil, or_false] at ht
    show (callFunc 73 _).run _ _ = _
    rw [x73]
    rcases ht with rfl | rfl <;> kernel_rfl
  isNil := by
    intro q hq a p w ha
    simp only [L2.rd, List.mem_cons, List.not_mem_nil, or_false] at hq
    subst hq
    replace ha : (loadVar 127 a).run Tryz.prog w = .ok (.pointer (some p)) w := ha
    show (callFunc 74 #[.agg #[Hnd 127, .pointer (some a), .int .u64 150]]).run _ _ = _
    rw [x74]
    rw [rlm]
    simp only [Sem.run_bind, partsPP, Result.andThen]
    simp [ReflectliteValue.isNil, ha, Result.andThen]
  vElem := by
    intro q hq a p w ha
    simp only [L2.rd, List.mem_cons, List.not_mem_nil, or_false] at hq
    subst hq
    replace ha : (loadVar 127 a).run Tryz.prog w = .ok (.pointer (some p)) w := ha
    show (callFunc 76 #[.agg #[Hnd 127, .pointer (some a), .int .u64 150]]).run _ _ = _
    rw [x76]
    rw [rlm]
    simp only [Sem.run_bind, partsPP, Result.andThen]
    simp [ReflectliteValue.elem, ha, Result.andThen, elemOfPP, mkP]
    rfl
  set := by
    intro t ht a b v w w' hb hs
    simp only [L2.rd, List.mem_cons, List.not_mem_nil, or_false] at ht
    subst ht
    replace hb : (loadVar 114 b).run Tryz.prog w = .ok v w := hb
    replace hs : (storeVar 114 a v).run Tryz.prog w = .ok () w' := hs
    show (callFunc 77 #[.agg #[Hnd 114, .pointer (some a), .int .u64 406], .agg #[Hnd 114, .pointer (some b), .int .u64 150]]).run _ _ = _
    rw [x77]
    rw [rls]
    simp only [Sem.run_bind, partsPa, partsP, Result.andThen]
    simp [ReflectliteValue.flagAddr, hb, hs, Result.andThen, directP]
  rows := by
    intro r hr w
    simp only [L2.rd, List.mem_cons, List.not_mem_nil, or_false] at hr
    rcases hr with rfl | rfl | rfl | rfl | rfl | rfl <;> kernel_rfl

theorem cfg_ok : (L2.cfg Tryz.prog).Ok Tryz.prog := by
  refine ⟨RD.specs_ok rd_ok, ?_⟩
  intro m hm v w
  simp only [L2.cfg, L2.meths, List.mem_cons, List.not_mem_nil, or_false] at hm
  rcases hm with rfl | rfl | rfl | rfl | rfl | rfl | rfl | rfl <;> kernel_rfl
theorem mixed : Tryz.prog.follows .mixedOrders = true := by kernel_rfl
end Go.Proofs.YtpmgfdakljjlaabGreatDoor

