/- What errors.Is and errors.As ask internal/reflectlite, at this dump's numbers. (Printed by gen_facts.py; after the worked example ToyasAs.) -/
import Derived.Test.YtgkinefofnlnlaaDoorVL1Cfg
import Derived.Test.YtgkinefofnlnlaaDoorProg
import Derived.KernelRfl
import Derived.LaidEql
import Derived.Stop.Asserts
import Derived.RowKitTokens
set_option linter.unusedVariables false
open Go Go.Sx
namespace Go.Proofs.YtgkinefofnlnlaaDoor
open Go.RowKit Go.Extern.Stop Go.Stop Go.Extern

theorem rlm (z : Sem Value) (f : TypeId → Addr → Nat → Nat → Sem Value) (v : Value) :
    ReflectliteValue.method z f #[v] = (do match ← ReflectliteValue.parts v with | none => z | some (t, a, fl) => f t a fl (fl % 32)) := rfl
theorem rls (v x : Value) : ReflectliteValue.set #[v, x] = (do
    let (some (dst, a, fl), some (src, b, _)) := (← ReflectliteValue.parts v, ← ReflectliteValue.parts x)
      | unsupported (.noEntry "extern/(internal/reflectlite.Value).Set.zeroValue")
    if fl / ReflectliteValue.flagAddr % 2 == 0 then unsupported (.noEntry "extern/(internal/reflectlite.Value).Set.unaddressable")
    let val ← loadVar src b
    if ← Rtype.directlyAssignable dst src then storeVar dst a val
    else if ← Rtype.implements dst src then
      if (← Rtype.kind src) == 20 then
        match val with
        | .nilIface => unsupported (.noEntry "extern/reflectlite: a nil value of one interface type handed on as a value of another")
        | _ => storeVar dst a val
      else storeVar dst a (.iface src val)
    else panicString ("reflectlite.Set: value of type " ++ (← Rtype.spelt src) ++ " is not assignable to type " ++ (← Rtype.spelt dst))
    pure (.tuple #[])) := rfl

abbrev Hnd (t : Nat) : Value := .pointer (some ⟨4, t, none⟩)
theorem partsPP (a : Addr) (w : World) : (ReflectliteValue.parts (.agg #[Hnd 48, .pointer (some a), .int .u64 150])).run Tryd.prog w = .ok (some (48, a, 150)) w := by kernel_rfl
theorem partsP (a : Addr) (w : World) : (ReflectliteValue.parts (.agg #[Hnd 34, .pointer (some a), .int .u64 150])).run Tryd.prog w = .ok (some (34, a, 150)) w := by kernel_rfl
theorem partsPa (a : Addr) (w : World) : (ReflectliteValue.parts (.agg #[Hnd 34, .pointer (some a), .int .u64 406])).run Tryd.prog w = .ok (some (34, a, 406)) w := by kernel_rfl
theorem elemOfPP (w : World) : (Rtype.elem? 48).run Tryd.prog w = .ok (some 34) w := by kernel_rfl
theorem mkP (p : Addr) (w : World) : (ReflectliteValue.mk 34 p ReflectliteValue.flagAddr).run Tryd.prog w = .ok (.agg #[Hnd 34, .pointer (some p), .int .u64 406]) w := by kernel_rfl
theorem directP (w : World) : (Rtype.directlyAssignable 34 34).run Tryd.prog w = .ok true w := by kernel_rfl
set_option maxRecDepth 100000
theorem x27 (args : Array Value) (w : World) : (callFunc 27 args).run Tryd.prog w = ((ReflectliteType.typeOf args).run Tryd.prog w).andThen fun v w' => .ok (.value v) w' :=
  run_callFunc_extern (e := fun args => ReflectliteType.typeOf args) Tryd.func27 (by kernel_rfl) (by kernel_rfl) (by kernel_rfl) (by kernel_rfl) args w
theorem x30 (args : Array Value) (w : World) : (callFunc 30 args).run Tryd.prog w = ((ReflectliteValue.unpack (args.getD 0 (.tuple #[]))).run Tryd.prog w).andThen fun v w' => .ok (.value v) w' :=
  run_callFunc_extern (e := fun args => ReflectliteValue.unpack (args.getD 0 (.tuple #[]))) Tryd.func30 (by kernel_rfl) (by kernel_rfl) (by kernel_rfl) (by kernel_rfl) args w
theorem x31 (args : Array Value) (w : World) : (callFunc 31 args).run Tryd.prog w = ((ReflectliteValue.methodAny (ReflectliteValue.valueError "reflectlite.Value.Type" 0) (fun t _ _ _ => ReflectliteType.toType t) args).run Tryd.prog w).andThen fun v w' => .ok (.value v) w' :=
  run_callFunc_extern (e := fun args => ReflectliteValue.methodAny (ReflectliteValue.valueError "reflectlite.Value.Type" 0) (fun t _ _ _ => ReflectliteType.toType t) args) Tryd.func31 (by kernel_rfl) (by kernel_rfl) (by kernel_rfl) (by kernel_rfl) args w
theorem x32 (args : Array Value) (w : World) : (callFunc 32 args).run Tryd.prog w = ((ReflectliteValue.method (ReflectliteValue.valueError "reflectlite.Value.IsNil" 0) ReflectliteValue.isNil args).run Tryd.prog w).andThen fun v w' => .ok (.value v) w' :=
  run_callFunc_extern (e := fun args => ReflectliteValue.method (ReflectliteValue.valueError "reflectlite.Value.IsNil" 0) ReflectliteValue.isNil args) Tryd.func32 (by kernel_rfl) (by kernel_rfl) (by kernel_rfl) (by kernel_rfl) args w
theorem x35 (args : Array Value) (w : World) : (callFunc 35 args).run Tryd.prog w = ((ReflectliteValue.method (ReflectliteValue.valueError "reflectlite.Value.Elem" 0) ReflectliteValue.elem args).run Tryd.prog w).andThen fun v w' => .ok (.value v) w' :=
  run_callFunc_extern (e := fun args => ReflectliteValue.method (ReflectliteValue.valueError "reflectlite.Value.Elem" 0) ReflectliteValue.elem args) Tryd.func35 (by kernel_rfl) (by kernel_rfl) (by kernel_rfl) (by kernel_rfl) args w
theorem x36 (args : Array Value) (w : World) : (callFunc 36 args).run Tryd.prog w = ((ReflectliteValue.set args).run Tryd.prog w).andThen fun v w' => .ok (.value v) w' :=
  run_callFunc_extern (e := fun args => ReflectliteValue.set args) Tryd.func36 (by kernel_rfl) (by kernel_rfl) (by kernel_rfl) (by kernel_rfl) args w
theorem x63 (args : Array Value) (w : World) : (callFunc 63 args).run Tryd.prog w = ((ReflectliteType.abiMethod (fun t => do pure (.int .u8 (← Rtype.kind t))) args).run Tryd.prog w).andThen fun v w' => .ok (.value v) w' :=
  run_callFunc_extern (e := fun args => ReflectliteType.abiMethod (fun t => do pure (.int .u8 (← Rtype.kind t))) args) Tryd.func63 (by kernel_rfl) (by kernel_rfl) (by kernel_rfl) (by kernel_rfl) args w
theorem x73 (args : Array Value) (w : World) : (callFunc 73 args).run Tryd.prog w = ((ReflectliteType.relation "AssignableTo" ReflectliteType.assignableTo args).run Tryd.prog w).andThen fun v w' => .ok (.value v) w' :=
  run_callFunc_extern (e := fun args => ReflectliteType.relation "AssignableTo" ReflectliteType.assignableTo args) Tryd.func73 (by kernel_rfl) (by kernel_rfl) (by kernel_rfl) (by kernel_rfl) args w
theorem x74 (args : Array Value) (w : World) : (callFunc 74 args).run Tryd.prog w = ((ReflectliteType.method (fun t => do Rtype.noPackHeld "Comparable" t; pure (.bool (← typeInfo t).comparable)) args).run Tryd.prog w).andThen fun v w' => .ok (.value v) w' :=
  run_callFunc_extern (e := fun args => ReflectliteType.method (fun t => do Rtype.noPackHeld "Comparable" t; pure (.bool (← typeInfo t).comparable)) args) Tryd.func74 (by kernel_rfl) (by kernel_rfl) (by kernel_rfl) (by kernel_rfl) args w
theorem x75 (args : Array Value) (w : World) : (callFunc 75 args).run Tryd.prog w = ((ReflectliteType.method ReflectliteType.elem args).run Tryd.prog w).andThen fun v w' => .ok (.value v) w' :=
  run_callFunc_extern (e := fun args => ReflectliteType.method ReflectliteType.elem args) Tryd.func75 (by kernel_rfl) (by kernel_rfl) (by kernel_rfl) (by kernel_rfl) args w
theorem x76 (args : Array Value) (w : World) : (callFunc 76 args).run Tryd.prog w = ((ReflectliteType.relation "Implements" ReflectliteType.implements_ args).run Tryd.prog w).andThen fun v w' => .ok (.value v) w' :=
  run_callFunc_extern (e := fun args => ReflectliteType.relation "Implements" ReflectliteType.implements_ args) Tryd.func76 (by kernel_rfl) (by kernel_rfl) (by kernel_rfl) (by kernel_rfl) args w

theorem rd_ok : L1.rd.Ok Tryd.prog where
  typeOf := by
    intro t ht v w
    simp only [L1.rd, List.mem_cons, List.not_mem_nil, or_false] at ht
    show (callFunc 27 _).run _ _ = _
    rw [x27]
    rcases ht with rfl | rfl | rfl | rfl <;> kernel_rfl
  valueOf := by
    intro t ht a w
    simp only [L1.rd, List.mem_cons, List.not_mem_nil, or_false] at ht
    show (callFunc 30 _).run _ _ = _
    rw [x30]
    rcases ht with rfl | rfl | rfl | rfl <;> kernel_rfl
  vType := by
    intro t ht a w
    simp only [L1.rd, List.mem_cons, List.not_mem_nil, or_false] at ht
    show (callFunc 31 _).run _ _ = _
    rw [x31]
    rcases ht with rfl | rfl | rfl | rfl <;> kernel_rfl
  isNil := by
    intro q hq a p w ha
    simp only [L1.rd, List.mem_cons, List.not_mem_nil, or_false] at hq
    subst hq
    show (callFunc 32 #[.agg #[Hnd 48, .pointer (some a), .int .u64 150]]).run _ _ = _
    rw [x32]
    rw [rlm]
    simp only [Sem.run_bind, partsPP, Result.andThen]
    simp [ReflectliteValue.isNil, ha, Result.andThen]
  vElem := by
    intro q hq a p w ha
    simp only [L1.rd, List.mem_cons, List.not_mem_nil, or_false] at hq
    subst hq
    show (callFunc 35 #[.agg #[Hnd 48, .pointer (some a), .int .u64 150]]).run _ _ = _
    rw [x35]
    rw [rlm]
    simp only [Sem.run_bind, partsPP, Result.andThen]
    simp [ReflectliteValue.elem, ha, Result.andThen, elemOfPP, mkP]
    rfl
  set := by
    intro t ht a b v w w' hb hs
    simp only [L1.rd, List.mem_cons, List.not_mem_nil, or_false] at ht
    subst ht
    show (callFunc 36 #[.agg #[Hnd 34, .pointer (some a), .int .u64 406], .agg #[Hnd 34, .pointer (some b), .int .u64 150]]).run _ _ = _
    rw [x36]
    rw [rls]
    simp only [Sem.run_bind, partsPa, partsP, Result.andThen]
    simp [ReflectliteValue.flagAddr, hb, hs, Result.andThen, directP]
  rows := by
    intro r hr w
    simp only [L1.rd, List.mem_cons, List.not_mem_nil, or_false] at hr
    rcases hr with rfl | rfl | rfl | rfl | rfl | rfl | rfl | rfl | rfl | rfl <;> simp only [x63, x73, x74, x75, x76] <;> kernel_rfl

theorem cfg_ok : (L1.cfg Tryd.prog).Ok Tryd.prog := by
  refine ⟨RD.specs_ok rd_ok, ?_⟩
  intro m hm v w
  simp only [L1.cfg, L1.meths, List.mem_cons, List.not_mem_nil, or_false] at hm
  rcases hm with rfl | rfl | rfl | rfl | rfl | rfl | rfl | rfl | rfl | rfl | rfl <;> kernel_rfl
theorem mixed : Tryd.prog.follows .mixedOrders = true := by kernel_rfl
end Go.Proofs.YtgkinefofnlnlaaDoor

