/- The numbers of messuagelaw1's dump. -/
import Derived.Test.YtgkinefofnlnlaaDoorVSxRef
namespace Go.Sx.L1
def rd : RD where
  fTypeOf := 27
  fValueOf := 30
  fVType := 31
  fIsNil := 32
  fVElem := 35
  fSet := 36
  R := 81
  G := 4
  ptrs := [34, 48, 71, 77]
  pptrs := [(48, 34)]
  sets := [34]
  rows := [⟨74, [.a 34], .b true⟩, ⟨74, [.a 71], .b true⟩, ⟨74, [.a 77], .b true⟩,
    ⟨63, [.h 48], .k 22⟩, ⟨63, [.h 34], .k 22⟩, ⟨75, [.a 48], .i 34⟩, ⟨76, [.a 34, .i 30], .b true⟩,
    ⟨73, [.a 34, .i 34], .b true⟩, ⟨73, [.a 71, .i 34], .b false⟩, ⟨73, [.a 77, .i 34], .b false⟩]
def ro : List (Addr × Value) := [(⟨0, 0, none⟩, .iface 81 (.agg #[.pointer (some ⟨4, 30, none⟩)]))]
def meths : List (TypeId × String × FuncId × Bool) := [
  (81, "Comparable", 74, false), (81, "Kind", 63, true), (81, "Elem", 75, false), (81, "Implements", 76, false), (81, "AssignableTo", 73, false),
  (34, "Error", 20, false), (34, "Unwrap", 21, false), (34, "Is", 22, false), (71, "Error", 69, false), (77, "Unwrap", 71, false), (77, "Error", 70, false)]
def cfg (P : Program) : Cfg := ⟨ro, meths, rd.specs P ro⟩
def begun : FSpec where
  f := 11
  ni := 0
  nl := 0
  nb := 0
  args := []
  hp := []
  res := .b (.c 1)
  hp' := []
  rel := ⟨(fun _ _ => True), (fun _ _ _ _ => True)⟩
def code : FSpec where
  f := 12
  ni := 1
  nl := 0
  nb := 0
  args := [.i .i64 (.v 0)]
  hp := []
  irng := [(0, -9223372036854775808, 9223372036854775807)]
  ri := 1
  res := .i .i64 (.v 1)
  hp' := []
  orng := [(1, 1, 11)]
  rel := ⟨(fun _ _ => True), (fun is _ xs _ => xs = [((is.getD 0 0).tmod 11 + 11).tmod 11 + 1])⟩
def cfgB (P : Program) : Cfg := { cfg P with specs := [begun.spec, code.spec] ++ (cfg P).specs }
/-- A law of integers and a call. -/
def lawC (f n : Nat) : FSpec where
  f := f
  ni := n + 5
  nl := 0
  nb := 0
  args := ((List.range n).map fun i => .i .i64 (.v i)) ++ [.agg ((List.range 5).map fun i => .i .u64 (.v (n + i)))]
  hp := []
  irng := ((List.range n).map fun i => (i, -9223372036854775808, 9223372036854775807)) ++ (List.range 5).map fun i => (n + i, 0, 18446744073709551615)
  res := .b (.c 1)
  hp' := []
  rel := ⟨(fun _ _ => True), (fun _ _ _ _ => True)⟩
/-- 'code' where its value is known to be k: that it is k is asked for behind its contract. -/
def pin (ks : List (Nat × Int)) (args : List SV) (r : SV) : M SV :=
  match args, r with
  | [.i .i64 (.v i)], .i .i64 a => (match ks.find? (·.1 == i) with
    | some q => do
      need .eql a (.c q.2)
      pure (.i .i64 (.c q.2))
    | none => pure (.i .i64 a))
  | _, r => pure r
def codeRun (ks : List (Nat × Int)) (args : List SV) : M SV := do
  let r ← code.run args
  pin ks args r
def codeOf (n : Int) : Int := (n.tmod 11 + 11).tmod 11 + 1
/-- With the codes of the numbers 0, .. known. -/
def cfgK (P : Program) (ks : List (Nat × Int)) : Cfg := { cfg P with specs := [begun.spec, ⟨12, codeRun ks⟩] ++ (cfg P).specs }
/-- A law of integers. -/
def lawI (f n : Nat) (pre : List Int → Prop) : FSpec where
  f := f
  ni := n
  nl := 0
  nb := 0
  args := (List.range n).map fun i => .i .i64 (.v i)
  hp := []
  irng := (List.range n).map fun i => (i, -9223372036854775808, 9223372036854775807)
  res := .b (.c 1)
  hp' := []
  rel := ⟨(fun is _ => pre is), (fun _ _ _ _ => True)⟩
/-- A law of integers, a slice of integers, a call: the integers first, the slice's length and room, the call's words. -/
def lawS (f n : Nat) : FSpec where
  f := f
  ni := n + 7
  nl := 1
  nb := 1
  args := ((List.range n).map fun i => .i .i64 (.v i)) ++ [.slc 0 (.c 0) (.v n) (.v (n + 1)), .agg ((List.range 5).map fun i => .i .u64 (.v (n + 2 + i)))]
  hp := [(0, .ro [.i .i64] 0 (.v (n + 1)))]
  irng := ((List.range n).map fun i => (i, -9223372036854775808, 9223372036854775807)) ++ [(n, 0, 9223372036854775807), (n + 1, 0, 9223372036854775807)] ++ (List.range 5).map fun i => (n + 2 + i, 0, 18446744073709551615)
  ilrng := [(0, -9223372036854775808, 9223372036854775807)]
  res := .b (.c 1)
  hp' := []
  rel := ⟨(fun is _ => is.getD n 0 ≤ is.getD (n + 1) 0), (fun _ _ _ _ => True)⟩
end Go.Sx.L1
