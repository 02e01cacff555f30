/-
  NARROWER THAN 'FOR EVERY INPUT', by the rows' own cells (each row's printed sentence says how): KernelNone: laid · PlainSleep: laid · PlainShare: laid · PlainProtect: laid · PlainAlloc: laid · PlainFull: laid · UserAll: laid.
  DERIVED. THE GIVEN ROWS OF THIS SEAT. 7 by the template 'for every input the law returns true; each argument reads behind the call as it read before'; 0 by the template 'total and deterministic' (their statements: YtbpilohnhhbbpaaGreatDoorTotals.lean).
  GIVEN WITH THE SEED: the statements are not yours to turn. If you find one false, say at which input.
  Laid BY PROGRAM, IN A SANDBOX (cutbox-rows.mjs): the forced cells as the released guide's own fill.sh prints them over the translation ad4f7b8b52c768fb… (all of the seat's roots in one cut). By AI agents, Wed Nov 11 2026. No macro, syntax, notation, axiom, sorry.
-/
import Derived.Test.YtbpilohnhhbbpaaGreatDoorChecked
import GoSem.Claim
import GoSem.ClaimJoined
import GoSem.ClaimMapViews
import Derived.JoinedTies
import Derived.KernelRfl
namespace Go.Proofs.YtbpilohnhhbbpaaGreatDoor
/- THE CELL 'sum', in the pinned program and in every row, IS THE sha256 OF THE DUMP (.gsa) THAT YtbpilohnhhbbpaaGreatDoorProg.lean LOADS. Nothing in Lean hashes anything: it is a label: what it is worth is what the hold of that sum in a sandbox is worth. -/
noncomputable def Tryz.pinned : Pinned := { name := "ytbpilohnhhbbpaagreatdoor", sum := "ad4f7b8b52c768fbdc8f1144d169582b1cb5896122a8bbc08e9c6615e02b558e", checked := Tryz.checked }
namespace Rows
def none {H : Type} : Left H := { results := [], args := [] }

/- WHAT THE LISTED PACKAGE-LEVEL VARIABLES READ AS WHEN THE CALL BEGINS. Each datum BY PROGRAM (the guide's laid-datum.mjs) off the statement by which the dump's own 'gosem.cut.vars' lays the variable. In a bare row this is a premise. The card (YtbpilohnhhbbpaaGreatDoorCards.lean) ties it to the program's text. -/
def laid_errors_errorType {H : Type} : DataW H := .iface "internal/reflectlite.rtype" (.agg [.ptr (.lit (.string [101, 114, 114, 111, 114]))])

/-- 'messuagelaw11.KernelNone': WHATEVER THE INPUT: true; the input reads as it did. -/
def kernelNoneSpec : ChangeSpec := { name := "kernelNone", fn := fun _ => fun
  | [] => { results := [.lit (.bool true)], args := [] }
  | _ => none }
def kernelNoneRow : OpenClaim := { program := "ytbpilohnhhbbpaagreatdoor", sum := "ad4f7b8b52c768fbdc8f1144d169582b1cb5896122a8bbc08e9c6615e02b558e", func := "messuage/messuagelaw11.KernelNone", spec := "kernelNone", inPlace := ["internal/reflectlite.ValueOf", "(internal/reflectlite.Value).Type", "(internal/reflectlite.Value).IsNil", "internal/reflectlite.TypeOf", "(internal/reflectlite.Value).Elem", "(internal/reflectlite.Value).Set", "slices.overlaps[uint64]"], unfollowed := true, recurses := true, named := ["errors.errorType"], apart := false, laid := [("errors.errorType", laid_errors_errorType)] }
def KernelNoneSaid : Prop := kernelNoneRow.holds Tryz.pinned (OpenSpec.ofChange kernelNoneSpec)

/-- ITS FALSE NEIGHBOUR: 'it returns false'. Refute it at one input. -/
def kernelNoneWrong : ChangeSpec := { name := "kernelNone", fn := fun _ => fun
  | [] => { results := [.lit (.bool false)], args := [] }
  | _ => none }
def KernelNoneWrongFalsely : Prop := kernelNoneRow.holds Tryz.pinned (OpenSpec.ofChange kernelNoneWrong)

/-- 'messuagelaw11.PlainSleep': WHATEVER THE INPUT: true; the input reads as it did. -/
def plainSleepSpec : ChangeSpec := { name := "plainSleep", fn := fun _ => fun
  | [d1, d2, d3, d4] => { results := [.lit (.bool true)], args := [d1, d2, d3, d4] }
  | _ => none }
def plainSleepRow : OpenClaim := { program := "ytbpilohnhhbbpaagreatdoor", sum := "ad4f7b8b52c768fbdc8f1144d169582b1cb5896122a8bbc08e9c6615e02b558e", func := "messuage/messuagelaw11.PlainSleep", spec := "plainSleep", inPlace := ["internal/reflectlite.ValueOf", "(internal/reflectlite.Value).Type", "(internal/reflectlite.Value).IsNil", "internal/reflectlite.TypeOf", "(internal/reflectlite.Value).Elem", "(internal/reflectlite.Value).Set", "slices.overlaps[uint64]"], unfollowed := true, recurses := true, named := ["errors.errorType"], apart := false, laid := [("errors.errorType", laid_errors_errorType)] }
def PlainSleepSaid : Prop := plainSleepRow.holds Tryz.pinned (OpenSpec.ofChange plainSleepSpec)

/-- ITS FALSE NEIGHBOUR: 'it returns false'. Refute it at one input. -/
def plainSleepWrong : ChangeSpec := { name := "plainSleep", fn := fun _ => fun
  | [d1, d2, d3, d4] => { results := [.lit (.bool false)], args := [d1, d2, d3, d4] }
  | _ => none }
def PlainSleepWrongFalsely : Prop := plainSleepRow.holds Tryz.pinned (OpenSpec.ofChange plainSleepWrong)

/-- 'messuagelaw11.PlainShare': WHATEVER THE INPUT: true; the input reads as it did. -/
def plainShareSpec : ChangeSpec := { name := "plainShare", fn := fun _ => fun
  | [d1, d2, d3, d4] => { results := [.lit (.bool true)], args := [d1, d2, d3, d4] }
  | _ => none }
def plainShareRow : OpenClaim := { program := "ytbpilohnhhbbpaagreatdoor", sum := "ad4f7b8b52c768fbdc8f1144d169582b1cb5896122a8bbc08e9c6615e02b558e", func := "messuage/messuagelaw11.PlainShare", spec := "plainShare", inPlace := ["internal/reflectlite.ValueOf", "(internal/reflectlite.Value).Type", "(internal/reflectlite.Value).IsNil", "internal/reflectlite.TypeOf", "(internal/reflectlite.Value).Elem", "(internal/reflectlite.Value).Set", "slices.overlaps[uint64]"], unfollowed := true, recurses := true, named := ["errors.errorType"], apart := false, laid := [("errors.errorType", laid_errors_errorType)] }
def PlainShareSaid : Prop := plainShareRow.holds Tryz.pinned (OpenSpec.ofChange plainShareSpec)

/-- ITS FALSE NEIGHBOUR: 'it returns false'. Refute it at one input. -/
def plainShareWrong : ChangeSpec := { name := "plainShare", fn := fun _ => fun
  | [d1, d2, d3, d4] => { results := [.lit (.bool false)], args := [d1, d2, d3, d4] }
  | _ => none }
def PlainShareWrongFalsely : Prop := plainShareRow.holds Tryz.pinned (OpenSpec.ofChange plainShareWrong)

/-- 'messuagelaw11.PlainProtect': WHATEVER THE INPUT: true; the input reads as it did. -/
def plainProtectSpec : ChangeSpec := { name := "plainProtect", fn := fun _ => fun
  | [d1, d2] => { results := [.lit (.bool true)], args := [d1, d2] }
  | _ => none }
def plainProtectRow : OpenClaim := { program := "ytbpilohnhhbbpaagreatdoor", sum := "ad4f7b8b52c768fbdc8f1144d169582b1cb5896122a8bbc08e9c6615e02b558e", func := "messuage/messuagelaw11.PlainProtect", spec := "plainProtect", inPlace := ["internal/reflectlite.ValueOf", "(internal/reflectlite.Value).Type", "(internal/reflectlite.Value).IsNil", "internal/reflectlite.TypeOf", "(internal/reflectlite.Value).Elem", "(internal/reflectlite.Value).Set", "slices.overlaps[uint64]"], unfollowed := true, recurses := true, named := ["errors.errorType"], apart := false, laid := [("errors.errorType", laid_errors_errorType)] }
def PlainProtectSaid : Prop := plainProtectRow.holds Tryz.pinned (OpenSpec.ofChange plainProtectSpec)

/-- ITS FALSE NEIGHBOUR: 'it returns false'. Refute it at one input. -/
def plainProtectWrong : ChangeSpec := { name := "plainProtect", fn := fun _ => fun
  | [d1, d2] => { results := [.lit (.bool false)], args := [d1, d2] }
  | _ => none }
def PlainProtectWrongFalsely : Prop := plainProtectRow.holds Tryz.pinned (OpenSpec.ofChange plainProtectWrong)

/-- 'messuagelaw11.PlainAlloc': WHATEVER THE INPUT: true; the input reads as it did. -/
def plainAllocSpec : ChangeSpec := { name := "plainAlloc", fn := fun _ => fun
  | [d1, d2] => { results := [.lit (.bool true)], args := [d1, d2] }
  | _ => none }
def plainAllocRow : OpenClaim := { program := "ytbpilohnhhbbpaagreatdoor", sum := "ad4f7b8b52c768fbdc8f1144d169582b1cb5896122a8bbc08e9c6615e02b558e", func := "messuage/messuagelaw11.PlainAlloc", spec := "plainAlloc", inPlace := ["internal/reflectlite.ValueOf", "(internal/reflectlite.Value).Type", "(internal/reflectlite.Value).IsNil", "internal/reflectlite.TypeOf", "(internal/reflectlite.Value).Elem", "(internal/reflectlite.Value).Set", "slices.overlaps[uint64]"], unfollowed := true, recurses := true, named := ["errors.errorType"], apart := false, laid := [("errors.errorType", laid_errors_errorType)] }
def PlainAllocSaid : Prop := plainAllocRow.holds Tryz.pinned (OpenSpec.ofChange plainAllocSpec)

/-- ITS FALSE NEIGHBOUR: 'it returns false'. Refute it at one input. -/
def plainAllocWrong : ChangeSpec := { name := "plainAlloc", fn := fun _ => fun
  | [d1, d2] => { results := [.lit (.bool false)], args := [d1, d2] }
  | _ => none }
def PlainAllocWrongFalsely : Prop := plainAllocRow.holds Tryz.pinned (OpenSpec.ofChange plainAllocWrong)

/-- 'messuagelaw11.PlainFull': WHATEVER THE INPUT: true; the input reads as it did. -/
def plainFullSpec : ChangeSpec := { name := "plainFull", fn := fun _ => fun
  | [d] => { results := [.lit (.bool true)], args := [d] }
  | _ => none }
def plainFullRow : OpenClaim := { program := "ytbpilohnhhbbpaagreatdoor", sum := "ad4f7b8b52c768fbdc8f1144d169582b1cb5896122a8bbc08e9c6615e02b558e", func := "messuage/messuagelaw11.PlainFull", spec := "plainFull", inPlace := ["internal/reflectlite.ValueOf", "(internal/reflectlite.Value).Type", "(internal/reflectlite.Value).IsNil", "internal/reflectlite.TypeOf", "(internal/reflectlite.Value).Elem", "(internal/reflectlite.Value).Set", "slices.overlaps[uint64]"], unfollowed := true, recurses := true, named := ["errors.errorType"], apart := false, laid := [("errors.errorType", laid_errors_errorType)] }
def PlainFullSaid : Prop := plainFullRow.holds Tryz.pinned (OpenSpec.ofChange plainFullSpec)

/-- ITS FALSE NEIGHBOUR: 'it returns false'. Refute it at one input. -/
def plainFullWrong : ChangeSpec := { name := "plainFull", fn := fun _ => fun
  | [d] => { results := [.lit (.bool false)], args := [d] }
  | _ => none }
def PlainFullWrongFalsely : Prop := plainFullRow.holds Tryz.pinned (OpenSpec.ofChange plainFullWrong)

/-- 'messuagelaw11.UserAll': WHATEVER THE INPUT: true; the input reads as it did. -/
def userAllSpec : ChangeSpec := { name := "userAll", fn := fun _ => fun
  | [d1, d2, d3] => { results := [.lit (.bool true)], args := [d1, d2, d3] }
  | _ => none }
def userAllRow : OpenClaim := { program := "ytbpilohnhhbbpaagreatdoor", sum := "ad4f7b8b52c768fbdc8f1144d169582b1cb5896122a8bbc08e9c6615e02b558e", func := "messuage/messuagelaw11.UserAll", spec := "userAll", inPlace := ["internal/reflectlite.ValueOf", "(internal/reflectlite.Value).Type", "(internal/reflectlite.Value).IsNil", "internal/reflectlite.TypeOf", "(internal/reflectlite.Value).Elem", "(internal/reflectlite.Value).Set", "slices.overlaps[uint64]"], unfollowed := true, recurses := true, named := ["errors.errorType"], apart := false, laid := [("errors.errorType", laid_errors_errorType)] }
def UserAllSaid : Prop := userAllRow.holds Tryz.pinned (OpenSpec.ofChange userAllSpec)

/-- ITS FALSE NEIGHBOUR: 'it returns false'. Refute it at one input. -/
def userAllWrong : ChangeSpec := { name := "userAll", fn := fun _ => fun
  | [d1, d2, d3] => { results := [.lit (.bool false)], args := [d1, d2, d3] }
  | _ => none }
def UserAllWrongFalsely : Prop := userAllRow.holds Tryz.pinned (OpenSpec.ofChange userAllWrong)

/- THE SECOND FORM. 'bulk': how many values and letters a reading holds, each counted each time it is reached (what is shared counts as often as it is met; a slice's spare places count too). A statement '..UptoSaid' is the law's where the arguments, and the package variables that the reading takes, are together of bulk at most 1048576: NARROWER than '..Said'. Prove '..Said' where nothing that the law and all that it calls make is longer than what came in: it says more and counts as full. Else prove '..UptoSaid'. A law counts once. -/
mutual
def uptoBulk {H : Type} : DataW H → Nat
  | .lit (.string bytes) => bytes.length + 1
  | .lit _ => 1
  | .nil => 1
  | .ptr d => uptoBulk d + 1
  | .slice elems spare => uptoBulkAll elems + uptoBulkAll spare + 1
  | .agg parts => uptoBulkAll parts + 1
  | .iface _ d => uptoBulk d + 1
  | .map entries => uptoBulkEntries entries + 1
  | .held _ => 1
def uptoBulkAll {H : Type} : List (DataW H) → Nat
  | [] => 0
  | d :: r => uptoBulk d + uptoBulkAll r
def uptoBulkEntries {H : Type} : List (Lit × DataW H) → Nat
  | [] => 0
  | x :: r => uptoBulkEntry x + uptoBulkEntries r
def uptoBulkEntry {H : Type} : Lit × DataW H → Nat
  | (.string bytes, d) => bytes.length + uptoBulk d + 1
  | (_, d) => uptoBulk d + 1
 end
def uptoSmall : (H : Type) → List (DataW H) → Bool := fun _ ds => decide (uptoBulkAll ds ≤ 1048576)
def OpenSpec.upto (s : _root_.Go.ChangeSpec) : _root_.Go.OpenSpec := { _root_.Go.OpenSpec.ofChange s with cond := some uptoSmall }

/-- 'messuagelaw11.KernelNone', WHERE WHAT IT READS IS OF BULK AT MOST 1048576: true; the input reads as it did. -/
def kernelNoneUptoRow : OpenClaim := { program := "ytbpilohnhhbbpaagreatdoor", sum := "ad4f7b8b52c768fbdc8f1144d169582b1cb5896122a8bbc08e9c6615e02b558e", func := "messuage/messuagelaw11.KernelNone", spec := "kernelNone", inPlace := ["internal/reflectlite.ValueOf", "(internal/reflectlite.Value).Type", "(internal/reflectlite.Value).IsNil", "internal/reflectlite.TypeOf", "(internal/reflectlite.Value).Elem", "(internal/reflectlite.Value).Set", "slices.overlaps[uint64]"], unfollowed := true, recurses := true, named := ["errors.errorType"], apart := false, laid := [("errors.errorType", laid_errors_errorType)], narrowed := true }
def KernelNoneUptoSaid : Prop := kernelNoneUptoRow.holds Tryz.pinned (OpenSpec.upto kernelNoneSpec)

/-- 'messuagelaw11.PlainSleep', WHERE WHAT IT READS IS OF BULK AT MOST 1048576: true; the input reads as it did. -/
def plainSleepUptoRow : OpenClaim := { program := "ytbpilohnhhbbpaagreatdoor", sum := "ad4f7b8b52c768fbdc8f1144d169582b1cb5896122a8bbc08e9c6615e02b558e", func := "messuage/messuagelaw11.PlainSleep", spec := "plainSleep", inPlace := ["internal/reflectlite.ValueOf", "(internal/reflectlite.Value).Type", "(internal/reflectlite.Value).IsNil", "internal/reflectlite.TypeOf", "(internal/reflectlite.Value).Elem", "(internal/reflectlite.Value).Set", "slices.overlaps[uint64]"], unfollowed := true, recurses := true, named := ["errors.errorType"], apart := false, laid := [("errors.errorType", laid_errors_errorType)], narrowed := true }
def PlainSleepUptoSaid : Prop := plainSleepUptoRow.holds Tryz.pinned (OpenSpec.upto plainSleepSpec)

/-- 'messuagelaw11.PlainShare', WHERE WHAT IT READS IS OF BULK AT MOST 1048576: true; the input reads as it did. -/
def plainShareUptoRow : OpenClaim := { program := "ytbpilohnhhbbpaagreatdoor", sum := "ad4f7b8b52c768fbdc8f1144d169582b1cb5896122a8bbc08e9c6615e02b558e", func := "messuage/messuagelaw11.PlainShare", spec := "plainShare", inPlace := ["internal/reflectlite.ValueOf", "(internal/reflectlite.Value).Type", "(internal/reflectlite.Value).IsNil", "internal/reflectlite.TypeOf", "(internal/reflectlite.Value).Elem", "(internal/reflectlite.Value).Set", "slices.overlaps[uint64]"], unfollowed := true, recurses := true, named := ["errors.errorType"], apart := false, laid := [("errors.errorType", laid_errors_errorType)], narrowed := true }
def PlainShareUptoSaid : Prop := plainShareUptoRow.holds Tryz.pinned (OpenSpec.upto plainShareSpec)

/-- 'messuagelaw11.PlainProtect', WHERE WHAT IT READS IS OF BULK AT MOST 1048576: true; the input reads as it did. -/
def plainProtectUptoRow : OpenClaim := { program := "ytbpilohnhhbbpaagreatdoor", sum := "ad4f7b8b52c768fbdc8f1144d169582b1cb5896122a8bbc08e9c6615e02b558e", func := "messuage/messuagelaw11.PlainProtect", spec := "plainProtect", inPlace := ["internal/reflectlite.ValueOf", "(internal/reflectlite.Value).Type", "(internal/reflectlite.Value).IsNil", "internal/reflectlite.TypeOf", "(internal/reflectlite.Value).Elem", "(internal/reflectlite.Value).Set", "slices.overlaps[uint64]"], unfollowed := true, recurses := true, named := ["errors.errorType"], apart := false, laid := [("errors.errorType", laid_errors_errorType)], narrowed := true }
def PlainProtectUptoSaid : Prop := plainProtectUptoRow.holds Tryz.pinned (OpenSpec.upto plainProtectSpec)

/-- 'messuagelaw11.PlainAlloc', WHERE WHAT IT READS IS OF BULK AT MOST 1048576: true; the input reads as it did. -/
def plainAllocUptoRow : OpenClaim := { program := "ytbpilohnhhbbpaagreatdoor", sum := "ad4f7b8b52c768fbdc8f1144d169582b1cb5896122a8bbc08e9c6615e02b558e", func := "messuage/messuagelaw11.PlainAlloc", spec := "plainAlloc", inPlace := ["internal/reflectlite.ValueOf", "(internal/reflectlite.Value).Type", "(internal/reflectlite.Value).IsNil", "internal/reflectlite.TypeOf", "(internal/reflectlite.Value).Elem", "(internal/reflectlite.Value).Set", "slices.overlaps[uint64]"], unfollowed := true, recurses := true, named := ["errors.errorType"], apart := false, laid := [("errors.errorType", laid_errors_errorType)], narrowed := true }
def PlainAllocUptoSaid : Prop := plainAllocUptoRow.holds Tryz.pinned (OpenSpec.upto plainAllocSpec)

/-- 'messuagelaw11.PlainFull', WHERE WHAT IT READS IS OF BULK AT MOST 1048576: true; the input reads as it did. -/
def plainFullUptoRow : OpenClaim := { program := "ytbpilohnhhbbpaagreatdoor", sum := "ad4f7b8b52c768fbdc8f1144d169582b1cb5896122a8bbc08e9c6615e02b558e", func := "messuage/messuagelaw11.PlainFull", spec := "plainFull", inPlace := ["internal/reflectlite.ValueOf", "(internal/reflectlite.Value).Type", "(internal/reflectlite.Value).IsNil", "internal/reflectlite.TypeOf", "(internal/reflectlite.Value).Elem", "(internal/reflectlite.Value).Set", "slices.overlaps[uint64]"], unfollowed := true, recurses := true, named := ["errors.errorType"], apart := false, laid := [("errors.errorType", laid_errors_errorType)], narrowed := true }
def PlainFullUptoSaid : Prop := plainFullUptoRow.holds Tryz.pinned (OpenSpec.upto plainFullSpec)

/-- 'messuagelaw11.UserAll', WHERE WHAT IT READS IS OF BULK AT MOST 1048576: true; the input reads as it did. -/
def userAllUptoRow : OpenClaim := { program := "ytbpilohnhhbbpaagreatdoor", sum := "ad4f7b8b52c768fbdc8f1144d169582b1cb5896122a8bbc08e9c6615e02b558e", func := "messuage/messuagelaw11.UserAll", spec := "userAll", inPlace := ["internal/reflectlite.ValueOf", "(internal/reflectlite.Value).Type", "(internal/reflectlite.Value).IsNil", "internal/reflectlite.TypeOf", "(internal/reflectlite.Value).Elem", "(internal/reflectlite.Value).Set", "slices.overlaps[uint64]"], unfollowed := true, recurses := true, named := ["errors.errorType"], apart := false, laid := [("errors.errorType", laid_errors_errorType)], narrowed := true }
def UserAllUptoSaid : Prop := userAllUptoRow.holds Tryz.pinned (OpenSpec.upto userAllSpec)

end Rows
end Go.Proofs.YtbpilohnhhbbpaaGreatDoor
