/-
  NARROWER THAN 'FOR EVERY INPUT', by the rows' own cells (each row's printed sentence says how): UserWalk: laid · CapsRights: laid · EpochAck: laid · UserStale: laid · UserMore: laid · UserKinds: laid · EpochMany: laid · CapsAll: laid · CapsChain: laid · CapsFan: laid · PredAll: laid · UserAll: laid.
  DERIVED. THE GIVEN ROWS OF THIS SEAT. 12 by the template 'for every input the law returns true; each argument reads behind the call as it read before'; 0 by the template 'total and deterministic' (their statements: YtegeplgckfpleaaGreatDoorTotals.lean).
  GIVEN WITH THE SEED: the statements are not yours to turn. If you find one false, say at which input.
  Laid BY PROGRAM, IN A SANDBOX (cutbox-rows.mjs): the forced cells as the released guide's own fill.sh prints them over the translation 76661a401fdc2074… (all of the seat's roots in one cut). By AI agents, Wed Nov 11 2026. No macro, syntax, notation, axiom, sorry.
-/
import Derived.Test.YtegeplgckfpleaaGreatDoorChecked
import GoSem.Claim
import GoSem.ClaimJoined
import GoSem.ClaimMapViews
import Derived.JoinedTies
import Derived.KernelRfl
namespace Go.Proofs.YtegeplgckfpleaaGreatDoor
/- THE CELL 'sum', in the pinned program and in every row, IS THE sha256 OF THE DUMP (.gsa) THAT YtegeplgckfpleaaGreatDoorProg.lean LOADS. Nothing in Lean hashes anything: it is a label: what it is worth is what the hold of that sum in a sandbox is worth. -/
noncomputable def Tryz.pinned : Pinned := { name := "ytegeplgckfpleaagreatdoor", sum := "76661a401fdc207492e358624f9b5468920a519c35906819473aa1206728e6f7", checked := Tryz.checked }
namespace Rows
def none {H : Type} : Left H := { results := [], args := [] }

/- WHAT THE LISTED PACKAGE-LEVEL VARIABLES READ AS WHEN THE CALL BEGINS. Each datum BY PROGRAM (the guide's laid-datum.mjs) off the statement by which the dump's own 'gosem.cut.vars' lays the variable. In a bare row this is a premise. The card (YtegeplgckfpleaaGreatDoorCards.lean) ties it to the program's text. -/
def laid_errors_errorType {H : Type} : DataW H := .iface "internal/reflectlite.rtype" (.agg [.ptr (.lit (.string [101, 114, 114, 111, 114]))])

/-- 'messuagelaw11.UserWalk': WHATEVER THE INPUT: true; the input reads as it did. -/
def userWalkSpec : ChangeSpec := { name := "userWalk", fn := fun _ => fun
  | [d1, d2, d3, d4, d5] => { results := [.lit (.bool true)], args := [d1, d2, d3, d4, d5] }
  | _ => none }
def userWalkRow : OpenClaim := { program := "ytegeplgckfpleaagreatdoor", sum := "76661a401fdc207492e358624f9b5468920a519c35906819473aa1206728e6f7", func := "messuage/messuagelaw11.UserWalk", spec := "userWalk", inPlace := ["internal/reflectlite.ValueOf", "(internal/reflectlite.Value).Type", "(internal/reflectlite.Value).IsNil", "internal/reflectlite.TypeOf", "(internal/reflectlite.Value).Elem", "(internal/reflectlite.Value).Set", "slices.overlaps[uint64]"], unfollowed := true, recurses := true, named := ["errors.errorType"], apart := false, laid := [("errors.errorType", laid_errors_errorType)] }
def UserWalkSaid : Prop := userWalkRow.holds Tryz.pinned (OpenSpec.ofChange userWalkSpec)

/-- ITS FALSE NEIGHBOUR: 'it returns false'. Refute it at one input. -/
def userWalkWrong : ChangeSpec := { name := "userWalk", fn := fun _ => fun
  | [d1, d2, d3, d4, d5] => { results := [.lit (.bool false)], args := [d1, d2, d3, d4, d5] }
  | _ => none }
def UserWalkWrongFalsely : Prop := userWalkRow.holds Tryz.pinned (OpenSpec.ofChange userWalkWrong)

/-- 'messuagelaw11.CapsRights': WHATEVER THE INPUT: true; the input reads as it did. -/
def capsRightsSpec : ChangeSpec := { name := "capsRights", fn := fun _ => fun
  | [d] => { results := [.lit (.bool true)], args := [d] }
  | _ => none }
def capsRightsRow : OpenClaim := { program := "ytegeplgckfpleaagreatdoor", sum := "76661a401fdc207492e358624f9b5468920a519c35906819473aa1206728e6f7", func := "messuage/messuagelaw11.CapsRights", spec := "capsRights", inPlace := ["internal/reflectlite.ValueOf", "(internal/reflectlite.Value).Type", "(internal/reflectlite.Value).IsNil", "internal/reflectlite.TypeOf", "(internal/reflectlite.Value).Elem", "(internal/reflectlite.Value).Set", "slices.overlaps[uint64]"], unfollowed := true, recurses := true, named := ["errors.errorType"], apart := false, laid := [("errors.errorType", laid_errors_errorType)] }
def CapsRightsSaid : Prop := capsRightsRow.holds Tryz.pinned (OpenSpec.ofChange capsRightsSpec)

/-- ITS FALSE NEIGHBOUR: 'it returns false'. Refute it at one input. -/
def capsRightsWrong : ChangeSpec := { name := "capsRights", fn := fun _ => fun
  | [d] => { results := [.lit (.bool false)], args := [d] }
  | _ => none }
def CapsRightsWrongFalsely : Prop := capsRightsRow.holds Tryz.pinned (OpenSpec.ofChange capsRightsWrong)

/-- 'messuagelaw11.EpochAck': WHATEVER THE INPUT: true; the input reads as it did. -/
def epochAckSpec : ChangeSpec := { name := "epochAck", fn := fun _ => fun
  | [d1, d2, d3] => { results := [.lit (.bool true)], args := [d1, d2, d3] }
  | _ => none }
def epochAckRow : OpenClaim := { program := "ytegeplgckfpleaagreatdoor", sum := "76661a401fdc207492e358624f9b5468920a519c35906819473aa1206728e6f7", func := "messuage/messuagelaw11.EpochAck", spec := "epochAck", inPlace := ["internal/reflectlite.ValueOf", "(internal/reflectlite.Value).Type", "(internal/reflectlite.Value).IsNil", "internal/reflectlite.TypeOf", "(internal/reflectlite.Value).Elem", "(internal/reflectlite.Value).Set", "slices.overlaps[uint64]"], unfollowed := true, recurses := true, named := ["errors.errorType"], apart := false, laid := [("errors.errorType", laid_errors_errorType)] }
def EpochAckSaid : Prop := epochAckRow.holds Tryz.pinned (OpenSpec.ofChange epochAckSpec)

/-- ITS FALSE NEIGHBOUR: 'it returns false'. Refute it at one input. -/
def epochAckWrong : ChangeSpec := { name := "epochAck", fn := fun _ => fun
  | [d1, d2, d3] => { results := [.lit (.bool false)], args := [d1, d2, d3] }
  | _ => none }
def EpochAckWrongFalsely : Prop := epochAckRow.holds Tryz.pinned (OpenSpec.ofChange epochAckWrong)

/-- 'messuagelaw11.UserStale': WHATEVER THE INPUT: true; the input reads as it did. -/
def userStaleSpec : ChangeSpec := { name := "userStale", fn := fun _ => fun
  | [d1, d2, d3, d4] => { results := [.lit (.bool true)], args := [d1, d2, d3, d4] }
  | _ => none }
def userStaleRow : OpenClaim := { program := "ytegeplgckfpleaagreatdoor", sum := "76661a401fdc207492e358624f9b5468920a519c35906819473aa1206728e6f7", func := "messuage/messuagelaw11.UserStale", spec := "userStale", inPlace := ["internal/reflectlite.ValueOf", "(internal/reflectlite.Value).Type", "(internal/reflectlite.Value).IsNil", "internal/reflectlite.TypeOf", "(internal/reflectlite.Value).Elem", "(internal/reflectlite.Value).Set", "slices.overlaps[uint64]"], unfollowed := true, recurses := true, named := ["errors.errorType"], apart := false, laid := [("errors.errorType", laid_errors_errorType)] }
def UserStaleSaid : Prop := userStaleRow.holds Tryz.pinned (OpenSpec.ofChange userStaleSpec)

/-- ITS FALSE NEIGHBOUR: 'it returns false'. Refute it at one input. -/
def userStaleWrong : ChangeSpec := { name := "userStale", fn := fun _ => fun
  | [d1, d2, d3, d4] => { results := [.lit (.bool false)], args := [d1, d2, d3, d4] }
  | _ => none }
def UserStaleWrongFalsely : Prop := userStaleRow.holds Tryz.pinned (OpenSpec.ofChange userStaleWrong)

/-- 'messuagelaw11.UserMore': WHATEVER THE INPUT: true; the input reads as it did. -/
def userMoreSpec : ChangeSpec := { name := "userMore", fn := fun _ => fun
  | [d1, d2, d3, d4] => { results := [.lit (.bool true)], args := [d1, d2, d3, d4] }
  | _ => none }
def userMoreRow : OpenClaim := { program := "ytegeplgckfpleaagreatdoor", sum := "76661a401fdc207492e358624f9b5468920a519c35906819473aa1206728e6f7", func := "messuage/messuagelaw11.UserMore", spec := "userMore", inPlace := ["internal/reflectlite.ValueOf", "(internal/reflectlite.Value).Type", "(internal/reflectlite.Value).IsNil", "internal/reflectlite.TypeOf", "(internal/reflectlite.Value).Elem", "(internal/reflectlite.Value).Set", "slices.overlaps[uint64]"], unfollowed := true, recurses := true, named := ["errors.errorType"], apart := false, laid := [("errors.errorType", laid_errors_errorType)] }
def UserMoreSaid : Prop := userMoreRow.holds Tryz.pinned (OpenSpec.ofChange userMoreSpec)

/-- ITS FALSE NEIGHBOUR: 'it returns false'. Refute it at one input. -/
def userMoreWrong : ChangeSpec := { name := "userMore", fn := fun _ => fun
  | [d1, d2, d3, d4] => { results := [.lit (.bool false)], args := [d1, d2, d3, d4] }
  | _ => none }
def UserMoreWrongFalsely : Prop := userMoreRow.holds Tryz.pinned (OpenSpec.ofChange userMoreWrong)

/-- 'messuagelaw11.UserKinds': WHATEVER THE INPUT: true; the input reads as it did. -/
def userKindsSpec : ChangeSpec := { name := "userKinds", fn := fun _ => fun
  | [d1, d2, d3] => { results := [.lit (.bool true)], args := [d1, d2, d3] }
  | _ => none }
def userKindsRow : OpenClaim := { program := "ytegeplgckfpleaagreatdoor", sum := "76661a401fdc207492e358624f9b5468920a519c35906819473aa1206728e6f7", func := "messuage/messuagelaw11.UserKinds", spec := "userKinds", inPlace := ["internal/reflectlite.ValueOf", "(internal/reflectlite.Value).Type", "(internal/reflectlite.Value).IsNil", "internal/reflectlite.TypeOf", "(internal/reflectlite.Value).Elem", "(internal/reflectlite.Value).Set", "slices.overlaps[uint64]"], unfollowed := true, recurses := true, named := ["errors.errorType"], apart := false, laid := [("errors.errorType", laid_errors_errorType)] }
def UserKindsSaid : Prop := userKindsRow.holds Tryz.pinned (OpenSpec.ofChange userKindsSpec)

/-- ITS FALSE NEIGHBOUR: 'it returns false'. Refute it at one input. -/
def userKindsWrong : ChangeSpec := { name := "userKinds", fn := fun _ => fun
  | [d1, d2, d3] => { results := [.lit (.bool false)], args := [d1, d2, d3] }
  | _ => none }
def UserKindsWrongFalsely : Prop := userKindsRow.holds Tryz.pinned (OpenSpec.ofChange userKindsWrong)

/-- 'messuagelaw11.EpochMany': WHATEVER THE INPUT: true; the input reads as it did. -/
def epochManySpec : ChangeSpec := { name := "epochMany", fn := fun _ => fun
  | [d1, d2] => { results := [.lit (.bool true)], args := [d1, d2] }
  | _ => none }
def epochManyRow : OpenClaim := { program := "ytegeplgckfpleaagreatdoor", sum := "76661a401fdc207492e358624f9b5468920a519c35906819473aa1206728e6f7", func := "messuage/messuagelaw11.EpochMany", spec := "epochMany", inPlace := ["internal/reflectlite.ValueOf", "(internal/reflectlite.Value).Type", "(internal/reflectlite.Value).IsNil", "internal/reflectlite.TypeOf", "(internal/reflectlite.Value).Elem", "(internal/reflectlite.Value).Set", "slices.overlaps[uint64]"], unfollowed := true, recurses := true, named := ["errors.errorType"], apart := false, laid := [("errors.errorType", laid_errors_errorType)] }
def EpochManySaid : Prop := epochManyRow.holds Tryz.pinned (OpenSpec.ofChange epochManySpec)

/-- ITS FALSE NEIGHBOUR: 'it returns false'. Refute it at one input. -/
def epochManyWrong : ChangeSpec := { name := "epochMany", fn := fun _ => fun
  | [d1, d2] => { results := [.lit (.bool false)], args := [d1, d2] }
  | _ => none }
def EpochManyWrongFalsely : Prop := epochManyRow.holds Tryz.pinned (OpenSpec.ofChange epochManyWrong)

/-- 'messuagelaw11.CapsAll': WHATEVER THE INPUT: true; the input reads as it did. -/
def capsAllSpec : ChangeSpec := { name := "capsAll", fn := fun _ => fun
  | [d1, d2] => { results := [.lit (.bool true)], args := [d1, d2] }
  | _ => none }
def capsAllRow : OpenClaim := { program := "ytegeplgckfpleaagreatdoor", sum := "76661a401fdc207492e358624f9b5468920a519c35906819473aa1206728e6f7", func := "messuage/messuagelaw11.CapsAll", spec := "capsAll", inPlace := ["internal/reflectlite.ValueOf", "(internal/reflectlite.Value).Type", "(internal/reflectlite.Value).IsNil", "internal/reflectlite.TypeOf", "(internal/reflectlite.Value).Elem", "(internal/reflectlite.Value).Set", "slices.overlaps[uint64]"], unfollowed := true, recurses := true, named := ["errors.errorType"], apart := false, laid := [("errors.errorType", laid_errors_errorType)] }
def CapsAllSaid : Prop := capsAllRow.holds Tryz.pinned (OpenSpec.ofChange capsAllSpec)

/-- ITS FALSE NEIGHBOUR: 'it returns false'. Refute it at one input. -/
def capsAllWrong : ChangeSpec := { name := "capsAll", fn := fun _ => fun
  | [d1, d2] => { results := [.lit (.bool false)], args := [d1, d2] }
  | _ => none }
def CapsAllWrongFalsely : Prop := capsAllRow.holds Tryz.pinned (OpenSpec.ofChange capsAllWrong)

/-- 'messuagelaw11.CapsChain': WHATEVER THE INPUT: true; the input reads as it did. -/
def capsChainSpec : ChangeSpec := { name := "capsChain", fn := fun _ => fun
  | [d1, d2, d3] => { results := [.lit (.bool true)], args := [d1, d2, d3] }
  | _ => none }
def capsChainRow : OpenClaim := { program := "ytegeplgckfpleaagreatdoor", sum := "76661a401fdc207492e358624f9b5468920a519c35906819473aa1206728e6f7", func := "messuage/messuagelaw11.CapsChain", spec := "capsChain", inPlace := ["internal/reflectlite.ValueOf", "(internal/reflectlite.Value).Type", "(internal/reflectlite.Value).IsNil", "internal/reflectlite.TypeOf", "(internal/reflectlite.Value).Elem", "(internal/reflectlite.Value).Set", "slices.overlaps[uint64]"], unfollowed := true, recurses := true, named := ["errors.errorType"], apart := false, laid := [("errors.errorType", laid_errors_errorType)] }
def CapsChainSaid : Prop := capsChainRow.holds Tryz.pinned (OpenSpec.ofChange capsChainSpec)

/-- ITS FALSE NEIGHBOUR: 'it returns false'. Refute it at one input. -/
def capsChainWrong : ChangeSpec := { name := "capsChain", fn := fun _ => fun
  | [d1, d2, d3] => { results := [.lit (.bool false)], args := [d1, d2, d3] }
  | _ => none }
def CapsChainWrongFalsely : Prop := capsChainRow.holds Tryz.pinned (OpenSpec.ofChange capsChainWrong)

/-- 'messuagelaw11.CapsFan': WHATEVER THE INPUT: true; the input reads as it did. -/
def capsFanSpec : ChangeSpec := { name := "capsFan", fn := fun _ => fun
  | [d1, d2] => { results := [.lit (.bool true)], args := [d1, d2] }
  | _ => none }
def capsFanRow : OpenClaim := { program := "ytegeplgckfpleaagreatdoor", sum := "76661a401fdc207492e358624f9b5468920a519c35906819473aa1206728e6f7", func := "messuage/messuagelaw11.CapsFan", spec := "capsFan", inPlace := ["internal/reflectlite.ValueOf", "(internal/reflectlite.Value).Type", "(internal/reflectlite.Value).IsNil", "internal/reflectlite.TypeOf", "(internal/reflectlite.Value).Elem", "(internal/reflectlite.Value).Set", "slices.overlaps[uint64]"], unfollowed := true, recurses := true, named := ["errors.errorType"], apart := false, laid := [("errors.errorType", laid_errors_errorType)] }
def CapsFanSaid : Prop := capsFanRow.holds Tryz.pinned (OpenSpec.ofChange capsFanSpec)

/-- ITS FALSE NEIGHBOUR: 'it returns false'. Refute it at one input. -/
def capsFanWrong : ChangeSpec := { name := "capsFan", fn := fun _ => fun
  | [d1, d2] => { results := [.lit (.bool false)], args := [d1, d2] }
  | _ => none }
def CapsFanWrongFalsely : Prop := capsFanRow.holds Tryz.pinned (OpenSpec.ofChange capsFanWrong)

/-- 'messuagelaw11.PredAll': WHATEVER THE INPUT: true; the input reads as it did. -/
def predAllSpec : ChangeSpec := { name := "predAll", fn := fun _ => fun
  | [d1, d2, d3] => { results := [.lit (.bool true)], args := [d1, d2, d3] }
  | _ => none }
def predAllRow : OpenClaim := { program := "ytegeplgckfpleaagreatdoor", sum := "76661a401fdc207492e358624f9b5468920a519c35906819473aa1206728e6f7", func := "messuage/messuagelaw11.PredAll", spec := "predAll", inPlace := ["internal/reflectlite.ValueOf", "(internal/reflectlite.Value).Type", "(internal/reflectlite.Value).IsNil", "internal/reflectlite.TypeOf", "(internal/reflectlite.Value).Elem", "(internal/reflectlite.Value).Set", "slices.overlaps[uint64]"], unfollowed := true, recurses := true, named := ["errors.errorType"], apart := false, laid := [("errors.errorType", laid_errors_errorType)] }
def PredAllSaid : Prop := predAllRow.holds Tryz.pinned (OpenSpec.ofChange predAllSpec)

/-- ITS FALSE NEIGHBOUR: 'it returns false'. Refute it at one input. -/
def predAllWrong : ChangeSpec := { name := "predAll", fn := fun _ => fun
  | [d1, d2, d3] => { results := [.lit (.bool false)], args := [d1, d2, d3] }
  | _ => none }
def PredAllWrongFalsely : Prop := predAllRow.holds Tryz.pinned (OpenSpec.ofChange predAllWrong)

/-- 'messuagelaw11.UserAll': WHATEVER THE INPUT: true; the input reads as it did. -/
def userAllSpec : ChangeSpec := { name := "userAll", fn := fun _ => fun
  | [d1, d2, d3] => { results := [.lit (.bool true)], args := [d1, d2, d3] }
  | _ => none }
def userAllRow : OpenClaim := { program := "ytegeplgckfpleaagreatdoor", sum := "76661a401fdc207492e358624f9b5468920a519c35906819473aa1206728e6f7", func := "messuage/messuagelaw11.UserAll", spec := "userAll", inPlace := ["internal/reflectlite.ValueOf", "(internal/reflectlite.Value).Type", "(internal/reflectlite.Value).IsNil", "internal/reflectlite.TypeOf", "(internal/reflectlite.Value).Elem", "(internal/reflectlite.Value).Set", "slices.overlaps[uint64]"], unfollowed := true, recurses := true, named := ["errors.errorType"], apart := false, laid := [("errors.errorType", laid_errors_errorType)] }
def UserAllSaid : Prop := userAllRow.holds Tryz.pinned (OpenSpec.ofChange userAllSpec)

/-- ITS FALSE NEIGHBOUR: 'it returns false'. Refute it at one input. -/
def userAllWrong : ChangeSpec := { name := "userAll", fn := fun _ => fun
  | [d1, d2, d3] => { results := [.lit (.bool false)], args := [d1, d2, d3] }
  | _ => none }
def UserAllWrongFalsely : Prop := userAllRow.holds Tryz.pinned (OpenSpec.ofChange userAllWrong)

/- THE SECOND FORM. 'bulk': how many values and letters a reading holds, each counted each time it is reached (what is shared counts as often as it is met; a slice's spare places count too). A statement '..UptoSaid' is the law's where the arguments, and the package variables that the reading takes, are together of bulk at most 1048576: NARROWER than '..Said'. Prove '..Said' where nothing that the law and all that it calls make is longer than what came in: it says more and counts as full. Else prove '..UptoSaid'. A law counts once. -/
mutual
def uptoBulk {H : Type} : DataW H → Nat
  | .lit (.string bytes) => bytes.length + 1
  | .lit _ => 1
  | .nil => 1
  | .ptr d => uptoBulk d + 1
  | .slice elems spare => uptoBulkAll elems + uptoBulkAll spare + 1
  | .agg parts => uptoBulkAll parts + 1
  | .iface _ d => uptoBulk d + 1
  | .map entries => uptoBulkEntries entries + 1
  | .held _ => 1
def uptoBulkAll {H : Type} : List (DataW H) → Nat
  | [] => 0
  | d :: r => uptoBulk d + uptoBulkAll r
def uptoBulkEntries {H : Type} : List (Lit × DataW H) → Nat
  | [] => 0
  | x :: r => uptoBulkEntry x + uptoBulkEntries r
def uptoBulkEntry {H : Type} : Lit × DataW H → Nat
  | (.string bytes, d) => bytes.length + uptoBulk d + 1
  | (_, d) => uptoBulk d + 1
 end
def uptoSmall : (H : Type) → List (DataW H) → Bool := fun _ ds => decide (uptoBulkAll ds ≤ 1048576)
def OpenSpec.upto (s : _root_.Go.ChangeSpec) : _root_.Go.OpenSpec := { _root_.Go.OpenSpec.ofChange s with cond := some uptoSmall }

/-- 'messuagelaw11.UserWalk', WHERE WHAT IT READS IS OF BULK AT MOST 1048576: true; the input reads as it did. -/
def userWalkUptoRow : OpenClaim := { program := "ytegeplgckfpleaagreatdoor", sum := "76661a401fdc207492e358624f9b5468920a519c35906819473aa1206728e6f7", func := "messuage/messuagelaw11.UserWalk", spec := "userWalk", inPlace := ["internal/reflectlite.ValueOf", "(internal/reflectlite.Value).Type", "(internal/reflectlite.Value).IsNil", "internal/reflectlite.TypeOf", "(internal/reflectlite.Value).Elem", "(internal/reflectlite.Value).Set", "slices.overlaps[uint64]"], unfollowed := true, recurses := true, named := ["errors.errorType"], apart := false, laid := [("errors.errorType", laid_errors_errorType)], narrowed := true }
def UserWalkUptoSaid : Prop := userWalkUptoRow.holds Tryz.pinned (OpenSpec.upto userWalkSpec)

/-- 'messuagelaw11.CapsRights', WHERE WHAT IT READS IS OF BULK AT MOST 1048576: true; the input reads as it did. -/
def capsRightsUptoRow : OpenClaim := { program := "ytegeplgckfpleaagreatdoor", sum := "76661a401fdc207492e358624f9b5468920a519c35906819473aa1206728e6f7", func := "messuage/messuagelaw11.CapsRights", spec := "capsRights", inPlace := ["internal/reflectlite.ValueOf", "(internal/reflectlite.Value).Type", "(internal/reflectlite.Value).IsNil", "internal/reflectlite.TypeOf", "(internal/reflectlite.Value).Elem", "(internal/reflectlite.Value).Set", "slices.overlaps[uint64]"], unfollowed := true, recurses := true, named := ["errors.errorType"], apart := false, laid := [("errors.errorType", laid_errors_errorType)], narrowed := true }
def CapsRightsUptoSaid : Prop := capsRightsUptoRow.holds Tryz.pinned (OpenSpec.upto capsRightsSpec)

/-- 'messuagelaw11.EpochAck', WHERE WHAT IT READS IS OF BULK AT MOST 1048576: true; the input reads as it did. -/
def epochAckUptoRow : OpenClaim := { program := "ytegeplgckfpleaagreatdoor", sum := "76661a401fdc207492e358624f9b5468920a519c35906819473aa1206728e6f7", func := "messuage/messuagelaw11.EpochAck", spec := "epochAck", inPlace := ["internal/reflectlite.ValueOf", "(internal/reflectlite.Value).Type", "(internal/reflectlite.Value).IsNil", "internal/reflectlite.TypeOf", "(internal/reflectlite.Value).Elem", "(internal/reflectlite.Value).Set", "slices.overlaps[uint64]"], unfollowed := true, recurses := true, named := ["errors.errorType"], apart := false, laid := [("errors.errorType", laid_errors_errorType)], narrowed := true }
def EpochAckUptoSaid : Prop := epochAckUptoRow.holds Tryz.pinned (OpenSpec.upto epochAckSpec)

/-- 'messuagelaw11.UserStale', WHERE WHAT IT READS IS OF BULK AT MOST 1048576: true; the input reads as it did. -/
def userStaleUptoRow : OpenClaim := { program := "ytegeplgckfpleaagreatdoor", sum := "76661a401fdc207492e358624f9b5468920a519c35906819473aa1206728e6f7", func := "messuage/messuagelaw11.UserStale", spec := "userStale", inPlace := ["internal/reflectlite.ValueOf", "(internal/reflectlite.Value).Type", "(internal/reflectlite.Value).IsNil", "internal/reflectlite.TypeOf", "(internal/reflectlite.Value).Elem", "(internal/reflectlite.Value).Set", "slices.overlaps[uint64]"], unfollowed := true, recurses := true, named := ["errors.errorType"], apart := false, laid := [("errors.errorType", laid_errors_errorType)], narrowed := true }
def UserStaleUptoSaid : Prop := userStaleUptoRow.holds Tryz.pinned (OpenSpec.upto userStaleSpec)

/-- 'messuagelaw11.UserMore', WHERE WHAT IT READS IS OF BULK AT MOST 1048576: true; the input reads as it did. -/
def userMoreUptoRow : OpenClaim := { program := "ytegeplgckfpleaagreatdoor", sum := "76661a401fdc207492e358624f9b5468920a519c35906819473aa1206728e6f7", func := "messuage/messuagelaw11.UserMore", spec := "userMore", inPlace := ["internal/reflectlite.ValueOf", "(internal/reflectlite.Value).Type", "(internal/reflectlite.Value).IsNil", "internal/reflectlite.TypeOf", "(internal/reflectlite.Value).Elem", "(internal/reflectlite.Value).Set", "slices.overlaps[uint64]"], unfollowed := true, recurses := true, named := ["errors.errorType"], apart := false, laid := [("errors.errorType", laid_errors_errorType)], narrowed := true }
def UserMoreUptoSaid : Prop := userMoreUptoRow.holds Tryz.pinned (OpenSpec.upto userMoreSpec)

/-- 'messuagelaw11.UserKinds', WHERE WHAT IT READS IS OF BULK AT MOST 1048576: true; the input reads as it did. -/
def userKindsUptoRow : OpenClaim := { program := "ytegeplgckfpleaagreatdoor", sum := "76661a401fdc207492e358624f9b5468920a519c35906819473aa1206728e6f7", func := "messuage/messuagelaw11.UserKinds", spec := "userKinds", inPlace := ["internal/reflectlite.ValueOf", "(internal/reflectlite.Value).Type", "(internal/reflectlite.Value).IsNil", "internal/reflectlite.TypeOf", "(internal/reflectlite.Value).Elem", "(internal/reflectlite.Value).Set", "slices.overlaps[uint64]"], unfollowed := true, recurses := true, named := ["errors.errorType"], apart := false, laid := [("errors.errorType", laid_errors_errorType)], narrowed := true }
def UserKindsUptoSaid : Prop := userKindsUptoRow.holds Tryz.pinned (OpenSpec.upto userKindsSpec)

/-- 'messuagelaw11.EpochMany', WHERE WHAT IT READS IS OF BULK AT MOST 1048576: true; the input reads as it did. -/
def epochManyUptoRow : OpenClaim := { program := "ytegeplgckfpleaagreatdoor", sum := "76661a401fdc207492e358624f9b5468920a519c35906819473aa1206728e6f7", func := "messuage/messuagelaw11.EpochMany", spec := "epochMany", inPlace := ["internal/reflectlite.ValueOf", "(internal/reflectlite.Value).Type", "(internal/reflectlite.Value).IsNil", "internal/reflectlite.TypeOf", "(internal/reflectlite.Value).Elem", "(internal/reflectlite.Value).Set", "slices.overlaps[uint64]"], unfollowed := true, recurses := true, named := ["errors.errorType"], apart := false, laid := [("errors.errorType", laid_errors_errorType)], narrowed := true }
def EpochManyUptoSaid : Prop := epochManyUptoRow.holds Tryz.pinned (OpenSpec.upto epochManySpec)

/-- 'messuagelaw11.CapsAll', WHERE WHAT IT READS IS OF BULK AT MOST 1048576: true; the input reads as it did. -/
def capsAllUptoRow : OpenClaim := { program := "ytegeplgckfpleaagreatdoor", sum := "76661a401fdc207492e358624f9b5468920a519c35906819473aa1206728e6f7", func := "messuage/messuagelaw11.CapsAll", spec := "capsAll", inPlace := ["internal/reflectlite.ValueOf", "(internal/reflectlite.Value).Type", "(internal/reflectlite.Value).IsNil", "internal/reflectlite.TypeOf", "(internal/reflectlite.Value).Elem", "(internal/reflectlite.Value).Set", "slices.overlaps[uint64]"], unfollowed := true, recurses := true, named := ["errors.errorType"], apart := false, laid := [("errors.errorType", laid_errors_errorType)], narrowed := true }
def CapsAllUptoSaid : Prop := capsAllUptoRow.holds Tryz.pinned (OpenSpec.upto capsAllSpec)

/-- 'messuagelaw11.CapsChain', WHERE WHAT IT READS IS OF BULK AT MOST 1048576: true; the input reads as it did. -/
def capsChainUptoRow : OpenClaim := { program := "ytegeplgckfpleaagreatdoor", sum := "76661a401fdc207492e358624f9b5468920a519c35906819473aa1206728e6f7", func := "messuage/messuagelaw11.CapsChain", spec := "capsChain", inPlace := ["internal/reflectlite.ValueOf", "(internal/reflectlite.Value).Type", "(internal/reflectlite.Value).IsNil", "internal/reflectlite.TypeOf", "(internal/reflectlite.Value).Elem", "(internal/reflectlite.Value).Set", "slices.overlaps[uint64]"], unfollowed := true, recurses := true, named := ["errors.errorType"], apart := false, laid := [("errors.errorType", laid_errors_errorType)], narrowed := true }
def CapsChainUptoSaid : Prop := capsChainUptoRow.holds Tryz.pinned (OpenSpec.upto capsChainSpec)

/-- 'messuagelaw11.CapsFan', WHERE WHAT IT READS IS OF BULK AT MOST 1048576: true; the input reads as it did. -/
def capsFanUptoRow : OpenClaim := { program := "ytegeplgckfpleaagreatdoor", sum := "76661a401fdc207492e358624f9b5468920a519c35906819473aa1206728e6f7", func := "messuage/messuagelaw11.CapsFan", spec := "capsFan", inPlace := ["internal/reflectlite.ValueOf", "(internal/reflectlite.Value).Type", "(internal/reflectlite.Value).IsNil", "internal/reflectlite.TypeOf", "(internal/reflectlite.Value).Elem", "(internal/reflectlite.Value).Set", "slices.overlaps[uint64]"], unfollowed := true, recurses := true, named := ["errors.errorType"], apart := false, laid := [("errors.errorType", laid_errors_errorType)], narrowed := true }
def CapsFanUptoSaid : Prop := capsFanUptoRow.holds Tryz.pinned (OpenSpec.upto capsFanSpec)

/-- 'messuagelaw11.PredAll', WHERE WHAT IT READS IS OF BULK AT MOST 1048576: true; the input reads as it did. -/
def predAllUptoRow : OpenClaim := { program := "ytegeplgckfpleaagreatdoor", sum := "76661a401fdc207492e358624f9b5468920a519c35906819473aa1206728e6f7", func := "messuage/messuagelaw11.PredAll", spec := "predAll", inPlace := ["internal/reflectlite.ValueOf", "(internal/reflectlite.Value).Type", "(internal/reflectlite.Value).IsNil", "internal/reflectlite.TypeOf", "(internal/reflectlite.Value).Elem", "(internal/reflectlite.Value).Set", "slices.overlaps[uint64]"], unfollowed := true, recurses := true, named := ["errors.errorType"], apart := false, laid := [("errors.errorType", laid_errors_errorType)], narrowed := true }
def PredAllUptoSaid : Prop := predAllUptoRow.holds Tryz.pinned (OpenSpec.upto predAllSpec)

/-- 'messuagelaw11.UserAll', WHERE WHAT IT READS IS OF BULK AT MOST 1048576: true; the input reads as it did. -/
def userAllUptoRow : OpenClaim := { program := "ytegeplgckfpleaagreatdoor", sum := "76661a401fdc207492e358624f9b5468920a519c35906819473aa1206728e6f7", func := "messuage/messuagelaw11.UserAll", spec := "userAll", inPlace := ["internal/reflectlite.ValueOf", "(internal/reflectlite.Value).Type", "(internal/reflectlite.Value).IsNil", "internal/reflectlite.TypeOf", "(internal/reflectlite.Value).Elem", "(internal/reflectlite.Value).Set", "slices.overlaps[uint64]"], unfollowed := true, recurses := true, named := ["errors.errorType"], apart := false, laid := [("errors.errorType", laid_errors_errorType)], narrowed := true }
def UserAllUptoSaid : Prop := userAllUptoRow.holds Tryz.pinned (OpenSpec.upto userAllSpec)

end Rows
end Go.Proofs.YtegeplgckfpleaaGreatDoor
