/-
  NARROWER THAN 'FOR EVERY INPUT', by the rows' own cells (each row's printed sentence says how): WordEdge: laid · WordOrder: laid · TableBy: laid · MailOrder: laid · CellSwap: laid · WordAll: laid · WordEach: laid · TicketAll: laid · TicketFair: laid · PteOne: laid · CellCount: laid · PteEach: laid · TlbSets: laid · PoolLeast: laid · MemAtomic: laid · PoolSeven: laid · MemOwn: laid · PteAll: laid · CellAll: laid · TlbFlush: laid · TlbAll: laid · TableAll: laid.
  DERIVED. THE GIVEN ROWS OF THIS SEAT. 22 by the template 'for every input the law returns true; each argument reads behind the call as it read before'; 0 by the template 'total and deterministic' (their statements: YthjfkblnbecjgaaGreatDoorTotals.lean).
  GIVEN WITH THE SEED: the statements are not yours to turn. If you find one false, say at which input.
  Laid BY PROGRAM, IN A SANDBOX (cutbox-rows.mjs): the forced cells as the released guide's own fill.sh prints them over the translation a3112ba31b10870f… (all of the seat's roots in one cut). By AI agents, Wed Nov 11 2026. No macro, syntax, notation, axiom, sorry.
-/
import Derived.Test.YthjfkblnbecjgaaGreatDoorChecked
import GoSem.Claim
import GoSem.ClaimJoined
import GoSem.ClaimMapViews
import Derived.JoinedTies
import Derived.KernelRfl
namespace Go.Proofs.YthjfkblnbecjgaaGreatDoor
/- THE CELL 'sum', in the pinned program and in every row, IS THE sha256 OF THE DUMP (.gsa) THAT YthjfkblnbecjgaaGreatDoorProg.lean LOADS. Nothing in Lean hashes anything: it is a label: what it is worth is what the hold of that sum in a sandbox is worth. -/
noncomputable def Tryz.pinned : Pinned := { name := "ythjfkblnbecjgaagreatdoor", sum := "a3112ba31b10870f54be3140330022d0e17ee4679f4d61b6839d956076692cf9", checked := Tryz.checked }
namespace Rows
def none {H : Type} : Left H := { results := [], args := [] }

/- WHAT THE LISTED PACKAGE-LEVEL VARIABLES READ AS WHEN THE CALL BEGINS. Each datum BY PROGRAM (the guide's laid-datum.mjs) off the statement by which the dump's own 'gosem.cut.vars' lays the variable. In a bare row this is a premise. The card (YthjfkblnbecjgaaGreatDoorCards.lean) ties it to the program's text. -/
def laid_errors_errorType {H : Type} : DataW H := .iface "internal/reflectlite.rtype" (.agg [.ptr (.lit (.string [101, 114, 114, 111, 114]))])

/-- 'messuagelaw2.WordEdge': WHATEVER THE INPUT: true; the input reads as it did. -/
def wordEdgeSpec : ChangeSpec := { name := "wordEdge", fn := fun _ => fun
  | [d1, d2, d3] => { results := [.lit (.bool true)], args := [d1, d2, d3] }
  | _ => none }
def wordEdgeRow : OpenClaim := { program := "ythjfkblnbecjgaagreatdoor", sum := "a3112ba31b10870f54be3140330022d0e17ee4679f4d61b6839d956076692cf9", func := "messuage/messuagelaw2.WordEdge", spec := "wordEdge", inPlace := ["slices.overlaps[uint64]", "internal/reflectlite.ValueOf", "(internal/reflectlite.Value).Type", "(internal/reflectlite.Value).IsNil", "internal/reflectlite.TypeOf", "(internal/reflectlite.Value).Elem", "(internal/reflectlite.Value).Set"], unfollowed := true, recurses := true, named := ["errors.errorType"], plainKeys := false, apart := false, laid := [("errors.errorType", laid_errors_errorType)] }
def WordEdgeSaid : Prop := wordEdgeRow.holds Tryz.pinned (OpenSpec.ofChange wordEdgeSpec)

/-- ITS FALSE NEIGHBOUR: 'it returns false'. Refute it at one input. -/
def wordEdgeWrong : ChangeSpec := { name := "wordEdge", fn := fun _ => fun
  | [d1, d2, d3] => { results := [.lit (.bool false)], args := [d1, d2, d3] }
  | _ => none }
def WordEdgeWrongFalsely : Prop := wordEdgeRow.holds Tryz.pinned (OpenSpec.ofChange wordEdgeWrong)

/-- 'messuagelaw2.WordOrder': WHATEVER THE INPUT: true; the input reads as it did. -/
def wordOrderSpec : ChangeSpec := { name := "wordOrder", fn := fun _ => fun
  | [d1, d2, d3] => { results := [.lit (.bool true)], args := [d1, d2, d3] }
  | _ => none }
def wordOrderRow : OpenClaim := { program := "ythjfkblnbecjgaagreatdoor", sum := "a3112ba31b10870f54be3140330022d0e17ee4679f4d61b6839d956076692cf9", func := "messuage/messuagelaw2.WordOrder", spec := "wordOrder", inPlace := ["slices.overlaps[uint64]", "internal/reflectlite.ValueOf", "(internal/reflectlite.Value).Type", "(internal/reflectlite.Value).IsNil", "internal/reflectlite.TypeOf", "(internal/reflectlite.Value).Elem", "(internal/reflectlite.Value).Set"], unfollowed := true, recurses := true, named := ["errors.errorType"], plainKeys := false, apart := false, laid := [("errors.errorType", laid_errors_errorType)] }
def WordOrderSaid : Prop := wordOrderRow.holds Tryz.pinned (OpenSpec.ofChange wordOrderSpec)

/-- ITS FALSE NEIGHBOUR: 'it returns false'. Refute it at one input. -/
def wordOrderWrong : ChangeSpec := { name := "wordOrder", fn := fun _ => fun
  | [d1, d2, d3] => { results := [.lit (.bool false)], args := [d1, d2, d3] }
  | _ => none }
def WordOrderWrongFalsely : Prop := wordOrderRow.holds Tryz.pinned (OpenSpec.ofChange wordOrderWrong)

/-- 'messuagelaw2.TableBy': WHATEVER THE INPUT: true; the input reads as it did. -/
def tableBySpec : ChangeSpec := { name := "tableBy", fn := fun _ => fun
  | [d] => { results := [.lit (.bool true)], args := [d] }
  | _ => none }
def tableByRow : OpenClaim := { program := "ythjfkblnbecjgaagreatdoor", sum := "a3112ba31b10870f54be3140330022d0e17ee4679f4d61b6839d956076692cf9", func := "messuage/messuagelaw2.TableBy", spec := "tableBy", inPlace := ["slices.overlaps[uint64]", "internal/reflectlite.ValueOf", "(internal/reflectlite.Value).Type", "(internal/reflectlite.Value).IsNil", "internal/reflectlite.TypeOf", "(internal/reflectlite.Value).Elem", "(internal/reflectlite.Value).Set"], unfollowed := true, recurses := true, named := ["errors.errorType"], plainKeys := false, apart := false, laid := [("errors.errorType", laid_errors_errorType)] }
def TableBySaid : Prop := tableByRow.holds Tryz.pinned (OpenSpec.ofChange tableBySpec)

/-- ITS FALSE NEIGHBOUR: 'it returns false'. Refute it at one input. -/
def tableByWrong : ChangeSpec := { name := "tableBy", fn := fun _ => fun
  | [d] => { results := [.lit (.bool false)], args := [d] }
  | _ => none }
def TableByWrongFalsely : Prop := tableByRow.holds Tryz.pinned (OpenSpec.ofChange tableByWrong)

/-- 'messuagelaw2.MailOrder': WHATEVER THE INPUT: true; the input reads as it did. -/
def mailOrderSpec : ChangeSpec := { name := "mailOrder", fn := fun _ => fun
  | [d] => { results := [.lit (.bool true)], args := [d] }
  | _ => none }
def mailOrderRow : OpenClaim := { program := "ythjfkblnbecjgaagreatdoor", sum := "a3112ba31b10870f54be3140330022d0e17ee4679f4d61b6839d956076692cf9", func := "messuage/messuagelaw2.MailOrder", spec := "mailOrder", inPlace := ["slices.overlaps[uint64]", "internal/reflectlite.ValueOf", "(internal/reflectlite.Value).Type", "(internal/reflectlite.Value).IsNil", "internal/reflectlite.TypeOf", "(internal/reflectlite.Value).Elem", "(internal/reflectlite.Value).Set"], unfollowed := true, recurses := true, named := ["errors.errorType"], plainKeys := false, apart := false, laid := [("errors.errorType", laid_errors_errorType)] }
def MailOrderSaid : Prop := mailOrderRow.holds Tryz.pinned (OpenSpec.ofChange mailOrderSpec)

/-- ITS FALSE NEIGHBOUR: 'it returns false'. Refute it at one input. -/
def mailOrderWrong : ChangeSpec := { name := "mailOrder", fn := fun _ => fun
  | [d] => { results := [.lit (.bool false)], args := [d] }
  | _ => none }
def MailOrderWrongFalsely : Prop := mailOrderRow.holds Tryz.pinned (OpenSpec.ofChange mailOrderWrong)

/-- 'messuagelaw2.CellSwap': WHATEVER THE INPUT: true; the input reads as it did. -/
def cellSwapSpec : ChangeSpec := { name := "cellSwap", fn := fun _ => fun
  | [d1, d2] => { results := [.lit (.bool true)], args := [d1, d2] }
  | _ => none }
def cellSwapRow : OpenClaim := { program := "ythjfkblnbecjgaagreatdoor", sum := "a3112ba31b10870f54be3140330022d0e17ee4679f4d61b6839d956076692cf9", func := "messuage/messuagelaw2.CellSwap", spec := "cellSwap", inPlace := ["slices.overlaps[uint64]", "internal/reflectlite.ValueOf", "(internal/reflectlite.Value).Type", "(internal/reflectlite.Value).IsNil", "internal/reflectlite.TypeOf", "(internal/reflectlite.Value).Elem", "(internal/reflectlite.Value).Set"], unfollowed := true, recurses := true, named := ["errors.errorType"], plainKeys := false, apart := false, laid := [("errors.errorType", laid_errors_errorType)] }
def CellSwapSaid : Prop := cellSwapRow.holds Tryz.pinned (OpenSpec.ofChange cellSwapSpec)

/-- ITS FALSE NEIGHBOUR: 'it returns false'. Refute it at one input. -/
def cellSwapWrong : ChangeSpec := { name := "cellSwap", fn := fun _ => fun
  | [d1, d2] => { results := [.lit (.bool false)], args := [d1, d2] }
  | _ => none }
def CellSwapWrongFalsely : Prop := cellSwapRow.holds Tryz.pinned (OpenSpec.ofChange cellSwapWrong)

/-- 'messuagelaw2.WordAll': WHATEVER THE INPUT: true; the input reads as it did. -/
def wordAllSpec : ChangeSpec := { name := "wordAll", fn := fun _ => fun
  | [d1, d2, d3, d4] => { results := [.lit (.bool true)], args := [d1, d2, d3, d4] }
  | _ => none }
def wordAllRow : OpenClaim := { program := "ythjfkblnbecjgaagreatdoor", sum := "a3112ba31b10870f54be3140330022d0e17ee4679f4d61b6839d956076692cf9", func := "messuage/messuagelaw2.WordAll", spec := "wordAll", inPlace := ["slices.overlaps[uint64]", "internal/reflectlite.ValueOf", "(internal/reflectlite.Value).Type", "(internal/reflectlite.Value).IsNil", "internal/reflectlite.TypeOf", "(internal/reflectlite.Value).Elem", "(internal/reflectlite.Value).Set"], unfollowed := true, recurses := true, named := ["errors.errorType"], plainKeys := false, apart := false, laid := [("errors.errorType", laid_errors_errorType)] }
def WordAllSaid : Prop := wordAllRow.holds Tryz.pinned (OpenSpec.ofChange wordAllSpec)

/-- ITS FALSE NEIGHBOUR: 'it returns false'. Refute it at one input. -/
def wordAllWrong : ChangeSpec := { name := "wordAll", fn := fun _ => fun
  | [d1, d2, d3, d4] => { results := [.lit (.bool false)], args := [d1, d2, d3, d4] }
  | _ => none }
def WordAllWrongFalsely : Prop := wordAllRow.holds Tryz.pinned (OpenSpec.ofChange wordAllWrong)

/-- 'messuagelaw2.WordEach': WHATEVER THE INPUT: true; the input reads as it did. -/
def wordEachSpec : ChangeSpec := { name := "wordEach", fn := fun _ => fun
  | [d1, d2] => { results := [.lit (.bool true)], args := [d1, d2] }
  | _ => none }
def wordEachRow : OpenClaim := { program := "ythjfkblnbecjgaagreatdoor", sum := "a3112ba31b10870f54be3140330022d0e17ee4679f4d61b6839d956076692cf9", func := "messuage/messuagelaw2.WordEach", spec := "wordEach", inPlace := ["slices.overlaps[uint64]", "internal/reflectlite.ValueOf", "(internal/reflectlite.Value).Type", "(internal/reflectlite.Value).IsNil", "internal/reflectlite.TypeOf", "(internal/reflectlite.Value).Elem", "(internal/reflectlite.Value).Set"], unfollowed := true, recurses := true, named := ["errors.errorType"], plainKeys := false, apart := false, laid := [("errors.errorType", laid_errors_errorType)] }
def WordEachSaid : Prop := wordEachRow.holds Tryz.pinned (OpenSpec.ofChange wordEachSpec)

/-- ITS FALSE NEIGHBOUR: 'it returns false'. Refute it at one input. -/
def wordEachWrong : ChangeSpec := { name := "wordEach", fn := fun _ => fun
  | [d1, d2] => { results := [.lit (.bool false)], args := [d1, d2] }
  | _ => none }
def WordEachWrongFalsely : Prop := wordEachRow.holds Tryz.pinned (OpenSpec.ofChange wordEachWrong)

/-- 'messuagelaw2.TicketAll': WHATEVER THE INPUT: true; the input reads as it did. -/
def ticketAllSpec : ChangeSpec := { name := "ticketAll", fn := fun _ => fun
  | [d] => { results := [.lit (.bool true)], args := [d] }
  | _ => none }
def ticketAllRow : OpenClaim := { program := "ythjfkblnbecjgaagreatdoor", sum := "a3112ba31b10870f54be3140330022d0e17ee4679f4d61b6839d956076692cf9", func := "messuage/messuagelaw2.TicketAll", spec := "ticketAll", inPlace := ["slices.overlaps[uint64]", "internal/reflectlite.ValueOf", "(internal/reflectlite.Value).Type", "(internal/reflectlite.Value).IsNil", "internal/reflectlite.TypeOf", "(internal/reflectlite.Value).Elem", "(internal/reflectlite.Value).Set"], unfollowed := true, recurses := true, named := ["errors.errorType"], plainKeys := false, apart := false, laid := [("errors.errorType", laid_errors_errorType)] }
def TicketAllSaid : Prop := ticketAllRow.holds Tryz.pinned (OpenSpec.ofChange ticketAllSpec)

/-- ITS FALSE NEIGHBOUR: 'it returns false'. Refute it at one input. -/
def ticketAllWrong : ChangeSpec := { name := "ticketAll", fn := fun _ => fun
  | [d] => { results := [.lit (.bool false)], args := [d] }
  | _ => none }
def TicketAllWrongFalsely : Prop := ticketAllRow.holds Tryz.pinned (OpenSpec.ofChange ticketAllWrong)

/-- 'messuagelaw2.TicketFair': WHATEVER THE INPUT: true; the input reads as it did. -/
def ticketFairSpec : ChangeSpec := { name := "ticketFair", fn := fun _ => fun
  | [d1, d2] => { results := [.lit (.bool true)], args := [d1, d2] }
  | _ => none }
def ticketFairRow : OpenClaim := { program := "ythjfkblnbecjgaagreatdoor", sum := "a3112ba31b10870f54be3140330022d0e17ee4679f4d61b6839d956076692cf9", func := "messuage/messuagelaw2.TicketFair", spec := "ticketFair", inPlace := ["slices.overlaps[uint64]", "internal/reflectlite.ValueOf", "(internal/reflectlite.Value).Type", "(internal/reflectlite.Value).IsNil", "internal/reflectlite.TypeOf", "(internal/reflectlite.Value).Elem", "(internal/reflectlite.Value).Set"], unfollowed := true, recurses := true, named := ["errors.errorType"], plainKeys := false, apart := false, laid := [("errors.errorType", laid_errors_errorType)] }
def TicketFairSaid : Prop := ticketFairRow.holds Tryz.pinned (OpenSpec.ofChange ticketFairSpec)

/-- ITS FALSE NEIGHBOUR: 'it returns false'. Refute it at one input. -/
def ticketFairWrong : ChangeSpec := { name := "ticketFair", fn := fun _ => fun
  | [d1, d2] => { results := [.lit (.bool false)], args := [d1, d2] }
  | _ => none }
def TicketFairWrongFalsely : Prop := ticketFairRow.holds Tryz.pinned (OpenSpec.ofChange ticketFairWrong)

/-- 'messuagelaw2.PteOne': WHATEVER THE INPUT: true; the input reads as it did. -/
def pteOneSpec : ChangeSpec := { name := "pteOne", fn := fun _ => fun
  | [d1, d2, d3] => { results := [.lit (.bool true)], args := [d1, d2, d3] }
  | _ => none }
def pteOneRow : OpenClaim := { program := "ythjfkblnbecjgaagreatdoor", sum := "a3112ba31b10870f54be3140330022d0e17ee4679f4d61b6839d956076692cf9", func := "messuage/messuagelaw2.PteOne", spec := "pteOne", inPlace := ["slices.overlaps[uint64]", "internal/reflectlite.ValueOf", "(internal/reflectlite.Value).Type", "(internal/reflectlite.Value).IsNil", "internal/reflectlite.TypeOf", "(internal/reflectlite.Value).Elem", "(internal/reflectlite.Value).Set"], unfollowed := true, recurses := true, named := ["errors.errorType"], plainKeys := false, apart := false, laid := [("errors.errorType", laid_errors_errorType)] }
def PteOneSaid : Prop := pteOneRow.holds Tryz.pinned (OpenSpec.ofChange pteOneSpec)

/-- ITS FALSE NEIGHBOUR: 'it returns false'. Refute it at one input. -/
def pteOneWrong : ChangeSpec := { name := "pteOne", fn := fun _ => fun
  | [d1, d2, d3] => { results := [.lit (.bool false)], args := [d1, d2, d3] }
  | _ => none }
def PteOneWrongFalsely : Prop := pteOneRow.holds Tryz.pinned (OpenSpec.ofChange pteOneWrong)

/-- 'messuagelaw2.CellCount': WHATEVER THE INPUT: true; the input reads as it did. -/
def cellCountSpec : ChangeSpec := { name := "cellCount", fn := fun _ => fun
  | [d1, d2] => { results := [.lit (.bool true)], args := [d1, d2] }
  | _ => none }
def cellCountRow : OpenClaim := { program := "ythjfkblnbecjgaagreatdoor", sum := "a3112ba31b10870f54be3140330022d0e17ee4679f4d61b6839d956076692cf9", func := "messuage/messuagelaw2.CellCount", spec := "cellCount", inPlace := ["slices.overlaps[uint64]", "internal/reflectlite.ValueOf", "(internal/reflectlite.Value).Type", "(internal/reflectlite.Value).IsNil", "internal/reflectlite.TypeOf", "(internal/reflectlite.Value).Elem", "(internal/reflectlite.Value).Set"], unfollowed := true, recurses := true, named := ["errors.errorType"], plainKeys := false, apart := false, laid := [("errors.errorType", laid_errors_errorType)] }
def CellCountSaid : Prop := cellCountRow.holds Tryz.pinned (OpenSpec.ofChange cellCountSpec)

/-- ITS FALSE NEIGHBOUR: 'it returns false'. Refute it at one input. -/
def cellCountWrong : ChangeSpec := { name := "cellCount", fn := fun _ => fun
  | [d1, d2] => { results := [.lit (.bool false)], args := [d1, d2] }
  | _ => none }
def CellCountWrongFalsely : Prop := cellCountRow.holds Tryz.pinned (OpenSpec.ofChange cellCountWrong)

/-- 'messuagelaw2.PteEach': WHATEVER THE INPUT: true; the input reads as it did. -/
def pteEachSpec : ChangeSpec := { name := "pteEach", fn := fun _ => fun
  | [] => { results := [.lit (.bool true)], args := [] }
  | _ => none }
def pteEachRow : OpenClaim := { program := "ythjfkblnbecjgaagreatdoor", sum := "a3112ba31b10870f54be3140330022d0e17ee4679f4d61b6839d956076692cf9", func := "messuage/messuagelaw2.PteEach", spec := "pteEach", inPlace := ["slices.overlaps[uint64]", "internal/reflectlite.ValueOf", "(internal/reflectlite.Value).Type", "(internal/reflectlite.Value).IsNil", "internal/reflectlite.TypeOf", "(internal/reflectlite.Value).Elem", "(internal/reflectlite.Value).Set"], unfollowed := true, recurses := true, named := ["errors.errorType"], plainKeys := false, apart := false, laid := [("errors.errorType", laid_errors_errorType)] }
def PteEachSaid : Prop := pteEachRow.holds Tryz.pinned (OpenSpec.ofChange pteEachSpec)

/-- ITS FALSE NEIGHBOUR: 'it returns false'. Refute it at one input. -/
def pteEachWrong : ChangeSpec := { name := "pteEach", fn := fun _ => fun
  | [] => { results := [.lit (.bool false)], args := [] }
  | _ => none }
def PteEachWrongFalsely : Prop := pteEachRow.holds Tryz.pinned (OpenSpec.ofChange pteEachWrong)

/-- 'messuagelaw2.TlbSets': WHATEVER THE INPUT: true; the input reads as it did. -/
def tlbSetsSpec : ChangeSpec := { name := "tlbSets", fn := fun _ => fun
  | [d1, d2] => { results := [.lit (.bool true)], args := [d1, d2] }
  | _ => none }
def tlbSetsRow : OpenClaim := { program := "ythjfkblnbecjgaagreatdoor", sum := "a3112ba31b10870f54be3140330022d0e17ee4679f4d61b6839d956076692cf9", func := "messuage/messuagelaw2.TlbSets", spec := "tlbSets", inPlace := ["slices.overlaps[uint64]", "internal/reflectlite.ValueOf", "(internal/reflectlite.Value).Type", "(internal/reflectlite.Value).IsNil", "internal/reflectlite.TypeOf", "(internal/reflectlite.Value).Elem", "(internal/reflectlite.Value).Set"], unfollowed := true, recurses := true, named := ["errors.errorType"], plainKeys := false, apart := false, laid := [("errors.errorType", laid_errors_errorType)] }
def TlbSetsSaid : Prop := tlbSetsRow.holds Tryz.pinned (OpenSpec.ofChange tlbSetsSpec)

/-- ITS FALSE NEIGHBOUR: 'it returns false'. Refute it at one input. -/
def tlbSetsWrong : ChangeSpec := { name := "tlbSets", fn := fun _ => fun
  | [d1, d2] => { results := [.lit (.bool false)], args := [d1, d2] }
  | _ => none }
def TlbSetsWrongFalsely : Prop := tlbSetsRow.holds Tryz.pinned (OpenSpec.ofChange tlbSetsWrong)

/-- 'messuagelaw2.PoolLeast': WHATEVER THE INPUT: true; the input reads as it did. -/
def poolLeastSpec : ChangeSpec := { name := "poolLeast", fn := fun _ => fun
  | [d1, d2] => { results := [.lit (.bool true)], args := [d1, d2] }
  | _ => none }
def poolLeastRow : OpenClaim := { program := "ythjfkblnbecjgaagreatdoor", sum := "a3112ba31b10870f54be3140330022d0e17ee4679f4d61b6839d956076692cf9", func := "messuage/messuagelaw2.PoolLeast", spec := "poolLeast", inPlace := ["slices.overlaps[uint64]", "internal/reflectlite.ValueOf", "(internal/reflectlite.Value).Type", "(internal/reflectlite.Value).IsNil", "internal/reflectlite.TypeOf", "(internal/reflectlite.Value).Elem", "(internal/reflectlite.Value).Set"], unfollowed := true, recurses := true, named := ["errors.errorType"], plainKeys := false, apart := false, laid := [("errors.errorType", laid_errors_errorType)] }
def PoolLeastSaid : Prop := poolLeastRow.holds Tryz.pinned (OpenSpec.ofChange poolLeastSpec)

/-- ITS FALSE NEIGHBOUR: 'it returns false'. Refute it at one input. -/
def poolLeastWrong : ChangeSpec := { name := "poolLeast", fn := fun _ => fun
  | [d1, d2] => { results := [.lit (.bool false)], args := [d1, d2] }
  | _ => none }
def PoolLeastWrongFalsely : Prop := poolLeastRow.holds Tryz.pinned (OpenSpec.ofChange poolLeastWrong)

/-- 'messuagelaw2.MemAtomic': WHATEVER THE INPUT: true; the input reads as it did. -/
def memAtomicSpec : ChangeSpec := { name := "memAtomic", fn := fun _ => fun
  | [d1, d2, d3] => { results := [.lit (.bool true)], args := [d1, d2, d3] }
  | _ => none }
def memAtomicRow : OpenClaim := { program := "ythjfkblnbecjgaagreatdoor", sum := "a3112ba31b10870f54be3140330022d0e17ee4679f4d61b6839d956076692cf9", func := "messuage/messuagelaw2.MemAtomic", spec := "memAtomic", inPlace := ["slices.overlaps[uint64]", "internal/reflectlite.ValueOf", "(internal/reflectlite.Value).Type", "(internal/reflectlite.Value).IsNil", "internal/reflectlite.TypeOf", "(internal/reflectlite.Value).Elem", "(internal/reflectlite.Value).Set"], unfollowed := true, recurses := true, named := ["errors.errorType"], plainKeys := false, apart := false, laid := [("errors.errorType", laid_errors_errorType)] }
def MemAtomicSaid : Prop := memAtomicRow.holds Tryz.pinned (OpenSpec.ofChange memAtomicSpec)

/-- ITS FALSE NEIGHBOUR: 'it returns false'. Refute it at one input. -/
def memAtomicWrong : ChangeSpec := { name := "memAtomic", fn := fun _ => fun
  | [d1, d2, d3] => { results := [.lit (.bool false)], args := [d1, d2, d3] }
  | _ => none }
def MemAtomicWrongFalsely : Prop := memAtomicRow.holds Tryz.pinned (OpenSpec.ofChange memAtomicWrong)

/-- 'messuagelaw2.PoolSeven': WHATEVER THE INPUT: true; the input reads as it did. -/
def poolSevenSpec : ChangeSpec := { name := "poolSeven", fn := fun _ => fun
  | [d] => { results := [.lit (.bool true)], args := [d] }
  | _ => none }
def poolSevenRow : OpenClaim := { program := "ythjfkblnbecjgaagreatdoor", sum := "a3112ba31b10870f54be3140330022d0e17ee4679f4d61b6839d956076692cf9", func := "messuage/messuagelaw2.PoolSeven", spec := "poolSeven", inPlace := ["slices.overlaps[uint64]", "internal/reflectlite.ValueOf", "(internal/reflectlite.Value).Type", "(internal/reflectlite.Value).IsNil", "internal/reflectlite.TypeOf", "(internal/reflectlite.Value).Elem", "(internal/reflectlite.Value).Set"], unfollowed := true, recurses := true, named := ["errors.errorType"], plainKeys := false, apart := false, laid := [("errors.errorType", laid_errors_errorType)] }
def PoolSevenSaid : Prop := poolSevenRow.holds Tryz.pinned (OpenSpec.ofChange poolSevenSpec)

/-- ITS FALSE NEIGHBOUR: 'it returns false'. Refute it at one input. -/
def poolSevenWrong : ChangeSpec := { name := "poolSeven", fn := fun _ => fun
  | [d] => { results := [.lit (.bool false)], args := [d] }
  | _ => none }
def PoolSevenWrongFalsely : Prop := poolSevenRow.holds Tryz.pinned (OpenSpec.ofChange poolSevenWrong)

/-- 'messuagelaw2.MemOwn': WHATEVER THE INPUT: true; the input reads as it did. -/
def memOwnSpec : ChangeSpec := { name := "memOwn", fn := fun _ => fun
  | [d1, d2, d3] => { results := [.lit (.bool true)], args := [d1, d2, d3] }
  | _ => none }
def memOwnRow : OpenClaim := { program := "ythjfkblnbecjgaagreatdoor", sum := "a3112ba31b10870f54be3140330022d0e17ee4679f4d61b6839d956076692cf9", func := "messuage/messuagelaw2.MemOwn", spec := "memOwn", inPlace := ["slices.overlaps[uint64]", "internal/reflectlite.ValueOf", "(internal/reflectlite.Value).Type", "(internal/reflectlite.Value).IsNil", "internal/reflectlite.TypeOf", "(internal/reflectlite.Value).Elem", "(internal/reflectlite.Value).Set"], unfollowed := true, recurses := true, named := ["errors.errorType"], plainKeys := false, apart := false, laid := [("errors.errorType", laid_errors_errorType)] }
def MemOwnSaid : Prop := memOwnRow.holds Tryz.pinned (OpenSpec.ofChange memOwnSpec)

/-- ITS FALSE NEIGHBOUR: 'it returns false'. Refute it at one input. -/
def memOwnWrong : ChangeSpec := { name := "memOwn", fn := fun _ => fun
  | [d1, d2, d3] => { results := [.lit (.bool false)], args := [d1, d2, d3] }
  | _ => none }
def MemOwnWrongFalsely : Prop := memOwnRow.holds Tryz.pinned (OpenSpec.ofChange memOwnWrong)

/-- 'messuagelaw2.PteAll': WHATEVER THE INPUT: true; the input reads as it did. -/
def pteAllSpec : ChangeSpec := { name := "pteAll", fn := fun _ => fun
  | [d1, d2, d3, d4, d5] => { results := [.lit (.bool true)], args := [d1, d2, d3, d4, d5] }
  | _ => none }
def pteAllRow : OpenClaim := { program := "ythjfkblnbecjgaagreatdoor", sum := "a3112ba31b10870f54be3140330022d0e17ee4679f4d61b6839d956076692cf9", func := "messuage/messuagelaw2.PteAll", spec := "pteAll", inPlace := ["slices.overlaps[uint64]", "internal/reflectlite.ValueOf", "(internal/reflectlite.Value).Type", "(internal/reflectlite.Value).IsNil", "internal/reflectlite.TypeOf", "(internal/reflectlite.Value).Elem", "(internal/reflectlite.Value).Set"], unfollowed := true, recurses := true, named := ["errors.errorType"], plainKeys := false, apart := false, laid := [("errors.errorType", laid_errors_errorType)] }
def PteAllSaid : Prop := pteAllRow.holds Tryz.pinned (OpenSpec.ofChange pteAllSpec)

/-- ITS FALSE NEIGHBOUR: 'it returns false'. Refute it at one input. -/
def pteAllWrong : ChangeSpec := { name := "pteAll", fn := fun _ => fun
  | [d1, d2, d3, d4, d5] => { results := [.lit (.bool false)], args := [d1, d2, d3, d4, d5] }
  | _ => none }
def PteAllWrongFalsely : Prop := pteAllRow.holds Tryz.pinned (OpenSpec.ofChange pteAllWrong)

/-- 'messuagelaw2.CellAll': WHATEVER THE INPUT: true; the input reads as it did. -/
def cellAllSpec : ChangeSpec := { name := "cellAll", fn := fun _ => fun
  | [d1, d2] => { results := [.lit (.bool true)], args := [d1, d2] }
  | _ => none }
def cellAllRow : OpenClaim := { program := "ythjfkblnbecjgaagreatdoor", sum := "a3112ba31b10870f54be3140330022d0e17ee4679f4d61b6839d956076692cf9", func := "messuage/messuagelaw2.CellAll", spec := "cellAll", inPlace := ["slices.overlaps[uint64]", "internal/reflectlite.ValueOf", "(internal/reflectlite.Value).Type", "(internal/reflectlite.Value).IsNil", "internal/reflectlite.TypeOf", "(internal/reflectlite.Value).Elem", "(internal/reflectlite.Value).Set"], unfollowed := true, recurses := true, named := ["errors.errorType"], plainKeys := false, apart := false, laid := [("errors.errorType", laid_errors_errorType)] }
def CellAllSaid : Prop := cellAllRow.holds Tryz.pinned (OpenSpec.ofChange cellAllSpec)

/-- ITS FALSE NEIGHBOUR: 'it returns false'. Refute it at one input. -/
def cellAllWrong : ChangeSpec := { name := "cellAll", fn := fun _ => fun
  | [d1, d2] => { results := [.lit (.bool false)], args := [d1, d2] }
  | _ => none }
def CellAllWrongFalsely : Prop := cellAllRow.holds Tryz.pinned (OpenSpec.ofChange cellAllWrong)

/-- 'messuagelaw2.TlbFlush': WHATEVER THE INPUT: true; the input reads as it did. -/
def tlbFlushSpec : ChangeSpec := { name := "tlbFlush", fn := fun _ => fun
  | [d1, d2, d3, d4] => { results := [.lit (.bool true)], args := [d1, d2, d3, d4] }
  | _ => none }
def tlbFlushRow : OpenClaim := { program := "ythjfkblnbecjgaagreatdoor", sum := "a3112ba31b10870f54be3140330022d0e17ee4679f4d61b6839d956076692cf9", func := "messuage/messuagelaw2.TlbFlush", spec := "tlbFlush", inPlace := ["slices.overlaps[uint64]", "internal/reflectlite.ValueOf", "(internal/reflectlite.Value).Type", "(internal/reflectlite.Value).IsNil", "internal/reflectlite.TypeOf", "(internal/reflectlite.Value).Elem", "(internal/reflectlite.Value).Set"], unfollowed := true, recurses := true, named := ["errors.errorType"], plainKeys := false, apart := false, laid := [("errors.errorType", laid_errors_errorType)] }
def TlbFlushSaid : Prop := tlbFlushRow.holds Tryz.pinned (OpenSpec.ofChange tlbFlushSpec)

/-- ITS FALSE NEIGHBOUR: 'it returns false'. Refute it at one input. -/
def tlbFlushWrong : ChangeSpec := { name := "tlbFlush", fn := fun _ => fun
  | [d1, d2, d3, d4] => { results := [.lit (.bool false)], args := [d1, d2, d3, d4] }
  | _ => none }
def TlbFlushWrongFalsely : Prop := tlbFlushRow.holds Tryz.pinned (OpenSpec.ofChange tlbFlushWrong)

/-- 'messuagelaw2.TlbAll': WHATEVER THE INPUT: true; the input reads as it did. -/
def tlbAllSpec : ChangeSpec := { name := "tlbAll", fn := fun _ => fun
  | [d] => { results := [.lit (.bool true)], args := [d] }
  | _ => none }
def tlbAllRow : OpenClaim := { program := "ythjfkblnbecjgaagreatdoor", sum := "a3112ba31b10870f54be3140330022d0e17ee4679f4d61b6839d956076692cf9", func := "messuage/messuagelaw2.TlbAll", spec := "tlbAll", inPlace := ["slices.overlaps[uint64]", "internal/reflectlite.ValueOf", "(internal/reflectlite.Value).Type", "(internal/reflectlite.Value).IsNil", "internal/reflectlite.TypeOf", "(internal/reflectlite.Value).Elem", "(internal/reflectlite.Value).Set"], unfollowed := true, recurses := true, named := ["errors.errorType"], plainKeys := false, apart := false, laid := [("errors.errorType", laid_errors_errorType)] }
def TlbAllSaid : Prop := tlbAllRow.holds Tryz.pinned (OpenSpec.ofChange tlbAllSpec)

/-- ITS FALSE NEIGHBOUR: 'it returns false'. Refute it at one input. -/
def tlbAllWrong : ChangeSpec := { name := "tlbAll", fn := fun _ => fun
  | [d] => { results := [.lit (.bool false)], args := [d] }
  | _ => none }
def TlbAllWrongFalsely : Prop := tlbAllRow.holds Tryz.pinned (OpenSpec.ofChange tlbAllWrong)

/-- 'messuagelaw2.TableAll': WHATEVER THE INPUT: true; the input reads as it did. -/
def tableAllSpec : ChangeSpec := { name := "tableAll", fn := fun _ => fun
  | [d1, d2] => { results := [.lit (.bool true)], args := [d1, d2] }
  | _ => none }
def tableAllRow : OpenClaim := { program := "ythjfkblnbecjgaagreatdoor", sum := "a3112ba31b10870f54be3140330022d0e17ee4679f4d61b6839d956076692cf9", func := "messuage/messuagelaw2.TableAll", spec := "tableAll", inPlace := ["slices.overlaps[uint64]", "internal/reflectlite.ValueOf", "(internal/reflectlite.Value).Type", "(internal/reflectlite.Value).IsNil", "internal/reflectlite.TypeOf", "(internal/reflectlite.Value).Elem", "(internal/reflectlite.Value).Set"], unfollowed := true, recurses := true, named := ["errors.errorType"], plainKeys := false, apart := false, laid := [("errors.errorType", laid_errors_errorType)] }
def TableAllSaid : Prop := tableAllRow.holds Tryz.pinned (OpenSpec.ofChange tableAllSpec)

/-- ITS FALSE NEIGHBOUR: 'it returns false'. Refute it at one input. -/
def tableAllWrong : ChangeSpec := { name := "tableAll", fn := fun _ => fun
  | [d1, d2] => { results := [.lit (.bool false)], args := [d1, d2] }
  | _ => none }
def TableAllWrongFalsely : Prop := tableAllRow.holds Tryz.pinned (OpenSpec.ofChange tableAllWrong)

/- THE SECOND FORM. 'bulk': how many values and letters a reading holds, each counted each time it is reached (what is shared counts as often as it is met; a slice's spare places count too). A statement '..UptoSaid' is the law's where the arguments, and the package variables that the reading takes, are together of bulk at most 1048576: NARROWER than '..Said'. Prove '..Said' where nothing that the law and all that it calls make is longer than what came in: it says more and counts as full. Else prove '..UptoSaid'. A law counts once. -/
mutual
def uptoBulk {H : Type} : DataW H → Nat
  | .lit (.string bytes) => bytes.length + 1
  | .lit _ => 1
  | .nil => 1
  | .ptr d => uptoBulk d + 1
  | .slice elems spare => uptoBulkAll elems + uptoBulkAll spare + 1
  | .agg parts => uptoBulkAll parts + 1
  | .iface _ d => uptoBulk d + 1
  | .map entries => uptoBulkEntries entries + 1
  | .held _ => 1
def uptoBulkAll {H : Type} : List (DataW H) → Nat
  | [] => 0
  | d :: r => uptoBulk d + uptoBulkAll r
def uptoBulkEntries {H : Type} : List (Lit × DataW H) → Nat
  | [] => 0
  | x :: r => uptoBulkEntry x + uptoBulkEntries r
def uptoBulkEntry {H : Type} : Lit × DataW H → Nat
  | (.string bytes, d) => bytes.length + uptoBulk d + 1
  | (_, d) => uptoBulk d + 1
 end
def uptoSmall : (H : Type) → List (DataW H) → Bool := fun _ ds => decide (uptoBulkAll ds ≤ 1048576)
def OpenSpec.upto (s : _root_.Go.ChangeSpec) : _root_.Go.OpenSpec := { _root_.Go.OpenSpec.ofChange s with cond := some uptoSmall }

/-- 'messuagelaw2.WordEdge', WHERE WHAT IT READS IS OF BULK AT MOST 1048576: true; the input reads as it did. -/
def wordEdgeUptoRow : OpenClaim := { program := "ythjfkblnbecjgaagreatdoor", sum := "a3112ba31b10870f54be3140330022d0e17ee4679f4d61b6839d956076692cf9", func := "messuage/messuagelaw2.WordEdge", spec := "wordEdge", inPlace := ["slices.overlaps[uint64]", "internal/reflectlite.ValueOf", "(internal/reflectlite.Value).Type", "(internal/reflectlite.Value).IsNil", "internal/reflectlite.TypeOf", "(internal/reflectlite.Value).Elem", "(internal/reflectlite.Value).Set"], unfollowed := true, recurses := true, named := ["errors.errorType"], plainKeys := false, apart := false, laid := [("errors.errorType", laid_errors_errorType)], narrowed := true }
def WordEdgeUptoSaid : Prop := wordEdgeUptoRow.holds Tryz.pinned (OpenSpec.upto wordEdgeSpec)

/-- 'messuagelaw2.WordOrder', WHERE WHAT IT READS IS OF BULK AT MOST 1048576: true; the input reads as it did. -/
def wordOrderUptoRow : OpenClaim := { program := "ythjfkblnbecjgaagreatdoor", sum := "a3112ba31b10870f54be3140330022d0e17ee4679f4d61b6839d956076692cf9", func := "messuage/messuagelaw2.WordOrder", spec := "wordOrder", inPlace := ["slices.overlaps[uint64]", "internal/reflectlite.ValueOf", "(internal/reflectlite.Value).Type", "(internal/reflectlite.Value).IsNil", "internal/reflectlite.TypeOf", "(internal/reflectlite.Value).Elem", "(internal/reflectlite.Value).Set"], unfollowed := true, recurses := true, named := ["errors.errorType"], plainKeys := false, apart := false, laid := [("errors.errorType", laid_errors_errorType)], narrowed := true }
def WordOrderUptoSaid : Prop := wordOrderUptoRow.holds Tryz.pinned (OpenSpec.upto wordOrderSpec)

/-- 'messuagelaw2.TableBy', WHERE WHAT IT READS IS OF BULK AT MOST 1048576: true; the input reads as it did. -/
def tableByUptoRow : OpenClaim := { program := "ythjfkblnbecjgaagreatdoor", sum := "a3112ba31b10870f54be3140330022d0e17ee4679f4d61b6839d956076692cf9", func := "messuage/messuagelaw2.TableBy", spec := "tableBy", inPlace := ["slices.overlaps[uint64]", "internal/reflectlite.ValueOf", "(internal/reflectlite.Value).Type", "(internal/reflectlite.Value).IsNil", "internal/reflectlite.TypeOf", "(internal/reflectlite.Value).Elem", "(internal/reflectlite.Value).Set"], unfollowed := true, recurses := true, named := ["errors.errorType"], plainKeys := false, apart := false, laid := [("errors.errorType", laid_errors_errorType)], narrowed := true }
def TableByUptoSaid : Prop := tableByUptoRow.holds Tryz.pinned (OpenSpec.upto tableBySpec)

/-- 'messuagelaw2.MailOrder', WHERE WHAT IT READS IS OF BULK AT MOST 1048576: true; the input reads as it did. -/
def mailOrderUptoRow : OpenClaim := { program := "ythjfkblnbecjgaagreatdoor", sum := "a3112ba31b10870f54be3140330022d0e17ee4679f4d61b6839d956076692cf9", func := "messuage/messuagelaw2.MailOrder", spec := "mailOrder", inPlace := ["slices.overlaps[uint64]", "internal/reflectlite.ValueOf", "(internal/reflectlite.Value).Type", "(internal/reflectlite.Value).IsNil", "internal/reflectlite.TypeOf", "(internal/reflectlite.Value).Elem", "(internal/reflectlite.Value).Set"], unfollowed := true, recurses := true, named := ["errors.errorType"], plainKeys := false, apart := false, laid := [("errors.errorType", laid_errors_errorType)], narrowed := true }
def MailOrderUptoSaid : Prop := mailOrderUptoRow.holds Tryz.pinned (OpenSpec.upto mailOrderSpec)

/-- 'messuagelaw2.CellSwap', WHERE WHAT IT READS IS OF BULK AT MOST 1048576: true; the input reads as it did. -/
def cellSwapUptoRow : OpenClaim := { program := "ythjfkblnbecjgaagreatdoor", sum := "a3112ba31b10870f54be3140330022d0e17ee4679f4d61b6839d956076692cf9", func := "messuage/messuagelaw2.CellSwap", spec := "cellSwap", inPlace := ["slices.overlaps[uint64]", "internal/reflectlite.ValueOf", "(internal/reflectlite.Value).Type", "(internal/reflectlite.Value).IsNil", "internal/reflectlite.TypeOf", "(internal/reflectlite.Value).Elem", "(internal/reflectlite.Value).Set"], unfollowed := true, recurses := true, named := ["errors.errorType"], plainKeys := false, apart := false, laid := [("errors.errorType", laid_errors_errorType)], narrowed := true }
def CellSwapUptoSaid : Prop := cellSwapUptoRow.holds Tryz.pinned (OpenSpec.upto cellSwapSpec)

/-- 'messuagelaw2.WordAll', WHERE WHAT IT READS IS OF BULK AT MOST 1048576: true; the input reads as it did. -/
def wordAllUptoRow : OpenClaim := { program := "ythjfkblnbecjgaagreatdoor", sum := "a3112ba31b10870f54be3140330022d0e17ee4679f4d61b6839d956076692cf9", func := "messuage/messuagelaw2.WordAll", spec := "wordAll", inPlace := ["slices.overlaps[uint64]", "internal/reflectlite.ValueOf", "(internal/reflectlite.Value).Type", "(internal/reflectlite.Value).IsNil", "internal/reflectlite.TypeOf", "(internal/reflectlite.Value).Elem", "(internal/reflectlite.Value).Set"], unfollowed := true, recurses := true, named := ["errors.errorType"], plainKeys := false, apart := false, laid := [("errors.errorType", laid_errors_errorType)], narrowed := true }
def WordAllUptoSaid : Prop := wordAllUptoRow.holds Tryz.pinned (OpenSpec.upto wordAllSpec)

/-- 'messuagelaw2.WordEach', WHERE WHAT IT READS IS OF BULK AT MOST 1048576: true; the input reads as it did. -/
def wordEachUptoRow : OpenClaim := { program := "ythjfkblnbecjgaagreatdoor", sum := "a3112ba31b10870f54be3140330022d0e17ee4679f4d61b6839d956076692cf9", func := "messuage/messuagelaw2.WordEach", spec := "wordEach", inPlace := ["slices.overlaps[uint64]", "internal/reflectlite.ValueOf", "(internal/reflectlite.Value).Type", "(internal/reflectlite.Value).IsNil", "internal/reflectlite.TypeOf", "(internal/reflectlite.Value).Elem", "(internal/reflectlite.Value).Set"], unfollowed := true, recurses := true, named := ["errors.errorType"], plainKeys := false, apart := false, laid := [("errors.errorType", laid_errors_errorType)], narrowed := true }
def WordEachUptoSaid : Prop := wordEachUptoRow.holds Tryz.pinned (OpenSpec.upto wordEachSpec)

/-- 'messuagelaw2.TicketAll', WHERE WHAT IT READS IS OF BULK AT MOST 1048576: true; the input reads as it did. -/
def ticketAllUptoRow : OpenClaim := { program := "ythjfkblnbecjgaagreatdoor", sum := "a3112ba31b10870f54be3140330022d0e17ee4679f4d61b6839d956076692cf9", func := "messuage/messuagelaw2.TicketAll", spec := "ticketAll", inPlace := ["slices.overlaps[uint64]", "internal/reflectlite.ValueOf", "(internal/reflectlite.Value).Type", "(internal/reflectlite.Value).IsNil", "internal/reflectlite.TypeOf", "(internal/reflectlite.Value).Elem", "(internal/reflectlite.Value).Set"], unfollowed := true, recurses := true, named := ["errors.errorType"], plainKeys := false, apart := false, laid := [("errors.errorType", laid_errors_errorType)], narrowed := true }
def TicketAllUptoSaid : Prop := ticketAllUptoRow.holds Tryz.pinned (OpenSpec.upto ticketAllSpec)

/-- 'messuagelaw2.TicketFair', WHERE WHAT IT READS IS OF BULK AT MOST 1048576: true; the input reads as it did. -/
def ticketFairUptoRow : OpenClaim := { program := "ythjfkblnbecjgaagreatdoor", sum := "a3112ba31b10870f54be3140330022d0e17ee4679f4d61b6839d956076692cf9", func := "messuage/messuagelaw2.TicketFair", spec := "ticketFair", inPlace := ["slices.overlaps[uint64]", "internal/reflectlite.ValueOf", "(internal/reflectlite.Value).Type", "(internal/reflectlite.Value).IsNil", "internal/reflectlite.TypeOf", "(internal/reflectlite.Value).Elem", "(internal/reflectlite.Value).Set"], unfollowed := true, recurses := true, named := ["errors.errorType"], plainKeys := false, apart := false, laid := [("errors.errorType", laid_errors_errorType)], narrowed := true }
def TicketFairUptoSaid : Prop := ticketFairUptoRow.holds Tryz.pinned (OpenSpec.upto ticketFairSpec)

/-- 'messuagelaw2.PteOne', WHERE WHAT IT READS IS OF BULK AT MOST 1048576: true; the input reads as it did. -/
def pteOneUptoRow : OpenClaim := { program := "ythjfkblnbecjgaagreatdoor", sum := "a3112ba31b10870f54be3140330022d0e17ee4679f4d61b6839d956076692cf9", func := "messuage/messuagelaw2.PteOne", spec := "pteOne", inPlace := ["slices.overlaps[uint64]", "internal/reflectlite.ValueOf", "(internal/reflectlite.Value).Type", "(internal/reflectlite.Value).IsNil", "internal/reflectlite.TypeOf", "(internal/reflectlite.Value).Elem", "(internal/reflectlite.Value).Set"], unfollowed := true, recurses := true, named := ["errors.errorType"], plainKeys := false, apart := false, laid := [("errors.errorType", laid_errors_errorType)], narrowed := true }
def PteOneUptoSaid : Prop := pteOneUptoRow.holds Tryz.pinned (OpenSpec.upto pteOneSpec)

/-- 'messuagelaw2.CellCount', WHERE WHAT IT READS IS OF BULK AT MOST 1048576: true; the input reads as it did. -/
def cellCountUptoRow : OpenClaim := { program := "ythjfkblnbecjgaagreatdoor", sum := "a3112ba31b10870f54be3140330022d0e17ee4679f4d61b6839d956076692cf9", func := "messuage/messuagelaw2.CellCount", spec := "cellCount", inPlace := ["slices.overlaps[uint64]", "internal/reflectlite.ValueOf", "(internal/reflectlite.Value).Type", "(internal/reflectlite.Value).IsNil", "internal/reflectlite.TypeOf", "(internal/reflectlite.Value).Elem", "(internal/reflectlite.Value).Set"], unfollowed := true, recurses := true, named := ["errors.errorType"], plainKeys := false, apart := false, laid := [("errors.errorType", laid_errors_errorType)], narrowed := true }
def CellCountUptoSaid : Prop := cellCountUptoRow.holds Tryz.pinned (OpenSpec.upto cellCountSpec)

/-- 'messuagelaw2.PteEach', WHERE WHAT IT READS IS OF BULK AT MOST 1048576: true; the input reads as it did. -/
def pteEachUptoRow : OpenClaim := { program := "ythjfkblnbecjgaagreatdoor", sum := "a3112ba31b10870f54be3140330022d0e17ee4679f4d61b6839d956076692cf9", func := "messuage/messuagelaw2.PteEach", spec := "pteEach", inPlace := ["slices.overlaps[uint64]", "internal/reflectlite.ValueOf", "(internal/reflectlite.Value).Type", "(internal/reflectlite.Value).IsNil", "internal/reflectlite.TypeOf", "(internal/reflectlite.Value).Elem", "(internal/reflectlite.Value).Set"], unfollowed := true, recurses := true, named := ["errors.errorType"], plainKeys := false, apart := false, laid := [("errors.errorType", laid_errors_errorType)], narrowed := true }
def PteEachUptoSaid : Prop := pteEachUptoRow.holds Tryz.pinned (OpenSpec.upto pteEachSpec)

/-- 'messuagelaw2.TlbSets', WHERE WHAT IT READS IS OF BULK AT MOST 1048576: true; the input reads as it did. -/
def tlbSetsUptoRow : OpenClaim := { program := "ythjfkblnbecjgaagreatdoor", sum := "a3112ba31b10870f54be3140330022d0e17ee4679f4d61b6839d956076692cf9", func := "messuage/messuagelaw2.TlbSets", spec := "tlbSets", inPlace := ["slices.overlaps[uint64]", "internal/reflectlite.ValueOf", "(internal/reflectlite.Value).Type", "(internal/reflectlite.Value).IsNil", "internal/reflectlite.TypeOf", "(internal/reflectlite.Value).Elem", "(internal/reflectlite.Value).Set"], unfollowed := true, recurses := true, named := ["errors.errorType"], plainKeys := false, apart := false, laid := [("errors.errorType", laid_errors_errorType)], narrowed := true }
def TlbSetsUptoSaid : Prop := tlbSetsUptoRow.holds Tryz.pinned (OpenSpec.upto tlbSetsSpec)

/-- 'messuagelaw2.PoolLeast', WHERE WHAT IT READS IS OF BULK AT MOST 1048576: true; the input reads as it did. -/
def poolLeastUptoRow : OpenClaim := { program := "ythjfkblnbecjgaagreatdoor", sum := "a3112ba31b10870f54be3140330022d0e17ee4679f4d61b6839d956076692cf9", func := "messuage/messuagelaw2.PoolLeast", spec := "poolLeast", inPlace := ["slices.overlaps[uint64]", "internal/reflectlite.ValueOf", "(internal/reflectlite.Value).Type", "(internal/reflectlite.Value).IsNil", "internal/reflectlite.TypeOf", "(internal/reflectlite.Value).Elem", "(internal/reflectlite.Value).Set"], unfollowed := true, recurses := true, named := ["errors.errorType"], plainKeys := false, apart := false, laid := [("errors.errorType", laid_errors_errorType)], narrowed := true }
def PoolLeastUptoSaid : Prop := poolLeastUptoRow.holds Tryz.pinned (OpenSpec.upto poolLeastSpec)

/-- 'messuagelaw2.MemAtomic', WHERE WHAT IT READS IS OF BULK AT MOST 1048576: true; the input reads as it did. -/
def memAtomicUptoRow : OpenClaim := { program := "ythjfkblnbecjgaagreatdoor", sum := "a3112ba31b10870f54be3140330022d0e17ee4679f4d61b6839d956076692cf9", func := "messuage/messuagelaw2.MemAtomic", spec := "memAtomic", inPlace := ["slices.overlaps[uint64]", "internal/reflectlite.ValueOf", "(internal/reflectlite.Value).Type", "(internal/reflectlite.Value).IsNil", "internal/reflectlite.TypeOf", "(internal/reflectlite.Value).Elem", "(internal/reflectlite.Value).Set"], unfollowed := true, recurses := true, named := ["errors.errorType"], plainKeys := false, apart := false, laid := [("errors.errorType", laid_errors_errorType)], narrowed := true }
def MemAtomicUptoSaid : Prop := memAtomicUptoRow.holds Tryz.pinned (OpenSpec.upto memAtomicSpec)

/-- 'messuagelaw2.PoolSeven', WHERE WHAT IT READS IS OF BULK AT MOST 1048576: true; the input reads as it did. -/
def poolSevenUptoRow : OpenClaim := { program := "ythjfkblnbecjgaagreatdoor", sum := "a3112ba31b10870f54be3140330022d0e17ee4679f4d61b6839d956076692cf9", func := "messuage/messuagelaw2.PoolSeven", spec := "poolSeven", inPlace := ["slices.overlaps[uint64]", "internal/reflectlite.ValueOf", "(internal/reflectlite.Value).Type", "(internal/reflectlite.Value).IsNil", "internal/reflectlite.TypeOf", "(internal/reflectlite.Value).Elem", "(internal/reflectlite.Value).Set"], unfollowed := true, recurses := true, named := ["errors.errorType"], plainKeys := false, apart := false, laid := [("errors.errorType", laid_errors_errorType)], narrowed := true }
def PoolSevenUptoSaid : Prop := poolSevenUptoRow.holds Tryz.pinned (OpenSpec.upto poolSevenSpec)

/-- 'messuagelaw2.MemOwn', WHERE WHAT IT READS IS OF BULK AT MOST 1048576: true; the input reads as it did. -/
def memOwnUptoRow : OpenClaim := { program := "ythjfkblnbecjgaagreatdoor", sum := "a3112ba31b10870f54be3140330022d0e17ee4679f4d61b6839d956076692cf9", func := "messuage/messuagelaw2.MemOwn", spec := "memOwn", inPlace := ["slices.overlaps[uint64]", "internal/reflectlite.ValueOf", "(internal/reflectlite.Value).Type", "(internal/reflectlite.Value).IsNil", "internal/reflectlite.TypeOf", "(internal/reflectlite.Value).Elem", "(internal/reflectlite.Value).Set"], unfollowed := true, recurses := true, named := ["errors.errorType"], plainKeys := false, apart := false, laid := [("errors.errorType", laid_errors_errorType)], narrowed := true }
def MemOwnUptoSaid : Prop := memOwnUptoRow.holds Tryz.pinned (OpenSpec.upto memOwnSpec)

/-- 'messuagelaw2.PteAll', WHERE WHAT IT READS IS OF BULK AT MOST 1048576: true; the input reads as it did. -/
def pteAllUptoRow : OpenClaim := { program := "ythjfkblnbecjgaagreatdoor", sum := "a3112ba31b10870f54be3140330022d0e17ee4679f4d61b6839d956076692cf9", func := "messuage/messuagelaw2.PteAll", spec := "pteAll", inPlace := ["slices.overlaps[uint64]", "internal/reflectlite.ValueOf", "(internal/reflectlite.Value).Type", "(internal/reflectlite.Value).IsNil", "internal/reflectlite.TypeOf", "(internal/reflectlite.Value).Elem", "(internal/reflectlite.Value).Set"], unfollowed := true, recurses := true, named := ["errors.errorType"], plainKeys := false, apart := false, laid := [("errors.errorType", laid_errors_errorType)], narrowed := true }
def PteAllUptoSaid : Prop := pteAllUptoRow.holds Tryz.pinned (OpenSpec.upto pteAllSpec)

/-- 'messuagelaw2.CellAll', WHERE WHAT IT READS IS OF BULK AT MOST 1048576: true; the input reads as it did. -/
def cellAllUptoRow : OpenClaim := { program := "ythjfkblnbecjgaagreatdoor", sum := "a3112ba31b10870f54be3140330022d0e17ee4679f4d61b6839d956076692cf9", func := "messuage/messuagelaw2.CellAll", spec := "cellAll", inPlace := ["slices.overlaps[uint64]", "internal/reflectlite.ValueOf", "(internal/reflectlite.Value).Type", "(internal/reflectlite.Value).IsNil", "internal/reflectlite.TypeOf", "(internal/reflectlite.Value).Elem", "(internal/reflectlite.Value).Set"], unfollowed := true, recurses := true, named := ["errors.errorType"], plainKeys := false, apart := false, laid := [("errors.errorType", laid_errors_errorType)], narrowed := true }
def CellAllUptoSaid : Prop := cellAllUptoRow.holds Tryz.pinned (OpenSpec.upto cellAllSpec)

/-- 'messuagelaw2.TlbFlush', WHERE WHAT IT READS IS OF BULK AT MOST 1048576: true; the input reads as it did. -/
def tlbFlushUptoRow : OpenClaim := { program := "ythjfkblnbecjgaagreatdoor", sum := "a3112ba31b10870f54be3140330022d0e17ee4679f4d61b6839d956076692cf9", func := "messuage/messuagelaw2.TlbFlush", spec := "tlbFlush", inPlace := ["slices.overlaps[uint64]", "internal/reflectlite.ValueOf", "(internal/reflectlite.Value).Type", "(internal/reflectlite.Value).IsNil", "internal/reflectlite.TypeOf", "(internal/reflectlite.Value).Elem", "(internal/reflectlite.Value).Set"], unfollowed := true, recurses := true, named := ["errors.errorType"], plainKeys := false, apart := false, laid := [("errors.errorType", laid_errors_errorType)], narrowed := true }
def TlbFlushUptoSaid : Prop := tlbFlushUptoRow.holds Tryz.pinned (OpenSpec.upto tlbFlushSpec)

/-- 'messuagelaw2.TlbAll', WHERE WHAT IT READS IS OF BULK AT MOST 1048576: true; the input reads as it did. -/
def tlbAllUptoRow : OpenClaim := { program := "ythjfkblnbecjgaagreatdoor", sum := "a3112ba31b10870f54be3140330022d0e17ee4679f4d61b6839d956076692cf9", func := "messuage/messuagelaw2.TlbAll", spec := "tlbAll", inPlace := ["slices.overlaps[uint64]", "internal/reflectlite.ValueOf", "(internal/reflectlite.Value).Type", "(internal/reflectlite.Value).IsNil", "internal/reflectlite.TypeOf", "(internal/reflectlite.Value).Elem", "(internal/reflectlite.Value).Set"], unfollowed := true, recurses := true, named := ["errors.errorType"], plainKeys := false, apart := false, laid := [("errors.errorType", laid_errors_errorType)], narrowed := true }
def TlbAllUptoSaid : Prop := tlbAllUptoRow.holds Tryz.pinned (OpenSpec.upto tlbAllSpec)

/-- 'messuagelaw2.TableAll', WHERE WHAT IT READS IS OF BULK AT MOST 1048576: true; the input reads as it did. -/
def tableAllUptoRow : OpenClaim := { program := "ythjfkblnbecjgaagreatdoor", sum := "a3112ba31b10870f54be3140330022d0e17ee4679f4d61b6839d956076692cf9", func := "messuage/messuagelaw2.TableAll", spec := "tableAll", inPlace := ["slices.overlaps[uint64]", "internal/reflectlite.ValueOf", "(internal/reflectlite.Value).Type", "(internal/reflectlite.Value).IsNil", "internal/reflectlite.TypeOf", "(internal/reflectlite.Value).Elem", "(internal/reflectlite.Value).Set"], unfollowed := true, recurses := true, named := ["errors.errorType"], plainKeys := false, apart := false, laid := [("errors.errorType", laid_errors_errorType)], narrowed := true }
def TableAllUptoSaid : Prop := tableAllUptoRow.holds Tryz.pinned (OpenSpec.upto tableAllSpec)

end Rows
end Go.Proofs.YthjfkblnbecjgaaGreatDoor
