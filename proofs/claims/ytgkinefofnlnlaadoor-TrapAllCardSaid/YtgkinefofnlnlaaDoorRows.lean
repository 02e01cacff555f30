/-
  NARROWER THAN 'FOR EVERY INPUT', by the rows' own cells (each row's printed sentence says how): TrapAll: laid · TrapNone: laid · TrapOf: laid · TrapAs: laid · TrapWrap: laid · TrapOuter: laid · TrapJoin: laid · TrapOther: laid.
  DERIVED. THE GIVEN ROWS OF THIS SEAT. 8 by the template 'for every input the law returns true; each argument reads behind the call as it read before'; 0 by the template 'total and deterministic' (their statements: YtgkinefofnlnlaaDoorTotals.lean).
  GIVEN WITH THE SEED: the statements are not yours to turn. If you find one false, say at which input.
  Laid BY PROGRAM, IN A SANDBOX (cutbox-rows.mjs): the forced cells as the released guide's own fill.sh prints them over the translation d2c321c300f9dd3a… (all of the seat's roots in one cut). By AI agents, Wed Nov 11 2026. No macro, syntax, notation, axiom, sorry.
-/
import Derived.Test.YtgkinefofnlnlaaDoorChecked
import GoSem.Claim
import GoSem.ClaimJoined
import GoSem.ClaimMapViews
import Derived.JoinedTies
import Derived.KernelRfl
namespace Go.Proofs.YtgkinefofnlnlaaDoor
/- THE CELL 'sum', in the pinned program and in every row, IS THE sha256 OF THE DUMP (.gsa) THAT YtgkinefofnlnlaaDoorProg.lean LOADS. Nothing in Lean hashes anything: it is a label: what it is worth is what the hold of that sum in a sandbox is worth. -/
noncomputable def Tryd.pinned : Pinned := { name := "ytgkinefofnlnlaadoor", sum := "d2c321c300f9dd3ad1faa5618e0fa5f47edb6601fd09a6d95dee01143526455f", checked := Tryd.checked }
namespace Rows
def none {H : Type} : Left H := { results := [], args := [] }

/- WHAT THE LISTED PACKAGE-LEVEL VARIABLES READ AS WHEN THE CALL BEGINS. Each datum BY PROGRAM (the guide's laid-datum.mjs) off the statement by which the dump's own 'gosem.cut.vars' lays the variable. In a bare row this is a premise. The card (YtgkinefofnlnlaaDoorCards.lean) ties it to the program's text. -/
def laid_errors_errorType {H : Type} : DataW H := .iface "internal/reflectlite.rtype" (.agg [.ptr (.lit (.string [101, 114, 114, 111, 114]))])
def laid_math_bits_deBruijn32tab {H : Type} : DataW H := .agg [.lit (.int .u8 0), .lit (.int .u8 1), .lit (.int .u8 28), .lit (.int .u8 2), .lit (.int .u8 29), .lit (.int .u8 14), .lit (.int .u8 24), .lit (.int .u8 3), .lit (.int .u8 30), .lit (.int .u8 22), .lit (.int .u8 20), .lit (.int .u8 15), .lit (.int .u8 25), .lit (.int .u8 17), .lit (.int .u8 4), .lit (.int .u8 8), .lit (.int .u8 31), .lit (.int .u8 27), .lit (.int .u8 13), .lit (.int .u8 23), .lit (.int .u8 21), .lit (.int .u8 19), .lit (.int .u8 16), .lit (.int .u8 7), .lit (.int .u8 26), .lit (.int .u8 12), .lit (.int .u8 18), .lit (.int .u8 6), .lit (.int .u8 11), .lit (.int .u8 5), .lit (.int .u8 10), .lit (.int .u8 9)]
def laid_math_bits_deBruijn64tab {H : Type} : DataW H := .agg [.lit (.int .u8 0), .lit (.int .u8 1), .lit (.int .u8 56), .lit (.int .u8 2), .lit (.int .u8 57), .lit (.int .u8 49), .lit (.int .u8 28), .lit (.int .u8 3), .lit (.int .u8 61), .lit (.int .u8 58), .lit (.int .u8 42), .lit (.int .u8 50), .lit (.int .u8 38), .lit (.int .u8 29), .lit (.int .u8 17), .lit (.int .u8 4), .lit (.int .u8 62), .lit (.int .u8 47), .lit (.int .u8 59), .lit (.int .u8 36), .lit (.int .u8 45), .lit (.int .u8 43), .lit (.int .u8 51), .lit (.int .u8 22), .lit (.int .u8 53), .lit (.int .u8 39), .lit (.int .u8 33), .lit (.int .u8 30), .lit (.int .u8 24), .lit (.int .u8 18), .lit (.int .u8 12), .lit (.int .u8 5), .lit (.int .u8 63), .lit (.int .u8 55), .lit (.int .u8 48), .lit (.int .u8 27), .lit (.int .u8 60), .lit (.int .u8 41), .lit (.int .u8 37), .lit (.int .u8 16), .lit (.int .u8 46), .lit (.int .u8 35), .lit (.int .u8 44), .lit (.int .u8 21), .lit (.int .u8 52), .lit (.int .u8 32), .lit (.int .u8 23), .lit (.int .u8 11), .lit (.int .u8 54), .lit (.int .u8 26), .lit (.int .u8 40), .lit (.int .u8 15), .lit (.int .u8 34), .lit (.int .u8 20), .lit (.int .u8 31), .lit (.int .u8 10), .lit (.int .u8 25), .lit (.int .u8 14), .lit (.int .u8 19), .lit (.int .u8 9), .lit (.int .u8 13), .lit (.int .u8 8), .lit (.int .u8 7), .lit (.int .u8 6)]
def laid_internal_strconv_uint64pow10 {H : Type} : DataW H := .agg [.lit (.int .u64 1), .lit (.int .u64 10), .lit (.int .u64 100), .lit (.int .u64 1000), .lit (.int .u64 10000), .lit (.int .u64 100000), .lit (.int .u64 1000000), .lit (.int .u64 10000000), .lit (.int .u64 100000000), .lit (.int .u64 1000000000), .lit (.int .u64 10000000000), .lit (.int .u64 100000000000), .lit (.int .u64 1000000000000), .lit (.int .u64 10000000000000), .lit (.int .u64 100000000000000), .lit (.int .u64 1000000000000000), .lit (.int .u64 10000000000000000), .lit (.int .u64 100000000000000000), .lit (.int .u64 1000000000000000000), .lit (.int .u64 10000000000000000000)]

/-- 'messuagelaw1.TrapAll': WHATEVER THE INPUT: true; the input reads as it did. -/
def trapAllSpec : ChangeSpec := { name := "trapAll", fn := fun _ => fun
  | [d1, d2, d3, d4] => { results := [.lit (.bool true)], args := [d1, d2, d3, d4] }
  | _ => none }
def trapAllRow : OpenClaim := { program := "ytgkinefofnlnlaadoor", sum := "d2c321c300f9dd3ad1faa5618e0fa5f47edb6601fd09a6d95dee01143526455f", func := "messuage/messuagelaw1.TrapAll", spec := "trapAll", inPlace := ["internal/reflectlite.ValueOf", "(internal/reflectlite.Value).Type", "(internal/reflectlite.Value).IsNil", "internal/reflectlite.TypeOf", "(internal/reflectlite.Value).Elem", "(internal/reflectlite.Value).Set"], unfollowed := true, recurses := true, named := ["errors.errorType"], apart := false, laid := [("errors.errorType", laid_errors_errorType)] }
def TrapAllSaid : Prop := trapAllRow.holds Tryd.pinned (OpenSpec.ofChange trapAllSpec)

/-- ITS FALSE NEIGHBOUR: 'it returns false'. Refute it at one input. -/
def trapAllWrong : ChangeSpec := { name := "trapAll", fn := fun _ => fun
  | [d1, d2, d3, d4] => { results := [.lit (.bool false)], args := [d1, d2, d3, d4] }
  | _ => none }
def TrapAllWrongFalsely : Prop := trapAllRow.holds Tryd.pinned (OpenSpec.ofChange trapAllWrong)

/-- 'messuagelaw1.TrapNone': WHATEVER THE INPUT: true; the input reads as it did. -/
def trapNoneSpec : ChangeSpec := { name := "trapNone", fn := fun _ => fun
  | [] => { results := [.lit (.bool true)], args := [] }
  | _ => none }
def trapNoneRow : OpenClaim := { program := "ytgkinefofnlnlaadoor", sum := "d2c321c300f9dd3ad1faa5618e0fa5f47edb6601fd09a6d95dee01143526455f", func := "messuage/messuagelaw1.TrapNone", spec := "trapNone", inPlace := ["internal/reflectlite.ValueOf", "(internal/reflectlite.Value).Type", "(internal/reflectlite.Value).IsNil", "internal/reflectlite.TypeOf", "(internal/reflectlite.Value).Elem", "(internal/reflectlite.Value).Set"], unfollowed := true, recurses := true, named := ["errors.errorType", "internal/strconv.uint64pow10", "math/bits.deBruijn32tab", "math/bits.deBruijn64tab"], apart := false, laid := [("math/bits.deBruijn32tab", laid_math_bits_deBruijn32tab), ("math/bits.deBruijn64tab", laid_math_bits_deBruijn64tab), ("internal/strconv.uint64pow10", laid_internal_strconv_uint64pow10), ("errors.errorType", laid_errors_errorType)] }
def TrapNoneSaid : Prop := trapNoneRow.holds Tryd.pinned (OpenSpec.ofChange trapNoneSpec)

/-- ITS FALSE NEIGHBOUR: 'it returns false'. Refute it at one input. -/
def trapNoneWrong : ChangeSpec := { name := "trapNone", fn := fun _ => fun
  | [] => { results := [.lit (.bool false)], args := [] }
  | _ => none }
def TrapNoneWrongFalsely : Prop := trapNoneRow.holds Tryd.pinned (OpenSpec.ofChange trapNoneWrong)

/-- 'messuagelaw1.TrapOf': WHATEVER THE INPUT: true; the input reads as it did. -/
def trapOfSpec : ChangeSpec := { name := "trapOf", fn := fun _ => fun
  | [d1, d2] => { results := [.lit (.bool true)], args := [d1, d2] }
  | _ => none }
def trapOfRow : OpenClaim := { program := "ytgkinefofnlnlaadoor", sum := "d2c321c300f9dd3ad1faa5618e0fa5f47edb6601fd09a6d95dee01143526455f", func := "messuage/messuagelaw1.TrapOf", spec := "trapOf", inPlace := ["internal/reflectlite.ValueOf", "(internal/reflectlite.Value).Type", "(internal/reflectlite.Value).IsNil", "internal/reflectlite.TypeOf", "(internal/reflectlite.Value).Elem", "(internal/reflectlite.Value).Set"], unfollowed := true, recurses := true, named := ["errors.errorType"], apart := false, laid := [("errors.errorType", laid_errors_errorType)] }
def TrapOfSaid : Prop := trapOfRow.holds Tryd.pinned (OpenSpec.ofChange trapOfSpec)

/-- ITS FALSE NEIGHBOUR: 'it returns false'. Refute it at one input. -/
def trapOfWrong : ChangeSpec := { name := "trapOf", fn := fun _ => fun
  | [d1, d2] => { results := [.lit (.bool false)], args := [d1, d2] }
  | _ => none }
def TrapOfWrongFalsely : Prop := trapOfRow.holds Tryd.pinned (OpenSpec.ofChange trapOfWrong)

/-- 'messuagelaw1.TrapAs': WHATEVER THE INPUT: true; the input reads as it did. -/
def trapAsSpec : ChangeSpec := { name := "trapAs", fn := fun _ => fun
  | [d1, d2, d3, d4] => { results := [.lit (.bool true)], args := [d1, d2, d3, d4] }
  | _ => none }
def trapAsRow : OpenClaim := { program := "ytgkinefofnlnlaadoor", sum := "d2c321c300f9dd3ad1faa5618e0fa5f47edb6601fd09a6d95dee01143526455f", func := "messuage/messuagelaw1.TrapAs", spec := "trapAs", inPlace := ["internal/reflectlite.ValueOf", "(internal/reflectlite.Value).Type", "(internal/reflectlite.Value).IsNil", "internal/reflectlite.TypeOf", "(internal/reflectlite.Value).Elem", "(internal/reflectlite.Value).Set"], unfollowed := true, recurses := true, named := ["errors.errorType", "internal/strconv.uint64pow10", "math/bits.deBruijn32tab", "math/bits.deBruijn64tab"], apart := false, laid := [("math/bits.deBruijn32tab", laid_math_bits_deBruijn32tab), ("math/bits.deBruijn64tab", laid_math_bits_deBruijn64tab), ("internal/strconv.uint64pow10", laid_internal_strconv_uint64pow10), ("errors.errorType", laid_errors_errorType)] }
def TrapAsSaid : Prop := trapAsRow.holds Tryd.pinned (OpenSpec.ofChange trapAsSpec)

/-- ITS FALSE NEIGHBOUR: 'it returns false'. Refute it at one input. -/
def trapAsWrong : ChangeSpec := { name := "trapAs", fn := fun _ => fun
  | [d1, d2, d3, d4] => { results := [.lit (.bool false)], args := [d1, d2, d3, d4] }
  | _ => none }
def TrapAsWrongFalsely : Prop := trapAsRow.holds Tryd.pinned (OpenSpec.ofChange trapAsWrong)

/-- 'messuagelaw1.TrapWrap': WHATEVER THE INPUT: true; the input reads as it did. -/
def trapWrapSpec : ChangeSpec := { name := "trapWrap", fn := fun _ => fun
  | [d1, d2, d3] => { results := [.lit (.bool true)], args := [d1, d2, d3] }
  | _ => none }
def trapWrapRow : OpenClaim := { program := "ytgkinefofnlnlaadoor", sum := "d2c321c300f9dd3ad1faa5618e0fa5f47edb6601fd09a6d95dee01143526455f", func := "messuage/messuagelaw1.TrapWrap", spec := "trapWrap", inPlace := ["internal/reflectlite.ValueOf", "(internal/reflectlite.Value).Type", "(internal/reflectlite.Value).IsNil", "internal/reflectlite.TypeOf", "(internal/reflectlite.Value).Elem", "(internal/reflectlite.Value).Set"], unfollowed := true, recurses := true, named := ["errors.errorType"], apart := false, laid := [("errors.errorType", laid_errors_errorType)] }
def TrapWrapSaid : Prop := trapWrapRow.holds Tryd.pinned (OpenSpec.ofChange trapWrapSpec)

/-- ITS FALSE NEIGHBOUR: 'it returns false'. Refute it at one input. -/
def trapWrapWrong : ChangeSpec := { name := "trapWrap", fn := fun _ => fun
  | [d1, d2, d3] => { results := [.lit (.bool false)], args := [d1, d2, d3] }
  | _ => none }
def TrapWrapWrongFalsely : Prop := trapWrapRow.holds Tryd.pinned (OpenSpec.ofChange trapWrapWrong)

/-- 'messuagelaw1.TrapOuter': WHATEVER THE INPUT: true; the input reads as it did. -/
def trapOuterSpec : ChangeSpec := { name := "trapOuter", fn := fun _ => fun
  | [d1, d2, d3] => { results := [.lit (.bool true)], args := [d1, d2, d3] }
  | _ => none }
def trapOuterRow : OpenClaim := { program := "ytgkinefofnlnlaadoor", sum := "d2c321c300f9dd3ad1faa5618e0fa5f47edb6601fd09a6d95dee01143526455f", func := "messuage/messuagelaw1.TrapOuter", spec := "trapOuter", inPlace := ["internal/reflectlite.ValueOf", "(internal/reflectlite.Value).Type", "(internal/reflectlite.Value).IsNil", "internal/reflectlite.TypeOf", "(internal/reflectlite.Value).Elem", "(internal/reflectlite.Value).Set"], unfollowed := true, recurses := true, named := ["errors.errorType"], apart := false, laid := [("errors.errorType", laid_errors_errorType)] }
def TrapOuterSaid : Prop := trapOuterRow.holds Tryd.pinned (OpenSpec.ofChange trapOuterSpec)

/-- ITS FALSE NEIGHBOUR: 'it returns false'. Refute it at one input. -/
def trapOuterWrong : ChangeSpec := { name := "trapOuter", fn := fun _ => fun
  | [d1, d2, d3] => { results := [.lit (.bool false)], args := [d1, d2, d3] }
  | _ => none }
def TrapOuterWrongFalsely : Prop := trapOuterRow.holds Tryd.pinned (OpenSpec.ofChange trapOuterWrong)

/-- 'messuagelaw1.TrapJoin': WHATEVER THE INPUT: true; the input reads as it did. -/
def trapJoinSpec : ChangeSpec := { name := "trapJoin", fn := fun _ => fun
  | [d1, d2, d3, d4] => { results := [.lit (.bool true)], args := [d1, d2, d3, d4] }
  | _ => none }
def trapJoinRow : OpenClaim := { program := "ytgkinefofnlnlaadoor", sum := "d2c321c300f9dd3ad1faa5618e0fa5f47edb6601fd09a6d95dee01143526455f", func := "messuage/messuagelaw1.TrapJoin", spec := "trapJoin", inPlace := ["internal/reflectlite.ValueOf", "(internal/reflectlite.Value).Type", "(internal/reflectlite.Value).IsNil", "internal/reflectlite.TypeOf", "(internal/reflectlite.Value).Elem", "(internal/reflectlite.Value).Set"], unfollowed := true, recurses := true, named := ["errors.errorType"], apart := false, laid := [("errors.errorType", laid_errors_errorType)] }
def TrapJoinSaid : Prop := trapJoinRow.holds Tryd.pinned (OpenSpec.ofChange trapJoinSpec)

/-- ITS FALSE NEIGHBOUR: 'it returns false'. Refute it at one input. -/
def trapJoinWrong : ChangeSpec := { name := "trapJoin", fn := fun _ => fun
  | [d1, d2, d3, d4] => { results := [.lit (.bool false)], args := [d1, d2, d3, d4] }
  | _ => none }
def TrapJoinWrongFalsely : Prop := trapJoinRow.holds Tryd.pinned (OpenSpec.ofChange trapJoinWrong)

/-- 'messuagelaw1.TrapOther': WHATEVER THE INPUT: true; the input reads as it did. -/
def trapOtherSpec : ChangeSpec := { name := "trapOther", fn := fun _ => fun
  | [d1, d2, d3] => { results := [.lit (.bool true)], args := [d1, d2, d3] }
  | _ => none }
def trapOtherRow : OpenClaim := { program := "ytgkinefofnlnlaadoor", sum := "d2c321c300f9dd3ad1faa5618e0fa5f47edb6601fd09a6d95dee01143526455f", func := "messuage/messuagelaw1.TrapOther", spec := "trapOther", inPlace := ["internal/reflectlite.ValueOf", "(internal/reflectlite.Value).Type", "(internal/reflectlite.Value).IsNil", "internal/reflectlite.TypeOf", "(internal/reflectlite.Value).Elem", "(internal/reflectlite.Value).Set"], unfollowed := true, recurses := true, named := ["errors.errorType"], apart := false, laid := [("errors.errorType", laid_errors_errorType)] }
def TrapOtherSaid : Prop := trapOtherRow.holds Tryd.pinned (OpenSpec.ofChange trapOtherSpec)

/-- ITS FALSE NEIGHBOUR: 'it returns false'. Refute it at one input. -/
def trapOtherWrong : ChangeSpec := { name := "trapOther", fn := fun _ => fun
  | [d1, d2, d3] => { results := [.lit (.bool false)], args := [d1, d2, d3] }
  | _ => none }
def TrapOtherWrongFalsely : Prop := trapOtherRow.holds Tryd.pinned (OpenSpec.ofChange trapOtherWrong)

/- THE SECOND FORM. 'bulk': how many values and letters a reading holds, each counted each time it is reached (what is shared counts as often as it is met; a slice's spare places count too). A statement '..UptoSaid' is the law's where the arguments, and the package variables that the reading takes, are together of bulk at most 1048576: NARROWER than '..Said'. Prove '..Said' where nothing that the law and all that it calls make is longer than what came in: it says more and counts as full. Else prove '..UptoSaid'. A law counts once. -/
mutual
def uptoBulk {H : Type} : DataW H → Nat
  | .lit (.string bytes) => bytes.length + 1
  | .lit _ => 1
  | .nil => 1
  | .ptr d => uptoBulk d + 1
  | .slice elems spare => uptoBulkAll elems + uptoBulkAll spare + 1
  | .agg parts => uptoBulkAll parts + 1
  | .iface _ d => uptoBulk d + 1
  | .map entries => uptoBulkEntries entries + 1
  | .held _ => 1
def uptoBulkAll {H : Type} : List (DataW H) → Nat
  | [] => 0
  | d :: r => uptoBulk d + uptoBulkAll r
def uptoBulkEntries {H : Type} : List (Lit × DataW H) → Nat
  | [] => 0
  | x :: r => uptoBulkEntry x + uptoBulkEntries r
def uptoBulkEntry {H : Type} : Lit × DataW H → Nat
  | (.string bytes, d) => bytes.length + uptoBulk d + 1
  | (_, d) => uptoBulk d + 1
 end
def uptoSmall : (H : Type) → List (DataW H) → Bool := fun _ ds => decide (uptoBulkAll ds ≤ 1048576)
def OpenSpec.upto (s : _root_.Go.ChangeSpec) : _root_.Go.OpenSpec := { _root_.Go.OpenSpec.ofChange s with cond := some uptoSmall }

/-- 'messuagelaw1.TrapAll', WHERE WHAT IT READS IS OF BULK AT MOST 1048576: true; the input reads as it did. -/
def trapAllUptoRow : OpenClaim := { program := "ytgkinefofnlnlaadoor", sum := "d2c321c300f9dd3ad1faa5618e0fa5f47edb6601fd09a6d95dee01143526455f", func := "messuage/messuagelaw1.TrapAll", spec := "trapAll", inPlace := ["internal/reflectlite.ValueOf", "(internal/reflectlite.Value).Type", "(internal/reflectlite.Value).IsNil", "internal/reflectlite.TypeOf", "(internal/reflectlite.Value).Elem", "(internal/reflectlite.Value).Set"], unfollowed := true, recurses := true, named := ["errors.errorType"], apart := false, laid := [("errors.errorType", laid_errors_errorType)], narrowed := true }
def TrapAllUptoSaid : Prop := trapAllUptoRow.holds Tryd.pinned (OpenSpec.upto trapAllSpec)

/-- 'messuagelaw1.TrapNone', WHERE WHAT IT READS IS OF BULK AT MOST 1048576: true; the input reads as it did. -/
def trapNoneUptoRow : OpenClaim := { program := "ytgkinefofnlnlaadoor", sum := "d2c321c300f9dd3ad1faa5618e0fa5f47edb6601fd09a6d95dee01143526455f", func := "messuage/messuagelaw1.TrapNone", spec := "trapNone", inPlace := ["internal/reflectlite.ValueOf", "(internal/reflectlite.Value).Type", "(internal/reflectlite.Value).IsNil", "internal/reflectlite.TypeOf", "(internal/reflectlite.Value).Elem", "(internal/reflectlite.Value).Set"], unfollowed := true, recurses := true, named := ["errors.errorType", "internal/strconv.uint64pow10", "math/bits.deBruijn32tab", "math/bits.deBruijn64tab"], apart := false, laid := [("math/bits.deBruijn32tab", laid_math_bits_deBruijn32tab), ("math/bits.deBruijn64tab", laid_math_bits_deBruijn64tab), ("internal/strconv.uint64pow10", laid_internal_strconv_uint64pow10), ("errors.errorType", laid_errors_errorType)], narrowed := true }
def TrapNoneUptoSaid : Prop := trapNoneUptoRow.holds Tryd.pinned (OpenSpec.upto trapNoneSpec)

/-- 'messuagelaw1.TrapOf', WHERE WHAT IT READS IS OF BULK AT MOST 1048576: true; the input reads as it did. -/
def trapOfUptoRow : OpenClaim := { program := "ytgkinefofnlnlaadoor", sum := "d2c321c300f9dd3ad1faa5618e0fa5f47edb6601fd09a6d95dee01143526455f", func := "messuage/messuagelaw1.TrapOf", spec := "trapOf", inPlace := ["internal/reflectlite.ValueOf", "(internal/reflectlite.Value).Type", "(internal/reflectlite.Value).IsNil", "internal/reflectlite.TypeOf", "(internal/reflectlite.Value).Elem", "(internal/reflectlite.Value).Set"], unfollowed := true, recurses := true, named := ["errors.errorType"], apart := false, laid := [("errors.errorType", laid_errors_errorType)], narrowed := true }
def TrapOfUptoSaid : Prop := trapOfUptoRow.holds Tryd.pinned (OpenSpec.upto trapOfSpec)

/-- 'messuagelaw1.TrapAs', WHERE WHAT IT READS IS OF BULK AT MOST 1048576: true; the input reads as it did. -/
def trapAsUptoRow : OpenClaim := { program := "ytgkinefofnlnlaadoor", sum := "d2c321c300f9dd3ad1faa5618e0fa5f47edb6601fd09a6d95dee01143526455f", func := "messuage/messuagelaw1.TrapAs", spec := "trapAs", inPlace := ["internal/reflectlite.ValueOf", "(internal/reflectlite.Value).Type", "(internal/reflectlite.Value).IsNil", "internal/reflectlite.TypeOf", "(internal/reflectlite.Value).Elem", "(internal/reflectlite.Value).Set"], unfollowed := true, recurses := true, named := ["errors.errorType", "internal/strconv.uint64pow10", "math/bits.deBruijn32tab", "math/bits.deBruijn64tab"], apart := false, laid := [("math/bits.deBruijn32tab", laid_math_bits_deBruijn32tab), ("math/bits.deBruijn64tab", laid_math_bits_deBruijn64tab), ("internal/strconv.uint64pow10", laid_internal_strconv_uint64pow10), ("errors.errorType", laid_errors_errorType)], narrowed := true }
def TrapAsUptoSaid : Prop := trapAsUptoRow.holds Tryd.pinned (OpenSpec.upto trapAsSpec)

/-- 'messuagelaw1.TrapWrap', WHERE WHAT IT READS IS OF BULK AT MOST 1048576: true; the input reads as it did. -/
def trapWrapUptoRow : OpenClaim := { program := "ytgkinefofnlnlaadoor", sum := "d2c321c300f9dd3ad1faa5618e0fa5f47edb6601fd09a6d95dee01143526455f", func := "messuage/messuagelaw1.TrapWrap", spec := "trapWrap", inPlace := ["internal/reflectlite.ValueOf", "(internal/reflectlite.Value).Type", "(internal/reflectlite.Value).IsNil", "internal/reflectlite.TypeOf", "(internal/reflectlite.Value).Elem", "(internal/reflectlite.Value).Set"], unfollowed := true, recurses := true, named := ["errors.errorType"], apart := false, laid := [("errors.errorType", laid_errors_errorType)], narrowed := true }
def TrapWrapUptoSaid : Prop := trapWrapUptoRow.holds Tryd.pinned (OpenSpec.upto trapWrapSpec)

/-- 'messuagelaw1.TrapOuter', WHERE WHAT IT READS IS OF BULK AT MOST 1048576: true; the input reads as it did. -/
def trapOuterUptoRow : OpenClaim := { program := "ytgkinefofnlnlaadoor", sum := "d2c321c300f9dd3ad1faa5618e0fa5f47edb6601fd09a6d95dee01143526455f", func := "messuage/messuagelaw1.TrapOuter", spec := "trapOuter", inPlace := ["internal/reflectlite.ValueOf", "(internal/reflectlite.Value).Type", "(internal/reflectlite.Value).IsNil", "internal/reflectlite.TypeOf", "(internal/reflectlite.Value).Elem", "(internal/reflectlite.Value).Set"], unfollowed := true, recurses := true, named := ["errors.errorType"], apart := false, laid := [("errors.errorType", laid_errors_errorType)], narrowed := true }
def TrapOuterUptoSaid : Prop := trapOuterUptoRow.holds Tryd.pinned (OpenSpec.upto trapOuterSpec)

/-- 'messuagelaw1.TrapJoin', WHERE WHAT IT READS IS OF BULK AT MOST 1048576: true; the input reads as it did. -/
def trapJoinUptoRow : OpenClaim := { program := "ytgkinefofnlnlaadoor", sum := "d2c321c300f9dd3ad1faa5618e0fa5f47edb6601fd09a6d95dee01143526455f", func := "messuage/messuagelaw1.TrapJoin", spec := "trapJoin", inPlace := ["internal/reflectlite.ValueOf", "(internal/reflectlite.Value).Type", "(internal/reflectlite.Value).IsNil", "internal/reflectlite.TypeOf", "(internal/reflectlite.Value).Elem", "(internal/reflectlite.Value).Set"], unfollowed := true, recurses := true, named := ["errors.errorType"], apart := false, laid := [("errors.errorType", laid_errors_errorType)], narrowed := true }
def TrapJoinUptoSaid : Prop := trapJoinUptoRow.holds Tryd.pinned (OpenSpec.upto trapJoinSpec)

/-- 'messuagelaw1.TrapOther', WHERE WHAT IT READS IS OF BULK AT MOST 1048576: true; the input reads as it did. -/
def trapOtherUptoRow : OpenClaim := { program := "ytgkinefofnlnlaadoor", sum := "d2c321c300f9dd3ad1faa5618e0fa5f47edb6601fd09a6d95dee01143526455f", func := "messuage/messuagelaw1.TrapOther", spec := "trapOther", inPlace := ["internal/reflectlite.ValueOf", "(internal/reflectlite.Value).Type", "(internal/reflectlite.Value).IsNil", "internal/reflectlite.TypeOf", "(internal/reflectlite.Value).Elem", "(internal/reflectlite.Value).Set"], unfollowed := true, recurses := true, named := ["errors.errorType"], apart := false, laid := [("errors.errorType", laid_errors_errorType)], narrowed := true }
def TrapOtherUptoSaid : Prop := trapOtherUptoRow.holds Tryd.pinned (OpenSpec.upto trapOtherSpec)

end Rows
end Go.Proofs.YtgkinefofnlnlaaDoor
