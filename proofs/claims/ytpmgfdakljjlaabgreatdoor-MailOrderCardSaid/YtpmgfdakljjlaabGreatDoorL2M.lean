/- Contracts of the functions of mail boxes, and of the library's that they use. -/
import Derived.Test.YtpmgfdakljjlaabGreatDoorL2Cfg
import Derived.Test.YtpmgfdakljjlaabGreatDoorPuMl
set_option linter.unusedVariables false
set_option linter.constructorNameAsVariable false
namespace Go.Sx.L2
abbrev mHi : Int := 9223372036854775807
abbrev mU : Int := 18446744073709551615
/-- v0 long, room v1; v2: what is looked for. -/
abbrev sBin : FSpec := { f := f_slices_BinarySearch_uint64, ni := 3, nl := 1, nb := 1, args := [.vec 0 (.v 0) (.v 1), .i .u64 (.v 2)], hp := [(0, .arr [.i .u64] 0 (.v 0) (.v 1) t_u64)], irng := [(0, 0, 1000), (1, 0, mHi), (2, 0, mU)], ilrng := [(0, 0, mU)], ri := 2, res := .tup [.i .i64 (.v 3), .b (.v 4)], hp' := [(0, .arr [.i .u64] 0 (.v 0) (.v 1) t_u64)], orng := [(3, 0, 1000), (4, 0, 1)], rel := ⟨fun is ls => mPre is ls ∧ Asc (ls.getD 0 []), fun is ls xs ys => xs = [(lessN (ls.getD 0 []) (is.getD 2 0) : Int), b2i (decide (is.getD 2 0 ∈ ls.getD 0 []))] ∧ ys = []⟩ }
/-- v0 long, room v1; at v2; v3: the value. -/
abbrev sIns : FSpec := { f := f_slices_Insert_uint64, ni := 4, nl := 1, nb := 2, args := [.vec 0 (.v 0) (.v 1), .i .i64 (.v 2), .slc 1 (.c 0) (.c 1) (.c 1)], hp := [(0, .arr [.i .u64] 0 (.v 0) (.v 1) t_u64), (1, .cells [.i .u64 (.v 3)] (.c 1) t_u64)], irng := [(0, 0, 1000), (1, 0, mHi), (2, 0, 1000), (3, 0, mU)], ilrng := [(0, 0, mU)], ri := 2, rl := 1, rb := 1, res := .vec 2 (.v 4) (.v 5), hp' := [(2, .arr [.i .u64] 1 (.v 4) (.v 5) t_u64)], orng := [(4, 0, 1001), (5, 0, mHi)], olrng := [(0, 0, mU), (1, 0, mU)], rel := ⟨fun is ls => mPre is ls ∧ 0 ≤ is.getD 2 0 ∧ is.getD 2 0 ≤ is.getD 0 0, fun is ls xs ys => xs.getD 0 0 = is.getD 0 0 + 1 ∧ xs.getD 0 0 ≤ xs.getD 1 0 ∧ ys = [insAt (ls.getD 0 []) (is.getD 2 0).toNat (is.getD 3 0)]⟩ }
/-- The two boxes; the second one v0 long, room v1. -/
abbrev mBx (l : Nat) (a b : At) (n : Nat) : List (Nat × Blk) := [(0, .cells [.slc 1 (.c 0) (.c 2) (.c 2)] (.c 1) t_mail_Mail), (1, .cells [.nils, .vec n a b] (.c 2) t_u64s), (n, .arr [.i .u64] l a b t_u64)]
abbrev mSend : FSpec := { f := f_mail_Mail_Send, ni := 3, nl := 1, nb := 3, args := [.ptr 0 (.c 0), .i .i64 (.c 0), .i .i64 (.c 1), .i .u64 (.v 2)], hp := mBx 0 (.v 0) (.v 1) 2, irng := [(0, 0, 999), (1, 0, mHi), (2, 0, mU)], ilrng := [(0, 0, mU)], ri := 2, rl := 1, rb := 1, res := .b (.c 1), hp' := mBx 1 (.v 3) (.v 4) 3, orng := [(3, 0, 1000), (4, 0, mHi)], olrng := [(0, 0, mU), (1, 0, mU)], rel := ⟨fun is ls => mPre is ls ∧ Asc (ls.getD 0 []), fun is ls xs ys => xs.getD 0 0 = ((putA (ls.getD 0 []) (is.getD 2 0)).length : Int) ∧ xs.getD 0 0 ≤ xs.getD 1 0 ∧ ys = [putA (ls.getD 0 []) (is.getD 2 0)]⟩ }
/-- To itself: nothing is sent. -/
abbrev mSend1 : FSpec := { f := f_mail_Mail_Send, ni := 0, nl := 0, nb := 2, args := [.ptr 0 (.c 0), .i .i64 (.c 1), .i .i64 (.c 1), .i .u64 (.c 5)], hp := [(0, .cells [.slc 1 (.c 0) (.c 2) (.c 2)] (.c 1) t_mail_Mail)], res := .b (.c 0), hp' := [(0, .cells [.slc 1 (.c 0) (.c 2) (.c 2)] (.c 1) t_mail_Mail)], rel := ⟨fun _ _ => True, fun _ _ xs ys => xs = [] ∧ ys = []⟩ }
/-- The law's own: v0 long, room v1; v2: the value. -/
abbrev mPut : FSpec := { f := f_messuagelaw2_put, ni := 3, nl := 1, nb := 1, args := [.vec 0 (.v 0) (.v 1), .i .u64 (.v 2)], hp := [(0, .arr [.i .u64] 0 (.v 0) (.v 1) t_u64)], irng := [(0, 0, 999), (1, 0, mHi), (2, 0, mU)], ilrng := [(0, 0, mU)], ri := 2, rl := 1, rb := 1, res := .vec 1 (.v 3) (.v 4), hp' := [(1, .arr [.i .u64] 1 (.v 3) (.v 4) t_u64)], orng := [(3, 0, 1000), (4, 0, mHi)], olrng := [(0, 0, mU), (1, 0, mU)], rel := ⟨fun is ls => mPre is ls ∧ Asc (ls.getD 0 []), fun is ls xs ys => xs.getD 0 0 = ((putA (ls.getD 0 []) (is.getD 2 0)).length : Int) ∧ xs.getD 0 0 ≤ xs.getD 1 0 ∧ ys = [putA (ls.getD 0 []) (is.getD 2 0)]⟩ }
end Go.Sx.L2
