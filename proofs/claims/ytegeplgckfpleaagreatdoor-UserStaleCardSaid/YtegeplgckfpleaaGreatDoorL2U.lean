/- Contracts of loads and stores by a buffer and a table. -/
import Derived.Test.YtegeplgckfpleaaGreatDoorL2Bs
import Derived.Test.YtegeplgckfpleaaGreatDoorPuU
set_option linter.unusedVariables false
namespace Go.Sx.L2
/-- v0: environment, v1: page, v2: kind; L0: the buffer, L1: the table. -/
abbrev uWalk : FSpec := { f := f_user_Walk, ni := 3, nl := 2, nb := 2, args := [.ptr 0 (.c 0), .ptr 1 (.c 0), .i .i64 (.v 0), .i .i64 (.v 1), .i .i64 (.v 2)], hp := [bB 0 0, tB 1 1], irng := iR [0, 1, 2], ilrng := [(0, lo64, hi64), (1, lo64, hi64)], ri := 5, rl := 1, res := .tup [.agg [.i .i64 (.v 3), .i .i64 (.v 4), .i .i64 (.v 5), .i .i64 (.v 6)], .b (.v 7)], hp' := [bB 0 2, tB 1 1], orng := iR [3, 4, 5, 6] ++ [(7, 0, 1)], olrng := [(1, lo64, hi64), (2, lo64, hi64)], rel := ⟨(fun _ _ => True), (fun is ls xs ys => xs = [walkV (ls.getD 0 []) (ls.getD 1 []) (is.getD 0 0) (is.getD 1 0) (is.getD 2 0) 0, walkV (ls.getD 0 []) (ls.getD 1 []) (is.getD 0 0) (is.getD 1 0) (is.getD 2 0) 1, walkV (ls.getD 0 []) (ls.getD 1 []) (is.getD 0 0) (is.getD 1 0) (is.getD 2 0) 2, walkV (ls.getD 0 []) (ls.getD 1 []) (is.getD 0 0) (is.getD 1 0) (is.getD 2 0) 3, b2i (walkOk (ls.getD 0 []) (ls.getD 1 []) (is.getD 0 0) (is.getD 1 0) (is.getD 2 0))] ∧ ys = [walkB (ls.getD 0 []) (ls.getD 1 []) (is.getD 0 0) (is.getD 1 0) (is.getD 2 0)])⟩ }
end Go.Sx.L2
