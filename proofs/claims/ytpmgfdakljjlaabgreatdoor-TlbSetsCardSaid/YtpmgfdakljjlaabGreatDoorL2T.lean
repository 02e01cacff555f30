/- Contracts of a page table's functions. -/
import Derived.Test.YtpmgfdakljjlaabGreatDoorL2K
import Derived.Test.YtpmgfdakljjlaabGreatDoorPuT
set_option linter.unusedVariables false
set_option linter.constructorNameAsVariable false
namespace Go.Sx.L2
abbrev lo64 : Int := -9223372036854775808
abbrev hi64 : Int := 9223372036854775807
abbrev iR1 (l : List Nat) : List (Nat × Int × Int) := l.map fun i => (i, lo64, hi64)
abbrev tB (n l : Nat) : Nat × Blk := (n, .arr [.i .i64] l (.c 24) (.c 24) t_table_Table)
abbrev tNew : FSpec := { f := f_table_New, ni := 0, nl := 0, nb := 0, args := [], hp := [], rl := 1, rb := 1, res := .ptr 0 (.c 0), hp' := [tB 0 0], olrng := [(0, lo64, hi64)], rel := ⟨(fun _ _ => True), (fun _ _ xs ys => xs = [] ∧ ys = [List.replicate 24 0])⟩ }
abbrev tInsert : FSpec := { f := f_table_Table_Insert, ni := 4, nl := 1, nb := 1, args := [.ptr 0 (.c 0), .i .i64 (.v 0), .agg [.i .i64 (.v 1), .i .i64 (.v 2), .i .i64 (.v 3)]], hp := [tB 0 0], ilrng := [(0, lo64, hi64)], irng := [(0, lo64, hi64), (1, lo64, hi64), (2, lo64, hi64), (3, lo64, hi64)], ri := 1, rl := 1, res := .i .i64 (.v 4), hp' := [tB 0 1], olrng := [(1, lo64, hi64)], orng := [(4, 0, 11)], rel := ⟨(fun _ _ => True), (fun is ls xs ys => xs = [insE (ls.getD 0 []) (is.getD 0 0) (is.getD 1 0) (is.getD 2 0) (is.getD 3 0)] ∧ ys = [insL (ls.getD 0 []) (is.getD 0 0) (is.getD 1 0) (is.getD 2 0) (is.getD 3 0)])⟩ }
abbrev tWords : FSpec := { f := f_table_Table_Words, ni := 0, nl := 1, nb := 1, args := [.ptr 0 (.c 0)], hp := [tB 0 0], ilrng := [(0, lo64, hi64)], ri := 1, rl := 1, rb := 1, res := .vec 1 (.c 8) (.v 0), hp' := [tB 0 0, (1, .arr [.i .u64] 1 (.c 8) (.v 0) t_u64)], orng := [(0, 8, hi64)], rel := ⟨(fun _ _ => True), (fun is ls xs ys => ys = [wordsL (ls.getD 0 [])])⟩ }
abbrev tBy : FSpec := { f := f_table_Table_By, ni := 1, nl := 1, nb := 1, args := [.ptr 0 (.c 0), .i .i64 (.v 0)], hp := [tB 0 0], ilrng := [(0, lo64, hi64)], irng := [(0, lo64, hi64)], ri := 2, rl := 1, rb := 1, res := .vec 1 (.v 1) (.v 2), hp' := [tB 0 0, (1, .arr [.i .i64] 1 (.v 1) (.v 2) t_int)], orng := [(1, 0, 1000000), (2, 0, hi64)], rel := ⟨(fun _ _ => True), (fun is ls xs ys => xs.getD 0 0 = ((byUp (ls.getD 0 []) (is.getD 0 0) 8).length : Int) ∧ xs.getD 0 0 ≤ xs.getD 1 0 ∧ ys = [byUp (ls.getD 0 []) (is.getD 0 0) 8])⟩ }
end Go.Sx.L2
