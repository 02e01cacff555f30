/- Contracts of a buffer's functions. -/
import Derived.Test.YtpmgfdakljjlaabGreatDoorL2T
import Derived.Test.YtpmgfdakljjlaabGreatDoorPuB
set_option linter.unusedVariables false
set_option linter.constructorNameAsVariable false
namespace Go.Sx.L2
abbrev bB (n l : Nat) : Nat × Blk := (n, .arr [.i .i64] l (.c 41) (.c 41) t_tlb_Tlb)
abbrev iR (l : List Nat) : List (Nat × Int × Int) := l.map fun i => (i, lo64, hi64)
abbrev bNew : FSpec := { f := f_tlb_New, ni := 0, nl := 0, nb := 0, args := [], hp := [], rl := 1, rb := 1, res := .ptr 0 (.c 0), hp' := [bB 0 0], olrng := [(0, lo64, hi64)], rel := ⟨(fun _ _ => True), (fun _ _ xs ys => xs = [] ∧ ys = [clearB (List.replicate 41 0)])⟩ }
abbrev bClear : FSpec := { f := f_tlb_Tlb_Clear, ni := 0, nl := 1, nb := 1, args := [.ptr 0 (.c 0)], hp := [bB 0 0], ilrng := [(0, lo64, hi64)], rl := 1, res := .tup [], hp' := [bB 0 1], olrng := [(1, lo64, hi64)], rel := ⟨(fun _ _ => True), (fun _ ls xs ys => xs = [] ∧ ys = [clearB (ls.getD 0 [])])⟩ }
abbrev bFind : FSpec := { f := f_tlb_Tlb_Find, ni := 2, nl := 1, nb := 1, args := [.ptr 0 (.c 0), .i .i64 (.v 0), .i .i64 (.v 1)], hp := [bB 0 0], irng := iR [0, 1], ilrng := [(0, lo64, hi64)], ri := 5, res := .tup [.agg [.i .i64 (.v 2), .i .i64 (.v 3), .i .i64 (.v 4), .i .i64 (.v 5)], .b (.v 6)], hp' := [bB 0 0], orng := [(2, lo64, hi64), (3, lo64, hi64), (4, lo64, hi64), (5, lo64, hi64), (6, 0, 1)], rel := ⟨(fun _ _ => True), (fun is ls xs ys => xs = [findB (ls.getD 0 []) (is.getD 0 0) (is.getD 1 0) 0, findB (ls.getD 0 []) (is.getD 0 0) (is.getD 1 0) 1, findB (ls.getD 0 []) (is.getD 0 0) (is.getD 1 0) 2, findB (ls.getD 0 []) (is.getD 0 0) (is.getD 1 0) 3, b2i (decide (atB (ls.getD 0 []) (is.getD 0 0) (is.getD 1 0) ≠ -1))])⟩ }
abbrev bFill : FSpec := { f := f_tlb_Tlb_Fill, ni := 4, nl := 1, nb := 1, args := [.ptr 0 (.c 0), .agg [.i .i64 (.v 0), .i .i64 (.v 1), .i .i64 (.v 2), .i .i64 (.v 3)]], hp := [bB 0 0], irng := iR [0, 1, 2, 3], ilrng := [(0, lo64, hi64)], ri := 1, rl := 1, res := .b (.v 4), hp' := [bB 0 1], orng := [(4, 0, 1)], olrng := [(1, lo64, hi64)], rel := ⟨(fun _ _ => True), (fun is ls xs ys => xs = [b2i (lineOk (is.getD 0 0) (is.getD 1 0) (is.getD 2 0) (is.getD 3 0))] ∧ ys = [fillB (ls.getD 0 []) (is.getD 0 0) (is.getD 1 0) (is.getD 2 0) (is.getD 3 0)])⟩ }
abbrev bLines : FSpec := { f := f_tlb_Tlb_Lines, ni := 0, nl := 1, nb := 1, args := [.ptr 0 (.c 0)], hp := [bB 0 0], ilrng := [(0, lo64, hi64)], ri := 2, rl := 1, rb := 1, res := .vec 1 (.c 8) (.v 0), hp' := [bB 0 0, (1, .arr [.i .i64] 1 (.c 32) (.v 1) t_api_Line)], orng := [(0, 8, hi64), (1, 32, hi64 * 4)], olrng := [(1, lo64, hi64)], rel := ⟨(fun _ _ => True), (fun is ls xs ys => ys = [linesB (ls.getD 0 [])])⟩ }
end Go.Sx.L2
