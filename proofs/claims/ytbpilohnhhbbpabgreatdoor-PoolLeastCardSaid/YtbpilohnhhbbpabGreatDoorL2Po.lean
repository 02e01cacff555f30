/- Contracts of a pool's functions. -/
import Derived.Test.YtbpilohnhhbbpabGreatDoorL2K
import Derived.Test.YtbpilohnhhbbpabGreatDoorPuPo
set_option linter.unusedVariables false
set_option linter.constructorNameAsVariable false
namespace Go.Sx.L2
abbrev pB (n l : Nat) : List (Nat × Blk) := [(n, .cells [.slc (n + 1) (.c 0) (.v 0) (.v 0)] (.c 1) t_pool_Pool), (n + 1, .arr [.i .i64] l (.v 0) (.v 0) t_int)]
abbrev pLen (is : List Int) (ls : List (List Int)) : Prop := ((ls.getD 0 []).length : Int) = is.getD 0 0
abbrev sIdx : FSpec := { f := f_slices_Index_int, ni := 2, nl := 1, nb := 1, args := [.slc 0 (.c 0) (.v 0) (.v 0), .i .i64 (.v 1)], hp := [(0, .arr [.i .i64] 0 (.v 0) (.v 0) t_int)], irng := [(0, 1, 16), (1, -9223372036854775808, 9223372036854775807)], ilrng := [(0, 0, 7)], ri := 1, res := .i .i64 (.v 2), hp' := [(0, .arr [.i .i64] 0 (.v 0) (.v 0) t_int)], orng := [(0, 1, 16), (2, -1, 15)], olrng := [(0, 0, 7)], rel := ⟨pLen, fun is ls xs ys => IdxP (ls.getD 0 []) (is.getD 1 0) (xs.getD 0 0) ∧ ys = []⟩ }
abbrev pTake : FSpec := { f := f_pool_Pool_Take, ni := 1, nl := 1, nb := 2, args := [.ptr 0 (.c 0)], hp := pB 0 0, irng := [(0, 1, 16)], ilrng := [(0, 0, 7)], ri := 2, rl := 1, res := .tup [.i .i64 (.v 1), .b (.v 2)], hp' := pB 0 1, orng := [(0, 1, 16), (1, 0, 15), (2, 0, 1)], olrng := [(0, 0, 7), (1, 0, 7)], rel := ⟨pLen, fun is ls xs ys => TakeP (ls.getD 0 []) xs ys⟩ }
abbrev pLet : FSpec := { f := f_pool_Pool_Let, ni := 2, nl := 1, nb := 2, args := [.ptr 0 (.c 0), .i .i64 (.v 1)], hp := pB 0 0, irng := [(0, 1, 16), (1, 0, 15)], ilrng := [(0, 0, 7)], ri := 2, rl := 1, res := .tup [.i .i64 (.v 2), .b (.v 3)], hp' := pB 0 1, orng := [(0, 1, 16), (2, -1, 7), (3, 0, 1)], olrng := [(0, 0, 7), (1, 0, 7)], rel := ⟨fun is ls => pLen is ls ∧ is.getD 1 0 < is.getD 0 0, fun is ls xs ys => LetP (ls.getD 0 []) (is.getD 1 0) xs ys⟩ }
abbrev pFree : FSpec := { f := f_pool_Pool_Free, ni := 1, nl := 1, nb := 2, args := [.ptr 0 (.c 0)], hp := pB 0 0, irng := [(0, 1, 16)], ilrng := [(0, 0, 7)], ri := 2, rl := 1, rb := 1, res := .vec 2 (.v 1) (.v 2), hp' := pB 0 0 ++ [(2, .arr [.i .i64] 1 (.v 1) (.v 2) t_int)], orng := [(0, 1, 16), (1, 0, 1000000), (2, 0, 9223372036854775807)], olrng := [(0, 0, 7), (1, 0, 15)], rel := ⟨pLen, fun is ls xs ys => NoP (ls.getD 0 []) → xs.getD 0 0 = 0⟩ }
abbrev pBits : FSpec := { f := f_pool_Pool_Bits, ni := 1, nl := 1, nb := 2, args := [.ptr 0 (.c 0)], hp := pB 0 0, irng := [(0, 1, 16)], ilrng := [(0, 0, 7)], ri := 1, res := .i .u64 (.v 1), hp' := pB 0 0, orng := [(0, 1, 16), (1, 0, 18446744073709551615)], olrng := [(0, 0, 7)], rel := ⟨pLen, fun is ls xs ys => NoP (ls.getD 0 []) → xs = [0]⟩ }
end Go.Sx.L2
