/- Contracts of a memory of sixteen frames: a word stored, a frame of zeros, a frame's copy. -/
import Derived.Test.YtbpilohnhhbbpabGreatDoorL2V
set_option linter.unusedVariables false
set_option linter.constructorNameAsVariable false
namespace Go.Sx.L2
/-- v0: the room; v1: frame, v2: place, v3: word. -/
abbrev mSt : FSpec := { f := f_mem_Mem_Store, ni := 4, nl := 16, nb := 18, args := [.ptr 0 (.c 0), .i .i64 (.v 1), .i .i64 (.v 2), .i .u64 (.v 3)], hp := mHp 0 16 0 (.v 0), irng := [(0, 16, hi64), (1, 0, 15), (2, 0, 15)] ++ uR [3], ilrng := mLr 16 0, ri := 0, rl := 16, res := .b (.c 1), hp' := mHp 0 16 16 (.v 0), orng := [(0, 16, hi64)], olrng := mLr 16 0 ++ mLr 16 16, rel := ⟨fun is ls => True, fun is ls xs ys => ys = (List.range 16).map fun (j : Nat) => if is.getD 1 0 = (j : Int) then (ls.getD j []).set (is.getD 2 0).toNat (is.getD 3 0) else ls.getD j []⟩ }
/-- v0: the room; v1: frame. -/
abbrev mZe : FSpec := { f := f_mem_Mem_Zero, ni := 2, nl := 16, nb := 18, args := [.ptr 0 (.c 0), .i .i64 (.v 1)], hp := mHp 0 16 0 (.v 0), irng := [(0, 16, hi64), (1, 0, 15)], ilrng := mLr 16 0, ri := 0, rl := 16, res := .b (.c 1), hp' := mHp 0 16 16 (.v 0), orng := [(0, 16, hi64)], olrng := mLr 16 0 ++ mLr 16 16, rel := ⟨fun is ls => mLen 16 ls 0, fun is ls xs ys => ys = (List.range 16).map fun (j : Nat) => if is.getD 1 0 = (j : Int) then List.replicate 16 0 else ls.getD j []⟩ }
/-- v0: the room; v1: frame. -/
abbrev mFr : FSpec := { f := f_mem_Mem_Frame, ni := 2, nl := 16, nb := 18, args := [.ptr 0 (.c 0), .i .i64 (.v 1)], hp := mHp 0 16 0 (.v 0), irng := [(0, 16, hi64), (1, 0, 15)], ilrng := mLr 16 0, ri := 1, rl := 1, rb := 1, res := .vec 18 (.c 16) (.v 2), hp' := mHp 0 16 0 (.v 0) ++ [(18, .arr [.i .u64] 16 (.c 16) (.v 2) t_u64)], orng := [(0, 16, hi64), (2, 16, hi64)], olrng := mLr 17 0, rel := ⟨fun is ls => mLen 16 ls 0, fun is ls xs ys => ys = [ls.getD (is.getD 1 0).toNat []]⟩ }
end Go.Sx.L2
