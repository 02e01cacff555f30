/- Contracts of loads and stores in a memory of some frames. -/
import Derived.Test.YtbpilohnhhbbpabGreatDoorL2U
import Derived.Test.YtbpilohnhhbbpabGreatDoorPuV
set_option linter.unusedVariables false
set_option linter.constructorNameAsVariable false
namespace Go.Sx.L2
/-- A memory of K frames: its blocks from m on, the frames' lists from l on, the room of the slices: cap. -/
abbrev mHp (m K l : Nat) (cap : At) : List (Nat × Blk) :=
  [(m, .cells [.slc (m + 1) (.c 0) (.c K) cap] (.c 1) t_mem_Mem), (m + 1, .cells ((List.range K).map fun j => .slc (m + 2 + j) (.c 0) (.c 16) (.c 16)) cap t_u64s)] ++
  (List.range K).map fun j => (m + 2 + j, .arr [.i .u64] (l + j) (.c 16) (.c 16) t_u64)
abbrev mLr (K l : Nat) : List (Nat × Int × Int) := (List.range K).map fun j => (l + j, 0, 18446744073709551615)
abbrev uR (l : List Nat) : List (Nat × Int × Int) := l.map fun i => (i, 0, 18446744073709551615)
abbrev mLen (K : Nat) (ls : List (List Int)) (l : Nat) : Prop := ∀ j, j < K → (ls.getD (l + j) []).length = 16
end Go.Sx.L2
