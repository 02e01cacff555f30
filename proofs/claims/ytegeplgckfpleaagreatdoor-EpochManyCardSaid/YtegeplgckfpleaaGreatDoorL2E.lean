/- Contracts of the functions of epochs. -/
import Derived.Test.YtegeplgckfpleaaGreatDoorL2Cfg
import Derived.Test.YtegeplgckfpleaaGreatDoorPuE
set_option linter.unusedVariables false
namespace Go.Sx.L2
abbrev eHi : Int := 9223372036854775807
/-- The epochs: the list of owners (a long, room b), the list of what is heard (n long). -/
abbrev eHp (o h : Nat) (a b n : At) : List (Nat × Blk) := [(0, .cells [.vec 1 a b, .slc 2 (.c 0) n n] (.c 2) t_epoch_Epochs), (1, .arr [.i .i64] o a b t_int), (2, .arr [.i .u64] h n n t_u64)]
abbrev ePre (is : List Int) (ls : List (List Int)) : Prop := ((ls.getD 0 []).length : Int) = is.getD 0 0 ∧ is.getD 0 0 ≤ is.getD 1 0 ∧ ((ls.getD 1 []).length : Int) = is.getD 2 0
abbrev eRng (i : Nat) : List (Nat × Int × Int) := [(i, 0, 1000), (i + 1, 0, eHi), (i + 2, 1, 8)]
abbrev eLr : List (Nat × Int × Int) := [(0, -9223372036854775808, eHi), (1, 0, 18446744073709551615)]
/-- v0 long, room v1, v2 cores; v3: from; out: the epoch v4, ok v5, long v6, room v7. -/
abbrev eBegin : FSpec := { f := f_epoch_Epochs_Begin, ni := 4, nl := 2, nb := 3, args := [.ptr 0 (.c 0), .i .i64 (.v 3)], hp := eHp 0 1 (.v 0) (.v 1) (.v 2), irng := eRng 0 ++ [(3, -9223372036854775808, eHi)], ilrng := eLr, ri := 4, rl := 1, rb := 1, res := .tup [.i .u64 (.v 4), .b (.v 5)], hp' := [(0, .cells [.vec 3 (.v 6) (.v 7), .slc 2 (.c 0) (.v 2) (.v 2)] (.c 2) t_epoch_Epochs), (3, .arr [.i .i64] 2 (.v 6) (.v 7) t_int), (2, .arr [.i .u64] 1 (.v 2) (.v 2) t_u64)], orng := [(4, 0, 1001), (5, 0, 1), (6, 0, 1001), (7, 0, eHi)], olrng := eLr ++ [(2, -9223372036854775808, eHi)], rel := ⟨ePre, fun is ls xs ys => xs.getD 0 0 = (if coreOk (ls.getD 1 []) (is.getD 3 0) then is.getD 0 0 + 1 else 0) ∧ xs.getD 1 0 = b2i (coreOk (ls.getD 1 []) (is.getD 3 0)) ∧ xs.getD 2 0 = ((begE (ls.getD 0 []) (ls.getD 1 []) (is.getD 3 0)).length : Int) ∧ xs.getD 2 0 ≤ xs.getD 3 0 ∧ ys = [begE (ls.getD 0 []) (ls.getD 1 []) (is.getD 3 0)]⟩ }
/-- v3: core, v4: epoch. -/
abbrev eAck : FSpec := { f := f_epoch_Epochs_Ack, ni := 5, nl := 2, nb := 3, args := [.ptr 0 (.c 0), .i .i64 (.v 3), .i .u64 (.v 4)], hp := eHp 0 1 (.v 0) (.v 1) (.v 2), irng := eRng 0 ++ [(3, -9223372036854775808, eHi), (4, 0, 18446744073709551615)], ilrng := eLr, ri := 1, rl := 1, res := .b (.v 5), hp' := eHp 0 2 (.v 0) (.v 1) (.v 2), orng := [(5, 0, 1)], olrng := eLr ++ [(2, 0, 18446744073709551615)], rel := ⟨ePre, fun is ls xs ys => xs = [b2i (ackOk (ls.getD 0 []) (ls.getD 1 []) (is.getD 3 0) (is.getD 4 0))] ∧ ys = [ackE (ls.getD 0 []) (ls.getD 1 []) (is.getD 3 0) (is.getD 4 0)]⟩ }
/-- v3: epoch; out: long v4, room v5. -/
abbrev eWaits : FSpec := { f := f_epoch_Epochs_Waits, ni := 4, nl := 2, nb := 3, args := [.ptr 0 (.c 0), .i .u64 (.v 3)], hp := eHp 0 1 (.v 0) (.v 1) (.v 2), irng := eRng 0 ++ [(3, 0, 18446744073709551615)], ilrng := eLr, ri := 2, rl := 1, rb := 1, res := .vec 3 (.v 4) (.v 5), hp' := eHp 0 1 (.v 0) (.v 1) (.v 2) ++ [(3, .arr [.i .i64] 2 (.v 4) (.v 5) t_int)], orng := [(4, 0, 8), (5, 0, eHi)], olrng := eLr, rel := ⟨ePre, fun is ls xs ys => xs.getD 0 0 = ((waitsE (ls.getD 0 []) (ls.getD 1 []) (is.getD 3 0)).length : Int) ∧ xs.getD 0 0 ≤ xs.getD 1 0 ∧ ys = [waitsE (ls.getD 0 []) (ls.getD 1 []) (is.getD 3 0)]⟩ }
/-- v3: epoch. -/
abbrev eDone : FSpec := { f := f_epoch_Epochs_Done, ni := 4, nl := 2, nb := 3, args := [.ptr 0 (.c 0), .i .u64 (.v 3)], hp := eHp 0 1 (.v 0) (.v 1) (.v 2), irng := eRng 0 ++ [(3, 0, 18446744073709551615)], ilrng := eLr, ri := 1, res := .b (.v 4), hp' := eHp 0 1 (.v 0) (.v 1) (.v 2), orng := [(4, 0, 1)], olrng := eLr, rel := ⟨ePre, fun is ls xs ys => xs = [b2i (epOk (ls.getD 0 []) (is.getD 3 0) && decide (waitsE (ls.getD 0 []) (ls.getD 1 []) (is.getD 3 0) = []))] ∧ ys = []⟩ }
end Go.Sx.L2
