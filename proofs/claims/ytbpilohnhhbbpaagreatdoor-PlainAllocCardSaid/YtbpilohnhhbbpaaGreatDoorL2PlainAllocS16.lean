/- A part of the proof of messuagelaw11.PlainAlloc: some of the arguments' ranges. -/
import Derived.Test.YtbpilohnhhbbpaaGreatDoorL2B
import Derived.Test.YtbpilohnhhbbpaaGreatDoorSxM7
import Derived.Test.YtbpilohnhhbbpaaGreatDoorSxSel
import Derived.Test.YtbpilohnhhbbpaaGreatDoorL2AlCfg
import Derived.Test.YtbpilohnhhbbpaaGreatDoorL2AL
import Derived.Test.YtbpilohnhhbbpaaGreatDoorL2Al3a
import Derived.Test.YtbpilohnhhbbpaaGreatDoorL2Al3b
import Derived.Test.YtbpilohnhhbbpaaGreatDoorL2Al4a
import Derived.Test.YtbpilohnhhbbpaaGreatDoorL2Al4b
import Derived.Test.YtbpilohnhhbbpaaGreatDoorL2Al5a
import Derived.Test.YtbpilohnhhbbpaaGreatDoorL2Al5b
import Derived.Test.YtbpilohnhhbbpaaGreatDoorL2Al6a
import Derived.Test.YtbpilohnhhbbpaaGreatDoorL2Al6b
import Derived.Test.YtbpilohnhhbbpaaGreatDoorL2Al6c
import Derived.Test.YtbpilohnhhbbpaaGreatDoorL2Al7a
import Derived.Test.YtbpilohnhhbbpaaGreatDoorL2Al7b
import Derived.Test.YtbpilohnhhbbpaaGreatDoorL2Al7c
import Derived.Test.YtbpilohnhhbbpaaGreatDoorL2Al8a
import Derived.Test.YtbpilohnhhbbpaaGreatDoorL2Al8b
import Derived.Test.YtbpilohnhhbbpaaGreatDoorL2Al8c
set_option linter.unusedVariables false
set_option linter.constructorNameAsVariable false
set_option linter.unusedSimpArgs false
open Go Go.Sx
namespace Go.Proofs.YtbpilohnhhbbpaaGreatDoor
open Go.ChangeShapes Go.WideShapes Go.RowKit
set_option maxRecDepth 100000
noncomputable def PlainAlloc_p16 : Tree := .call 19 (Go.Sx.L2.yes Go.Sx.L2.f_messuagelaw11_begun).rel [] [] 0 0 (.letI (.rem (.v 0) (.c 8)) (.letI (.add (.v 2) (.c 8)) (.letI (.rem (.v 3) (.c 8)) (.letI (.add (.c 1) (.v 4)) (.letI (.cmp .eql (.v 5) (.c 1)) (.ite (.v 6) (.fail 0) (.letI (.cmp .eql (.v 5) (.c 2)) (.ite (.v 7) (.fail 0) (.letI (.cmp .eql (.v 5) (.c 3)) (.ite (.v 8) (.fail 0) (.letI (.cmp .eql (.v 5) (.c 4)) (.ite (.v 9) (.fail 0) (.letI (.cmp .eql (.v 5) (.c 5)) (.ite (.v 10) (.fail 0) (.letI (.cmp .eql (.v 5) (.c 6)) (.ite (.v 11) (.fail 0) (.letI (.cmp .eql (.v 5) (.c 7)) (.ite (.v 12) (.fail 0) (.call 77 (Go.Sx.L2.aN1).rel [] [] 2 0 (.call 10 (Go.Sx.L2.aA1_0).rel [.v 13, .v 14] [] 0 0 (.call 10 (Go.Sx.L2.aA1_0).rel [.v 13, .v 14] [] 0 0 (.call 10 (Go.Sx.L2.aA1_0).rel [.v 13, .v 14] [] 0 0 (.call 10 (Go.Sx.L2.aA1_0).rel [.v 13, .v 14] [] 0 0 (.call 10 (Go.Sx.L2.aA1_0).rel [.v 13, .v 14] [] 0 0 (.call 10 (Go.Sx.L2.aA1_0).rel [.v 13, .v 14] [] 0 0 (.call 10 (Go.Sx.L2.aA1_0).rel [.v 13, .v 14] [] 0 0 (.call 10 (Go.Sx.L2.aA1_0).rel [.v 13, .v 14] [] 0 0 (.call 10 (Go.Sx.L2.aA1_0).rel [.v 13, .v 14] [] 0 0 (.call 10 (Go.Sx.L2.aA1_0).rel [.v 13, .v 14] [] 0 0 (.letI (.rem (.v 1) (.v 5)) (.letI (.add (.v 15) (.v 5)) (.letI (.rem (.v 16) (.v 5)) (.letI (.cmp .eql (.v 17) (.c 0)) (.ite (.v 18) (.fail 0) (.letI (.cmp .eql (.v 17) (.c 1)) (.ite (.v 19) (.fail 0) (.letI (.cmp .eql (.v 17) (.c 2)) (.ite (.v 20) (.fail 0) (.letI (.cmp .eql (.v 17) (.c 3)) (.ite (.v 21) (.fail 0) (.letI (.cmp .eql (.v 17) (.c 4)) (.ite (.v 22) (.call 10 (Go.Sx.L2.aA1_0).rel [.v 13, .v 14] [] 0 0 (.call 10 (Go.Sx.L2.aA1_0).rel [.v 13, .v 14] [] 0 0 (.done [] []))) (.letI (.cmp .eql (.v 17) (.c 5)) (.ite (.v 23) (.call 10 (Go.Sx.L2.aA1_0).rel [.v 13, .v 14] [] 0 0 (.call 10 (Go.Sx.L2.aA1_0).rel [.v 13, .v 14] [] 0 0 (.done [] []))) (.letI (.cmp .eql (.v 17) (.c 6)) (.ite (.v 24) (.call 10 (Go.Sx.L2.aA1_0).rel [.v 13, .v 14] [] 0 0 (.call 10 (Go.Sx.L2.aA1_0).rel [.v 13, .v 14] [] 0 0 (.done [] []))) (.call 10 (Go.Sx.L2.aA1_0).rel [.v 13, .v 14] [] 0 0 (.call 10 (Go.Sx.L2.aA1_0).rel [.v 13, .v 14] [] 0 0 (.done [] [])))))))))))))))))))))))))))))))))))))))))))))))))
theorem PlainAlloc_s16 : Tree.cut ((lawSpec L2.f_messuagelaw11_PlainAlloc [.one (.i .i64), .one (.i .i64)]).exe Tryz.prog (L2.alCfg Tryz.prog) [] 20 200) [false, false, false, false, false, false, false, false, false, false, false] = PlainAlloc_p16 := by kernel_rfl
end Go.Proofs.YtbpilohnhhbbpaaGreatDoor
