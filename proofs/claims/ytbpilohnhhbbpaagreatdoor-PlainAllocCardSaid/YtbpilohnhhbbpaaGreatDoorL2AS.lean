/- The executor: texts of it, one behind another. -/
import Derived.Test.YtbpilohnhhbbpaaGreatDoorL2B
import Derived.Test.YtbpilohnhhbbpaaGreatDoorSxM7
import Derived.Test.YtbpilohnhhbbpaaGreatDoorSxSel
import Derived.Test.YtbpilohnhhbbpaaGreatDoorL2AlCfg
import Derived.Test.YtbpilohnhhbbpaaGreatDoorL2AL
import Derived.Test.YtbpilohnhhbbpaaGreatDoorL2Al3a
import Derived.Test.YtbpilohnhhbbpaaGreatDoorL2Al3b
import Derived.Test.YtbpilohnhhbbpaaGreatDoorL2Al4a
import Derived.Test.YtbpilohnhhbbpaaGreatDoorL2Al4b
import Derived.Test.YtbpilohnhhbbpaaGreatDoorL2Al5a
import Derived.Test.YtbpilohnhhbbpaaGreatDoorL2Al5b
import Derived.Test.YtbpilohnhhbbpaaGreatDoorL2Al6a
import Derived.Test.YtbpilohnhhbbpaaGreatDoorL2Al6b
import Derived.Test.YtbpilohnhhbbpaaGreatDoorL2Al6c
import Derived.Test.YtbpilohnhhbbpaaGreatDoorL2Al7a
import Derived.Test.YtbpilohnhhbbpaaGreatDoorL2Al7b
import Derived.Test.YtbpilohnhhbbpaaGreatDoorL2Al7c
import Derived.Test.YtbpilohnhhbbpaaGreatDoorL2Al8a
import Derived.Test.YtbpilohnhhbbpaaGreatDoorL2Al8b
import Derived.Test.YtbpilohnhhbbpaaGreatDoorL2Al8c
set_option linter.unusedVariables false
set_option linter.constructorNameAsVariable false
/- A part of the proof of messuagelaw11.PlainAlloc: some of the arguments' ranges. -/
set_option linter.unusedVariables false
set_option linter.unusedSimpArgs false
open Go Go.Sx
namespace Go.Proofs.YtbpilohnhhbbpaaGreatDoor
open Go.ChangeShapes Go.WideShapes Go.RowKit
set_option maxRecDepth 100000
noncomputable def PlainAlloc_p0 : Tree := .call 19 (Go.Sx.L2.yes Go.Sx.L2.f_messuagelaw11_begun).rel [] [] 0 0 (.letI (.rem (.v 0) (.c 8)) (.letI (.add (.v 2) (.c 8)) (.letI (.rem (.v 3) (.c 8)) (.letI (.add (.c 1) (.v 4)) (.letI (.cmp .eql (.v 5) (.c 1)) (.ite (.v 6) (.call 77 (Go.Sx.L2.aN1).rel [] [] 2 0 (.call 10 (Go.Sx.L2.aA1_0).rel [.v 7, .v 8] [] 0 0 (.call 10 (Go.Sx.L2.aA1_0).rel [.v 7, .v 8] [] 0 0 (.call 10 (Go.Sx.L2.aA1_0).rel [.v 7, .v 8] [] 0 0 (.call 10 (Go.Sx.L2.aA1_0).rel [.v 7, .v 8] [] 0 0 (.call 10 (Go.Sx.L2.aA1_0).rel [.v 7, .v 8] [] 0 0 (.done [] []))))))) (.fail 0)))))))
theorem PlainAlloc_s0 : Tree.cut ((lawSpec L2.f_messuagelaw11_PlainAlloc [.one (.i .i64), .one (.i .i64)]).exe Tryz.prog (L2.alCfg Tryz.prog) [] 20 200) [true] = PlainAlloc_p0 := by kernel_rfl
end Go.Proofs.YtbpilohnhhbbpaaGreatDoor
/- A part of the proof of messuagelaw11.PlainAlloc: some of the arguments' ranges. -/
set_option linter.unusedVariables false
set_option linter.unusedSimpArgs false
open Go Go.Sx
namespace Go.Proofs.YtbpilohnhhbbpaaGreatDoor
open Go.ChangeShapes Go.WideShapes Go.RowKit
set_option maxRecDepth 100000
noncomputable def PlainAlloc_p1 : Tree := .call 19 (Go.Sx.L2.yes Go.Sx.L2.f_messuagelaw11_begun).rel [] [] 0 0 (.letI (.rem (.v 0) (.c 8)) (.letI (.add (.v 2) (.c 8)) (.letI (.rem (.v 3) (.c 8)) (.letI (.add (.c 1) (.v 4)) (.letI (.cmp .eql (.v 5) (.c 1)) (.ite (.v 6) (.fail 0) (.letI (.cmp .eql (.v 5) (.c 2)) (.ite (.v 7) (.call 77 (Go.Sx.L2.aN1).rel [] [] 2 0 (.call 10 (Go.Sx.L2.aA1_0).rel [.v 8, .v 9] [] 0 0 (.call 10 (Go.Sx.L2.aA1_0).rel [.v 8, .v 9] [] 0 0 (.call 10 (Go.Sx.L2.aA1_0).rel [.v 8, .v 9] [] 0 0 (.call 10 (Go.Sx.L2.aA1_0).rel [.v 8, .v 9] [] 0 0 (.letI (.rem (.v 1) (.v 5)) (.letI (.add (.v 10) (.v 5)) (.letI (.rem (.v 11) (.v 5)) (.letI (.cmp .eql (.v 12) (.c 0)) (.ite (.v 13) (.call 10 (Go.Sx.L2.aA1_0).rel [.v 8, .v 9] [] 0 0 (.call 10 (Go.Sx.L2.aA1_0).rel [.v 8, .v 9] [] 0 0 (.done [] []))) (.call 10 (Go.Sx.L2.aA1_0).rel [.v 8, .v 9] [] 0 0 (.call 10 (Go.Sx.L2.aA1_0).rel [.v 8, .v 9] [] 0 0 (.done [] []))))))))))))) (.fail 0)))))))))
theorem PlainAlloc_s1 : Tree.cut ((lawSpec L2.f_messuagelaw11_PlainAlloc [.one (.i .i64), .one (.i .i64)]).exe Tryz.prog (L2.alCfg Tryz.prog) [] 20 200) [false, true] = PlainAlloc_p1 := by kernel_rfl
end Go.Proofs.YtbpilohnhhbbpaaGreatDoor
/- A part of the proof of messuagelaw11.PlainAlloc: some of the arguments' ranges. -/
set_option linter.unusedVariables false
set_option linter.unusedSimpArgs false
open Go Go.Sx
namespace Go.Proofs.YtbpilohnhhbbpaaGreatDoor
open Go.ChangeShapes Go.WideShapes Go.RowKit
set_option maxRecDepth 100000
noncomputable def PlainAlloc_p2 : Tree := .call 19 (Go.Sx.L2.yes Go.Sx.L2.f_messuagelaw11_begun).rel [] [] 0 0 (.letI (.rem (.v 0) (.c 8)) (.letI (.add (.v 2) (.c 8)) (.letI (.rem (.v 3) (.c 8)) (.letI (.add (.c 1) (.v 4)) (.letI (.cmp .eql (.v 5) (.c 1)) (.ite (.v 6) (.fail 0) (.letI (.cmp .eql (.v 5) (.c 2)) (.ite (.v 7) (.fail 0) (.letI (.cmp .eql (.v 5) (.c 3)) (.ite (.v 8) (.call 77 (Go.Sx.L2.aN1).rel [] [] 2 0 (.call 10 (Go.Sx.L2.aA1_0).rel [.v 9, .v 10] [] 0 0 (.call 10 (Go.Sx.L2.aA1_0).rel [.v 9, .v 10] [] 0 0 (.call 10 (Go.Sx.L2.aA1_0).rel [.v 9, .v 10] [] 0 0 (.call 10 (Go.Sx.L2.aA1_0).rel [.v 9, .v 10] [] 0 0 (.call 10 (Go.Sx.L2.aA1_0).rel [.v 9, .v 10] [] 0 0 (.letI (.rem (.v 1) (.v 5)) (.letI (.add (.v 11) (.v 5)) (.letI (.rem (.v 12) (.v 5)) (.letI (.cmp .eql (.v 13) (.c 0)) (.ite (.v 14) (.call 10 (Go.Sx.L2.aA1_0).rel [.v 9, .v 10] [] 0 0 (.call 10 (Go.Sx.L2.aA1_0).rel [.v 9, .v 10] [] 0 0 (.done [] []))) (.letI (.cmp .eql (.v 13) (.c 1)) (.ite (.v 15) (.call 10 (Go.Sx.L2.aA1_0).rel [.v 9, .v 10] [] 0 0 (.call 10 (Go.Sx.L2.aA1_0).rel [.v 9, .v 10] [] 0 0 (.done [] []))) (.call 10 (Go.Sx.L2.aA1_0).rel [.v 9, .v 10] [] 0 0 (.call 10 (Go.Sx.L2.aA1_0).rel [.v 9, .v 10] [] 0 0 (.done [] [])))))))))))))))) (.fail 0)))))))))))
theorem PlainAlloc_s2 : Tree.cut ((lawSpec L2.f_messuagelaw11_PlainAlloc [.one (.i .i64), .one (.i .i64)]).exe Tryz.prog (L2.alCfg Tryz.prog) [] 20 200) [false, false, true] = PlainAlloc_p2 := by kernel_rfl
end Go.Proofs.YtbpilohnhhbbpaaGreatDoor
