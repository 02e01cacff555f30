/- The statement messuagelaw11.PlainAlloc of the seat: for every input the law returns true; the condition: errors.errorType is as the program lays it. -/
import Derived.Test.YtbpilohnhhbbpaaGreatDoorL2B
import Derived.Test.YtbpilohnhhbbpaaGreatDoorSxM7
import Derived.Test.YtbpilohnhhbbpaaGreatDoorSxSel
import Derived.Test.YtbpilohnhhbbpaaGreatDoorL2AlCfg
import Derived.Test.YtbpilohnhhbbpaaGreatDoorL2AL
import Derived.Test.YtbpilohnhhbbpaaGreatDoorL2Al3a
import Derived.Test.YtbpilohnhhbbpaaGreatDoorL2Al3b
import Derived.Test.YtbpilohnhhbbpaaGreatDoorL2Al4a
import Derived.Test.YtbpilohnhhbbpaaGreatDoorL2Al4b
import Derived.Test.YtbpilohnhhbbpaaGreatDoorL2Al5a
import Derived.Test.YtbpilohnhhbbpaaGreatDoorL2Al5b
import Derived.Test.YtbpilohnhhbbpaaGreatDoorL2Al6a
import Derived.Test.YtbpilohnhhbbpaaGreatDoorL2Al6b
import Derived.Test.YtbpilohnhhbbpaaGreatDoorL2Al6c
import Derived.Test.YtbpilohnhhbbpaaGreatDoorL2Al7a
import Derived.Test.YtbpilohnhhbbpaaGreatDoorL2Al7b
import Derived.Test.YtbpilohnhhbbpaaGreatDoorL2Al7c
import Derived.Test.YtbpilohnhhbbpaaGreatDoorL2Al8a
import Derived.Test.YtbpilohnhhbbpaaGreatDoorL2Al8b
import Derived.Test.YtbpilohnhhbbpaaGreatDoorL2Al8c
import Derived.Test.YtbpilohnhhbbpaaGreatDoorL2AS
import Derived.Test.YtbpilohnhhbbpaaGreatDoorL2PlainAllocS3
import Derived.Test.YtbpilohnhhbbpaaGreatDoorL2PlainAllocS4
import Derived.Test.YtbpilohnhhbbpaaGreatDoorL2AT
import Derived.Test.YtbpilohnhhbbpaaGreatDoorL2PlainAllocS7
import Derived.Test.YtbpilohnhhbbpaaGreatDoorL2PlainAllocS8
import Derived.Test.YtbpilohnhhbbpaaGreatDoorL2PlainAllocS9
import Derived.Test.YtbpilohnhhbbpaaGreatDoorL2PlainAllocS10
import Derived.Test.YtbpilohnhhbbpaaGreatDoorL2PlainAllocS11
import Derived.Test.YtbpilohnhhbbpaaGreatDoorL2PlainAllocS12
import Derived.Test.YtbpilohnhhbbpaaGreatDoorL2PlainAllocS13
import Derived.Test.YtbpilohnhhbbpaaGreatDoorL2PlainAllocS14
import Derived.Test.YtbpilohnhhbbpaaGreatDoorL2PlainAllocS15
import Derived.Test.YtbpilohnhhbbpaaGreatDoorL2PlainAllocS16
set_option linter.unusedVariables false
set_option linter.constructorNameAsVariable false
set_option linter.unusedSimpArgs false
open Go Go.Sx
namespace Go.Proofs.YtbpilohnhhbbpaaGreatDoor
open Go.ChangeShapes Go.WideShapes Go.RowKit
set_option maxRecDepth 100000

noncomputable def PlainAlloc_t : Tree := .call 19 (Go.Sx.L2.yes Go.Sx.L2.f_messuagelaw11_begun).rel [] [] 0 0 (.letI (.rem (.v 0) (.c 8)) (.letI (.add (.v 2) (.c 8)) (.letI (.rem (.v 3) (.c 8)) (.letI (.add (.c 1) (.v 4)) (.letI (.cmp .eql (.v 5) (.c 1)) (.ite (.v 6) (.call 77 (Go.Sx.L2.aN1).rel [] [] 2 0 (.call 10 (Go.Sx.L2.aA1_0).rel [.v 7, .v 8] [] 0 0 (.call 10 (Go.Sx.L2.aA1_0).rel [.v 7, .v 8] [] 0 0 (.call 10 (Go.Sx.L2.aA1_0).rel [.v 7, .v 8] [] 0 0 (.call 10 (Go.Sx.L2.aA1_0).rel [.v 7, .v 8] [] 0 0 (.call 10 (Go.Sx.L2.aA1_0).rel [.v 7, .v 8] [] 0 0 (.done [] []))))))) (.letI (.cmp .eql (.v 5) (.c 2)) (.ite (.v 7) (.call 77 (Go.Sx.L2.aN1).rel [] [] 2 0 (.call 10 (Go.Sx.L2.aA1_0).rel [.v 8, .v 9] [] 0 0 (.call 10 (Go.Sx.L2.aA1_0).rel [.v 8, .v 9] [] 0 0 (.call 10 (Go.Sx.L2.aA1_0).rel [.v 8, .v 9] [] 0 0 (.call 10 (Go.Sx.L2.aA1_0).rel [.v 8, .v 9] [] 0 0 (.letI (.rem (.v 1) (.v 5)) (.letI (.add (.v 10) (.v 5)) (.letI (.rem (.v 11) (.v 5)) (.letI (.cmp .eql (.v 12) (.c 0)) (.ite (.v 13) (.call 10 (Go.Sx.L2.aA1_0).rel [.v 8, .v 9] [] 0 0 (.call 10 (Go.Sx.L2.aA1_0).rel [.v 8, .v 9] [] 0 0 (.done [] []))) (.call 10 (Go.Sx.L2.aA1_0).rel [.v 8, .v 9] [] 0 0 (.call 10 (Go.Sx.L2.aA1_0).rel [.v 8, .v 9] [] 0 0 (.done [] []))))))))))))) (.letI (.cmp .eql (.v 5) (.c 3)) (.ite (.v 8) (.call 77 (Go.Sx.L2.aN1).rel [] [] 2 0 (.call 10 (Go.Sx.L2.aA1_0).rel [.v 9, .v 10] [] 0 0 (.call 10 (Go.Sx.L2.aA1_0).rel [.v 9, .v 10] [] 0 0 (.call 10 (Go.Sx.L2.aA1_0).rel [.v 9, .v 10] [] 0 0 (.call 10 (Go.Sx.L2.aA1_0).rel [.v 9, .v 10] [] 0 0 (.call 10 (Go.Sx.L2.aA1_0).rel [.v 9, .v 10] [] 0 0 (.letI (.rem (.v 1) (.v 5)) (.letI (.add (.v 11) (.v 5)) (.letI (.rem (.v 12) (.v 5)) (.letI (.cmp .eql (.v 13) (.c 0)) (.ite (.v 14) (.call 10 (Go.Sx.L2.aA1_0).rel [.v 9, .v 10] [] 0 0 (.call 10 (Go.Sx.L2.aA1_0).rel [.v 9, .v 10] [] 0 0 (.done [] []))) (.letI (.cmp .eql (.v 13) (.c 1)) (.ite (.v 15) (.call 10 (Go.Sx.L2.aA1_0).rel [.v 9, .v 10] [] 0 0 (.call 10 (Go.Sx.L2.aA1_0).rel [.v 9, .v 10] [] 0 0 (.done [] []))) (.call 10 (Go.Sx.L2.aA1_0).rel [.v 9, .v 10] [] 0 0 (.call 10 (Go.Sx.L2.aA1_0).rel [.v 9, .v 10] [] 0 0 (.done [] [])))))))))))))))) (.letI (.cmp .eql (.v 5) (.c 4)) (.ite (.v 9) (.call 77 (Go.Sx.L2.aN1).rel [] [] 2 0 (.call 10 (Go.Sx.L2.aA1_0).rel [.v 10, .v 11] [] 0 0 (.call 10 (Go.Sx.L2.aA1_0).rel [.v 10, .v 11] [] 0 0 (.call 10 (Go.Sx.L2.aA1_0).rel [.v 10, .v 11] [] 0 0 (.call 10 (Go.Sx.L2.aA1_0).rel [.v 10, .v 11] [] 0 0 (.call 10 (Go.Sx.L2.aA1_0).rel [.v 10, .v 11] [] 0 0 (.call 10 (Go.Sx.L2.aA1_0).rel [.v 10, .v 11] [] 0 0 (.letI (.rem (.v 1) (.v 5)) (.letI (.add (.v 12) (.v 5)) (.letI (.rem (.v 13) (.v 5)) (.letI (.cmp .eql (.v 14) (.c 0)) (.ite (.v 15) (.call 10 (Go.Sx.L2.aA1_0).rel [.v 10, .v 11] [] 0 0 (.call 10 (Go.Sx.L2.aA1_0).rel [.v 10, .v 11] [] 0 0 (.done [] []))) (.letI (.cmp .eql (.v 14) (.c 1)) (.ite (.v 16) (.call 10 (Go.Sx.L2.aA1_0).rel [.v 10, .v 11] [] 0 0 (.call 10 (Go.Sx.L2.aA1_0).rel [.v 10, .v 11] [] 0 0 (.done [] []))) (.letI (.cmp .eql (.v 14) (.c 2)) (.ite (.v 17) (.call 10 (Go.Sx.L2.aA1_0).rel [.v 10, .v 11] [] 0 0 (.call 10 (Go.Sx.L2.aA1_0).rel [.v 10, .v 11] [] 0 0 (.done [] []))) (.call 10 (Go.Sx.L2.aA1_0).rel [.v 10, .v 11] [] 0 0 (.call 10 (Go.Sx.L2.aA1_0).rel [.v 10, .v 11] [] 0 0 (.done [] []))))))))))))))))))) (.letI (.cmp .eql (.v 5) (.c 5)) (.ite (.v 10) (.call 77 (Go.Sx.L2.aN1).rel [] [] 2 0 (.call 10 (Go.Sx.L2.aA1_0).rel [.v 11, .v 12] [] 0 0 (.call 10 (Go.Sx.L2.aA1_0).rel [.v 11, .v 12] [] 0 0 (.call 10 (Go.Sx.L2.aA1_0).rel [.v 11, .v 12] [] 0 0 (.call 10 (Go.Sx.L2.aA1_0).rel [.v 11, .v 12] [] 0 0 (.call 10 (Go.Sx.L2.aA1_0).rel [.v 11, .v 12] [] 0 0 (.call 10 (Go.Sx.L2.aA1_0).rel [.v 11, .v 12] [] 0 0 (.call 10 (Go.Sx.L2.aA1_0).rel [.v 11, .v 12] [] 0 0 (.letI (.rem (.v 1) (.v 5)) (.letI (.add (.v 13) (.v 5)) (.letI (.rem (.v 14) (.v 5)) (.letI (.cmp .eql (.v 15) (.c 0)) (.ite (.v 16) (.call 10 (Go.Sx.L2.aA1_0).rel [.v 11, .v 12] [] 0 0 (.call 10 (Go.Sx.L2.aA1_0).rel [.v 11, .v 12] [] 0 0 (.done [] []))) (.letI (.cmp .eql (.v 15) (.c 1)) (.ite (.v 17) (.call 10 (Go.Sx.L2.aA1_0).rel [.v 11, .v 12] [] 0 0 (.call 10 (Go.Sx.L2.aA1_0).rel [.v 11, .v 12] [] 0 0 (.done [] []))) (.letI (.cmp .eql (.v 15) (.c 2)) (.ite (.v 18) (.call 10 (Go.Sx.L2.aA1_0).rel [.v 11, .v 12] [] 0 0 (.call 10 (Go.Sx.L2.aA1_0).rel [.v 11, .v 12] [] 0 0 (.done [] []))) (.letI (.cmp .eql (.v 15) (.c 3)) (.ite (.v 19) (.call 10 (Go.Sx.L2.aA1_0).rel [.v 11, .v 12] [] 0 0 (.call 10 (Go.Sx.L2.aA1_0).rel [.v 11, .v 12] [] 0 0 (.done [] []))) (.call 10 (Go.Sx.L2.aA1_0).rel [.v 11, .v 12] [] 0 0 (.call 10 (Go.Sx.L2.aA1_0).rel [.v 11, .v 12] [] 0 0 (.done [] [])))))))))))))))))))))) (.letI (.cmp .eql (.v 5) (.c 6)) (.ite (.v 11) (.call 77 (Go.Sx.L2.aN1).rel [] [] 2 0 (.call 10 (Go.Sx.L2.aA1_0).rel [.v 12, .v 13] [] 0 0 (.call 10 (Go.Sx.L2.aA1_0).rel [.v 12, .v 13] [] 0 0 (.call 10 (Go.Sx.L2.aA1_0).rel [.v 12, .v 13] [] 0 0 (.call 10 (Go.Sx.L2.aA1_0).rel [.v 12, .v 13] [] 0 0 (.call 10 (Go.Sx.L2.aA1_0).rel [.v 12, .v 13] [] 0 0 (.call 10 (Go.Sx.L2.aA1_0).rel [.v 12, .v 13] [] 0 0 (.call 10 (Go.Sx.L2.aA1_0).rel [.v 12, .v 13] [] 0 0 (.call 10 (Go.Sx.L2.aA1_0).rel [.v 12, .v 13] [] 0 0 (.letI (.rem (.v 1) (.v 5)) (.letI (.add (.v 14) (.v 5)) (.letI (.rem (.v 15) (.v 5)) (.letI (.cmp .eql (.v 16) (.c 0)) (.ite (.v 17) (.call 10 (Go.Sx.L2.aA1_0).rel [.v 12, .v 13] [] 0 0 (.call 10 (Go.Sx.L2.aA1_0).rel [.v 12, .v 13] [] 0 0 (.done [] []))) (.letI (.cmp .eql (.v 16) (.c 1)) (.ite (.v 18) (.call 10 (Go.Sx.L2.aA1_0).rel [.v 12, .v 13] [] 0 0 (.call 10 (Go.Sx.L2.aA1_0).rel [.v 12, .v 13] [] 0 0 (.done [] []))) (.letI (.cmp .eql (.v 16) (.c 2)) (.ite (.v 19) (.call 10 (Go.Sx.L2.aA1_0).rel [.v 12, .v 13] [] 0 0 (.call 10 (Go.Sx.L2.aA1_0).rel [.v 12, .v 13] [] 0 0 (.done [] []))) (.letI (.cmp .eql (.v 16) (.c 3)) (.ite (.v 20) (.call 10 (Go.Sx.L2.aA1_0).rel [.v 12, .v 13] [] 0 0 (.call 10 (Go.Sx.L2.aA1_0).rel [.v 12, .v 13] [] 0 0 (.done [] []))) (.letI (.cmp .eql (.v 16) (.c 4)) (.ite (.v 21) (.call 10 (Go.Sx.L2.aA1_0).rel [.v 12, .v 13] [] 0 0 (.call 10 (Go.Sx.L2.aA1_0).rel [.v 12, .v 13] [] 0 0 (.done [] []))) (.call 10 (Go.Sx.L2.aA1_0).rel [.v 12, .v 13] [] 0 0 (.call 10 (Go.Sx.L2.aA1_0).rel [.v 12, .v 13] [] 0 0 (.done [] []))))))))))))))))))))))))) (.letI (.cmp .eql (.v 5) (.c 7)) (.ite (.v 12) (.call 77 (Go.Sx.L2.aN1).rel [] [] 2 0 (.call 10 (Go.Sx.L2.aA1_0).rel [.v 13, .v 14] [] 0 0 (.call 10 (Go.Sx.L2.aA1_0).rel [.v 13, .v 14] [] 0 0 (.call 10 (Go.Sx.L2.aA1_0).rel [.v 13, .v 14] [] 0 0 (.call 10 (Go.Sx.L2.aA1_0).rel [.v 13, .v 14] [] 0 0 (.call 10 (Go.Sx.L2.aA1_0).rel [.v 13, .v 14] [] 0 0 (.call 10 (Go.Sx.L2.aA1_0).rel [.v 13, .v 14] [] 0 0 (.call 10 (Go.Sx.L2.aA1_0).rel [.v 13, .v 14] [] 0 0 (.call 10 (Go.Sx.L2.aA1_0).rel [.v 13, .v 14] [] 0 0 (.call 10 (Go.Sx.L2.aA1_0).rel [.v 13, .v 14] [] 0 0 (.letI (.rem (.v 1) (.v 5)) (.letI (.add (.v 15) (.v 5)) (.letI (.rem (.v 16) (.v 5)) (.letI (.cmp .eql (.v 17) (.c 0)) (.ite (.v 18) (.call 10 (Go.Sx.L2.aA1_0).rel [.v 13, .v 14] [] 0 0 (.call 10 (Go.Sx.L2.aA1_0).rel [.v 13, .v 14] [] 0 0 (.done [] []))) (.letI (.cmp .eql (.v 17) (.c 1)) (.ite (.v 19) (.call 10 (Go.Sx.L2.aA1_0).rel [.v 13, .v 14] [] 0 0 (.call 10 (Go.Sx.L2.aA1_0).rel [.v 13, .v 14] [] 0 0 (.done [] []))) (.letI (.cmp .eql (.v 17) (.c 2)) (.ite (.v 20) (.call 10 (Go.Sx.L2.aA1_0).rel [.v 13, .v 14] [] 0 0 (.call 10 (Go.Sx.L2.aA1_0).rel [.v 13, .v 14] [] 0 0 (.done [] []))) (.letI (.cmp .eql (.v 17) (.c 3)) (.ite (.v 21) (.call 10 (Go.Sx.L2.aA1_0).rel [.v 13, .v 14] [] 0 0 (.call 10 (Go.Sx.L2.aA1_0).rel [.v 13, .v 14] [] 0 0 (.done [] []))) (.letI (.cmp .eql (.v 17) (.c 4)) (.ite (.v 22) (.call 10 (Go.Sx.L2.aA1_0).rel [.v 13, .v 14] [] 0 0 (.call 10 (Go.Sx.L2.aA1_0).rel [.v 13, .v 14] [] 0 0 (.done [] []))) (.letI (.cmp .eql (.v 17) (.c 5)) (.ite (.v 23) (.call 10 (Go.Sx.L2.aA1_0).rel [.v 13, .v 14] [] 0 0 (.call 10 (Go.Sx.L2.aA1_0).rel [.v 13, .v 14] [] 0 0 (.done [] []))) (.call 10 (Go.Sx.L2.aA1_0).rel [.v 13, .v 14] [] 0 0 (.call 10 (Go.Sx.L2.aA1_0).rel [.v 13, .v 14] [] 0 0 (.done [] [])))))))))))))))))))))))))))) (.call 77 (Go.Sx.L2.aN1).rel [] [] 2 0 (.call 10 (Go.Sx.L2.aA1_0).rel [.v 13, .v 14] [] 0 0 (.call 10 (Go.Sx.L2.aA1_0).rel [.v 13, .v 14] [] 0 0 (.call 10 (Go.Sx.L2.aA1_0).rel [.v 13, .v 14] [] 0 0 (.call 10 (Go.Sx.L2.aA1_0).rel [.v 13, .v 14] [] 0 0 (.call 10 (Go.Sx.L2.aA1_0).rel [.v 13, .v 14] [] 0 0 (.call 10 (Go.Sx.L2.aA1_0).rel [.v 13, .v 14] [] 0 0 (.call 10 (Go.Sx.L2.aA1_0).rel [.v 13, .v 14] [] 0 0 (.call 10 (Go.Sx.L2.aA1_0).rel [.v 13, .v 14] [] 0 0 (.call 10 (Go.Sx.L2.aA1_0).rel [.v 13, .v 14] [] 0 0 (.call 10 (Go.Sx.L2.aA1_0).rel [.v 13, .v 14] [] 0 0 (.letI (.rem (.v 1) (.v 5)) (.letI (.add (.v 15) (.v 5)) (.letI (.rem (.v 16) (.v 5)) (.letI (.cmp .eql (.v 17) (.c 0)) (.ite (.v 18) (.call 10 (Go.Sx.L2.aA1_0).rel [.v 13, .v 14] [] 0 0 (.call 10 (Go.Sx.L2.aA1_0).rel [.v 13, .v 14] [] 0 0 (.done [] []))) (.letI (.cmp .eql (.v 17) (.c 1)) (.ite (.v 19) (.call 10 (Go.Sx.L2.aA1_0).rel [.v 13, .v 14] [] 0 0 (.call 10 (Go.Sx.L2.aA1_0).rel [.v 13, .v 14] [] 0 0 (.done [] []))) (.letI (.cmp .eql (.v 17) (.c 2)) (.ite (.v 20) (.call 10 (Go.Sx.L2.aA1_0).rel [.v 13, .v 14] [] 0 0 (.call 10 (Go.Sx.L2.aA1_0).rel [.v 13, .v 14] [] 0 0 (.done [] []))) (.letI (.cmp .eql (.v 17) (.c 3)) (.ite (.v 21) (.call 10 (Go.Sx.L2.aA1_0).rel [.v 13, .v 14] [] 0 0 (.call 10 (Go.Sx.L2.aA1_0).rel [.v 13, .v 14] [] 0 0 (.done [] []))) (.letI (.cmp .eql (.v 17) (.c 4)) (.ite (.v 22) (.call 10 (Go.Sx.L2.aA1_0).rel [.v 13, .v 14] [] 0 0 (.call 10 (Go.Sx.L2.aA1_0).rel [.v 13, .v 14] [] 0 0 (.done [] []))) (.letI (.cmp .eql (.v 17) (.c 5)) (.ite (.v 23) (.call 10 (Go.Sx.L2.aA1_0).rel [.v 13, .v 14] [] 0 0 (.call 10 (Go.Sx.L2.aA1_0).rel [.v 13, .v 14] [] 0 0 (.done [] []))) (.letI (.cmp .eql (.v 17) (.c 6)) (.ite (.v 24) (.call 10 (Go.Sx.L2.aA1_0).rel [.v 13, .v 14] [] 0 0 (.call 10 (Go.Sx.L2.aA1_0).rel [.v 13, .v 14] [] 0 0 (.done [] []))) (.call 10 (Go.Sx.L2.aA1_0).rel [.v 13, .v 14] [] 0 0 (.call 10 (Go.Sx.L2.aA1_0).rel [.v 13, .v 14] [] 0 0 (.done [] [])))))))))))))))))))))))))))))))))))))))))))))))))
theorem PlainAlloc_tree : (lawSpec L2.f_messuagelaw11_PlainAlloc [.one (.i .i64), .one (.i .i64)]).exe Tryz.prog (L2.alCfg Tryz.prog) [] 20 200 = PlainAlloc_t := by
  have h0 := PlainAlloc_s0.trans (show PlainAlloc_p0 = Tree.cut PlainAlloc_t [true] by kernel_rfl)
  have h1 := PlainAlloc_s1.trans (show PlainAlloc_p1 = Tree.cut PlainAlloc_t [false, true] by kernel_rfl)
  have h2 := PlainAlloc_s2.trans (show PlainAlloc_p2 = Tree.cut PlainAlloc_t [false, false, true] by kernel_rfl)
  have h3 := PlainAlloc_s3.trans (show PlainAlloc_p3 = Tree.cut PlainAlloc_t [false, false, false, true] by kernel_rfl)
  have h4 := PlainAlloc_s4.trans (show PlainAlloc_p4 = Tree.cut PlainAlloc_t [false, false, false, false, true] by kernel_rfl)
  have h5 := PlainAlloc_s5.trans (show PlainAlloc_p5 = Tree.cut PlainAlloc_t [false, false, false, false, false, true, true] by kernel_rfl)
  have h6 := PlainAlloc_s6.trans (show PlainAlloc_p6 = Tree.cut PlainAlloc_t [false, false, false, false, false, true, false, true] by kernel_rfl)
  have h7 := PlainAlloc_s7.trans (show PlainAlloc_p7 = Tree.cut PlainAlloc_t [false, false, false, false, false, true, false, false] by kernel_rfl)
  have h8 := PlainAlloc_s8.trans (show PlainAlloc_p8 = Tree.cut PlainAlloc_t [false, false, false, false, false, false, true, true] by kernel_rfl)
  have h9 := PlainAlloc_s9.trans (show PlainAlloc_p9 = Tree.cut PlainAlloc_t [false, false, false, false, false, false, true, false, true] by kernel_rfl)
  have h10 := PlainAlloc_s10.trans (show PlainAlloc_p10 = Tree.cut PlainAlloc_t [false, false, false, false, false, false, true, false, false, true] by kernel_rfl)
  have h11 := PlainAlloc_s11.trans (show PlainAlloc_p11 = Tree.cut PlainAlloc_t [false, false, false, false, false, false, true, false, false, false] by kernel_rfl)
  have h12 := PlainAlloc_s12.trans (show PlainAlloc_p12 = Tree.cut PlainAlloc_t [false, false, false, false, false, false, false, true] by kernel_rfl)
  have h13 := PlainAlloc_s13.trans (show PlainAlloc_p13 = Tree.cut PlainAlloc_t [false, false, false, false, false, false, false, false, true] by kernel_rfl)
  have h14 := PlainAlloc_s14.trans (show PlainAlloc_p14 = Tree.cut PlainAlloc_t [false, false, false, false, false, false, false, false, false, true] by kernel_rfl)
  have h15 := PlainAlloc_s15.trans (show PlainAlloc_p15 = Tree.cut PlainAlloc_t [false, false, false, false, false, false, false, false, false, false, true] by kernel_rfl)
  have h16 := PlainAlloc_s16.trans (show PlainAlloc_p16 = Tree.cut PlainAlloc_t [false, false, false, false, false, false, false, false, false, false, false] by kernel_rfl)
  have h := (cut_eq _ _ [] (cut_eq _ _ [false] (cut_eq _ _ [false, false] (cut_eq _ _ [false, false, false] (cut_eq _ _ [false, false, false, false] (cut_eq _ _ [false, false, false, false, false] (cut_eq _ _ [false, false, false, false, false, false] (cut_eq _ _ [false, false, false, false, false, false, false] (cut_eq _ _ [false, false, false, false, false, false, false, false] (cut_eq _ _ [false, false, false, false, false, false, false, false, false] (cut_eq _ _ [false, false, false, false, false, false, false, false, false, false] h16 h15) h14) h13) h12) (cut_eq _ _ [false, false, false, false, false, false, true] (cut_eq _ _ [false, false, false, false, false, false, true, false] (cut_eq _ _ [false, false, false, false, false, false, true, false, false] h11 h10) h9) h8)) (cut_eq _ _ [false, false, false, false, false, true] (cut_eq _ _ [false, false, false, false, false, true, false] h7 h6) h5)) h4) h3) h2) h1) h0)
  rw [cut_nil, cut_nil] at h
  exact h
theorem PlainAlloc_vc (Q : List Int → List (List Int) → Prop) (v0 v1 : Int) : PlainAlloc_t.dn ⟨Q, []⟩ 2 [v1, v0] 0 [] = ((Go.Sx.L2.yes Go.Sx.L2.f_messuagelaw11_begun).rel.pre [] [] ∧
((Go.Sx.L2.yes Go.Sx.L2.f_messuagelaw11_begun).rel.post [] [] [] [] → ∀ v2 : Int, v2 = (v0).tmod (8 : Int) → ∀ v3 : Int, v3 = v2 + (8 : Int) → ∀ v4 : Int, v4 = (v3).tmod (8 : Int) → ∀ v5 : Int, v5 = (1 : Int) + v4 → ((v5 = (1 : Int)) → (Go.Sx.L2.aN1).rel.pre [] [] ∧
(∀ v7 : Int, ∀ v8 : Int, (Go.Sx.L2.aN1).rel.post [] [] [v7, v8] [] → (Go.Sx.L2.aA1_0).rel.pre [v7, v8] [] ∧
((Go.Sx.L2.aA1_0).rel.post [v7, v8] [] [] [] → (Go.Sx.L2.aA1_0).rel.pre [v7, v8] [] ∧
((Go.Sx.L2.aA1_0).rel.post [v7, v8] [] [] [] → (Go.Sx.L2.aA1_0).rel.pre [v7, v8] [] ∧
((Go.Sx.L2.aA1_0).rel.post [v7, v8] [] [] [] → (Go.Sx.L2.aA1_0).rel.pre [v7, v8] [] ∧
((Go.Sx.L2.aA1_0).rel.post [v7, v8] [] [] [] → (Go.Sx.L2.aA1_0).rel.pre [v7, v8] [] ∧
((Go.Sx.L2.aA1_0).rel.post [v7, v8] [] [] [] → Q [] []))))))) ∧
((v5 ≠ (1 : Int)) → ((v5 = (2 : Int)) → (Go.Sx.L2.aN1).rel.pre [] [] ∧
(∀ v8 : Int, ∀ v9 : Int, (Go.Sx.L2.aN1).rel.post [] [] [v8, v9] [] → (Go.Sx.L2.aA1_0).rel.pre [v8, v9] [] ∧
((Go.Sx.L2.aA1_0).rel.post [v8, v9] [] [] [] → (Go.Sx.L2.aA1_0).rel.pre [v8, v9] [] ∧
((Go.Sx.L2.aA1_0).rel.post [v8, v9] [] [] [] → (Go.Sx.L2.aA1_0).rel.pre [v8, v9] [] ∧
((Go.Sx.L2.aA1_0).rel.post [v8, v9] [] [] [] → (Go.Sx.L2.aA1_0).rel.pre [v8, v9] [] ∧
((Go.Sx.L2.aA1_0).rel.post [v8, v9] [] [] [] → ∀ v10 : Int, v10 = (v1).tmod v5 → ∀ v11 : Int, v11 = v10 + v5 → ∀ v12 : Int, v12 = (v11).tmod v5 → ((v12 = (0 : Int)) → (Go.Sx.L2.aA1_0).rel.pre [v8, v9] [] ∧
((Go.Sx.L2.aA1_0).rel.post [v8, v9] [] [] [] → (Go.Sx.L2.aA1_0).rel.pre [v8, v9] [] ∧
((Go.Sx.L2.aA1_0).rel.post [v8, v9] [] [] [] → Q [] []))) ∧
((v12 ≠ (0 : Int)) → (Go.Sx.L2.aA1_0).rel.pre [v8, v9] [] ∧
((Go.Sx.L2.aA1_0).rel.post [v8, v9] [] [] [] → (Go.Sx.L2.aA1_0).rel.pre [v8, v9] [] ∧
((Go.Sx.L2.aA1_0).rel.post [v8, v9] [] [] [] → Q [] []))))))))) ∧
((v5 ≠ (2 : Int)) → ((v5 = (3 : Int)) → (Go.Sx.L2.aN1).rel.pre [] [] ∧
(∀ v9 : Int, ∀ v10 : Int, (Go.Sx.L2.aN1).rel.post [] [] [v9, v10] [] → (Go.Sx.L2.aA1_0).rel.pre [v9, v10] [] ∧
((Go.Sx.L2.aA1_0).rel.post [v9, v10] [] [] [] → (Go.Sx.L2.aA1_0).rel.pre [v9, v10] [] ∧
((Go.Sx.L2.aA1_0).rel.post [v9, v10] [] [] [] → (Go.Sx.L2.aA1_0).rel.pre [v9, v10] [] ∧
((Go.Sx.L2.aA1_0).rel.post [v9, v10] [] [] [] → (Go.Sx.L2.aA1_0).rel.pre [v9, v10] [] ∧
((Go.Sx.L2.aA1_0).rel.post [v9, v10] [] [] [] → (Go.Sx.L2.aA1_0).rel.pre [v9, v10] [] ∧
((Go.Sx.L2.aA1_0).rel.post [v9, v10] [] [] [] → ∀ v11 : Int, v11 = (v1).tmod v5 → ∀ v12 : Int, v12 = v11 + v5 → ∀ v13 : Int, v13 = (v12).tmod v5 → ((v13 = (0 : Int)) → (Go.Sx.L2.aA1_0).rel.pre [v9, v10] [] ∧
((Go.Sx.L2.aA1_0).rel.post [v9, v10] [] [] [] → (Go.Sx.L2.aA1_0).rel.pre [v9, v10] [] ∧
((Go.Sx.L2.aA1_0).rel.post [v9, v10] [] [] [] → Q [] []))) ∧
((v13 ≠ (0 : Int)) → ((v13 = (1 : Int)) → (Go.Sx.L2.aA1_0).rel.pre [v9, v10] [] ∧
((Go.Sx.L2.aA1_0).rel.post [v9, v10] [] [] [] → (Go.Sx.L2.aA1_0).rel.pre [v9, v10] [] ∧
((Go.Sx.L2.aA1_0).rel.post [v9, v10] [] [] [] → Q [] []))) ∧
((v13 ≠ (1 : Int)) → (Go.Sx.L2.aA1_0).rel.pre [v9, v10] [] ∧
((Go.Sx.L2.aA1_0).rel.post [v9, v10] [] [] [] → (Go.Sx.L2.aA1_0).rel.pre [v9, v10] [] ∧
((Go.Sx.L2.aA1_0).rel.post [v9, v10] [] [] [] → Q [] []))))))))))) ∧
((v5 ≠ (3 : Int)) → ((v5 = (4 : Int)) → (Go.Sx.L2.aN1).rel.pre [] [] ∧
(∀ v10 : Int, ∀ v11 : Int, (Go.Sx.L2.aN1).rel.post [] [] [v10, v11] [] → (Go.Sx.L2.aA1_0).rel.pre [v10, v11] [] ∧
((Go.Sx.L2.aA1_0).rel.post [v10, v11] [] [] [] → (Go.Sx.L2.aA1_0).rel.pre [v10, v11] [] ∧
((Go.Sx.L2.aA1_0).rel.post [v10, v11] [] [] [] → (Go.Sx.L2.aA1_0).rel.pre [v10, v11] [] ∧
((Go.Sx.L2.aA1_0).rel.post [v10, v11] [] [] [] → (Go.Sx.L2.aA1_0).rel.pre [v10, v11] [] ∧
((Go.Sx.L2.aA1_0).rel.post [v10, v11] [] [] [] → (Go.Sx.L2.aA1_0).rel.pre [v10, v11] [] ∧
((Go.Sx.L2.aA1_0).rel.post [v10, v11] [] [] [] → (Go.Sx.L2.aA1_0).rel.pre [v10, v11] [] ∧
((Go.Sx.L2.aA1_0).rel.post [v10, v11] [] [] [] → ∀ v12 : Int, v12 = (v1).tmod v5 → ∀ v13 : Int, v13 = v12 + v5 → ∀ v14 : Int, v14 = (v13).tmod v5 → ((v14 = (0 : Int)) → (Go.Sx.L2.aA1_0).rel.pre [v10, v11] [] ∧
((Go.Sx.L2.aA1_0).rel.post [v10, v11] [] [] [] → (Go.Sx.L2.aA1_0).rel.pre [v10, v11] [] ∧
((Go.Sx.L2.aA1_0).rel.post [v10, v11] [] [] [] → Q [] []))) ∧
((v14 ≠ (0 : Int)) → ((v14 = (1 : Int)) → (Go.Sx.L2.aA1_0).rel.pre [v10, v11] [] ∧
((Go.Sx.L2.aA1_0).rel.post [v10, v11] [] [] [] → (Go.Sx.L2.aA1_0).rel.pre [v10, v11] [] ∧
((Go.Sx.L2.aA1_0).rel.post [v10, v11] [] [] [] → Q [] []))) ∧
((v14 ≠ (1 : Int)) → ((v14 = (2 : Int)) → (Go.Sx.L2.aA1_0).rel.pre [v10, v11] [] ∧
((Go.Sx.L2.aA1_0).rel.post [v10, v11] [] [] [] → (Go.Sx.L2.aA1_0).rel.pre [v10, v11] [] ∧
((Go.Sx.L2.aA1_0).rel.post [v10, v11] [] [] [] → Q [] []))) ∧
((v14 ≠ (2 : Int)) → (Go.Sx.L2.aA1_0).rel.pre [v10, v11] [] ∧
((Go.Sx.L2.aA1_0).rel.post [v10, v11] [] [] [] → (Go.Sx.L2.aA1_0).rel.pre [v10, v11] [] ∧
((Go.Sx.L2.aA1_0).rel.post [v10, v11] [] [] [] → Q [] []))))))))))))) ∧
((v5 ≠ (4 : Int)) → ((v5 = (5 : Int)) → (Go.Sx.L2.aN1).rel.pre [] [] ∧
(∀ v11 : Int, ∀ v12 : Int, (Go.Sx.L2.aN1).rel.post [] [] [v11, v12] [] → (Go.Sx.L2.aA1_0).rel.pre [v11, v12] [] ∧
((Go.Sx.L2.aA1_0).rel.post [v11, v12] [] [] [] → (Go.Sx.L2.aA1_0).rel.pre [v11, v12] [] ∧
((Go.Sx.L2.aA1_0).rel.post [v11, v12] [] [] [] → (Go.Sx.L2.aA1_0).rel.pre [v11, v12] [] ∧
((Go.Sx.L2.aA1_0).rel.post [v11, v12] [] [] [] → (Go.Sx.L2.aA1_0).rel.pre [v11, v12] [] ∧
((Go.Sx.L2.aA1_0).rel.post [v11, v12] [] [] [] → (Go.Sx.L2.aA1_0).rel.pre [v11, v12] [] ∧
((Go.Sx.L2.aA1_0).rel.post [v11, v12] [] [] [] → (Go.Sx.L2.aA1_0).rel.pre [v11, v12] [] ∧
((Go.Sx.L2.aA1_0).rel.post [v11, v12] [] [] [] → (Go.Sx.L2.aA1_0).rel.pre [v11, v12] [] ∧
((Go.Sx.L2.aA1_0).rel.post [v11, v12] [] [] [] → ∀ v13 : Int, v13 = (v1).tmod v5 → ∀ v14 : Int, v14 = v13 + v5 → ∀ v15 : Int, v15 = (v14).tmod v5 → ((v15 = (0 : Int)) → (Go.Sx.L2.aA1_0).rel.pre [v11, v12] [] ∧
((Go.Sx.L2.aA1_0).rel.post [v11, v12] [] [] [] → (Go.Sx.L2.aA1_0).rel.pre [v11, v12] [] ∧
((Go.Sx.L2.aA1_0).rel.post [v11, v12] [] [] [] → Q [] []))) ∧
((v15 ≠ (0 : Int)) → ((v15 = (1 : Int)) → (Go.Sx.L2.aA1_0).rel.pre [v11, v12] [] ∧
((Go.Sx.L2.aA1_0).rel.post [v11, v12] [] [] [] → (Go.Sx.L2.aA1_0).rel.pre [v11, v12] [] ∧
((Go.Sx.L2.aA1_0).rel.post [v11, v12] [] [] [] → Q [] []))) ∧
((v15 ≠ (1 : Int)) → ((v15 = (2 : Int)) → (Go.Sx.L2.aA1_0).rel.pre [v11, v12] [] ∧
((Go.Sx.L2.aA1_0).rel.post [v11, v12] [] [] [] → (Go.Sx.L2.aA1_0).rel.pre [v11, v12] [] ∧
((Go.Sx.L2.aA1_0).rel.post [v11, v12] [] [] [] → Q [] []))) ∧
((v15 ≠ (2 : Int)) → ((v15 = (3 : Int)) → (Go.Sx.L2.aA1_0).rel.pre [v11, v12] [] ∧
((Go.Sx.L2.aA1_0).rel.post [v11, v12] [] [] [] → (Go.Sx.L2.aA1_0).rel.pre [v11, v12] [] ∧
((Go.Sx.L2.aA1_0).rel.post [v11, v12] [] [] [] → Q [] []))) ∧
((v15 ≠ (3 : Int)) → (Go.Sx.L2.aA1_0).rel.pre [v11, v12] [] ∧
((Go.Sx.L2.aA1_0).rel.post [v11, v12] [] [] [] → (Go.Sx.L2.aA1_0).rel.pre [v11, v12] [] ∧
((Go.Sx.L2.aA1_0).rel.post [v11, v12] [] [] [] → Q [] []))))))))))))))) ∧
((v5 ≠ (5 : Int)) → ((v5 = (6 : Int)) → (Go.Sx.L2.aN1).rel.pre [] [] ∧
(∀ v12 : Int, ∀ v13 : Int, (Go.Sx.L2.aN1).rel.post [] [] [v12, v13] [] → (Go.Sx.L2.aA1_0).rel.pre [v12, v13] [] ∧
((Go.Sx.L2.aA1_0).rel.post [v12, v13] [] [] [] → (Go.Sx.L2.aA1_0).rel.pre [v12, v13] [] ∧
((Go.Sx.L2.aA1_0).rel.post [v12, v13] [] [] [] → (Go.Sx.L2.aA1_0).rel.pre [v12, v13] [] ∧
((Go.Sx.L2.aA1_0).rel.post [v12, v13] [] [] [] → (Go.Sx.L2.aA1_0).rel.pre [v12, v13] [] ∧
((Go.Sx.L2.aA1_0).rel.post [v12, v13] [] [] [] → (Go.Sx.L2.aA1_0).rel.pre [v12, v13] [] ∧
((Go.Sx.L2.aA1_0).rel.post [v12, v13] [] [] [] → (Go.Sx.L2.aA1_0).rel.pre [v12, v13] [] ∧
((Go.Sx.L2.aA1_0).rel.post [v12, v13] [] [] [] → (Go.Sx.L2.aA1_0).rel.pre [v12, v13] [] ∧
((Go.Sx.L2.aA1_0).rel.post [v12, v13] [] [] [] → (Go.Sx.L2.aA1_0).rel.pre [v12, v13] [] ∧
((Go.Sx.L2.aA1_0).rel.post [v12, v13] [] [] [] → ∀ v14 : Int, v14 = (v1).tmod v5 → ∀ v15 : Int, v15 = v14 + v5 → ∀ v16 : Int, v16 = (v15).tmod v5 → ((v16 = (0 : Int)) → (Go.Sx.L2.aA1_0).rel.pre [v12, v13] [] ∧
((Go.Sx.L2.aA1_0).rel.post [v12, v13] [] [] [] → (Go.Sx.L2.aA1_0).rel.pre [v12, v13] [] ∧
((Go.Sx.L2.aA1_0).rel.post [v12, v13] [] [] [] → Q [] []))) ∧
((v16 ≠ (0 : Int)) → ((v16 = (1 : Int)) → (Go.Sx.L2.aA1_0).rel.pre [v12, v13] [] ∧
((Go.Sx.L2.aA1_0).rel.post [v12, v13] [] [] [] → (Go.Sx.L2.aA1_0).rel.pre [v12, v13] [] ∧
((Go.Sx.L2.aA1_0).rel.post [v12, v13] [] [] [] → Q [] []))) ∧
((v16 ≠ (1 : Int)) → ((v16 = (2 : Int)) → (Go.Sx.L2.aA1_0).rel.pre [v12, v13] [] ∧
((Go.Sx.L2.aA1_0).rel.post [v12, v13] [] [] [] → (Go.Sx.L2.aA1_0).rel.pre [v12, v13] [] ∧
((Go.Sx.L2.aA1_0).rel.post [v12, v13] [] [] [] → Q [] []))) ∧
((v16 ≠ (2 : Int)) → ((v16 = (3 : Int)) → (Go.Sx.L2.aA1_0).rel.pre [v12, v13] [] ∧
((Go.Sx.L2.aA1_0).rel.post [v12, v13] [] [] [] → (Go.Sx.L2.aA1_0).rel.pre [v12, v13] [] ∧
((Go.Sx.L2.aA1_0).rel.post [v12, v13] [] [] [] → Q [] []))) ∧
((v16 ≠ (3 : Int)) → ((v16 = (4 : Int)) → (Go.Sx.L2.aA1_0).rel.pre [v12, v13] [] ∧
((Go.Sx.L2.aA1_0).rel.post [v12, v13] [] [] [] → (Go.Sx.L2.aA1_0).rel.pre [v12, v13] [] ∧
((Go.Sx.L2.aA1_0).rel.post [v12, v13] [] [] [] → Q [] []))) ∧
((v16 ≠ (4 : Int)) → (Go.Sx.L2.aA1_0).rel.pre [v12, v13] [] ∧
((Go.Sx.L2.aA1_0).rel.post [v12, v13] [] [] [] → (Go.Sx.L2.aA1_0).rel.pre [v12, v13] [] ∧
((Go.Sx.L2.aA1_0).rel.post [v12, v13] [] [] [] → Q [] []))))))))))))))))) ∧
((v5 ≠ (6 : Int)) → ((v5 = (7 : Int)) → (Go.Sx.L2.aN1).rel.pre [] [] ∧
(∀ v13 : Int, ∀ v14 : Int, (Go.Sx.L2.aN1).rel.post [] [] [v13, v14] [] → (Go.Sx.L2.aA1_0).rel.pre [v13, v14] [] ∧
((Go.Sx.L2.aA1_0).rel.post [v13, v14] [] [] [] → (Go.Sx.L2.aA1_0).rel.pre [v13, v14] [] ∧
((Go.Sx.L2.aA1_0).rel.post [v13, v14] [] [] [] → (Go.Sx.L2.aA1_0).rel.pre [v13, v14] [] ∧
((Go.Sx.L2.aA1_0).rel.post [v13, v14] [] [] [] → (Go.Sx.L2.aA1_0).rel.pre [v13, v14] [] ∧
((Go.Sx.L2.aA1_0).rel.post [v13, v14] [] [] [] → (Go.Sx.L2.aA1_0).rel.pre [v13, v14] [] ∧
((Go.Sx.L2.aA1_0).rel.post [v13, v14] [] [] [] → (Go.Sx.L2.aA1_0).rel.pre [v13, v14] [] ∧
((Go.Sx.L2.aA1_0).rel.post [v13, v14] [] [] [] → (Go.Sx.L2.aA1_0).rel.pre [v13, v14] [] ∧
((Go.Sx.L2.aA1_0).rel.post [v13, v14] [] [] [] → (Go.Sx.L2.aA1_0).rel.pre [v13, v14] [] ∧
((Go.Sx.L2.aA1_0).rel.post [v13, v14] [] [] [] → (Go.Sx.L2.aA1_0).rel.pre [v13, v14] [] ∧
((Go.Sx.L2.aA1_0).rel.post [v13, v14] [] [] [] → ∀ v15 : Int, v15 = (v1).tmod v5 → ∀ v16 : Int, v16 = v15 + v5 → ∀ v17 : Int, v17 = (v16).tmod v5 → ((v17 = (0 : Int)) → (Go.Sx.L2.aA1_0).rel.pre [v13, v14] [] ∧
((Go.Sx.L2.aA1_0).rel.post [v13, v14] [] [] [] → (Go.Sx.L2.aA1_0).rel.pre [v13, v14] [] ∧
((Go.Sx.L2.aA1_0).rel.post [v13, v14] [] [] [] → Q [] []))) ∧
((v17 ≠ (0 : Int)) → ((v17 = (1 : Int)) → (Go.Sx.L2.aA1_0).rel.pre [v13, v14] [] ∧
((Go.Sx.L2.aA1_0).rel.post [v13, v14] [] [] [] → (Go.Sx.L2.aA1_0).rel.pre [v13, v14] [] ∧
((Go.Sx.L2.aA1_0).rel.post [v13, v14] [] [] [] → Q [] []))) ∧
((v17 ≠ (1 : Int)) → ((v17 = (2 : Int)) → (Go.Sx.L2.aA1_0).rel.pre [v13, v14] [] ∧
((Go.Sx.L2.aA1_0).rel.post [v13, v14] [] [] [] → (Go.Sx.L2.aA1_0).rel.pre [v13, v14] [] ∧
((Go.Sx.L2.aA1_0).rel.post [v13, v14] [] [] [] → Q [] []))) ∧
((v17 ≠ (2 : Int)) → ((v17 = (3 : Int)) → (Go.Sx.L2.aA1_0).rel.pre [v13, v14] [] ∧
((Go.Sx.L2.aA1_0).rel.post [v13, v14] [] [] [] → (Go.Sx.L2.aA1_0).rel.pre [v13, v14] [] ∧
((Go.Sx.L2.aA1_0).rel.post [v13, v14] [] [] [] → Q [] []))) ∧
((v17 ≠ (3 : Int)) → ((v17 = (4 : Int)) → (Go.Sx.L2.aA1_0).rel.pre [v13, v14] [] ∧
((Go.Sx.L2.aA1_0).rel.post [v13, v14] [] [] [] → (Go.Sx.L2.aA1_0).rel.pre [v13, v14] [] ∧
((Go.Sx.L2.aA1_0).rel.post [v13, v14] [] [] [] → Q [] []))) ∧
((v17 ≠ (4 : Int)) → ((v17 = (5 : Int)) → (Go.Sx.L2.aA1_0).rel.pre [v13, v14] [] ∧
((Go.Sx.L2.aA1_0).rel.post [v13, v14] [] [] [] → (Go.Sx.L2.aA1_0).rel.pre [v13, v14] [] ∧
((Go.Sx.L2.aA1_0).rel.post [v13, v14] [] [] [] → Q [] []))) ∧
((v17 ≠ (5 : Int)) → (Go.Sx.L2.aA1_0).rel.pre [v13, v14] [] ∧
((Go.Sx.L2.aA1_0).rel.post [v13, v14] [] [] [] → (Go.Sx.L2.aA1_0).rel.pre [v13, v14] [] ∧
((Go.Sx.L2.aA1_0).rel.post [v13, v14] [] [] [] → Q [] []))))))))))))))))))) ∧
((v5 ≠ (7 : Int)) → (Go.Sx.L2.aN1).rel.pre [] [] ∧
(∀ v13 : Int, ∀ v14 : Int, (Go.Sx.L2.aN1).rel.post [] [] [v13, v14] [] → (Go.Sx.L2.aA1_0).rel.pre [v13, v14] [] ∧
((Go.Sx.L2.aA1_0).rel.post [v13, v14] [] [] [] → (Go.Sx.L2.aA1_0).rel.pre [v13, v14] [] ∧
((Go.Sx.L2.aA1_0).rel.post [v13, v14] [] [] [] → (Go.Sx.L2.aA1_0).rel.pre [v13, v14] [] ∧
((Go.Sx.L2.aA1_0).rel.post [v13, v14] [] [] [] → (Go.Sx.L2.aA1_0).rel.pre [v13, v14] [] ∧
((Go.Sx.L2.aA1_0).rel.post [v13, v14] [] [] [] → (Go.Sx.L2.aA1_0).rel.pre [v13, v14] [] ∧
((Go.Sx.L2.aA1_0).rel.post [v13, v14] [] [] [] → (Go.Sx.L2.aA1_0).rel.pre [v13, v14] [] ∧
((Go.Sx.L2.aA1_0).rel.post [v13, v14] [] [] [] → (Go.Sx.L2.aA1_0).rel.pre [v13, v14] [] ∧
((Go.Sx.L2.aA1_0).rel.post [v13, v14] [] [] [] → (Go.Sx.L2.aA1_0).rel.pre [v13, v14] [] ∧
((Go.Sx.L2.aA1_0).rel.post [v13, v14] [] [] [] → (Go.Sx.L2.aA1_0).rel.pre [v13, v14] [] ∧
((Go.Sx.L2.aA1_0).rel.post [v13, v14] [] [] [] → (Go.Sx.L2.aA1_0).rel.pre [v13, v14] [] ∧
((Go.Sx.L2.aA1_0).rel.post [v13, v14] [] [] [] → ∀ v15 : Int, v15 = (v1).tmod v5 → ∀ v16 : Int, v16 = v15 + v5 → ∀ v17 : Int, v17 = (v16).tmod v5 → ((v17 = (0 : Int)) → (Go.Sx.L2.aA1_0).rel.pre [v13, v14] [] ∧
((Go.Sx.L2.aA1_0).rel.post [v13, v14] [] [] [] → (Go.Sx.L2.aA1_0).rel.pre [v13, v14] [] ∧
((Go.Sx.L2.aA1_0).rel.post [v13, v14] [] [] [] → Q [] []))) ∧
((v17 ≠ (0 : Int)) → ((v17 = (1 : Int)) → (Go.Sx.L2.aA1_0).rel.pre [v13, v14] [] ∧
((Go.Sx.L2.aA1_0).rel.post [v13, v14] [] [] [] → (Go.Sx.L2.aA1_0).rel.pre [v13, v14] [] ∧
((Go.Sx.L2.aA1_0).rel.post [v13, v14] [] [] [] → Q [] []))) ∧
((v17 ≠ (1 : Int)) → ((v17 = (2 : Int)) → (Go.Sx.L2.aA1_0).rel.pre [v13, v14] [] ∧
((Go.Sx.L2.aA1_0).rel.post [v13, v14] [] [] [] → (Go.Sx.L2.aA1_0).rel.pre [v13, v14] [] ∧
((Go.Sx.L2.aA1_0).rel.post [v13, v14] [] [] [] → Q [] []))) ∧
((v17 ≠ (2 : Int)) → ((v17 = (3 : Int)) → (Go.Sx.L2.aA1_0).rel.pre [v13, v14] [] ∧
((Go.Sx.L2.aA1_0).rel.post [v13, v14] [] [] [] → (Go.Sx.L2.aA1_0).rel.pre [v13, v14] [] ∧
((Go.Sx.L2.aA1_0).rel.post [v13, v14] [] [] [] → Q [] []))) ∧
((v17 ≠ (3 : Int)) → ((v17 = (4 : Int)) → (Go.Sx.L2.aA1_0).rel.pre [v13, v14] [] ∧
((Go.Sx.L2.aA1_0).rel.post [v13, v14] [] [] [] → (Go.Sx.L2.aA1_0).rel.pre [v13, v14] [] ∧
((Go.Sx.L2.aA1_0).rel.post [v13, v14] [] [] [] → Q [] []))) ∧
((v17 ≠ (4 : Int)) → ((v17 = (5 : Int)) → (Go.Sx.L2.aA1_0).rel.pre [v13, v14] [] ∧
((Go.Sx.L2.aA1_0).rel.post [v13, v14] [] [] [] → (Go.Sx.L2.aA1_0).rel.pre [v13, v14] [] ∧
((Go.Sx.L2.aA1_0).rel.post [v13, v14] [] [] [] → Q [] []))) ∧
((v17 ≠ (5 : Int)) → ((v17 = (6 : Int)) → (Go.Sx.L2.aA1_0).rel.pre [v13, v14] [] ∧
((Go.Sx.L2.aA1_0).rel.post [v13, v14] [] [] [] → (Go.Sx.L2.aA1_0).rel.pre [v13, v14] [] ∧
((Go.Sx.L2.aA1_0).rel.post [v13, v14] [] [] [] → Q [] []))) ∧
((v17 ≠ (6 : Int)) → (Go.Sx.L2.aA1_0).rel.pre [v13, v14] [] ∧
((Go.Sx.L2.aA1_0).rel.post [v13, v14] [] [] [] → (Go.Sx.L2.aA1_0).rel.pre [v13, v14] [] ∧
((Go.Sx.L2.aA1_0).rel.post [v13, v14] [] [] [] → Q [] []))))))))))))))))))))))))))))) := by kernel_rfl
set_option maxHeartbeats 4000000 in
theorem plainAlloc_holds0 : (lawSpec L2.f_messuagelaw11_PlainAlloc [.one (.i .i64), .one (.i .i64)]).Holds Tryz.prog L2.ro := FSpec.holdsV (cfg := L2.alCfg Tryz.prog) [] 20 200 (withC_ok (withA_ok (withA_ok cfgB_ok (fun s hs => by
  simp only [List.mem_cons, List.not_mem_nil, or_false] at hs
  rcases hs with rfl | rfl | rfl | rfl | rfl | rfl | rfl | rfl <;> rfl) ⟨aN1_holds, aN2_holds, aN3_holds, aN4_holds, aN5_holds, aN6_holds, aN7_holds, aN8_holds, trivial⟩) (fun s hs => by
  simp only [List.mem_cons, List.not_mem_nil, or_false] at hs
  rcases hs with rfl | rfl | rfl | rfl | rfl | rfl | rfl | rfl | rfl | rfl | rfl | rfl | rfl | rfl | rfl | rfl | rfl | rfl | rfl | rfl | rfl | rfl | rfl | rfl | rfl | rfl | rfl | rfl | rfl | rfl | rfl | rfl | rfl | rfl | rfl | rfl | rfl | rfl | rfl | rfl | rfl | rfl | rfl | rfl | rfl | rfl | rfl | rfl | rfl | rfl | rfl | rfl | rfl | rfl | rfl | rfl | rfl | rfl | rfl | rfl | rfl | rfl | rfl | rfl | rfl | rfl | rfl | rfl | rfl | rfl | rfl | rfl | rfl | rfl | rfl | rfl | rfl | rfl | rfl | rfl | rfl | rfl | rfl | rfl | rfl | rfl | rfl | rfl | rfl | rfl | rfl | rfl | rfl | rfl | rfl | rfl | rfl | rfl | rfl | rfl | rfl | rfl | rfl | rfl | rfl | rfl | rfl | rfl | rfl | rfl | rfl | rfl | rfl | rfl | rfl | rfl | rfl | rfl | rfl | rfl | rfl | rfl | rfl | rfl <;> rfl) ⟨aA1_0_holds, aF1_holds, aB1_holds, aD1_0_holds, aR1_0_holds, aA2_0_holds, aA2_1_holds, aF2_holds, aB2_holds, aD2_0_holds, aR2_0_holds, aD2_1_holds, aR2_1_holds, aA3_0_holds, aA3_1_holds, aA3_2_holds, aF3_holds, aB3_holds, aD3_0_holds, aR3_0_holds, aD3_1_holds, aR3_1_holds, aD3_2_holds, aR3_2_holds, aA4_0_holds, aA4_1_holds, aA4_2_holds, aA4_3_holds, aF4_holds, aB4_holds, aD4_0_holds, aR4_0_holds, aD4_1_holds, aR4_1_holds, aD4_2_holds, aR4_2_holds, aD4_3_holds, aR4_3_holds, aA5_0_holds, aA5_1_holds, aA5_2_holds, aA5_3_holds, aA5_4_holds, aF5_holds, aB5_holds, aD5_0_holds, aR5_0_holds, aD5_1_holds, aR5_1_holds, aD5_2_holds, aR5_2_holds, aD5_3_holds, aR5_3_holds, aD5_4_holds, aR5_4_holds, aA6_0_holds, aA6_1_holds, aA6_2_holds, aA6_3_holds, aA6_4_holds, aA6_5_holds, aF6_holds, aB6_holds, aD6_0_holds, aR6_0_holds, aD6_1_holds, aR6_1_holds, aD6_2_holds, aR6_2_holds, aD6_3_holds, aR6_3_holds, aD6_4_holds, aR6_4_holds, aD6_5_holds, aR6_5_holds, aA7_0_holds, aA7_1_holds, aA7_2_holds, aA7_3_holds, aA7_4_holds, aA7_5_holds, aA7_6_holds, aF7_holds, aB7_holds, aD7_0_holds, aR7_0_holds, aD7_1_holds, aR7_1_holds, aD7_2_holds, aR7_2_holds, aD7_3_holds, aR7_3_holds, aD7_4_holds, aR7_4_holds, aD7_5_holds, aR7_5_holds, aD7_6_holds, aR7_6_holds, aA8_0_holds, aA8_1_holds, aA8_2_holds, aA8_3_holds, aA8_4_holds, aA8_5_holds, aA8_6_holds, aA8_7_holds, aF8_holds, aB8_holds, aD8_0_holds, aR8_0_holds, aD8_1_holds, aR8_1_holds, aD8_2_holds, aR8_2_holds, aD8_3_holds, aR8_3_holds, aD8_4_holds, aR8_4_holds, aD8_5_holds, aR8_5_holds, aD8_6_holds, aR8_6_holds, aD8_7_holds, aR8_7_holds, trivial⟩)) mixed (t := PlainAlloc_t) PlainAlloc_tree (by
  show ∀ (v0 v1 : Int) , _
  intro v0 v1  hp hr hl
  replace hr : ((-9223372036854775808 : Int) ≤ v0 ∧ v0 ≤ (9223372036854775807 : Int)) ∧ ((-9223372036854775808 : Int) ≤ v1 ∧ v1 ≤ (9223372036854775807 : Int)) ∧ True := hr
  replace hp : True := hp
  show PlainAlloc_t.dn ⟨_, []⟩ 2 [v1, v0] 0 []
  rw [PlainAlloc_vc]
  show ((L2.yes L2.f_messuagelaw11_begun).rel.pre [] [] ∧ _)
  refine ⟨trivial, fun _ => ?_⟩
  repeat' first | refine And.intro ?_ ?_ | intro _
  all_goals trivial)
theorem plainAlloc_holds : ((lawSpec L2.f_messuagelaw11_PlainAlloc [.one (.i .i64), .one (.i .i64)]).withPre fun _ => True).Holds Tryz.prog L2.ro := holds_withPre _ plainAlloc_holds0

theorem plainAlloc_calls {H : Type} {enc : TypeId × Value → H} {W : World} {base : Nat} {args : Array Value} {ds : List (DataW H)} {p : List MemPlace} (hval : ∀ (j : Nat) t v, Tryz.f7.params[j]? = some t → args[j]? = some v → Value.okWide Tryz.prog W .any base t v)
    (hA : DataW.TrodAll enc Tryz.prog W 0 (fun _ => true) true Tryz.f7.params.toList args.toList ds p) (hL : laidMetH Tryz.prog laid1 W) : Calls Tryz.prog 7 args W fun e W' => e = .returned (.bool true) ∧ Go.Sx.Frame ⟨W, [], L2.ro⟩ W' := by
  rw [Tryz.params7] at hA hval
  obtain ⟨v0, v1, d0, d1, p0, p1, rfl, rfl, rfl, h0, h1⟩ := trodAll_two hA
  obtain ⟨n0, q0⟩ := par_int (base := 0) und3 (hval 0 3 v0 rfl rfl) h0
  obtain ⟨n1, q1⟩ := par_int (base := 0) und3 (hval 1 3 v1 rfl rfl) h1
  exact law_calls (plainAlloc_holds) Tryz.func7 (show Tryz.f7.body = some _ from rfl) (by kernel_rfl) (.cons q0 (.cons q1 .none)) trivial (ro_of_laid hL)
set_option maxHeartbeats 1000000 in
theorem plainAlloc_lifted (os : Os) (started : os.Started) (H : Type) (enc : TypeId × Value → H) :
    ReturnsInHanded {} Tryz.checked os 7 .any (fun w args => (Rows.plainAllocSpec.pre enc Tryz.prog Tryz.f7 [] false w args ∧ laidMetH Tryz.prog laid1 w) ∧ sizedMet enc Tryz.prog Tryz.f7 (OpenSpec.ofChange Rows.plainAllocSpec) false w args)
      (Rows.plainAllocSpec.post enc Tryz.prog Tryz.f7 false true false false) := by
  refine returnsInHanded_of_change_and (C := Tryz.checked) (X := fun w _ => laidMetH Tryz.prog laid1 w) (fun _ _ _ hh h => h.of_heap hh) Tryz.own started (by kernel_rfl) Tryz.func7
    (ChangeSpec.witness_at (enc := enc) (C := Tryz.checked) (os := os) (X := fun w _ => laidMetH Tryz.prog laid1 w) false (laidWorld os) #[.int .i64 0, .int .i64 0] 8 rfl (by kernel_rfl) (by kernel_rfl) (by kernel_rfl) (by kernel_rfl) (by kernel_rfl) (laidWorld_met os _)) ?_
  intro W base args ds gs before hval0 hW _ _ hL _
  have hval : ∀ (j : Nat) t v, Tryz.f7.params[j]? = some t → args[j]? = some v → Value.okWide Tryz.prog W .any base t v := hval0
  have hW' := hW
  obtain ⟨p, q, hA0, hV0, rfl, hfz, hnd⟩ := hW
  have hcall := plainAlloc_calls (enc := enc) hval hA0 hL
  refine Calls.mono hcall ?_
  rintro e W' ⟨rfl, hfr⟩
  exact ⟨_, rfl, post_kept Tryz.laidOut (by kernel_rfl) rfl rfl und4 hW' hfr (by
    have hg : gs = [] := by cases gs with | nil => rfl | cons g r => exact absurd hV0 (by intro h; cases h)
    subst hg
    have hA1 : DataW.TrodAll enc Tryz.prog W 0 (fun _ => true) true Tryz.f7.params.toList args.toList ds p := hA0
    rw [Tryz.params7] at hA1
    obtain ⟨v0, v1, d0, d1, p0, p1, ea, rfl, ec, h0, h1⟩ := trodAll_two hA1
    rfl)⟩

theorem plainAlloc_row : Rows.PlainAllocSaid :=
  OpenClaim.holds_of_wide 7 Tryz.f7 rfl rfl rfl rfl rfl rfl rfl ⟨rfl, rfl, rfl, rfl, rfl⟩ rfl rfl rfl rfl rfl (by kernel_rfl) Tryz.func7 (restFacts.2 _ _ _ _ _ Tryz.mayEnter Tryz.liftsFinal Tryz.make (by kernel_rfl))
    (of_decide_eq_true (by kernel_rfl)) (by unfold Func.isWrapper; rw [if_neg (of_decide_eq_false (by kernel_rfl))]; exact ⟨rfl, rfl⟩)
    (fun os started H enc _ => plainAlloc_lifted os started H enc)
theorem plainAlloc_card : Rows.PlainAllocCardSaid :=
  Claim7.holds_tied_plain_at .later [] [.handle] true (true, "851eb3c6cb4eec7be8b282394a5029edcc67dd85afd058a13b27a4b6edc94801") true
    plainAlloc_row (fun _ h => by cases h) (by kernel_rfl) (fun _ h => by cases h) plainAlloc_row_tie rfl ⟨rfl, rfl⟩ Tryz.mainIs rfl
    (fun f fn hf hfn => by
      obtain rfl : f = 7 := Option.some.inj ((show Tryz.prog.funcNamed "messuage/messuagelaw11.PlainAlloc" = some 7 by kernel_rfl).symm.trans hf) |>.symm
      obtain rfl : fn = Tryz.f7 := (Option.some.inj (Tryz.func7.symm.trans hfn)).symm
      exact ⟨by kernel_rfl, fun j t ht => by
        rw [Tryz.params7] at ht
        rcases j with _ | _ | j
        · obtain rfl : 3 = t := by simpa using ht
          exact (show Tryz.prog.wantsStandIn 3 = false by kernel_rfl)
        · obtain rfl : 3 = t := by simpa using ht
          exact (show Tryz.prog.wantsStandIn 3 = false by kernel_rfl)
        · simp at ht⟩)
    (by kernel_rfl)
#print axioms plainAlloc_card
end Go.Proofs.YtbpilohnhhbbpaaGreatDoor
