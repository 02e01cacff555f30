/- The statement messuagelaw11.PlainSleep of the seat: for every input the law returns true; the condition: errors.errorType is as the program lays it. -/
import Derived.Test.YtbpilohnhhbbpaaGreatDoorL2B
import Derived.Test.YtbpilohnhhbbpaaGreatDoorSxM7
import Derived.Test.YtbpilohnhhbbpaaGreatDoorL2Zn
import Derived.Test.YtbpilohnhhbbpaaGreatDoorL2Ys
import Derived.Test.YtbpilohnhhbbpaaGreatDoorL2Ye
import Derived.Test.YtbpilohnhhbbpaaGreatDoorPuM
set_option linter.unusedVariables false
set_option linter.constructorNameAsVariable false
set_option linter.unusedSimpArgs false
open Go Go.Sx
namespace Go.Proofs.YtbpilohnhhbbpaaGreatDoor
open Go.ChangeShapes Go.WideShapes Go.RowKit
set_option maxRecDepth 100000

noncomputable def PlainSleep_t : Tree := .call 19 (Go.Sx.L2.yes Go.Sx.L2.f_messuagelaw11_begun).rel [] [] 0 0 (.letI (.rem (.v 0) (.c 4)) (.letI (.add (.v 4) (.c 4)) (.letI (.rem (.v 5) (.c 4)) (.letI (.add (.c 1) (.v 6)) (.letI (.rem (.v 3) (.c 16)) (.letI (.add (.v 8) (.c 16)) (.letI (.rem (.v 9) (.c 16)) (.call 77 (Go.Sx.L2.pNew1).rel [] [] 2 0 (.call 10 (Go.Sx.L2.qS1).rel [.v 11, .v 12] [] 0 0 (.call 10 (Go.Sx.L2.qS1).rel [.v 11, .v 12] [] 0 0 (.letL (.lit [.c (0), .c (0), .c (0), .c (0), .c (0), .c (0), .c (0), .c (0), .c (0), .c (0), .c (0), .c (0), .c (0), .c (0), .c (0), .c (0)]) (.call 10 (Go.Sx.L2.qS3).rel [.v 11, .v 12, .v 10, .v 1] [0] 0 1 (.call 10 (Go.Sx.L2.qS4).rel [.v 11, .v 12, .v 10, .v 7, .v 2] [1] 2 0 (.letI (.cmp .eql (.v 7) (.c 1)) (.ite (.v 15) (.letI (.cmp .eql (.v 1) (.v 2)) (.letI (.not (.v 14)) (.letI (.not (.v 16)) (.letI (.cmp .neq (.v 17) (.v 18)) (.ite (.v 19) (.fail 180) (.ite (.v 16) (.letI (.cmp .eql (.v 1) (.v 13)) (.letI (.pick (.v 20) (.c 1) (.c 0)) (.letI (.not (.v 21)) (.ite (.v 22) (.fail 180) (.call 21 (Go.Sx.L2.qSE).rel [.v 11, .v 12, .v 10, .c (1), .v 2] [1] 0 0 (.call 10 (Go.Sx.L2.qS5).rel [.v 11, .v 12] [1] 0 0 (.call 10 (Go.Sx.L2.qS6).rel [.v 11, .v 12, .v 10, .c (1), .v 2, .c (5)] [1] 0 0 (.call 10 (Go.Sx.L2.qS6).rel [.v 11, .v 12, .v 10, .c (1), .v 2, .c (6)] [1] 0 0 (.done [] []))))))))) (.letI (.cmp .eql (.v 13) (.c 0)) (.letI (.pick (.v 20) (.c 1) (.c 0)) (.letI (.not (.v 21)) (.ite (.v 22) (.fail 180) (.call 21 (Go.Sx.L2.qSE).rel [.v 11, .v 12, .v 10, .c (1), .v 2] [1] 0 0 (.call 10 (Go.Sx.L2.qS5).rel [.v 11, .v 12] [1] 0 0 (.call 10 (Go.Sx.L2.qS6).rel [.v 11, .v 12, .v 10, .c (1), .v 2, .c (5)] [1] 0 0 (.call 10 (Go.Sx.L2.qS6).rel [.v 11, .v 12, .v 10, .c (1), .v 2, .c (6)] [1] 0 0 (.done [] []))))))))))))))) (.letI (.cmp .eql (.v 7) (.c 2)) (.ite (.v 16) (.letI (.cmp .neq (.v 1) (.v 2)) (.letI (.not (.v 14)) (.letI (.not (.v 17)) (.letI (.cmp .neq (.v 18) (.v 19)) (.ite (.v 20) (.fail 180) (.ite (.v 17) (.letI (.cmp .eql (.v 1) (.v 13)) (.letI (.pick (.v 21) (.c 1) (.c 0)) (.letI (.not (.v 22)) (.ite (.v 23) (.fail 180) (.call 21 (Go.Sx.L2.qSE).rel [.v 11, .v 12, .v 10, .c (2), .v 2] [1] 0 0 (.call 10 (Go.Sx.L2.qS5).rel [.v 11, .v 12] [1] 0 0 (.call 10 (Go.Sx.L2.qS6).rel [.v 11, .v 12, .v 10, .c (2), .v 2, .c (5)] [1] 0 0 (.call 10 (Go.Sx.L2.qS6).rel [.v 11, .v 12, .v 10, .c (2), .v 2, .c (6)] [1] 0 0 (.done [] []))))))))) (.letI (.cmp .eql (.v 13) (.c 0)) (.letI (.pick (.v 21) (.c 1) (.c 0)) (.letI (.not (.v 22)) (.ite (.v 23) (.fail 180) (.call 21 (Go.Sx.L2.qSE).rel [.v 11, .v 12, .v 10, .c (2), .v 2] [1] 0 0 (.call 10 (Go.Sx.L2.qS5).rel [.v 11, .v 12] [1] 0 0 (.call 10 (Go.Sx.L2.qS6).rel [.v 11, .v 12, .v 10, .c (2), .v 2, .c (5)] [1] 0 0 (.call 10 (Go.Sx.L2.qS6).rel [.v 11, .v 12, .v 10, .c (2), .v 2, .c (6)] [1] 0 0 (.done [] []))))))))))))))) (.letI (.cmp .eql (.v 7) (.c 3)) (.ite (.v 17) (.letI (.cmp .lss (.v 1) (.v 2)) (.letI (.not (.v 14)) (.letI (.not (.v 18)) (.letI (.cmp .neq (.v 19) (.v 20)) (.ite (.v 21) (.fail 180) (.ite (.v 18) (.letI (.cmp .eql (.v 1) (.v 13)) (.letI (.pick (.v 22) (.c 1) (.c 0)) (.letI (.not (.v 23)) (.ite (.v 24) (.fail 180) (.call 21 (Go.Sx.L2.qSE).rel [.v 11, .v 12, .v 10, .c (3), .v 2] [1] 0 0 (.call 10 (Go.Sx.L2.qS5).rel [.v 11, .v 12] [1] 0 0 (.call 10 (Go.Sx.L2.qS6).rel [.v 11, .v 12, .v 10, .c (3), .v 2, .c (5)] [1] 0 0 (.call 10 (Go.Sx.L2.qS6).rel [.v 11, .v 12, .v 10, .c (3), .v 2, .c (6)] [1] 0 0 (.done [] []))))))))) (.letI (.cmp .eql (.v 13) (.c 0)) (.letI (.pick (.v 22) (.c 1) (.c 0)) (.letI (.not (.v 23)) (.ite (.v 24) (.fail 180) (.call 21 (Go.Sx.L2.qSE).rel [.v 11, .v 12, .v 10, .c (3), .v 2] [1] 0 0 (.call 10 (Go.Sx.L2.qS5).rel [.v 11, .v 12] [1] 0 0 (.call 10 (Go.Sx.L2.qS6).rel [.v 11, .v 12, .v 10, .c (3), .v 2, .c (5)] [1] 0 0 (.call 10 (Go.Sx.L2.qS6).rel [.v 11, .v 12, .v 10, .c (3), .v 2, .c (6)] [1] 0 0 (.done [] []))))))))))))))) (.letI (.cmp .lss (.v 2) (.v 1)) (.letI (.not (.v 14)) (.letI (.not (.v 18)) (.letI (.cmp .neq (.v 19) (.v 20)) (.ite (.v 21) (.fail 180) (.ite (.v 18) (.letI (.cmp .eql (.v 1) (.v 13)) (.letI (.pick (.v 22) (.c 1) (.c 0)) (.letI (.not (.v 23)) (.ite (.v 24) (.fail 180) (.call 21 (Go.Sx.L2.qSE).rel [.v 11, .v 12, .v 10, .c (4), .v 2] [1] 0 0 (.call 10 (Go.Sx.L2.qS5).rel [.v 11, .v 12] [1] 0 0 (.call 10 (Go.Sx.L2.qS6).rel [.v 11, .v 12, .v 10, .c (4), .v 2, .c (5)] [1] 0 0 (.call 10 (Go.Sx.L2.qS6).rel [.v 11, .v 12, .v 10, .c (4), .v 2, .c (6)] [1] 0 0 (.done [] []))))))))) (.letI (.cmp .eql (.v 13) (.c 0)) (.letI (.pick (.v 22) (.c 1) (.c 0)) (.letI (.not (.v 23)) (.ite (.v 24) (.fail 180) (.call 21 (Go.Sx.L2.qSE).rel [.v 11, .v 12, .v 10, .c (4), .v 2] [1] 0 0 (.call 10 (Go.Sx.L2.qS5).rel [.v 11, .v 12] [1] 0 0 (.call 10 (Go.Sx.L2.qS6).rel [.v 11, .v 12, .v 10, .c (4), .v 2, .c (5)] [1] 0 0 (.call 10 (Go.Sx.L2.qS6).rel [.v 11, .v 12, .v 10, .c (4), .v 2, .c (6)] [1] 0 0 (.done [] []))))))))))))))))))))))))))))))))))
theorem PlainSleep_tree : (lawSpec L2.f_messuagelaw11_PlainSleep [.one (.i .i64), .one (.i .u64), .one (.i .u64), .one (.i .i64)]).exe Tryz.prog (withC (withA (withA (withS (L2.cfgB Tryz.prog) [L2.pNew1]) L2.f_plain_Kernel_Do [L2.qS1, L2.qS2, L2.qS3, L2.qS4, L2.qS5, L2.qS6, L2.qS7]) L2.f_plain_Kernel_Err [L2.qSE])) [] 20 200 = PlainSleep_t := by kernel_rfl
theorem PlainSleep_vc (Q : List Int → List (List Int) → Prop) (v0 v1 v2 v3 : Int) : PlainSleep_t.dn ⟨Q, []⟩ 4 [v3, v2, v1, v0] 0 [] = ((Go.Sx.L2.yes Go.Sx.L2.f_messuagelaw11_begun).rel.pre [] [] ∧
((Go.Sx.L2.yes Go.Sx.L2.f_messuagelaw11_begun).rel.post [] [] [] [] → ∀ v4 : Int, v4 = (v0).tmod (4 : Int) → ∀ v5 : Int, v5 = v4 + (4 : Int) → ∀ v6 : Int, v6 = (v5).tmod (4 : Int) → ∀ v7 : Int, v7 = (1 : Int) + v6 → ∀ v8 : Int, v8 = (v3).tmod (16 : Int) → ∀ v9 : Int, v9 = v8 + (16 : Int) → ∀ v10 : Int, v10 = (v9).tmod (16 : Int) → (Go.Sx.L2.pNew1).rel.pre [] [] ∧
(∀ v11 : Int, ∀ v12 : Int, (Go.Sx.L2.pNew1).rel.post [] [] [v11, v12] [] → (Go.Sx.L2.qS1).rel.pre [v11, v12] [] ∧
((Go.Sx.L2.qS1).rel.post [v11, v12] [] [] [] → (Go.Sx.L2.qS1).rel.pre [v11, v12] [] ∧
((Go.Sx.L2.qS1).rel.post [v11, v12] [] [] [] → ∀ L0 : List Int, L0 = [(0 : Int), (0 : Int), (0 : Int), (0 : Int), (0 : Int), (0 : Int), (0 : Int), (0 : Int), (0 : Int), (0 : Int), (0 : Int), (0 : Int), (0 : Int), (0 : Int), (0 : Int), (0 : Int)] → (Go.Sx.L2.qS3).rel.pre [v11, v12, v10, v1] [L0] ∧
(∀ L1 : List Int, (Go.Sx.L2.qS3).rel.post [v11, v12, v10, v1] [L0] [] [L1] → (Go.Sx.L2.qS4).rel.pre [v11, v12, v10, v7, v2] [L1] ∧
(∀ v13 : Int, ∀ v14 : Int, (Go.Sx.L2.qS4).rel.post [v11, v12, v10, v7, v2] [L1] [v13, v14] [] → ((v7 = (1 : Int)) → ∀ v16 : Int, v16 = b2i (v1 == v2) → ∀ v17 : Int, v17 = b2i (v14 == 0) → ∀ v18 : Int, v18 = b2i (v16 == 0) → ((v17 ≠ v18) → False) ∧
((v17 = v18) → (v16 ≠ 0 → ∀ v20 : Int, v20 = b2i (v1 == v13) → ∀ v21 : Int, v21 = (if v20 = 0 then (0 : Int) else (1 : Int)) → ∀ v22 : Int, v22 = b2i (v21 == 0) → (v22 ≠ 0 → False) ∧
(v22 = 0 → (Go.Sx.L2.qSE).rel.pre [v11, v12, v10, (1 : Int), v2] [L1] ∧
((Go.Sx.L2.qSE).rel.post [v11, v12, v10, (1 : Int), v2] [L1] [] [] → (Go.Sx.L2.qS5).rel.pre [v11, v12] [L1] ∧
((Go.Sx.L2.qS5).rel.post [v11, v12] [L1] [] [] → (Go.Sx.L2.qS6).rel.pre [v11, v12, v10, (1 : Int), v2, (5 : Int)] [L1] ∧
((Go.Sx.L2.qS6).rel.post [v11, v12, v10, (1 : Int), v2, (5 : Int)] [L1] [] [] → (Go.Sx.L2.qS6).rel.pre [v11, v12, v10, (1 : Int), v2, (6 : Int)] [L1] ∧
((Go.Sx.L2.qS6).rel.post [v11, v12, v10, (1 : Int), v2, (6 : Int)] [L1] [] [] → Q [] [])))))) ∧
(v16 = 0 → ∀ v20 : Int, v20 = b2i (v13 == (0 : Int)) → ∀ v21 : Int, v21 = (if v20 = 0 then (0 : Int) else (1 : Int)) → ∀ v22 : Int, v22 = b2i (v21 == 0) → (v22 ≠ 0 → False) ∧
(v22 = 0 → (Go.Sx.L2.qSE).rel.pre [v11, v12, v10, (1 : Int), v2] [L1] ∧
((Go.Sx.L2.qSE).rel.post [v11, v12, v10, (1 : Int), v2] [L1] [] [] → (Go.Sx.L2.qS5).rel.pre [v11, v12] [L1] ∧
((Go.Sx.L2.qS5).rel.post [v11, v12] [L1] [] [] → (Go.Sx.L2.qS6).rel.pre [v11, v12, v10, (1 : Int), v2, (5 : Int)] [L1] ∧
((Go.Sx.L2.qS6).rel.post [v11, v12, v10, (1 : Int), v2, (5 : Int)] [L1] [] [] → (Go.Sx.L2.qS6).rel.pre [v11, v12, v10, (1 : Int), v2, (6 : Int)] [L1] ∧
((Go.Sx.L2.qS6).rel.post [v11, v12, v10, (1 : Int), v2, (6 : Int)] [L1] [] [] → Q [] [])))))))) ∧
((v7 ≠ (1 : Int)) → ((v7 = (2 : Int)) → ∀ v17 : Int, v17 = b2i (v1 != v2) → ∀ v18 : Int, v18 = b2i (v14 == 0) → ∀ v19 : Int, v19 = b2i (v17 == 0) → ((v18 ≠ v19) → False) ∧
((v18 = v19) → (v17 ≠ 0 → ∀ v21 : Int, v21 = b2i (v1 == v13) → ∀ v22 : Int, v22 = (if v21 = 0 then (0 : Int) else (1 : Int)) → ∀ v23 : Int, v23 = b2i (v22 == 0) → (v23 ≠ 0 → False) ∧
(v23 = 0 → (Go.Sx.L2.qSE).rel.pre [v11, v12, v10, (2 : Int), v2] [L1] ∧
((Go.Sx.L2.qSE).rel.post [v11, v12, v10, (2 : Int), v2] [L1] [] [] → (Go.Sx.L2.qS5).rel.pre [v11, v12] [L1] ∧
((Go.Sx.L2.qS5).rel.post [v11, v12] [L1] [] [] → (Go.Sx.L2.qS6).rel.pre [v11, v12, v10, (2 : Int), v2, (5 : Int)] [L1] ∧
((Go.Sx.L2.qS6).rel.post [v11, v12, v10, (2 : Int), v2, (5 : Int)] [L1] [] [] → (Go.Sx.L2.qS6).rel.pre [v11, v12, v10, (2 : Int), v2, (6 : Int)] [L1] ∧
((Go.Sx.L2.qS6).rel.post [v11, v12, v10, (2 : Int), v2, (6 : Int)] [L1] [] [] → Q [] [])))))) ∧
(v17 = 0 → ∀ v21 : Int, v21 = b2i (v13 == (0 : Int)) → ∀ v22 : Int, v22 = (if v21 = 0 then (0 : Int) else (1 : Int)) → ∀ v23 : Int, v23 = b2i (v22 == 0) → (v23 ≠ 0 → False) ∧
(v23 = 0 → (Go.Sx.L2.qSE).rel.pre [v11, v12, v10, (2 : Int), v2] [L1] ∧
((Go.Sx.L2.qSE).rel.post [v11, v12, v10, (2 : Int), v2] [L1] [] [] → (Go.Sx.L2.qS5).rel.pre [v11, v12] [L1] ∧
((Go.Sx.L2.qS5).rel.post [v11, v12] [L1] [] [] → (Go.Sx.L2.qS6).rel.pre [v11, v12, v10, (2 : Int), v2, (5 : Int)] [L1] ∧
((Go.Sx.L2.qS6).rel.post [v11, v12, v10, (2 : Int), v2, (5 : Int)] [L1] [] [] → (Go.Sx.L2.qS6).rel.pre [v11, v12, v10, (2 : Int), v2, (6 : Int)] [L1] ∧
((Go.Sx.L2.qS6).rel.post [v11, v12, v10, (2 : Int), v2, (6 : Int)] [L1] [] [] → Q [] [])))))))) ∧
((v7 ≠ (2 : Int)) → ((v7 = (3 : Int)) → ∀ v18 : Int, v18 = b2i (decide (v1 < v2)) → ∀ v19 : Int, v19 = b2i (v14 == 0) → ∀ v20 : Int, v20 = b2i (v18 == 0) → ((v19 ≠ v20) → False) ∧
((v19 = v20) → (v18 ≠ 0 → ∀ v22 : Int, v22 = b2i (v1 == v13) → ∀ v23 : Int, v23 = (if v22 = 0 then (0 : Int) else (1 : Int)) → ∀ v24 : Int, v24 = b2i (v23 == 0) → (v24 ≠ 0 → False) ∧
(v24 = 0 → (Go.Sx.L2.qSE).rel.pre [v11, v12, v10, (3 : Int), v2] [L1] ∧
((Go.Sx.L2.qSE).rel.post [v11, v12, v10, (3 : Int), v2] [L1] [] [] → (Go.Sx.L2.qS5).rel.pre [v11, v12] [L1] ∧
((Go.Sx.L2.qS5).rel.post [v11, v12] [L1] [] [] → (Go.Sx.L2.qS6).rel.pre [v11, v12, v10, (3 : Int), v2, (5 : Int)] [L1] ∧
((Go.Sx.L2.qS6).rel.post [v11, v12, v10, (3 : Int), v2, (5 : Int)] [L1] [] [] → (Go.Sx.L2.qS6).rel.pre [v11, v12, v10, (3 : Int), v2, (6 : Int)] [L1] ∧
((Go.Sx.L2.qS6).rel.post [v11, v12, v10, (3 : Int), v2, (6 : Int)] [L1] [] [] → Q [] [])))))) ∧
(v18 = 0 → ∀ v22 : Int, v22 = b2i (v13 == (0 : Int)) → ∀ v23 : Int, v23 = (if v22 = 0 then (0 : Int) else (1 : Int)) → ∀ v24 : Int, v24 = b2i (v23 == 0) → (v24 ≠ 0 → False) ∧
(v24 = 0 → (Go.Sx.L2.qSE).rel.pre [v11, v12, v10, (3 : Int), v2] [L1] ∧
((Go.Sx.L2.qSE).rel.post [v11, v12, v10, (3 : Int), v2] [L1] [] [] → (Go.Sx.L2.qS5).rel.pre [v11, v12] [L1] ∧
((Go.Sx.L2.qS5).rel.post [v11, v12] [L1] [] [] → (Go.Sx.L2.qS6).rel.pre [v11, v12, v10, (3 : Int), v2, (5 : Int)] [L1] ∧
((Go.Sx.L2.qS6).rel.post [v11, v12, v10, (3 : Int), v2, (5 : Int)] [L1] [] [] → (Go.Sx.L2.qS6).rel.pre [v11, v12, v10, (3 : Int), v2, (6 : Int)] [L1] ∧
((Go.Sx.L2.qS6).rel.post [v11, v12, v10, (3 : Int), v2, (6 : Int)] [L1] [] [] → Q [] [])))))))) ∧
((v7 ≠ (3 : Int)) → ∀ v18 : Int, v18 = b2i (decide (v2 < v1)) → ∀ v19 : Int, v19 = b2i (v14 == 0) → ∀ v20 : Int, v20 = b2i (v18 == 0) → ((v19 ≠ v20) → False) ∧
((v19 = v20) → (v18 ≠ 0 → ∀ v22 : Int, v22 = b2i (v1 == v13) → ∀ v23 : Int, v23 = (if v22 = 0 then (0 : Int) else (1 : Int)) → ∀ v24 : Int, v24 = b2i (v23 == 0) → (v24 ≠ 0 → False) ∧
(v24 = 0 → (Go.Sx.L2.qSE).rel.pre [v11, v12, v10, (4 : Int), v2] [L1] ∧
((Go.Sx.L2.qSE).rel.post [v11, v12, v10, (4 : Int), v2] [L1] [] [] → (Go.Sx.L2.qS5).rel.pre [v11, v12] [L1] ∧
((Go.Sx.L2.qS5).rel.post [v11, v12] [L1] [] [] → (Go.Sx.L2.qS6).rel.pre [v11, v12, v10, (4 : Int), v2, (5 : Int)] [L1] ∧
((Go.Sx.L2.qS6).rel.post [v11, v12, v10, (4 : Int), v2, (5 : Int)] [L1] [] [] → (Go.Sx.L2.qS6).rel.pre [v11, v12, v10, (4 : Int), v2, (6 : Int)] [L1] ∧
((Go.Sx.L2.qS6).rel.post [v11, v12, v10, (4 : Int), v2, (6 : Int)] [L1] [] [] → Q [] [])))))) ∧
(v18 = 0 → ∀ v22 : Int, v22 = b2i (v13 == (0 : Int)) → ∀ v23 : Int, v23 = (if v22 = 0 then (0 : Int) else (1 : Int)) → ∀ v24 : Int, v24 = b2i (v23 == 0) → (v24 ≠ 0 → False) ∧
(v24 = 0 → (Go.Sx.L2.qSE).rel.pre [v11, v12, v10, (4 : Int), v2] [L1] ∧
((Go.Sx.L2.qSE).rel.post [v11, v12, v10, (4 : Int), v2] [L1] [] [] → (Go.Sx.L2.qS5).rel.pre [v11, v12] [L1] ∧
((Go.Sx.L2.qS5).rel.post [v11, v12] [L1] [] [] → (Go.Sx.L2.qS6).rel.pre [v11, v12, v10, (4 : Int), v2, (5 : Int)] [L1] ∧
((Go.Sx.L2.qS6).rel.post [v11, v12, v10, (4 : Int), v2, (5 : Int)] [L1] [] [] → (Go.Sx.L2.qS6).rel.pre [v11, v12, v10, (4 : Int), v2, (6 : Int)] [L1] ∧
((Go.Sx.L2.qS6).rel.post [v11, v12, v10, (4 : Int), v2, (6 : Int)] [L1] [] [] → Q [] []))))))))))))))))) := by kernel_rfl
set_option maxHeartbeats 4000000 in
theorem plainSleep_holds0 : (lawSpec L2.f_messuagelaw11_PlainSleep [.one (.i .i64), .one (.i .u64), .one (.i .u64), .one (.i .i64)]).Holds Tryz.prog L2.ro := FSpec.holdsV (cfg := withC (withA (withA (withS (L2.cfgB Tryz.prog) [L2.pNew1]) L2.f_plain_Kernel_Do [L2.qS1, L2.qS2, L2.qS3, L2.qS4, L2.qS5, L2.qS6, L2.qS7]) L2.f_plain_Kernel_Err [L2.qSE])) [] 20 200 (withC_ok (withA_ok (withA_ok (withS_ok cfgB_ok ⟨pNew1_holds, trivial⟩) (fun s hs => by
  simp only [List.mem_cons, List.not_mem_nil, or_false] at hs
  rcases hs with rfl | rfl | rfl | rfl | rfl | rfl | rfl <;> rfl) ⟨qS1_holds, qS2_holds, qS3_holds, qS4_holds, qS5_holds, qS6_holds, qS7_holds, trivial⟩) (fun s hs => by
  simp only [List.mem_cons, List.not_mem_nil, or_false] at hs
  rcases hs with rfl <;> rfl) ⟨qSE_holds, trivial⟩)) mixed (t := PlainSleep_t) PlainSleep_tree (by
  show ∀ (v0 v1 v2 v3 : Int) , _
  intro v0 v1 v2 v3  hp hr hl
  replace hr : ((-9223372036854775808 : Int) ≤ v0 ∧ v0 ≤ (9223372036854775807 : Int)) ∧ ((0 : Int) ≤ v1 ∧ v1 ≤ (18446744073709551615 : Int)) ∧ ((0 : Int) ≤ v2 ∧ v2 ≤ (18446744073709551615 : Int)) ∧ ((-9223372036854775808 : Int) ≤ v3 ∧ v3 ≤ (9223372036854775807 : Int)) ∧ True := hr
  replace hp : True := hp
  show PlainSleep_t.dn ⟨_, []⟩ 4 [v3, v2, v1, v0] 0 []
  rw [PlainSleep_vc]
  show ((L2.yes L2.f_messuagelaw11_begun).rel.pre [] [] ∧ _)
  refine ⟨trivial, fun _ => ?_⟩
  intro v4 e4 v5 e5 v6 e6 v7 e7 v8 e8 v9 e9 v10 e10
  have r4 := tmodR (x := v0) (m := 4) (by omega)
  have r6 := tmodP (x := v5) (m := 4) (by omega) (by omega)
  have r8 := tmodR (x := v3) (m := 16) (by omega)
  have r10 := tmodP (x := v9) (m := 16) (by omega) (by omega)
  rw [← e6] at r6
  rw [← e10] at r10
  have h7 : v7 = 1 ∨ v7 = 2 ∨ v7 = 3 ∨ v7 = 4 := by omega
  have h10 : 0 ≤ v10 ∧ v10 ≤ 15 := by omega
  clear r4 r6 r8 r10 e4 e5 e6 e7 e8 e9 e10 hr hp hl
  refine ⟨trivial, fun v11 v12 _ => ?_⟩
  iterate 2 refine ⟨trivial, fun _ => ?_⟩
  intro L0 hL0
  have n0 : L0.length = 16 := by rw [hL0]; rfl
  refine ⟨n0, fun L1 h1 => ?_⟩
  have q1 : L1 = L0.set v10.toNat v1 := by
    have : _ ∧ [L1] = [L0.set v10.toNat v1] := h1
    exact (List.cons.inj this.2).1
  have n1 : L1.length = 16 := by rw [q1, List.length_set]; exact n0
  have a1 : L1.getD v10.toNat 0 = v1 := by rw [q1]; grind
  refine ⟨n1, fun v13 v14 h2 => ?_⟩
  have h2 : [v13, v14] = [if sleepB v7 (L1.getD v10.toNat 0) v2 then L1.getD v10.toNat 0 else 0, b2i (sleepB v7 (L1.getD v10.toNat 0) v2)] := h2.1
  rw [a1] at h2
  simp only [List.cons.injEq, and_true] at h2
  obtain ⟨p13, p14⟩ := h2
  clear q1 a1 h1 hL0
  rcases h7 with rfl | rfl | rfl | rfl
  all_goals
    simp only [sleepB, if_true, reduceIte, Int.reduceEq] at p13 p14
    repeat' first | refine And.intro ?_ ?_ | intro _
    all_goals first | trivial | exact n1 | grind [b2i])
theorem plainSleep_holds : ((lawSpec L2.f_messuagelaw11_PlainSleep [.one (.i .i64), .one (.i .u64), .one (.i .u64), .one (.i .i64)]).withPre fun _ => True).Holds Tryz.prog L2.ro := holds_withPre _ plainSleep_holds0

theorem plainSleep_calls {H : Type} {enc : TypeId × Value → H} {W : World} {base : Nat} {args : Array Value} {ds : List (DataW H)} {p : List MemPlace} (hval : ∀ (j : Nat) t v, Tryz.f4.params[j]? = some t → args[j]? = some v → Value.okWide Tryz.prog W .any base t v)
    (hA : DataW.TrodAll enc Tryz.prog W 0 (fun _ => true) true Tryz.f4.params.toList args.toList ds p) (hL : laidMetH Tryz.prog laid1 W) : Calls Tryz.prog 4 args W fun e W' => e = .returned (.bool true) ∧ Go.Sx.Frame ⟨W, [], L2.ro⟩ W' := by
  rw [Tryz.params4] at hA hval
  obtain ⟨v0, v1, v2, v3, d0, d1, d2, d3, p0, p1, p2, p3, rfl, rfl, rfl, h0, h1, h2, h3⟩ := trodAll_four hA
  obtain ⟨n0, q0⟩ := par_int (base := 0) und3 (hval 0 3 v0 rfl rfl) h0
  obtain ⟨n1, q1⟩ := par_int (base := 0) und26 (hval 1 26 v1 rfl rfl) h1
  obtain ⟨n2, q2⟩ := par_int (base := 0) und26 (hval 2 26 v2 rfl rfl) h2
  obtain ⟨n3, q3⟩ := par_int (base := 0) und3 (hval 3 3 v3 rfl rfl) h3
  exact law_calls (plainSleep_holds) Tryz.func4 (show Tryz.f4.body = some _ from rfl) (by kernel_rfl) (.cons q0 (.cons q1 (.cons q2 (.cons q3 .none)))) trivial (ro_of_laid hL)
set_option maxHeartbeats 1000000 in
theorem plainSleep_lifted (os : Os) (started : os.Started) (H : Type) (enc : TypeId × Value → H) :
    ReturnsInHanded {} Tryz.checked os 4 .any (fun w args => (Rows.plainSleepSpec.pre enc Tryz.prog Tryz.f4 [] false w args ∧ laidMetH Tryz.prog laid1 w) ∧ sizedMet enc Tryz.prog Tryz.f4 (OpenSpec.ofChange Rows.plainSleepSpec) false w args)
      (Rows.plainSleepSpec.post enc Tryz.prog Tryz.f4 false true false false) := by
  refine returnsInHanded_of_change_and (C := Tryz.checked) (X := fun w _ => laidMetH Tryz.prog laid1 w) (fun _ _ _ hh h => h.of_heap hh) Tryz.own started (by kernel_rfl) Tryz.func4
    (ChangeSpec.witness_at (enc := enc) (C := Tryz.checked) (os := os) (X := fun w _ => laidMetH Tryz.prog laid1 w) false (laidWorld os) #[.int .i64 0, .int .u64 0, .int .u64 0, .int .i64 0] 8 rfl (by kernel_rfl) (by kernel_rfl) (by kernel_rfl) (by kernel_rfl) (by kernel_rfl) (laidWorld_met os _)) ?_
  intro W base args ds gs before hval0 hW _ _ hL _
  have hval : ∀ (j : Nat) t v, Tryz.f4.params[j]? = some t → args[j]? = some v → Value.okWide Tryz.prog W .any base t v := hval0
  have hW' := hW
  obtain ⟨p, q, hA0, hV0, rfl, hfz, hnd⟩ := hW
  have hcall := plainSleep_calls (enc := enc) hval hA0 hL
  refine Calls.mono hcall ?_
  rintro e W' ⟨rfl, hfr⟩
  exact ⟨_, rfl, post_kept Tryz.laidOut (by kernel_rfl) rfl rfl und4 hW' hfr (by
    have hg : gs = [] := by cases gs with | nil => rfl | cons g r => exact absurd hV0 (by intro h; cases h)
    subst hg
    have hA1 : DataW.TrodAll enc Tryz.prog W 0 (fun _ => true) true Tryz.f4.params.toList args.toList ds p := hA0
    rw [Tryz.params4] at hA1
    obtain ⟨v0, v1, v2, v3, d0, d1, d2, d3, p0, p1, p2, p3, ea, rfl, ec, h0, h1, h2, h3⟩ := trodAll_four hA1
    rfl)⟩

theorem plainSleep_row : Rows.PlainSleepSaid :=
  OpenClaim.holds_of_wide 4 Tryz.f4 rfl rfl rfl rfl rfl rfl rfl ⟨rfl, rfl, rfl, rfl, rfl⟩ rfl rfl rfl rfl rfl (by kernel_rfl) Tryz.func4 (restFacts.2 _ _ _ _ _ Tryz.mayEnter Tryz.liftsFinal Tryz.make (by kernel_rfl))
    (of_decide_eq_true (by kernel_rfl)) (by unfold Func.isWrapper; rw [if_neg (of_decide_eq_false (by kernel_rfl))]; exact ⟨rfl, rfl⟩)
    (fun os started H enc _ => plainSleep_lifted os started H enc)
theorem plainSleep_card : Rows.PlainSleepCardSaid :=
  Claim7.holds_tied_plain_at .later [] [.handle] true (true, "851eb3c6cb4eec7be8b282394a5029edcc67dd85afd058a13b27a4b6edc94801") true
    plainSleep_row (fun _ h => by cases h) (by kernel_rfl) (fun _ h => by cases h) plainSleep_row_tie rfl ⟨rfl, rfl⟩ Tryz.mainIs rfl
    (fun f fn hf hfn => by
      obtain rfl : f = 4 := Option.some.inj ((show Tryz.prog.funcNamed "messuage/messuagelaw11.PlainSleep" = some 4 by kernel_rfl).symm.trans hf) |>.symm
      obtain rfl : fn = Tryz.f4 := (Option.some.inj (Tryz.func4.symm.trans hfn)).symm
      exact ⟨by kernel_rfl, fun j t ht => by
        rw [Tryz.params4] at ht
        rcases j with _ | _ | _ | _ | j
        · obtain rfl : 3 = t := by simpa using ht
          exact (show Tryz.prog.wantsStandIn 3 = false by kernel_rfl)
        · obtain rfl : 26 = t := by simpa using ht
          exact (show Tryz.prog.wantsStandIn 26 = false by kernel_rfl)
        · obtain rfl : 26 = t := by simpa using ht
          exact (show Tryz.prog.wantsStandIn 26 = false by kernel_rfl)
        · obtain rfl : 3 = t := by simpa using ht
          exact (show Tryz.prog.wantsStandIn 3 = false by kernel_rfl)
        · simp at ht⟩)
    (by kernel_rfl)
#print axioms plainSleep_card
end Go.Proofs.YtbpilohnhhbbpaaGreatDoor
