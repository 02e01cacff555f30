/- The statement messuagelaw11.PlainProtect of the seat: for every input the law returns true; the condition: errors.errorType is as the program lays it. -/
import Derived.Test.YtbpilohnhhbbpaaGreatDoorL2B
import Derived.Test.YtbpilohnhhbbpaaGreatDoorSxM7
import Derived.Test.YtbpilohnhhbbpaaGreatDoorL2Zn
import Derived.Test.YtbpilohnhhbbpaaGreatDoorL2Yp
import Derived.Test.YtbpilohnhhbbpaaGreatDoorPuM
set_option linter.unusedVariables false
set_option linter.constructorNameAsVariable false
set_option linter.unusedSimpArgs false
open Go Go.Sx
namespace Go.Proofs.YtbpilohnhhbbpaaGreatDoor
open Go.ChangeShapes Go.WideShapes Go.RowKit
set_option maxRecDepth 100000

noncomputable def PlainProtect_t : Tree := .call 19 (Go.Sx.L2.yes Go.Sx.L2.f_messuagelaw11_begun).rel [] [] 0 0 (.letI (.rem (.v 2) (.c 3)) (.letI (.add (.v 3) (.c 3)) (.letI (.rem (.v 4) (.c 3)) (.letI (.add (.c 1) (.v 5)) (.call 77 (Go.Sx.L2.pNew1).rel [] [] 2 0 (.call 10 (Go.Sx.L2.qA).rel [.v 7, .v 8] [] 0 0 (.call 10 (Go.Sx.L2.qA).rel [.v 7, .v 8, .v 6] [] 0 0 (.call 10 (Go.Sx.L2.qA).rel [.v 7, .v 8, .v 6] [] 0 0 (.loop [.c (0), .v 6, .v 6] [] (.letI (.cmp .lss (.v 9) (.v 0)) (.ite (.v 12) (.letI (.cmp .lss (.v 9) (.c 20)) (.ite (.v 13) (.need .lss (.v 9) (.v 0) (.need .lss (.v 9) (.v 0) (.letI (.get 0 (.v 9)) (.letI (.bit .and .i64 (.v 14) (.c 3)) (.call 10 (Go.Sx.L2.qP3).rel [.v 7, .v 8, .v 6, .v 11, .v 15, .c (0), .c (0)] [] 2 0 (.letI (.cmp .eql (.v 15) (.c 0)) (.ite (.v 18) (.letI (.cmp .neq (.v 16) (.c 2)) (.ite (.v 19) (.exit (.fail 180)) (.letI (.cmp .neq (.v 10) (.v 17)) (.ite (.v 20) (.exit (.fail 180)) (.call 10 (Go.Sx.L2.qP4).rel [.v 7, .v 8, .v 6, .v 17, .c (0), .c (0)] [] 1 0 (.letI (.cmp .eql (.v 21) (.c 0)) (.letI (.rem (.v 10) (.c 2)) (.letI (.cmp .eql (.v 23) (.c 1)) (.letI (.not (.v 22)) (.letI (.not (.v 24)) (.letI (.cmp .neq (.v 25) (.v 26)) (.ite (.v 27) (.exit (.fail 180)) (.call 10 (Go.Sx.L2.qP5).rel [.v 7, .v 8, .v 6, .v 17, .c (0)] [] 1 0 (.letI (.cmp .eql (.v 28) (.c 0)) (.letI (.cmp .leq (.c 2) (.v 10)) (.letI (.not (.v 29)) (.letI (.not (.v 30)) (.letI (.cmp .neq (.v 31) (.v 32)) (.ite (.v 33) (.exit (.fail 180)) (.call 10 (Go.Sx.L2.qP6).rel [.v 7, .v 8, .v 6, .v 17] [] 1 0 (.letI (.cmp .eql (.v 34) (.c 0)) (.letI (.cmp .eql (.v 10) (.c 3)) (.letI (.not (.v 35)) (.letI (.not (.v 36)) (.letI (.cmp .neq (.v 37) (.v 38)) (.ite (.v 39) (.exit (.fail 180)) (.letI (.add (.v 9) (.c 1)) (.again [.v 40, .v 10, .v 17] [])))))))))))))))))))))))))))) (.letI (.rem (.v 15) (.c 2)) (.letI (.cmp .eql (.v 19) (.c 0)) (.ite (.v 20) (.letI (.cmp .lss (.v 15) (.c 2)) (.ite (.v 21) (.letI (.cmp .neq (.v 16) (.c 0)) (.ite (.v 22) (.exit (.fail 180)) (.letI (.cmp .neq (.v 15) (.v 17)) (.ite (.v 23) (.exit (.fail 180)) (.call 10 (Go.Sx.L2.qP4).rel [.v 7, .v 8, .v 6, .v 17, .c (0), .c (0)] [] 1 0 (.letI (.cmp .eql (.v 24) (.c 0)) (.letI (.not (.v 25)) (.letI (.cmp .neq (.v 26) (.c 0)) (.ite (.v 27) (.exit (.fail 180)) (.call 10 (Go.Sx.L2.qP5).rel [.v 7, .v 8, .v 6, .v 17, .c (0)] [] 1 0 (.letI (.cmp .eql (.v 28) (.c 0)) (.letI (.not (.v 29)) (.letI (.cmp .neq (.v 30) (.c 1)) (.ite (.v 31) (.exit (.fail 180)) (.call 10 (Go.Sx.L2.qP6).rel [.v 7, .v 8, .v 6, .v 17] [] 1 0 (.letI (.cmp .eql (.v 32) (.c 0)) (.letI (.not (.v 33)) (.letI (.cmp .neq (.v 34) (.c 1)) (.ite (.v 35) (.exit (.fail 180)) (.letI (.add (.v 9) (.c 1)) (.again [.v 36, .v 15, .v 17] []))))))))))))))))))))) (.letI (.cmp .leq (.c 2) (.v 6)) (.letI (.not (.v 22)) (.ite (.v 23) (.letI (.cmp .neq (.v 16) (.c 5)) (.ite (.v 24) (.exit (.fail 180)) (.letI (.cmp .neq (.v 10) (.v 17)) (.ite (.v 25) (.exit (.fail 180)) (.call 10 (Go.Sx.L2.qP4).rel [.v 7, .v 8, .v 6, .v 17, .c (0), .c (0)] [] 1 0 (.letI (.cmp .eql (.v 26) (.c 0)) (.letI (.rem (.v 10) (.c 2)) (.letI (.cmp .eql (.v 28) (.c 1)) (.letI (.not (.v 27)) (.letI (.not (.v 29)) (.letI (.cmp .neq (.v 30) (.v 31)) (.ite (.v 32) (.exit (.fail 180)) (.call 10 (Go.Sx.L2.qP5).rel [.v 7, .v 8, .v 6, .v 17, .c (0)] [] 1 0 (.letI (.cmp .eql (.v 33) (.c 0)) (.letI (.cmp .leq (.c 2) (.v 10)) (.letI (.not (.v 34)) (.letI (.not (.v 35)) (.letI (.cmp .neq (.v 36) (.v 37)) (.ite (.v 38) (.exit (.fail 180)) (.call 10 (Go.Sx.L2.qP6).rel [.v 7, .v 8, .v 6, .v 17] [] 1 0 (.letI (.cmp .eql (.v 39) (.c 0)) (.letI (.cmp .eql (.v 10) (.c 3)) (.letI (.not (.v 40)) (.letI (.not (.v 41)) (.letI (.cmp .neq (.v 42) (.v 43)) (.ite (.v 44) (.exit (.fail 180)) (.letI (.add (.v 9) (.c 1)) (.again [.v 45, .v 10, .v 17] [])))))))))))))))))))))))))))) (.letI (.cmp .neq (.v 16) (.c 0)) (.ite (.v 24) (.exit (.fail 180)) (.letI (.cmp .neq (.v 15) (.v 17)) (.ite (.v 25) (.exit (.fail 180)) (.call 10 (Go.Sx.L2.qP4).rel [.v 7, .v 8, .v 6, .v 17, .c (0), .c (0)] [] 1 0 (.letI (.cmp .eql (.v 26) (.c 0)) (.letI (.not (.v 27)) (.letI (.cmp .neq (.v 28) (.c 1)) (.ite (.v 29) (.exit (.fail 180)) (.call 10 (Go.Sx.L2.qP5).rel [.v 7, .v 8, .v 6, .v 17, .c (0)] [] 1 0 (.letI (.cmp .eql (.v 30) (.c 0)) (.letI (.not (.v 31)) (.letI (.cmp .neq (.v 32) (.c 0)) (.ite (.v 33) (.exit (.fail 180)) (.call 10 (Go.Sx.L2.qP6).rel [.v 7, .v 8, .v 6, .v 17] [] 1 0 (.letI (.cmp .eql (.v 34) (.c 0)) (.letI (.cmp .eql (.v 15) (.c 3)) (.letI (.not (.v 35)) (.letI (.not (.v 36)) (.letI (.cmp .neq (.v 37) (.v 38)) (.ite (.v 39) (.exit (.fail 180)) (.letI (.add (.v 9) (.c 1)) (.again [.v 40, .v 15, .v 17] [])))))))))))))))))))))))))))) (.letI (.rem (.v 6) (.c 2)) (.letI (.cmp .eql (.v 21) (.c 1)) (.ite (.v 22) (.letI (.cmp .lss (.v 15) (.c 2)) (.ite (.v 23) (.letI (.cmp .neq (.v 16) (.c 0)) (.ite (.v 24) (.exit (.fail 180)) (.letI (.cmp .neq (.v 15) (.v 17)) (.ite (.v 25) (.exit (.fail 180)) (.call 10 (Go.Sx.L2.qP4).rel [.v 7, .v 8, .v 6, .v 17, .c (0), .c (0)] [] 1 0 (.letI (.cmp .eql (.v 26) (.c 0)) (.letI (.not (.v 27)) (.letI (.cmp .neq (.v 28) (.c 0)) (.ite (.v 29) (.exit (.fail 180)) (.call 10 (Go.Sx.L2.qP5).rel [.v 7, .v 8, .v 6, .v 17, .c (0)] [] 1 0 (.letI (.cmp .eql (.v 30) (.c 0)) (.letI (.not (.v 31)) (.letI (.cmp .neq (.v 32) (.c 1)) (.ite (.v 33) (.exit (.fail 180)) (.call 10 (Go.Sx.L2.qP6).rel [.v 7, .v 8, .v 6, .v 17] [] 1 0 (.letI (.cmp .eql (.v 34) (.c 0)) (.letI (.not (.v 35)) (.letI (.cmp .neq (.v 36) (.c 1)) (.ite (.v 37) (.exit (.fail 180)) (.letI (.add (.v 9) (.c 1)) (.again [.v 38, .v 15, .v 17] []))))))))))))))))))))) (.letI (.cmp .leq (.c 2) (.v 6)) (.letI (.not (.v 24)) (.ite (.v 25) (.letI (.cmp .neq (.v 16) (.c 5)) (.ite (.v 26) (.exit (.fail 180)) (.letI (.cmp .neq (.v 10) (.v 17)) (.ite (.v 27) (.exit (.fail 180)) (.call 10 (Go.Sx.L2.qP4).rel [.v 7, .v 8, .v 6, .v 17, .c (0), .c (0)] [] 1 0 (.letI (.cmp .eql (.v 28) (.c 0)) (.letI (.rem (.v 10) (.c 2)) (.letI (.cmp .eql (.v 30) (.c 1)) (.letI (.not (.v 29)) (.letI (.not (.v 31)) (.letI (.cmp .neq (.v 32) (.v 33)) (.ite (.v 34) (.exit (.fail 180)) (.call 10 (Go.Sx.L2.qP5).rel [.v 7, .v 8, .v 6, .v 17, .c (0)] [] 1 0 (.letI (.cmp .eql (.v 35) (.c 0)) (.letI (.cmp .leq (.c 2) (.v 10)) (.letI (.not (.v 36)) (.letI (.not (.v 37)) (.letI (.cmp .neq (.v 38) (.v 39)) (.ite (.v 40) (.exit (.fail 180)) (.call 10 (Go.Sx.L2.qP6).rel [.v 7, .v 8, .v 6, .v 17] [] 1 0 (.letI (.cmp .eql (.v 41) (.c 0)) (.letI (.cmp .eql (.v 10) (.c 3)) (.letI (.not (.v 42)) (.letI (.not (.v 43)) (.letI (.cmp .neq (.v 44) (.v 45)) (.ite (.v 46) (.exit (.fail 180)) (.letI (.add (.v 9) (.c 1)) (.again [.v 47, .v 10, .v 17] [])))))))))))))))))))))))))))) (.letI (.cmp .neq (.v 16) (.c 0)) (.ite (.v 26) (.exit (.fail 180)) (.letI (.cmp .neq (.v 15) (.v 17)) (.ite (.v 27) (.exit (.fail 180)) (.call 10 (Go.Sx.L2.qP4).rel [.v 7, .v 8, .v 6, .v 17, .c (0), .c (0)] [] 1 0 (.letI (.cmp .eql (.v 28) (.c 0)) (.letI (.not (.v 29)) (.letI (.cmp .neq (.v 30) (.c 0)) (.ite (.v 31) (.exit (.fail 180)) (.call 10 (Go.Sx.L2.qP5).rel [.v 7, .v 8, .v 6, .v 17, .c (0)] [] 1 0 (.letI (.cmp .eql (.v 32) (.c 0)) (.letI (.not (.v 33)) (.letI (.cmp .neq (.v 34) (.c 0)) (.ite (.v 35) (.exit (.fail 180)) (.call 10 (Go.Sx.L2.qP6).rel [.v 7, .v 8, .v 6, .v 17] [] 1 0 (.letI (.cmp .eql (.v 36) (.c 0)) (.letI (.cmp .eql (.v 15) (.c 3)) (.letI (.not (.v 37)) (.letI (.not (.v 38)) (.letI (.cmp .neq (.v 39) (.v 40)) (.ite (.v 41) (.exit (.fail 180)) (.letI (.add (.v 9) (.c 1)) (.again [.v 42, .v 15, .v 17] [])))))))))))))))))))))))))))) (.letI (.cmp .neq (.v 16) (.c 5)) (.ite (.v 23) (.exit (.fail 180)) (.letI (.cmp .neq (.v 10) (.v 17)) (.ite (.v 24) (.exit (.fail 180)) (.call 10 (Go.Sx.L2.qP4).rel [.v 7, .v 8, .v 6, .v 17, .c (0), .c (0)] [] 1 0 (.letI (.cmp .eql (.v 25) (.c 0)) (.letI (.rem (.v 10) (.c 2)) (.letI (.cmp .eql (.v 27) (.c 1)) (.letI (.not (.v 26)) (.letI (.not (.v 28)) (.letI (.cmp .neq (.v 29) (.v 30)) (.ite (.v 31) (.exit (.fail 180)) (.call 10 (Go.Sx.L2.qP5).rel [.v 7, .v 8, .v 6, .v 17, .c (0)] [] 1 0 (.letI (.cmp .eql (.v 32) (.c 0)) (.letI (.cmp .leq (.c 2) (.v 10)) (.letI (.not (.v 33)) (.letI (.not (.v 34)) (.letI (.cmp .neq (.v 35) (.v 36)) (.ite (.v 37) (.exit (.fail 180)) (.call 10 (Go.Sx.L2.qP6).rel [.v 7, .v 8, .v 6, .v 17] [] 1 0 (.letI (.cmp .eql (.v 38) (.c 0)) (.letI (.cmp .eql (.v 10) (.c 3)) (.letI (.not (.v 39)) (.letI (.not (.v 40)) (.letI (.cmp .neq (.v 41) (.v 42)) (.ite (.v 43) (.exit (.fail 180)) (.letI (.add (.v 9) (.c 1)) (.again [.v 44, .v 10, .v 17] []))))))))))))))))))))))))))))))))))))))))) (.exit (.done [] [])))) (.exit (.done [] [])))))))))))))
theorem PlainProtect_tree : (lawSpec L2.f_messuagelaw11_PlainProtect [.slc [.i .i64], .one (.i .i64)]).exe Tryz.prog (withC (withA (withS (L2.cfgB Tryz.prog) [L2.pNew1]) L2.f_plain_Kernel_Do [L2.qA, L2.qP1, L2.qP2, L2.qP3, L2.qP4, L2.qP5, L2.qP6])) [{ f := L2.f_messuagelaw11_PlainProtect, reg := 10, ints := [(8, 0, 20), (7, 1, 3)], cells := [(6, [4, 0], 11, 1, 3)] }] 20 200 = PlainProtect_t := by kernel_rfl
theorem PlainProtect_vc (Q : List Int → List (List Int) → Prop) (v0 v1 v2 : Int) (L0 : List Int) : PlainProtect_t.dn ⟨Q, []⟩ 3 [v2, v1, v0] 1 [L0] = ((Go.Sx.L2.yes Go.Sx.L2.f_messuagelaw11_begun).rel.pre [] [] ∧
((Go.Sx.L2.yes Go.Sx.L2.f_messuagelaw11_begun).rel.post [] [] [] [] → ∀ v3 : Int, v3 = (v2).tmod (3 : Int) → ∀ v4 : Int, v4 = v3 + (3 : Int) → ∀ v5 : Int, v5 = (v4).tmod (3 : Int) → ∀ v6 : Int, v6 = (1 : Int) + v5 → (Go.Sx.L2.pNew1).rel.pre [] [] ∧
(∀ v7 : Int, ∀ v8 : Int, (Go.Sx.L2.pNew1).rel.post [] [] [v7, v8] [] → (Go.Sx.L2.qA).rel.pre [v7, v8] [] ∧
((Go.Sx.L2.qA).rel.post [v7, v8] [] [] [] → (Go.Sx.L2.qA).rel.pre [v7, v8, v6] [] ∧
((Go.Sx.L2.qA).rel.post [v7, v8, v6] [] [] [] → (Go.Sx.L2.qA).rel.pre [v7, v8, v6] [] ∧
((Go.Sx.L2.qA).rel.post [v7, v8, v6] [] [] [] → ∃ (I0 : List Int → List (List Int) → Prop) (μ0 : List Int → List (List Int) → Nat), I0 [(0 : Int), v6, v6] [] ∧
(∀ v9 : Int, ∀ v10 : Int, ∀ v11 : Int, I0 [v9, v10, v11] [] →
 ((v9 < v0) → ((v9 < (20 : Int)) → (v9 < v0) ∧ (v9 < v0) ∧ ∀ v14 : Int, v14 = (L0).getD (v9).toNat 0 → ∀ v15 : Int, v15 = bitDen .and .i64 v14 (3 : Int) → (Go.Sx.L2.qP3).rel.pre [v7, v8, v6, v11, v15, (0 : Int), (0 : Int)] [] ∧
(∀ v16 : Int, ∀ v17 : Int, (Go.Sx.L2.qP3).rel.post [v7, v8, v6, v11, v15, (0 : Int), (0 : Int)] [] [v16, v17] [] → ((v15 = (0 : Int)) → ((v16 ≠ (2 : Int)) → False) ∧
((v16 = (2 : Int)) → ((v10 ≠ v17) → False) ∧
((v10 = v17) → (Go.Sx.L2.qP4).rel.pre [v7, v8, v6, v17, (0 : Int), (0 : Int)] [] ∧
(∀ v21 : Int, (Go.Sx.L2.qP4).rel.post [v7, v8, v6, v17, (0 : Int), (0 : Int)] [] [v21] [] → ∀ v22 : Int, v22 = b2i (v21 == (0 : Int)) → ∀ v23 : Int, v23 = (v10).tmod (2 : Int) → ∀ v24 : Int, v24 = b2i (v23 == (1 : Int)) → ∀ v25 : Int, v25 = b2i (v22 == 0) → ∀ v26 : Int, v26 = b2i (v24 == 0) → ((v25 ≠ v26) → False) ∧
((v25 = v26) → (Go.Sx.L2.qP5).rel.pre [v7, v8, v6, v17, (0 : Int)] [] ∧
(∀ v28 : Int, (Go.Sx.L2.qP5).rel.post [v7, v8, v6, v17, (0 : Int)] [] [v28] [] → ∀ v29 : Int, v29 = b2i (v28 == (0 : Int)) → ∀ v30 : Int, v30 = b2i (decide ((2 : Int) ≤ v10)) → ∀ v31 : Int, v31 = b2i (v29 == 0) → ∀ v32 : Int, v32 = b2i (v30 == 0) → ((v31 ≠ v32) → False) ∧
((v31 = v32) → (Go.Sx.L2.qP6).rel.pre [v7, v8, v6, v17] [] ∧
(∀ v34 : Int, (Go.Sx.L2.qP6).rel.post [v7, v8, v6, v17] [] [v34] [] → ∀ v35 : Int, v35 = b2i (v34 == (0 : Int)) → ∀ v36 : Int, v36 = b2i (v10 == (3 : Int)) → ∀ v37 : Int, v37 = b2i (v35 == 0) → ∀ v38 : Int, v38 = b2i (v36 == 0) → ((v37 ≠ v38) → False) ∧
((v37 = v38) → ∀ v40 : Int, v40 = v9 + (1 : Int) → (I0 [v40, v10, v17] [] ∧ μ0 [v40, v10, v17] [] < μ0 [v9, v10, v11] [])))))))))) ∧
((v15 ≠ (0 : Int)) → ∀ v19 : Int, v19 = (v15).tmod (2 : Int) → ((v19 = (0 : Int)) → ((v15 < (2 : Int)) → ((v16 ≠ (0 : Int)) → False) ∧
((v16 = (0 : Int)) → ((v15 ≠ v17) → False) ∧
((v15 = v17) → (Go.Sx.L2.qP4).rel.pre [v7, v8, v6, v17, (0 : Int), (0 : Int)] [] ∧
(∀ v24 : Int, (Go.Sx.L2.qP4).rel.post [v7, v8, v6, v17, (0 : Int), (0 : Int)] [] [v24] [] → ∀ v25 : Int, v25 = b2i (v24 == (0 : Int)) → ∀ v26 : Int, v26 = b2i (v25 == 0) → ((v26 ≠ (0 : Int)) → False) ∧
((v26 = (0 : Int)) → (Go.Sx.L2.qP5).rel.pre [v7, v8, v6, v17, (0 : Int)] [] ∧
(∀ v28 : Int, (Go.Sx.L2.qP5).rel.post [v7, v8, v6, v17, (0 : Int)] [] [v28] [] → ∀ v29 : Int, v29 = b2i (v28 == (0 : Int)) → ∀ v30 : Int, v30 = b2i (v29 == 0) → ((v30 ≠ (1 : Int)) → False) ∧
((v30 = (1 : Int)) → (Go.Sx.L2.qP6).rel.pre [v7, v8, v6, v17] [] ∧
(∀ v32 : Int, (Go.Sx.L2.qP6).rel.post [v7, v8, v6, v17] [] [v32] [] → ∀ v33 : Int, v33 = b2i (v32 == (0 : Int)) → ∀ v34 : Int, v34 = b2i (v33 == 0) → ((v34 ≠ (1 : Int)) → False) ∧
((v34 = (1 : Int)) → ∀ v36 : Int, v36 = v9 + (1 : Int) → (I0 [v36, v15, v17] [] ∧ μ0 [v36, v15, v17] [] < μ0 [v9, v10, v11] [])))))))))) ∧
(((2 : Int) ≤ v15) → ∀ v22 : Int, v22 = b2i (decide ((2 : Int) ≤ v6)) → ∀ v23 : Int, v23 = b2i (v22 == 0) → (v23 ≠ 0 → ((v16 ≠ (5 : Int)) → False) ∧
((v16 = (5 : Int)) → ((v10 ≠ v17) → False) ∧
((v10 = v17) → (Go.Sx.L2.qP4).rel.pre [v7, v8, v6, v17, (0 : Int), (0 : Int)] [] ∧
(∀ v26 : Int, (Go.Sx.L2.qP4).rel.post [v7, v8, v6, v17, (0 : Int), (0 : Int)] [] [v26] [] → ∀ v27 : Int, v27 = b2i (v26 == (0 : Int)) → ∀ v28 : Int, v28 = (v10).tmod (2 : Int) → ∀ v29 : Int, v29 = b2i (v28 == (1 : Int)) → ∀ v30 : Int, v30 = b2i (v27 == 0) → ∀ v31 : Int, v31 = b2i (v29 == 0) → ((v30 ≠ v31) → False) ∧
((v30 = v31) → (Go.Sx.L2.qP5).rel.pre [v7, v8, v6, v17, (0 : Int)] [] ∧
(∀ v33 : Int, (Go.Sx.L2.qP5).rel.post [v7, v8, v6, v17, (0 : Int)] [] [v33] [] → ∀ v34 : Int, v34 = b2i (v33 == (0 : Int)) → ∀ v35 : Int, v35 = b2i (decide ((2 : Int) ≤ v10)) → ∀ v36 : Int, v36 = b2i (v34 == 0) → ∀ v37 : Int, v37 = b2i (v35 == 0) → ((v36 ≠ v37) → False) ∧
((v36 = v37) → (Go.Sx.L2.qP6).rel.pre [v7, v8, v6, v17] [] ∧
(∀ v39 : Int, (Go.Sx.L2.qP6).rel.post [v7, v8, v6, v17] [] [v39] [] → ∀ v40 : Int, v40 = b2i (v39 == (0 : Int)) → ∀ v41 : Int, v41 = b2i (v10 == (3 : Int)) → ∀ v42 : Int, v42 = b2i (v40 == 0) → ∀ v43 : Int, v43 = b2i (v41 == 0) → ((v42 ≠ v43) → False) ∧
((v42 = v43) → ∀ v45 : Int, v45 = v9 + (1 : Int) → (I0 [v45, v10, v17] [] ∧ μ0 [v45, v10, v17] [] < μ0 [v9, v10, v11] [])))))))))) ∧
(v23 = 0 → ((v16 ≠ (0 : Int)) → False) ∧
((v16 = (0 : Int)) → ((v15 ≠ v17) → False) ∧
((v15 = v17) → (Go.Sx.L2.qP4).rel.pre [v7, v8, v6, v17, (0 : Int), (0 : Int)] [] ∧
(∀ v26 : Int, (Go.Sx.L2.qP4).rel.post [v7, v8, v6, v17, (0 : Int), (0 : Int)] [] [v26] [] → ∀ v27 : Int, v27 = b2i (v26 == (0 : Int)) → ∀ v28 : Int, v28 = b2i (v27 == 0) → ((v28 ≠ (1 : Int)) → False) ∧
((v28 = (1 : Int)) → (Go.Sx.L2.qP5).rel.pre [v7, v8, v6, v17, (0 : Int)] [] ∧
(∀ v30 : Int, (Go.Sx.L2.qP5).rel.post [v7, v8, v6, v17, (0 : Int)] [] [v30] [] → ∀ v31 : Int, v31 = b2i (v30 == (0 : Int)) → ∀ v32 : Int, v32 = b2i (v31 == 0) → ((v32 ≠ (0 : Int)) → False) ∧
((v32 = (0 : Int)) → (Go.Sx.L2.qP6).rel.pre [v7, v8, v6, v17] [] ∧
(∀ v34 : Int, (Go.Sx.L2.qP6).rel.post [v7, v8, v6, v17] [] [v34] [] → ∀ v35 : Int, v35 = b2i (v34 == (0 : Int)) → ∀ v36 : Int, v36 = b2i (v15 == (3 : Int)) → ∀ v37 : Int, v37 = b2i (v35 == 0) → ∀ v38 : Int, v38 = b2i (v36 == 0) → ((v37 ≠ v38) → False) ∧
((v37 = v38) → ∀ v40 : Int, v40 = v9 + (1 : Int) → (I0 [v40, v15, v17] [] ∧ μ0 [v40, v15, v17] [] < μ0 [v9, v10, v11] [])))))))))))) ∧
((v19 ≠ (0 : Int)) → ∀ v21 : Int, v21 = (v6).tmod (2 : Int) → ((v21 = (1 : Int)) → ((v15 < (2 : Int)) → ((v16 ≠ (0 : Int)) → False) ∧
((v16 = (0 : Int)) → ((v15 ≠ v17) → False) ∧
((v15 = v17) → (Go.Sx.L2.qP4).rel.pre [v7, v8, v6, v17, (0 : Int), (0 : Int)] [] ∧
(∀ v26 : Int, (Go.Sx.L2.qP4).rel.post [v7, v8, v6, v17, (0 : Int), (0 : Int)] [] [v26] [] → ∀ v27 : Int, v27 = b2i (v26 == (0 : Int)) → ∀ v28 : Int, v28 = b2i (v27 == 0) → ((v28 ≠ (0 : Int)) → False) ∧
((v28 = (0 : Int)) → (Go.Sx.L2.qP5).rel.pre [v7, v8, v6, v17, (0 : Int)] [] ∧
(∀ v30 : Int, (Go.Sx.L2.qP5).rel.post [v7, v8, v6, v17, (0 : Int)] [] [v30] [] → ∀ v31 : Int, v31 = b2i (v30 == (0 : Int)) → ∀ v32 : Int, v32 = b2i (v31 == 0) → ((v32 ≠ (1 : Int)) → False) ∧
((v32 = (1 : Int)) → (Go.Sx.L2.qP6).rel.pre [v7, v8, v6, v17] [] ∧
(∀ v34 : Int, (Go.Sx.L2.qP6).rel.post [v7, v8, v6, v17] [] [v34] [] → ∀ v35 : Int, v35 = b2i (v34 == (0 : Int)) → ∀ v36 : Int, v36 = b2i (v35 == 0) → ((v36 ≠ (1 : Int)) → False) ∧
((v36 = (1 : Int)) → ∀ v38 : Int, v38 = v9 + (1 : Int) → (I0 [v38, v15, v17] [] ∧ μ0 [v38, v15, v17] [] < μ0 [v9, v10, v11] [])))))))))) ∧
(((2 : Int) ≤ v15) → ∀ v24 : Int, v24 = b2i (decide ((2 : Int) ≤ v6)) → ∀ v25 : Int, v25 = b2i (v24 == 0) → (v25 ≠ 0 → ((v16 ≠ (5 : Int)) → False) ∧
((v16 = (5 : Int)) → ((v10 ≠ v17) → False) ∧
((v10 = v17) → (Go.Sx.L2.qP4).rel.pre [v7, v8, v6, v17, (0 : Int), (0 : Int)] [] ∧
(∀ v28 : Int, (Go.Sx.L2.qP4).rel.post [v7, v8, v6, v17, (0 : Int), (0 : Int)] [] [v28] [] → ∀ v29 : Int, v29 = b2i (v28 == (0 : Int)) → ∀ v30 : Int, v30 = (v10).tmod (2 : Int) → ∀ v31 : Int, v31 = b2i (v30 == (1 : Int)) → ∀ v32 : Int, v32 = b2i (v29 == 0) → ∀ v33 : Int, v33 = b2i (v31 == 0) → ((v32 ≠ v33) → False) ∧
((v32 = v33) → (Go.Sx.L2.qP5).rel.pre [v7, v8, v6, v17, (0 : Int)] [] ∧
(∀ v35 : Int, (Go.Sx.L2.qP5).rel.post [v7, v8, v6, v17, (0 : Int)] [] [v35] [] → ∀ v36 : Int, v36 = b2i (v35 == (0 : Int)) → ∀ v37 : Int, v37 = b2i (decide ((2 : Int) ≤ v10)) → ∀ v38 : Int, v38 = b2i (v36 == 0) → ∀ v39 : Int, v39 = b2i (v37 == 0) → ((v38 ≠ v39) → False) ∧
((v38 = v39) → (Go.Sx.L2.qP6).rel.pre [v7, v8, v6, v17] [] ∧
(∀ v41 : Int, (Go.Sx.L2.qP6).rel.post [v7, v8, v6, v17] [] [v41] [] → ∀ v42 : Int, v42 = b2i (v41 == (0 : Int)) → ∀ v43 : Int, v43 = b2i (v10 == (3 : Int)) → ∀ v44 : Int, v44 = b2i (v42 == 0) → ∀ v45 : Int, v45 = b2i (v43 == 0) → ((v44 ≠ v45) → False) ∧
((v44 = v45) → ∀ v47 : Int, v47 = v9 + (1 : Int) → (I0 [v47, v10, v17] [] ∧ μ0 [v47, v10, v17] [] < μ0 [v9, v10, v11] [])))))))))) ∧
(v25 = 0 → ((v16 ≠ (0 : Int)) → False) ∧
((v16 = (0 : Int)) → ((v15 ≠ v17) → False) ∧
((v15 = v17) → (Go.Sx.L2.qP4).rel.pre [v7, v8, v6, v17, (0 : Int), (0 : Int)] [] ∧
(∀ v28 : Int, (Go.Sx.L2.qP4).rel.post [v7, v8, v6, v17, (0 : Int), (0 : Int)] [] [v28] [] → ∀ v29 : Int, v29 = b2i (v28 == (0 : Int)) → ∀ v30 : Int, v30 = b2i (v29 == 0) → ((v30 ≠ (0 : Int)) → False) ∧
((v30 = (0 : Int)) → (Go.Sx.L2.qP5).rel.pre [v7, v8, v6, v17, (0 : Int)] [] ∧
(∀ v32 : Int, (Go.Sx.L2.qP5).rel.post [v7, v8, v6, v17, (0 : Int)] [] [v32] [] → ∀ v33 : Int, v33 = b2i (v32 == (0 : Int)) → ∀ v34 : Int, v34 = b2i (v33 == 0) → ((v34 ≠ (0 : Int)) → False) ∧
((v34 = (0 : Int)) → (Go.Sx.L2.qP6).rel.pre [v7, v8, v6, v17] [] ∧
(∀ v36 : Int, (Go.Sx.L2.qP6).rel.post [v7, v8, v6, v17] [] [v36] [] → ∀ v37 : Int, v37 = b2i (v36 == (0 : Int)) → ∀ v38 : Int, v38 = b2i (v15 == (3 : Int)) → ∀ v39 : Int, v39 = b2i (v37 == 0) → ∀ v40 : Int, v40 = b2i (v38 == 0) → ((v39 ≠ v40) → False) ∧
((v39 = v40) → ∀ v42 : Int, v42 = v9 + (1 : Int) → (I0 [v42, v15, v17] [] ∧ μ0 [v42, v15, v17] [] < μ0 [v9, v10, v11] [])))))))))))) ∧
((v21 ≠ (1 : Int)) → ((v16 ≠ (5 : Int)) → False) ∧
((v16 = (5 : Int)) → ((v10 ≠ v17) → False) ∧
((v10 = v17) → (Go.Sx.L2.qP4).rel.pre [v7, v8, v6, v17, (0 : Int), (0 : Int)] [] ∧
(∀ v25 : Int, (Go.Sx.L2.qP4).rel.post [v7, v8, v6, v17, (0 : Int), (0 : Int)] [] [v25] [] → ∀ v26 : Int, v26 = b2i (v25 == (0 : Int)) → ∀ v27 : Int, v27 = (v10).tmod (2 : Int) → ∀ v28 : Int, v28 = b2i (v27 == (1 : Int)) → ∀ v29 : Int, v29 = b2i (v26 == 0) → ∀ v30 : Int, v30 = b2i (v28 == 0) → ((v29 ≠ v30) → False) ∧
((v29 = v30) → (Go.Sx.L2.qP5).rel.pre [v7, v8, v6, v17, (0 : Int)] [] ∧
(∀ v32 : Int, (Go.Sx.L2.qP5).rel.post [v7, v8, v6, v17, (0 : Int)] [] [v32] [] → ∀ v33 : Int, v33 = b2i (v32 == (0 : Int)) → ∀ v34 : Int, v34 = b2i (decide ((2 : Int) ≤ v10)) → ∀ v35 : Int, v35 = b2i (v33 == 0) → ∀ v36 : Int, v36 = b2i (v34 == 0) → ((v35 ≠ v36) → False) ∧
((v35 = v36) → (Go.Sx.L2.qP6).rel.pre [v7, v8, v6, v17] [] ∧
(∀ v38 : Int, (Go.Sx.L2.qP6).rel.post [v7, v8, v6, v17] [] [v38] [] → ∀ v39 : Int, v39 = b2i (v38 == (0 : Int)) → ∀ v40 : Int, v40 = b2i (v10 == (3 : Int)) → ∀ v41 : Int, v41 = b2i (v39 == 0) → ∀ v42 : Int, v42 = b2i (v40 == 0) → ((v41 ≠ v42) → False) ∧
((v41 = v42) → ∀ v44 : Int, v44 = v9 + (1 : Int) → (I0 [v44, v10, v17] [] ∧ μ0 [v44, v10, v17] [] < μ0 [v9, v10, v11] [])))))))))))))) ∧
(((20 : Int) ≤ v9) → Q [] [])) ∧
((v0 ≤ v9) → Q [] [])))))))) := by kernel_rfl
set_option maxHeartbeats 4000000 in
theorem plainProtect_holds0 : (lawSpec L2.f_messuagelaw11_PlainProtect [.slc [.i .i64], .one (.i .i64)]).Holds Tryz.prog L2.ro := FSpec.holdsV (cfg := withC (withA (withS (L2.cfgB Tryz.prog) [L2.pNew1]) L2.f_plain_Kernel_Do [L2.qA, L2.qP1, L2.qP2, L2.qP3, L2.qP4, L2.qP5, L2.qP6])) [{ f := L2.f_messuagelaw11_PlainProtect, reg := 10, ints := [(8, 0, 20), (7, 1, 3)], cells := [(6, [4, 0], 11, 1, 3)] }] 20 200 (withC_ok (withA_ok (withS_ok cfgB_ok ⟨pNew1_holds, trivial⟩) (fun s hs => by
  simp only [List.mem_cons, List.not_mem_nil, or_false] at hs
  rcases hs with rfl | rfl | rfl | rfl | rfl | rfl | rfl <;> rfl) ⟨qA_holds, qP1_holds, qP2_holds, qP3_holds, qP4_holds, qP5_holds, qP6_holds, trivial⟩)) mixed (t := PlainProtect_t) PlainProtect_tree (by
  show ∀ (v0 v1 v2 : Int) (L0 : List Int), _
  intro v0 v1 v2 L0 hp hr hl
  replace hr : ((0 : Int) ≤ v0 ∧ v0 ≤ (9223372036854775807 : Int)) ∧ ((0 : Int) ≤ v1 ∧ v1 ≤ (9223372036854775807 : Int)) ∧ ((-9223372036854775808 : Int) ≤ v2 ∧ v2 ≤ (9223372036854775807 : Int)) ∧ True := hr
  replace hp : (True ∧ ((0 : Int) ≤ v0 ∧ v0 ≤ v1 ∧ (L0.length : Int) = v0 * ((1 : Nat) : Int) ∧ ((1 : Nat) ≠ 1 → [v0, v1, v2].getD 2 0 = v0 * ((1 : Nat) : Int)) ∧ ∀ j, j < L0.length → ((oneKind [.i .i64]).getD (j % (oneKind [.i .i64]).length) (.i .i64)).lo ≤ L0.getD j 0 ∧ L0.getD j 0 ≤ ((oneKind [.i .i64]).getD (j % (oneKind [.i .i64]).length) (.i .i64)).hi)) := hp
  show PlainProtect_t.dn ⟨_, []⟩ 3 [v2, v1, v0] 1 [L0]
  rw [PlainProtect_vc]
  show ((L2.yes L2.f_messuagelaw11_begun).rel.pre [] [] ∧ _)
  refine ⟨trivial, fun _ => ?_⟩
  intro v3 e3 v4 e4 v5 e5 v6 e6
  have r3 := tmodR (x := v2) (m := 3) (by omega)
  have r5 := tmodP (x := v4) (m := 3) (by omega) (by omega)
  rw [← e5] at r5
  have h6 : 1 ≤ v6 ∧ v6 ≤ 3 := by omega
  clear r3 r5 e3 e4 e5 e6 hr hp hl
  refine ⟨trivial, fun v7 v8 _ => ?_⟩
  iterate 3 refine ⟨trivial, fun _ => ?_⟩
  refine ⟨fun xs ys => match xs, ys with | [i, a, b], [] => 0 ≤ i ∧ 1 ≤ a ∧ a ≤ 3 ∧ b = a | _, _ => False, fun xs _ => match xs with | i :: _ => (20 - i).toNat | _ => 0, ?_, ?_⟩ <;> dsimp only
  · exact ⟨by omega, by omega, by omega, rfl⟩
  · intro i a b hI
    obtain ⟨i0, a1, a3, hb⟩ := hI
    refine ⟨fun c1 => ⟨fun c2 => ⟨c1, c1, fun x ex y ey => ?_⟩, fun c2 => trivial⟩, fun c1 => trivial⟩
    have ry := and_range .i64 x 3 (by decide) (by decide)
    rw [← ey] at ry
    refine ⟨trivial, fun v16 v17 hP => ?_⟩
    have hP : [v16, v17] = [protE v6 y, protN v6 b y] := hP.1
    simp only [List.cons.injEq, and_true] at hP
    obtain ⟨p1, p2⟩ := hP
    have t1 : y.tmod 2 = y % 2 := Int.tmod_eq_emod_of_nonneg (by omega)
    have t2 : v6.tmod 2 = v6 % 2 := Int.tmod_eq_emod_of_nonneg (by omega)
    have t3 : a.tmod 2 = a % 2 := Int.tmod_eq_emod_of_nonneg (by omega)
    simp only [t1, t2, t3, List.getD_cons_succ, List.getD_cons_zero, List.cons.injEq, and_true, true_and]
    clear t1 t2 t3 ex ey c1
    repeat' first | refine And.intro ?_ ?_ | intro _
    all_goals first | trivial | omega | grind [protE, protN, letsB, b2i])
theorem plainProtect_holds : ((lawSpec L2.f_messuagelaw11_PlainProtect [.slc [.i .i64], .one (.i .i64)]).withPre fun _ => True).Holds Tryz.prog L2.ro := holds_withPre _ plainProtect_holds0

noncomputable def PlainProtect_n_t : Tree := .call 19 (Go.Sx.L2.yes Go.Sx.L2.f_messuagelaw11_begun).rel [] [] 0 0 (.letI (.rem (.v 0) (.c 3)) (.letI (.add (.v 1) (.c 3)) (.letI (.rem (.v 2) (.c 3)) (.letI (.add (.c 1) (.v 3)) (.call 77 (Go.Sx.L2.pNew1).rel [] [] 2 0 (.call 10 (Go.Sx.L2.qA).rel [.v 5, .v 6] [] 0 0 (.call 10 (Go.Sx.L2.qA).rel [.v 5, .v 6, .v 4] [] 0 0 (.call 10 (Go.Sx.L2.qA).rel [.v 5, .v 6, .v 4] [] 0 0 (.loop [.c (0), .v 4, .v 4] [] (.exit (.done [] [])))))))))))
theorem PlainProtect_n_tree : (lawSpec L2.f_messuagelaw11_PlainProtect [.nil, .one (.i .i64)]).exe Tryz.prog (withC (withA (withS (L2.cfgB Tryz.prog) [L2.pNew1]) L2.f_plain_Kernel_Do [L2.qA, L2.qP1, L2.qP2, L2.qP3, L2.qP4, L2.qP5, L2.qP6])) [{ f := L2.f_messuagelaw11_PlainProtect, reg := 10, ints := [(8, 0, 20), (7, 1, 3)], cells := [(6, [4, 0], 11, 1, 3)] }] 20 200 = PlainProtect_n_t := by kernel_rfl
theorem PlainProtect_n_vc (Q : List Int → List (List Int) → Prop) (v0 : Int) : PlainProtect_n_t.dn ⟨Q, []⟩ 1 [v0] 0 [] = ((Go.Sx.L2.yes Go.Sx.L2.f_messuagelaw11_begun).rel.pre [] [] ∧
((Go.Sx.L2.yes Go.Sx.L2.f_messuagelaw11_begun).rel.post [] [] [] [] → ∀ v1 : Int, v1 = (v0).tmod (3 : Int) → ∀ v2 : Int, v2 = v1 + (3 : Int) → ∀ v3 : Int, v3 = (v2).tmod (3 : Int) → ∀ v4 : Int, v4 = (1 : Int) + v3 → (Go.Sx.L2.pNew1).rel.pre [] [] ∧
(∀ v5 : Int, ∀ v6 : Int, (Go.Sx.L2.pNew1).rel.post [] [] [v5, v6] [] → (Go.Sx.L2.qA).rel.pre [v5, v6] [] ∧
((Go.Sx.L2.qA).rel.post [v5, v6] [] [] [] → (Go.Sx.L2.qA).rel.pre [v5, v6, v4] [] ∧
((Go.Sx.L2.qA).rel.post [v5, v6, v4] [] [] [] → (Go.Sx.L2.qA).rel.pre [v5, v6, v4] [] ∧
((Go.Sx.L2.qA).rel.post [v5, v6, v4] [] [] [] → ∃ (I0 : List Int → List (List Int) → Prop) (μ0 : List Int → List (List Int) → Nat), I0 [(0 : Int), v4, v4] [] ∧
(∀ v7 : Int, ∀ v8 : Int, ∀ v9 : Int, I0 [v7, v8, v9] [] →
 Q [] []))))))) := by kernel_rfl
set_option maxHeartbeats 4000000 in
theorem plainProtect_holds_n0 : (lawSpec L2.f_messuagelaw11_PlainProtect [.nil, .one (.i .i64)]).Holds Tryz.prog L2.ro := FSpec.holdsV (cfg := withC (withA (withS (L2.cfgB Tryz.prog) [L2.pNew1]) L2.f_plain_Kernel_Do [L2.qA, L2.qP1, L2.qP2, L2.qP3, L2.qP4, L2.qP5, L2.qP6])) [{ f := L2.f_messuagelaw11_PlainProtect, reg := 10, ints := [(8, 0, 20), (7, 1, 3)], cells := [(6, [4, 0], 11, 1, 3)] }] 20 200 (withC_ok (withA_ok (withS_ok cfgB_ok ⟨pNew1_holds, trivial⟩) (fun s hs => by
  simp only [List.mem_cons, List.not_mem_nil, or_false] at hs
  rcases hs with rfl | rfl | rfl | rfl | rfl | rfl | rfl <;> rfl) ⟨qA_holds, qP1_holds, qP2_holds, qP3_holds, qP4_holds, qP5_holds, qP6_holds, trivial⟩)) mixed (t := PlainProtect_n_t) PlainProtect_n_tree (by
  show ∀ (v0 : Int) , _
  intro v0  hp hr hl
  replace hr : ((-9223372036854775808 : Int) ≤ v0 ∧ v0 ≤ (9223372036854775807 : Int)) ∧ True := hr
  replace hp : True := hp
  show PlainProtect_n_t.dn ⟨_, []⟩ 1 [v0] 0 []
  rw [PlainProtect_n_vc]
  show ((L2.yes L2.f_messuagelaw11_begun).rel.pre [] [] ∧ _)
  refine ⟨trivial, fun _ => ?_⟩
  intro v3 e3 v4 e4 v5 e5 v6 e6
  refine ⟨trivial, fun v7 v8 _ => ?_⟩
  iterate 3 refine ⟨trivial, fun _ => ?_⟩
  exact ⟨fun _ _ => True, fun _ _ => 0, trivial, fun _ _ _ _ => trivial⟩)
theorem plainProtect_holds_n : ((lawSpec L2.f_messuagelaw11_PlainProtect [.nil, .one (.i .i64)]).withPre fun _ => True).Holds Tryz.prog L2.ro := holds_withPre _ plainProtect_holds_n0

theorem plainProtect_calls {H : Type} {enc : TypeId × Value → H} {W : World} {base : Nat} {args : Array Value} {ds : List (DataW H)} {p : List MemPlace} (hval : ∀ (j : Nat) t v, Tryz.f6.params[j]? = some t → args[j]? = some v → Value.okWide Tryz.prog W .any base t v)
    (hA : DataW.TrodAll enc Tryz.prog W 0 (fun _ => true) true Tryz.f6.params.toList args.toList ds p) (hL : laidMetH Tryz.prog laid1 W) : Calls Tryz.prog 6 args W fun e W' => e = .returned (.bool true) ∧ Go.Sx.Frame ⟨W, [], L2.ro⟩ W' := by
  rw [Tryz.params6] at hA hval
  obtain ⟨v0, v1, d0, d1, p0, p1, rfl, rfl, rfl, h0, h1⟩ := trodAll_two hA
  obtain ⟨n1, q1⟩ := par_int (base := 0) und3 (hval 1 3 v1 rfl rfl) h1
  rcases par_flats (base := 0) (f := 9) und57 flat3 cells3 (by decide) (hval 0 57 v0 rfl rfl) h0 with q0 | ⟨e0, q0⟩
  · exact law_calls (plainProtect_holds_n) Tryz.func6 (show Tryz.f6.body = some _ from rfl) (by kernel_rfl) (.cons q0 (.cons q1 .none)) trivial (ro_of_laid hL)
  · exact law_calls (plainProtect_holds) Tryz.func6 (show Tryz.f6.body = some _ from rfl) (by kernel_rfl) (.cons q0 (.cons q1 .none)) trivial (ro_of_laid hL)
set_option maxHeartbeats 1000000 in
theorem plainProtect_lifted (os : Os) (started : os.Started) (H : Type) (enc : TypeId × Value → H) :
    ReturnsInHanded {} Tryz.checked os 6 .any (fun w args => (Rows.plainProtectSpec.pre enc Tryz.prog Tryz.f6 [] false w args ∧ laidMetH Tryz.prog laid1 w) ∧ sizedMet enc Tryz.prog Tryz.f6 (OpenSpec.ofChange Rows.plainProtectSpec) false w args)
      (Rows.plainProtectSpec.post enc Tryz.prog Tryz.f6 false true false false) := by
  refine returnsInHanded_of_change_and (C := Tryz.checked) (X := fun w _ => laidMetH Tryz.prog laid1 w) (fun _ _ _ hh h => h.of_heap hh) Tryz.own started (by kernel_rfl) Tryz.func6
    (ChangeSpec.witness_at (enc := enc) (C := Tryz.checked) (os := os) (X := fun w _ => laidMetH Tryz.prog laid1 w) false (laidWorld os) #[.slice none 0 0, .int .i64 0] 8 rfl (by kernel_rfl) (by kernel_rfl) (by kernel_rfl) (by kernel_rfl) (by kernel_rfl) (laidWorld_met os _)) ?_
  intro W base args ds gs before hval0 hW _ _ hL _
  have hval : ∀ (j : Nat) t v, Tryz.f6.params[j]? = some t → args[j]? = some v → Value.okWide Tryz.prog W .any base t v := hval0
  have hW' := hW
  obtain ⟨p, q, hA0, hV0, rfl, hfz, hnd⟩ := hW
  have hcall := plainProtect_calls (enc := enc) hval hA0 hL
  refine Calls.mono hcall ?_
  rintro e W' ⟨rfl, hfr⟩
  exact ⟨_, rfl, post_kept Tryz.laidOut (by kernel_rfl) rfl rfl und4 hW' hfr (by
    have hg : gs = [] := by cases gs with | nil => rfl | cons g r => exact absurd hV0 (by intro h; cases h)
    subst hg
    have hA1 : DataW.TrodAll enc Tryz.prog W 0 (fun _ => true) true Tryz.f6.params.toList args.toList ds p := hA0
    rw [Tryz.params6] at hA1
    obtain ⟨v0, v1, d0, d1, p0, p1, ea, rfl, ec, h0, h1⟩ := trodAll_two hA1
    rfl)⟩

theorem plainProtect_row : Rows.PlainProtectSaid :=
  OpenClaim.holds_of_wide 6 Tryz.f6 rfl rfl rfl rfl rfl rfl rfl ⟨rfl, rfl, rfl, rfl, rfl⟩ rfl rfl rfl rfl rfl (by kernel_rfl) Tryz.func6 (restFacts.2 _ _ _ _ _ Tryz.mayEnter Tryz.liftsFinal Tryz.make (by kernel_rfl))
    (of_decide_eq_true (by kernel_rfl)) (by unfold Func.isWrapper; rw [if_neg (of_decide_eq_false (by kernel_rfl))]; exact ⟨rfl, rfl⟩)
    (fun os started H enc _ => plainProtect_lifted os started H enc)
theorem plainProtect_card : Rows.PlainProtectCardSaid :=
  Claim7.holds_tied_plain_at .later [] [.handle] true (true, "851eb3c6cb4eec7be8b282394a5029edcc67dd85afd058a13b27a4b6edc94801") true
    plainProtect_row (fun _ h => by cases h) (by kernel_rfl) (fun _ h => by cases h) plainProtect_row_tie rfl ⟨rfl, rfl⟩ Tryz.mainIs rfl
    (fun f fn hf hfn => by
      obtain rfl : f = 6 := Option.some.inj ((show Tryz.prog.funcNamed "messuage/messuagelaw11.PlainProtect" = some 6 by kernel_rfl).symm.trans hf) |>.symm
      obtain rfl : fn = Tryz.f6 := (Option.some.inj (Tryz.func6.symm.trans hfn)).symm
      exact ⟨by kernel_rfl, fun j t ht => by
        rw [Tryz.params6] at ht
        rcases j with _ | _ | j
        · obtain rfl : 57 = t := by simpa using ht
          exact (show Tryz.prog.wantsStandIn 57 = false by kernel_rfl)
        · obtain rfl : 3 = t := by simpa using ht
          exact (show Tryz.prog.wantsStandIn 3 = false by kernel_rfl)
        · simp at ht⟩)
    (by kernel_rfl)
#print axioms plainProtect_card
end Go.Proofs.YtbpilohnhhbbpaaGreatDoor
