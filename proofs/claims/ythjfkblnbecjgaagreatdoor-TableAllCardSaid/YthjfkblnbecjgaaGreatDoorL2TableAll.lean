/- The statement messuagelaw2.TableAll of the seat: for every input the law returns true; the condition: errors.errorType is as the program lays it. -/
import Derived.Test.YthjfkblnbecjgaaGreatDoorL2Tt
set_option linter.unusedVariables false
set_option linter.unusedSimpArgs false
open Go Go.Sx
namespace Go.Proofs.YthjfkblnbecjgaaGreatDoor
open Go.ChangeShapes Go.WideShapes Go.RowKit
set_option maxRecDepth 100000

noncomputable def TableAll_t : Tree := .call 25 (Go.Sx.L2.yes Go.Sx.L2.f_messuagelaw2_begun).rel [] [] 0 0 (.call 28 (Go.Sx.L2.tNew).rel [] [] 0 1 (.letL (.lit [.c (0), .c (0), .c (0), .c (0), .c (0), .c (0), .c (0), .c (0), .c (0), .c (0), .c (0), .c (0), .c (0), .c (0), .c (0), .c (0), .c (0), .c (0), .c (0), .c (0), .c (0), .c (0), .c (0), .c (0)]) (.loop [.c (0)] [1, 2] (.letI (.cmp .lss (.v 4) (.v 0)) (.ite (.v 5) (.letI (.cmp .lss (.v 4) (.c 40)) (.ite (.v 6) (.need .lss (.v 4) (.v 0) (.letI (.mul (.v 4) (.c 6)) (.need .lss (.v 7) (.v 2) (.letI (.get 0 (.v 7)) (.letI (.add (.v 7) (.c 1)) (.need .lss (.v 9) (.v 2) (.letI (.get 0 (.v 9)) (.letI (.add (.v 7) (.c 2)) (.need .lss (.v 11) (.v 2) (.letI (.get 0 (.v 11)) (.letI (.add (.v 7) (.c 3)) (.need .lss (.v 13) (.v 2) (.letI (.get 0 (.v 13)) (.letI (.add (.v 7) (.c 4)) (.need .lss (.v 15) (.v 2) (.letI (.get 0 (.v 15)) (.letI (.add (.v 7) (.c 5)) (.need .lss (.v 17) (.v 2) (.letI (.get 0 (.v 17)) (.letI (.cmp .leq (.c 0) (.v 10)) (.ite (.v 19) (.letI (.cmp .lss (.v 10) (.c 8)) (.ite (.v 20) (.letI (.mul (.v 10) (.c 3)) (.letI (.add (.v 21) (.c 2)) (.letI (.get 4 (.v 22)) (.letI (.cmp .neq (.v 23) (.c 0)) (.letI (.cmp .eql (.v 8) (.c 0)) (.ite (.v 25) (.call 77 (Go.Sx.L2.put_ 77).rel [.v 14, .v 16, .v 18] [] 2 0 (.letI (.not (.v 27)) (.ite (.v 28) (.call 29 (Go.Sx.L2.tInsert).rel [.v 10, .v 14, .v 16, .v 18] [3] 1 1 (.letI (.cmp .neq (.v 29) (.c 2)) (.ite (.v 30) (.exit (.fail 180)) (.letI (.add (.v 4) (.c 1)) (.again [.v 31] [5, 4]))))) (.letI (.cmp .eql (.v 18) (.c 0)) (.ite (.v 29) (.call 29 (Go.Sx.L2.tInsert).rel [.v 10, .v 14, .v 16, .v 18] [3] 1 1 (.letI (.cmp .neq (.v 30) (.c 2)) (.ite (.v 31) (.exit (.fail 180)) (.letI (.add (.v 4) (.c 1)) (.again [.v 32] [5, 4]))))) (.ite (.v 24) (.call 29 (Go.Sx.L2.tInsert).rel [.v 10, .v 14, .v 16, .v 18] [3] 1 1 (.letI (.cmp .neq (.v 30) (.c 4)) (.ite (.v 31) (.exit (.fail 180)) (.letI (.add (.v 4) (.c 1)) (.again [.v 32] [5, 4]))))) (.letL (.set 4 (.v 21) (.v 14)) (.letI (.add (.v 21) (.c 1)) (.letL (.set 5 (.v 30) (.v 16)) (.letL (.set 6 (.v 22) (.v 18)) (.call 29 (Go.Sx.L2.tInsert).rel [.v 10, .v 14, .v 16, .v 18] [3] 1 1 (.letI (.cmp .neq (.v 31) (.c 0)) (.ite (.v 32) (.exit (.fail 180)) (.letI (.add (.v 4) (.c 1)) (.again [.v 33] [8, 7]))))))))))))))) (.letI (.cmp .eql (.v 8) (.c 1)) (.ite (.v 26) (.call 95 (Go.Sx.L2.tRemove).rel [.v 10] [3] 4 1 (.letI (.get 4 (.v 21)) (.letI (.add (.v 21) (.c 1)) (.letI (.get 4 (.v 32)) (.ite (.v 24) (.letL (.set 4 (.v 21) (.c 0)) (.letL (.set 6 (.v 32) (.c 0)) (.letL (.set 7 (.v 22) (.c 0)) (.letI (.cmp .neq (.v 30) (.c 0)) (.ite (.v 34) (.exit (.fail 180)) (.letI (.cmp .eql (.v 27) (.v 31)) (.letI (.cmp .eql (.v 28) (.v 33)) (.letI (.cmp .eql (.v 23) (.v 29)) (.letI (.pick (.v 37) (.c 1) (.c 0)) (.letI (.pick (.v 36) (.v 38) (.c 0)) (.letI (.pick (.v 35) (.v 39) (.c 0)) (.letI (.not (.v 40)) (.ite (.v 41) (.exit (.fail 180)) (.letI (.add (.v 4) (.c 1)) (.again [.v 42] [5, 8]))))))))))))))) (.letL (.set 4 (.v 21) (.c 0)) (.letL (.set 6 (.v 32) (.c 0)) (.letL (.set 7 (.v 22) (.c 0)) (.letI (.cmp .neq (.v 30) (.c 3)) (.ite (.v 34) (.exit (.fail 180)) (.letI (.cmp .eql (.v 27) (.v 31)) (.letI (.cmp .eql (.v 28) (.v 33)) (.letI (.cmp .eql (.v 23) (.v 29)) (.letI (.pick (.v 37) (.c 1) (.c 0)) (.letI (.pick (.v 36) (.v 38) (.c 0)) (.letI (.pick (.v 35) (.v 39) (.c 0)) (.letI (.not (.v 40)) (.ite (.v 41) (.exit (.fail 180)) (.letI (.add (.v 4) (.c 1)) (.again [.v 42] [5, 8])))))))))))))))))))) (.letI (.cmp .leq (.c 1) (.v 12)) (.ite (.v 27) (.letI (.cmp .leq (.v 12) (.c 3)) (.letI (.not (.v 28)) (.ite (.v 29) (.call 96 (Go.Sx.L2.tProtect).rel [.v 10, .v 12] [3] 1 1 (.letI (.cmp .neq (.v 30) (.c 2)) (.ite (.v 31) (.exit (.fail 180)) (.letI (.add (.v 4) (.c 1)) (.again [.v 32] [5, 4]))))) (.letI (.not (.v 24)) (.ite (.v 30) (.call 96 (Go.Sx.L2.tProtect).rel [.v 10, .v 12] [3] 1 1 (.letI (.cmp .neq (.v 31) (.c 3)) (.ite (.v 32) (.exit (.fail 180)) (.letI (.add (.v 4) (.c 1)) (.again [.v 33] [5, 4]))))) (.letL (.set 4 (.v 22) (.v 12)) (.call 96 (Go.Sx.L2.tProtect).rel [.v 10, .v 12] [3] 1 1 (.letI (.cmp .neq (.v 31) (.c 0)) (.ite (.v 32) (.exit (.fail 180)) (.letI (.add (.v 4) (.c 1)) (.again [.v 33] [6, 5]))))))))))) (.call 96 (Go.Sx.L2.tProtect).rel [.v 10, .v 12] [3] 1 1 (.letI (.cmp .neq (.v 28) (.c 2)) (.ite (.v 29) (.exit (.fail 180)) (.letI (.add (.v 4) (.c 1)) (.again [.v 30] [5, 4]))))))))))))))) (.letI (.cmp .eql (.v 8) (.c 0)) (.ite (.v 21) (.call 77 (Go.Sx.L2.put_ 77).rel [.v 14, .v 16, .v 18] [] 2 0 (.call 29 (Go.Sx.L2.tInsert).rel [.v 10, .v 14, .v 16, .v 18] [3] 1 1 (.letI (.cmp .neq (.v 24) (.c 2)) (.ite (.v 25) (.exit (.fail 180)) (.letI (.add (.v 4) (.c 1)) (.again [.v 26] [5, 4])))))) (.letI (.cmp .eql (.v 8) (.c 1)) (.ite (.v 22) (.call 95 (Go.Sx.L2.tRemove).rel [.v 10] [3] 4 1 (.letI (.cmp .neq (.v 26) (.c 2)) (.ite (.v 27) (.exit (.fail 180)) (.letI (.cmp .eql (.v 23) (.c 0)) (.letI (.cmp .eql (.v 24) (.c 0)) (.letI (.cmp .eql (.v 25) (.c 0)) (.letI (.pick (.v 30) (.c 1) (.c 0)) (.letI (.pick (.v 29) (.v 31) (.c 0)) (.letI (.pick (.v 28) (.v 32) (.c 0)) (.letI (.not (.v 33)) (.ite (.v 34) (.exit (.fail 180)) (.letI (.add (.v 4) (.c 1)) (.again [.v 35] [5, 4]))))))))))))) (.call 96 (Go.Sx.L2.tProtect).rel [.v 10, .v 12] [3] 1 1 (.letI (.cmp .neq (.v 23) (.c 2)) (.ite (.v 24) (.exit (.fail 180)) (.letI (.add (.v 4) (.c 1)) (.again [.v 25] [5, 4]))))))))))) (.letI (.cmp .eql (.v 8) (.c 0)) (.ite (.v 20) (.call 77 (Go.Sx.L2.put_ 77).rel [.v 14, .v 16, .v 18] [] 2 0 (.call 29 (Go.Sx.L2.tInsert).rel [.v 10, .v 14, .v 16, .v 18] [3] 1 1 (.letI (.cmp .neq (.v 23) (.c 2)) (.ite (.v 24) (.exit (.fail 180)) (.letI (.add (.v 4) (.c 1)) (.again [.v 25] [5, 4])))))) (.letI (.cmp .eql (.v 8) (.c 1)) (.ite (.v 21) (.call 95 (Go.Sx.L2.tRemove).rel [.v 10] [3] 4 1 (.letI (.cmp .neq (.v 25) (.c 2)) (.ite (.v 26) (.exit (.fail 180)) (.letI (.cmp .eql (.v 22) (.c 0)) (.letI (.cmp .eql (.v 23) (.c 0)) (.letI (.cmp .eql (.v 24) (.c 0)) (.letI (.pick (.v 29) (.c 1) (.c 0)) (.letI (.pick (.v 28) (.v 30) (.c 0)) (.letI (.pick (.v 27) (.v 31) (.c 0)) (.letI (.not (.v 32)) (.ite (.v 33) (.exit (.fail 180)) (.letI (.add (.v 4) (.c 1)) (.again [.v 34] [5, 4]))))))))))))) (.call 96 (Go.Sx.L2.tProtect).rel [.v 10, .v 12] [3] 1 1 (.letI (.cmp .neq (.v 22) (.c 2)) (.ite (.v 23) (.exit (.fail 180)) (.letI (.add (.v 4) (.c 1)) (.again [.v 24] [5, 4])))))))))))))))))))))))))))))) (.exit (.call 97 (Go.Sx.L2.tWords).rel [] [3] 1 1 (.call 30 (Go.Sx.L2.tBy).rel [.v 3] [3] 2 1 (.loop [.c (0), .c (0)] [] (.letI (.cmp .lss (.v 10) (.c 8)) (.ite (.v 12) (.call 98 (Go.Sx.L2.tAt).rel [.v 10] [3] 4 0 (.letI (.mul (.v 10) (.c 3)) (.letI (.get 4 (.v 17)) (.letI (.add (.v 17) (.c 1)) (.letI (.get 4 (.v 19)) (.letI (.add (.v 17) (.c 2)) (.letI (.get 4 (.v 21)) (.call 77 (Go.Sx.L2.put_ 77).rel [.v 18, .v 20, .v 22] [] 2 0 (.letI (.cmp .eql (.v 13) (.v 18)) (.letI (.cmp .eql (.v 14) (.v 20)) (.letI (.cmp .eql (.v 15) (.v 22)) (.letI (.pick (.v 27) (.c 1) (.c 0)) (.letI (.pick (.v 26) (.v 28) (.c 0)) (.letI (.pick (.v 25) (.v 29) (.c 0)) (.letI (.not (.v 30)) (.ite (.v 31) (.exit (.fail 180)) (.letI (.cmp .neq (.v 22) (.c 0)) (.letI (.not (.v 16)) (.letI (.not (.v 32)) (.letI (.cmp .neq (.v 33) (.v 34)) (.ite (.v 35) (.exit (.fail 180)) (.letI (.get 5 (.v 10)) (.letI (.cmp .neq (.v 23) (.v 36)) (.ite (.v 37) (.exit (.fail 180)) (.ite (.v 32) (.letI (.cmp .eql (.v 3) (.v 20)) (.ite (.v 38) (.letI (.cmp .leq (.v 8) (.v 11)) (.ite (.v 39) (.exit (.fail 180)) (.need .lss (.v 11) (.v 8) (.need .lss (.v 11) (.v 8) (.letI (.get 6 (.v 11)) (.letI (.cmp .neq (.v 10) (.v 40)) (.ite (.v 41) (.exit (.fail 180)) (.letI (.add (.v 11) (.c 1)) (.letI (.add (.v 10) (.c 1)) (.need .leq (.v 42) (.c 8) (.again [.v 43, .v 42] []))))))))))) (.letI (.add (.v 10) (.c 1)) (.again [.v 39, .v 11] [])))) (.letI (.add (.v 10) (.c 1)) (.again [.v 38, .v 11] []))))))))))))))))))))))))))) (.exit (.call 98 (Go.Sx.L2.tAt).rel [.c (8)] [3] 4 0 (.letI (.cmp .eql (.v 8) (.v 11)) (.ite (.v 17) (.letI (.not (.v 16)) (.need .neq (.v 18) (.c 0) (.done [] []))) (.fail 180))))))))))))) (.exit (.call 97 (Go.Sx.L2.tWords).rel [] [3] 1 1 (.call 30 (Go.Sx.L2.tBy).rel [.v 3] [3] 2 1 (.loop [.c (0), .c (0)] [] (.letI (.cmp .lss (.v 9) (.c 8)) (.ite (.v 11) (.call 98 (Go.Sx.L2.tAt).rel [.v 9] [3] 4 0 (.letI (.mul (.v 9) (.c 3)) (.letI (.get 4 (.v 16)) (.letI (.add (.v 16) (.c 1)) (.letI (.get 4 (.v 18)) (.letI (.add (.v 16) (.c 2)) (.letI (.get 4 (.v 20)) (.call 77 (Go.Sx.L2.put_ 77).rel [.v 17, .v 19, .v 21] [] 2 0 (.letI (.cmp .eql (.v 12) (.v 17)) (.letI (.cmp .eql (.v 13) (.v 19)) (.letI (.cmp .eql (.v 14) (.v 21)) (.letI (.pick (.v 26) (.c 1) (.c 0)) (.letI (.pick (.v 25) (.v 27) (.c 0)) (.letI (.pick (.v 24) (.v 28) (.c 0)) (.letI (.not (.v 29)) (.ite (.v 30) (.exit (.fail 180)) (.letI (.cmp .neq (.v 21) (.c 0)) (.letI (.not (.v 15)) (.letI (.not (.v 31)) (.letI (.cmp .neq (.v 32) (.v 33)) (.ite (.v 34) (.exit (.fail 180)) (.letI (.get 5 (.v 9)) (.letI (.cmp .neq (.v 22) (.v 35)) (.ite (.v 36) (.exit (.fail 180)) (.ite (.v 31) (.letI (.cmp .eql (.v 3) (.v 19)) (.ite (.v 37) (.letI (.cmp .leq (.v 7) (.v 10)) (.ite (.v 38) (.exit (.fail 180)) (.need .lss (.v 10) (.v 7) (.need .lss (.v 10) (.v 7) (.letI (.get 6 (.v 10)) (.letI (.cmp .neq (.v 9) (.v 39)) (.ite (.v 40) (.exit (.fail 180)) (.letI (.add (.v 10) (.c 1)) (.letI (.add (.v 9) (.c 1)) (.need .leq (.v 41) (.c 8) (.again [.v 42, .v 41] []))))))))))) (.letI (.add (.v 9) (.c 1)) (.again [.v 38, .v 10] [])))) (.letI (.add (.v 9) (.c 1)) (.again [.v 37, .v 10] []))))))))))))))))))))))))))) (.exit (.call 98 (Go.Sx.L2.tAt).rel [.c (8)] [3] 4 0 (.letI (.cmp .eql (.v 7) (.v 10)) (.ite (.v 16) (.letI (.not (.v 15)) (.need .neq (.v 17) (.c 0) (.done [] []))) (.fail 180))))))))))))))))
theorem TableAll_tree : (lawSpec 24 [.slc L2.ks6, .one (.i .i64)]).exe Tryz.prog (withS (L2.cfg2 Tryz.prog) [L2.put_ 52, L2.put_ 77, L2.tNew, L2.tInsert, L2.tRemove, L2.tProtect, L2.tAt, L2.tWords, L2.tBy]) [{ f := 24, reg := 9, ints := [(8, 0, 40)], lists := [(6, [], some (-9223372036854775808, 9223372036854775807)), (7, [], some (-9223372036854775808, 9223372036854775807))] }, { f := 24, reg := 48, ints := [(163, 0, 8), (22, 0, 8)] }] 20 200 = TableAll_t := by kernel_rfl
theorem TableAll_vc (Q : List Int → List (List Int) → Prop) (v0 v1 v2 v3 : Int) (L0 : List Int) : TableAll_t.dn ⟨Q, []⟩ 4 [v3, v2, v1, v0] 1 [L0] = ((Go.Sx.L2.yes Go.Sx.L2.f_messuagelaw2_begun).rel.pre [] [] ∧
((Go.Sx.L2.yes Go.Sx.L2.f_messuagelaw2_begun).rel.post [] [] [] [] → (Go.Sx.L2.tNew).rel.pre [] [] ∧
(∀ L1 : List Int, (Go.Sx.L2.tNew).rel.post [] [] [] [L1] → ∀ L2 : List Int, L2 = [(0 : Int), (0 : Int), (0 : Int), (0 : Int), (0 : Int), (0 : Int), (0 : Int), (0 : Int), (0 : Int), (0 : Int), (0 : Int), (0 : Int), (0 : Int), (0 : Int), (0 : Int), (0 : Int), (0 : Int), (0 : Int), (0 : Int), (0 : Int), (0 : Int), (0 : Int), (0 : Int), (0 : Int)] → ∃ (I0 : List Int → List (List Int) → Prop) (μ0 : List Int → List (List Int) → Nat), I0 [(0 : Int)] [L1, L2] ∧
(∀ v4 : Int, ∀ L3 : List Int, ∀ L4 : List Int, I0 [v4] [L3, L4] →
 ((v4 < v0) → ((v4 < (40 : Int)) → (v4 < v0) ∧ ∀ v7 : Int, v7 = v4 * (6 : Int) → (v7 < v2) ∧ ∀ v8 : Int, v8 = (L0).getD (v7).toNat 0 → ∀ v9 : Int, v9 = v7 + (1 : Int) → (v9 < v2) ∧ ∀ v10 : Int, v10 = (L0).getD (v9).toNat 0 → ∀ v11 : Int, v11 = v7 + (2 : Int) → (v11 < v2) ∧ ∀ v12 : Int, v12 = (L0).getD (v11).toNat 0 → ∀ v13 : Int, v13 = v7 + (3 : Int) → (v13 < v2) ∧ ∀ v14 : Int, v14 = (L0).getD (v13).toNat 0 → ∀ v15 : Int, v15 = v7 + (4 : Int) → (v15 < v2) ∧ ∀ v16 : Int, v16 = (L0).getD (v15).toNat 0 → ∀ v17 : Int, v17 = v7 + (5 : Int) → (v17 < v2) ∧ ∀ v18 : Int, v18 = (L0).getD (v17).toNat 0 → (((0 : Int) ≤ v10) → ((v10 < (8 : Int)) → ∀ v21 : Int, v21 = v10 * (3 : Int) → ∀ v22 : Int, v22 = v21 + (2 : Int) → ∀ v23 : Int, v23 = (L4).getD (v22).toNat 0 → ∀ v24 : Int, v24 = b2i (v23 != (0 : Int)) → ((v8 = (0 : Int)) → (Go.Sx.L2.put_ 77).rel.pre [v14, v16, v18] [] ∧
(∀ v26 : Int, ∀ v27 : Int, (Go.Sx.L2.put_ 77).rel.post [v14, v16, v18] [] [v26, v27] [] → ∀ v28 : Int, v28 = b2i (v27 == 0) → (v28 ≠ 0 → (Go.Sx.L2.tInsert).rel.pre [v10, v14, v16, v18] [L3] ∧
(∀ v29 : Int, ∀ L5 : List Int, (Go.Sx.L2.tInsert).rel.post [v10, v14, v16, v18] [L3] [v29] [L5] → ((v29 ≠ (2 : Int)) → False) ∧
((v29 = (2 : Int)) → ∀ v31 : Int, v31 = v4 + (1 : Int) → (I0 [v31] [L5, L4] ∧ μ0 [v31] [L5, L4] < μ0 [v4] [L3, L4])))) ∧
(v28 = 0 → ((v18 = (0 : Int)) → (Go.Sx.L2.tInsert).rel.pre [v10, v14, v16, v18] [L3] ∧
(∀ v30 : Int, ∀ L5 : List Int, (Go.Sx.L2.tInsert).rel.post [v10, v14, v16, v18] [L3] [v30] [L5] → ((v30 ≠ (2 : Int)) → False) ∧
((v30 = (2 : Int)) → ∀ v32 : Int, v32 = v4 + (1 : Int) → (I0 [v32] [L5, L4] ∧ μ0 [v32] [L5, L4] < μ0 [v4] [L3, L4])))) ∧
((v18 ≠ (0 : Int)) → (v24 ≠ 0 → (Go.Sx.L2.tInsert).rel.pre [v10, v14, v16, v18] [L3] ∧
(∀ v30 : Int, ∀ L5 : List Int, (Go.Sx.L2.tInsert).rel.post [v10, v14, v16, v18] [L3] [v30] [L5] → ((v30 ≠ (4 : Int)) → False) ∧
((v30 = (4 : Int)) → ∀ v32 : Int, v32 = v4 + (1 : Int) → (I0 [v32] [L5, L4] ∧ μ0 [v32] [L5, L4] < μ0 [v4] [L3, L4])))) ∧
(v24 = 0 → ∀ L5 : List Int, L5 = (L4).set (v21).toNat v14 → ∀ v30 : Int, v30 = v21 + (1 : Int) → ∀ L6 : List Int, L6 = (L5).set (v30).toNat v16 → ∀ L7 : List Int, L7 = (L6).set (v22).toNat v18 → (Go.Sx.L2.tInsert).rel.pre [v10, v14, v16, v18] [L3] ∧
(∀ v31 : Int, ∀ L8 : List Int, (Go.Sx.L2.tInsert).rel.post [v10, v14, v16, v18] [L3] [v31] [L8] → ((v31 ≠ (0 : Int)) → False) ∧
((v31 = (0 : Int)) → ∀ v33 : Int, v33 = v4 + (1 : Int) → (I0 [v33] [L8, L7] ∧ μ0 [v33] [L8, L7] < μ0 [v4] [L3, L4])))))))) ∧
((v8 ≠ (0 : Int)) → ((v8 = (1 : Int)) → (Go.Sx.L2.tRemove).rel.pre [v10] [L3] ∧
(∀ v27 : Int, ∀ v28 : Int, ∀ v29 : Int, ∀ v30 : Int, ∀ L5 : List Int, (Go.Sx.L2.tRemove).rel.post [v10] [L3] [v27, v28, v29, v30] [L5] → ∀ v31 : Int, v31 = (L4).getD (v21).toNat 0 → ∀ v32 : Int, v32 = v21 + (1 : Int) → ∀ v33 : Int, v33 = (L4).getD (v32).toNat 0 → (v24 ≠ 0 → ∀ L6 : List Int, L6 = (L4).set (v21).toNat (0 : Int) → ∀ L7 : List Int, L7 = (L6).set (v32).toNat (0 : Int) → ∀ L8 : List Int, L8 = (L7).set (v22).toNat (0 : Int) → ((v30 ≠ (0 : Int)) → False) ∧
((v30 = (0 : Int)) → ∀ v35 : Int, v35 = b2i (v27 == v31) → ∀ v36 : Int, v36 = b2i (v28 == v33) → ∀ v37 : Int, v37 = b2i (v23 == v29) → ∀ v38 : Int, v38 = (if v37 = 0 then (0 : Int) else (1 : Int)) → ∀ v39 : Int, v39 = (if v36 = 0 then (0 : Int) else v38) → ∀ v40 : Int, v40 = (if v35 = 0 then (0 : Int) else v39) → ∀ v41 : Int, v41 = b2i (v40 == 0) → (v41 ≠ 0 → False) ∧
(v41 = 0 → ∀ v42 : Int, v42 = v4 + (1 : Int) → (I0 [v42] [L5, L8] ∧ μ0 [v42] [L5, L8] < μ0 [v4] [L3, L4])))) ∧
(v24 = 0 → ∀ L6 : List Int, L6 = (L4).set (v21).toNat (0 : Int) → ∀ L7 : List Int, L7 = (L6).set (v32).toNat (0 : Int) → ∀ L8 : List Int, L8 = (L7).set (v22).toNat (0 : Int) → ((v30 ≠ (3 : Int)) → False) ∧
((v30 = (3 : Int)) → ∀ v35 : Int, v35 = b2i (v27 == v31) → ∀ v36 : Int, v36 = b2i (v28 == v33) → ∀ v37 : Int, v37 = b2i (v23 == v29) → ∀ v38 : Int, v38 = (if v37 = 0 then (0 : Int) else (1 : Int)) → ∀ v39 : Int, v39 = (if v36 = 0 then (0 : Int) else v38) → ∀ v40 : Int, v40 = (if v35 = 0 then (0 : Int) else v39) → ∀ v41 : Int, v41 = b2i (v40 == 0) → (v41 ≠ 0 → False) ∧
(v41 = 0 → ∀ v42 : Int, v42 = v4 + (1 : Int) → (I0 [v42] [L5, L8] ∧ μ0 [v42] [L5, L8] < μ0 [v4] [L3, L4])))))) ∧
((v8 ≠ (1 : Int)) → (((1 : Int) ≤ v12) → ∀ v28 : Int, v28 = b2i (decide (v12 ≤ (3 : Int))) → ∀ v29 : Int, v29 = b2i (v28 == 0) → (v29 ≠ 0 → (Go.Sx.L2.tProtect).rel.pre [v10, v12] [L3] ∧
(∀ v30 : Int, ∀ L5 : List Int, (Go.Sx.L2.tProtect).rel.post [v10, v12] [L3] [v30] [L5] → ((v30 ≠ (2 : Int)) → False) ∧
((v30 = (2 : Int)) → ∀ v32 : Int, v32 = v4 + (1 : Int) → (I0 [v32] [L5, L4] ∧ μ0 [v32] [L5, L4] < μ0 [v4] [L3, L4])))) ∧
(v29 = 0 → ∀ v30 : Int, v30 = b2i (v24 == 0) → (v30 ≠ 0 → (Go.Sx.L2.tProtect).rel.pre [v10, v12] [L3] ∧
(∀ v31 : Int, ∀ L5 : List Int, (Go.Sx.L2.tProtect).rel.post [v10, v12] [L3] [v31] [L5] → ((v31 ≠ (3 : Int)) → False) ∧
((v31 = (3 : Int)) → ∀ v33 : Int, v33 = v4 + (1 : Int) → (I0 [v33] [L5, L4] ∧ μ0 [v33] [L5, L4] < μ0 [v4] [L3, L4])))) ∧
(v30 = 0 → ∀ L5 : List Int, L5 = (L4).set (v22).toNat v12 → (Go.Sx.L2.tProtect).rel.pre [v10, v12] [L3] ∧
(∀ v31 : Int, ∀ L6 : List Int, (Go.Sx.L2.tProtect).rel.post [v10, v12] [L3] [v31] [L6] → ((v31 ≠ (0 : Int)) → False) ∧
((v31 = (0 : Int)) → ∀ v33 : Int, v33 = v4 + (1 : Int) → (I0 [v33] [L6, L5] ∧ μ0 [v33] [L6, L5] < μ0 [v4] [L3, L4])))))) ∧
((v12 < (1 : Int)) → (Go.Sx.L2.tProtect).rel.pre [v10, v12] [L3] ∧
(∀ v28 : Int, ∀ L5 : List Int, (Go.Sx.L2.tProtect).rel.post [v10, v12] [L3] [v28] [L5] → ((v28 ≠ (2 : Int)) → False) ∧
((v28 = (2 : Int)) → ∀ v30 : Int, v30 = v4 + (1 : Int) → (I0 [v30] [L5, L4] ∧ μ0 [v30] [L5, L4] < μ0 [v4] [L3, L4]))))))) ∧
(((8 : Int) ≤ v10) → ((v8 = (0 : Int)) → (Go.Sx.L2.put_ 77).rel.pre [v14, v16, v18] [] ∧
(∀ v22 : Int, ∀ v23 : Int, (Go.Sx.L2.put_ 77).rel.post [v14, v16, v18] [] [v22, v23] [] → (Go.Sx.L2.tInsert).rel.pre [v10, v14, v16, v18] [L3] ∧
(∀ v24 : Int, ∀ L5 : List Int, (Go.Sx.L2.tInsert).rel.post [v10, v14, v16, v18] [L3] [v24] [L5] → ((v24 ≠ (2 : Int)) → False) ∧
((v24 = (2 : Int)) → ∀ v26 : Int, v26 = v4 + (1 : Int) → (I0 [v26] [L5, L4] ∧ μ0 [v26] [L5, L4] < μ0 [v4] [L3, L4]))))) ∧
((v8 ≠ (0 : Int)) → ((v8 = (1 : Int)) → (Go.Sx.L2.tRemove).rel.pre [v10] [L3] ∧
(∀ v23 : Int, ∀ v24 : Int, ∀ v25 : Int, ∀ v26 : Int, ∀ L5 : List Int, (Go.Sx.L2.tRemove).rel.post [v10] [L3] [v23, v24, v25, v26] [L5] → ((v26 ≠ (2 : Int)) → False) ∧
((v26 = (2 : Int)) → ∀ v28 : Int, v28 = b2i (v23 == (0 : Int)) → ∀ v29 : Int, v29 = b2i (v24 == (0 : Int)) → ∀ v30 : Int, v30 = b2i (v25 == (0 : Int)) → ∀ v31 : Int, v31 = (if v30 = 0 then (0 : Int) else (1 : Int)) → ∀ v32 : Int, v32 = (if v29 = 0 then (0 : Int) else v31) → ∀ v33 : Int, v33 = (if v28 = 0 then (0 : Int) else v32) → ∀ v34 : Int, v34 = b2i (v33 == 0) → (v34 ≠ 0 → False) ∧
(v34 = 0 → ∀ v35 : Int, v35 = v4 + (1 : Int) → (I0 [v35] [L5, L4] ∧ μ0 [v35] [L5, L4] < μ0 [v4] [L3, L4]))))) ∧
((v8 ≠ (1 : Int)) → (Go.Sx.L2.tProtect).rel.pre [v10, v12] [L3] ∧
(∀ v23 : Int, ∀ L5 : List Int, (Go.Sx.L2.tProtect).rel.post [v10, v12] [L3] [v23] [L5] → ((v23 ≠ (2 : Int)) → False) ∧
((v23 = (2 : Int)) → ∀ v25 : Int, v25 = v4 + (1 : Int) → (I0 [v25] [L5, L4] ∧ μ0 [v25] [L5, L4] < μ0 [v4] [L3, L4]))))))) ∧
((v10 < (0 : Int)) → ((v8 = (0 : Int)) → (Go.Sx.L2.put_ 77).rel.pre [v14, v16, v18] [] ∧
(∀ v21 : Int, ∀ v22 : Int, (Go.Sx.L2.put_ 77).rel.post [v14, v16, v18] [] [v21, v22] [] → (Go.Sx.L2.tInsert).rel.pre [v10, v14, v16, v18] [L3] ∧
(∀ v23 : Int, ∀ L5 : List Int, (Go.Sx.L2.tInsert).rel.post [v10, v14, v16, v18] [L3] [v23] [L5] → ((v23 ≠ (2 : Int)) → False) ∧
((v23 = (2 : Int)) → ∀ v25 : Int, v25 = v4 + (1 : Int) → (I0 [v25] [L5, L4] ∧ μ0 [v25] [L5, L4] < μ0 [v4] [L3, L4]))))) ∧
((v8 ≠ (0 : Int)) → ((v8 = (1 : Int)) → (Go.Sx.L2.tRemove).rel.pre [v10] [L3] ∧
(∀ v22 : Int, ∀ v23 : Int, ∀ v24 : Int, ∀ v25 : Int, ∀ L5 : List Int, (Go.Sx.L2.tRemove).rel.post [v10] [L3] [v22, v23, v24, v25] [L5] → ((v25 ≠ (2 : Int)) → False) ∧
((v25 = (2 : Int)) → ∀ v27 : Int, v27 = b2i (v22 == (0 : Int)) → ∀ v28 : Int, v28 = b2i (v23 == (0 : Int)) → ∀ v29 : Int, v29 = b2i (v24 == (0 : Int)) → ∀ v30 : Int, v30 = (if v29 = 0 then (0 : Int) else (1 : Int)) → ∀ v31 : Int, v31 = (if v28 = 0 then (0 : Int) else v30) → ∀ v32 : Int, v32 = (if v27 = 0 then (0 : Int) else v31) → ∀ v33 : Int, v33 = b2i (v32 == 0) → (v33 ≠ 0 → False) ∧
(v33 = 0 → ∀ v34 : Int, v34 = v4 + (1 : Int) → (I0 [v34] [L5, L4] ∧ μ0 [v34] [L5, L4] < μ0 [v4] [L3, L4]))))) ∧
((v8 ≠ (1 : Int)) → (Go.Sx.L2.tProtect).rel.pre [v10, v12] [L3] ∧
(∀ v22 : Int, ∀ L5 : List Int, (Go.Sx.L2.tProtect).rel.post [v10, v12] [L3] [v22] [L5] → ((v22 ≠ (2 : Int)) → False) ∧
((v22 = (2 : Int)) → ∀ v24 : Int, v24 = v4 + (1 : Int) → (I0 [v24] [L5, L4] ∧ μ0 [v24] [L5, L4] < μ0 [v4] [L3, L4]))))))) ∧
(((40 : Int) ≤ v4) → (Go.Sx.L2.tWords).rel.pre [] [L3] ∧
(∀ v7 : Int, ∀ L5 : List Int, (Go.Sx.L2.tWords).rel.post [] [L3] [v7] [L5] → (Go.Sx.L2.tBy).rel.pre [v3] [L3] ∧
(∀ v8 : Int, ∀ v9 : Int, ∀ L6 : List Int, (Go.Sx.L2.tBy).rel.post [v3] [L3] [v8, v9] [L6] → ∃ (I1 : List Int → List (List Int) → Prop) (μ1 : List Int → List (List Int) → Nat), I1 [(0 : Int), (0 : Int)] [] ∧
(∀ v10 : Int, ∀ v11 : Int, I1 [v10, v11] [] →
 ((v10 < (8 : Int)) → (Go.Sx.L2.tAt).rel.pre [v10] [L3] ∧
(∀ v13 : Int, ∀ v14 : Int, ∀ v15 : Int, ∀ v16 : Int, (Go.Sx.L2.tAt).rel.post [v10] [L3] [v13, v14, v15, v16] [] → ∀ v17 : Int, v17 = v10 * (3 : Int) → ∀ v18 : Int, v18 = (L4).getD (v17).toNat 0 → ∀ v19 : Int, v19 = v17 + (1 : Int) → ∀ v20 : Int, v20 = (L4).getD (v19).toNat 0 → ∀ v21 : Int, v21 = v17 + (2 : Int) → ∀ v22 : Int, v22 = (L4).getD (v21).toNat 0 → (Go.Sx.L2.put_ 77).rel.pre [v18, v20, v22] [] ∧
(∀ v23 : Int, ∀ v24 : Int, (Go.Sx.L2.put_ 77).rel.post [v18, v20, v22] [] [v23, v24] [] → ∀ v25 : Int, v25 = b2i (v13 == v18) → ∀ v26 : Int, v26 = b2i (v14 == v20) → ∀ v27 : Int, v27 = b2i (v15 == v22) → ∀ v28 : Int, v28 = (if v27 = 0 then (0 : Int) else (1 : Int)) → ∀ v29 : Int, v29 = (if v26 = 0 then (0 : Int) else v28) → ∀ v30 : Int, v30 = (if v25 = 0 then (0 : Int) else v29) → ∀ v31 : Int, v31 = b2i (v30 == 0) → (v31 ≠ 0 → False) ∧
(v31 = 0 → ∀ v32 : Int, v32 = b2i (v22 != (0 : Int)) → ∀ v33 : Int, v33 = b2i (v16 == 0) → ∀ v34 : Int, v34 = b2i (v32 == 0) → ((v33 ≠ v34) → False) ∧
((v33 = v34) → ∀ v36 : Int, v36 = (L5).getD (v10).toNat 0 → ((v23 ≠ v36) → False) ∧
((v23 = v36) → (v32 ≠ 0 → ((v3 = v20) → ((v8 ≤ v11) → False) ∧
((v11 < v8) → (v11 < v8) ∧ (v11 < v8) ∧ ∀ v40 : Int, v40 = (L6).getD (v11).toNat 0 → ((v10 ≠ v40) → False) ∧
((v10 = v40) → ∀ v42 : Int, v42 = v11 + (1 : Int) → ∀ v43 : Int, v43 = v10 + (1 : Int) → (v42 ≤ (8 : Int)) ∧ (I1 [v43, v42] [] ∧ μ1 [v43, v42] [] < μ1 [v10, v11] [])))) ∧
((v3 ≠ v20) → ∀ v39 : Int, v39 = v10 + (1 : Int) → (I1 [v39, v11] [] ∧ μ1 [v39, v11] [] < μ1 [v10, v11] []))) ∧
(v32 = 0 → ∀ v38 : Int, v38 = v10 + (1 : Int) → (I1 [v38, v11] [] ∧ μ1 [v38, v11] [] < μ1 [v10, v11] [])))))))) ∧
(((8 : Int) ≤ v10) → (Go.Sx.L2.tAt).rel.pre [(8 : Int)] [L3] ∧
(∀ v13 : Int, ∀ v14 : Int, ∀ v15 : Int, ∀ v16 : Int, (Go.Sx.L2.tAt).rel.post [(8 : Int)] [L3] [v13, v14, v15, v16] [] → ((v8 = v11) → ∀ v18 : Int, v18 = b2i (v16 == 0) → (v18 ≠ (0 : Int)) ∧ Q [] []) ∧
((v8 ≠ v11) → False)))))))) ∧
((v0 ≤ v4) → (Go.Sx.L2.tWords).rel.pre [] [L3] ∧
(∀ v6 : Int, ∀ L5 : List Int, (Go.Sx.L2.tWords).rel.post [] [L3] [v6] [L5] → (Go.Sx.L2.tBy).rel.pre [v3] [L3] ∧
(∀ v7 : Int, ∀ v8 : Int, ∀ L6 : List Int, (Go.Sx.L2.tBy).rel.post [v3] [L3] [v7, v8] [L6] → ∃ (I1 : List Int → List (List Int) → Prop) (μ1 : List Int → List (List Int) → Nat), I1 [(0 : Int), (0 : Int)] [] ∧
(∀ v9 : Int, ∀ v10 : Int, I1 [v9, v10] [] →
 ((v9 < (8 : Int)) → (Go.Sx.L2.tAt).rel.pre [v9] [L3] ∧
(∀ v12 : Int, ∀ v13 : Int, ∀ v14 : Int, ∀ v15 : Int, (Go.Sx.L2.tAt).rel.post [v9] [L3] [v12, v13, v14, v15] [] → ∀ v16 : Int, v16 = v9 * (3 : Int) → ∀ v17 : Int, v17 = (L4).getD (v16).toNat 0 → ∀ v18 : Int, v18 = v16 + (1 : Int) → ∀ v19 : Int, v19 = (L4).getD (v18).toNat 0 → ∀ v20 : Int, v20 = v16 + (2 : Int) → ∀ v21 : Int, v21 = (L4).getD (v20).toNat 0 → (Go.Sx.L2.put_ 77).rel.pre [v17, v19, v21] [] ∧
(∀ v22 : Int, ∀ v23 : Int, (Go.Sx.L2.put_ 77).rel.post [v17, v19, v21] [] [v22, v23] [] → ∀ v24 : Int, v24 = b2i (v12 == v17) → ∀ v25 : Int, v25 = b2i (v13 == v19) → ∀ v26 : Int, v26 = b2i (v14 == v21) → ∀ v27 : Int, v27 = (if v26 = 0 then (0 : Int) else (1 : Int)) → ∀ v28 : Int, v28 = (if v25 = 0 then (0 : Int) else v27) → ∀ v29 : Int, v29 = (if v24 = 0 then (0 : Int) else v28) → ∀ v30 : Int, v30 = b2i (v29 == 0) → (v30 ≠ 0 → False) ∧
(v30 = 0 → ∀ v31 : Int, v31 = b2i (v21 != (0 : Int)) → ∀ v32 : Int, v32 = b2i (v15 == 0) → ∀ v33 : Int, v33 = b2i (v31 == 0) → ((v32 ≠ v33) → False) ∧
((v32 = v33) → ∀ v35 : Int, v35 = (L5).getD (v9).toNat 0 → ((v22 ≠ v35) → False) ∧
((v22 = v35) → (v31 ≠ 0 → ((v3 = v19) → ((v7 ≤ v10) → False) ∧
((v10 < v7) → (v10 < v7) ∧ (v10 < v7) ∧ ∀ v39 : Int, v39 = (L6).getD (v10).toNat 0 → ((v9 ≠ v39) → False) ∧
((v9 = v39) → ∀ v41 : Int, v41 = v10 + (1 : Int) → ∀ v42 : Int, v42 = v9 + (1 : Int) → (v41 ≤ (8 : Int)) ∧ (I1 [v42, v41] [] ∧ μ1 [v42, v41] [] < μ1 [v9, v10] [])))) ∧
((v3 ≠ v19) → ∀ v38 : Int, v38 = v9 + (1 : Int) → (I1 [v38, v10] [] ∧ μ1 [v38, v10] [] < μ1 [v9, v10] []))) ∧
(v31 = 0 → ∀ v37 : Int, v37 = v9 + (1 : Int) → (I1 [v37, v10] [] ∧ μ1 [v37, v10] [] < μ1 [v9, v10] [])))))))) ∧
(((8 : Int) ≤ v9) → (Go.Sx.L2.tAt).rel.pre [(8 : Int)] [L3] ∧
(∀ v12 : Int, ∀ v13 : Int, ∀ v14 : Int, ∀ v15 : Int, (Go.Sx.L2.tAt).rel.post [(8 : Int)] [L3] [v12, v13, v14, v15] [] → ((v7 = v10) → ∀ v17 : Int, v17 = b2i (v15 == 0) → (v17 ≠ (0 : Int)) ∧ Q [] []) ∧
((v7 ≠ v10) → False))))))))))) := by kernel_rfl
set_option maxHeartbeats 4000000 in
theorem tableAll_holds0 : (lawSpec 24 [.slc L2.ks6, .one (.i .i64)]).Holds Tryz.prog L2.ro := FSpec.holdsV (cfg := withS (L2.cfg2 Tryz.prog) [L2.put_ 52, L2.put_ 77, L2.tNew, L2.tInsert, L2.tRemove, L2.tProtect, L2.tAt, L2.tWords, L2.tBy]) [{ f := 24, reg := 9, ints := [(8, 0, 40)], lists := [(6, [], some (-9223372036854775808, 9223372036854775807)), (7, [], some (-9223372036854775808, 9223372036854775807))] }, { f := 24, reg := 48, ints := [(163, 0, 8), (22, 0, 8)] }] 20 200 (withS_ok cfg2_ok ⟨pPut_holds, rPte_holds, tNew_holds, tInsert_holds, tRemove_holds, tProtect_holds, tAt_holds, tWords_holds, tBy_holds, trivial⟩) mixed (t := TableAll_t) TableAll_tree (by
  show ∀ (v0 v1 v2 v3 : Int) (L0 : List Int), _
  intro v0 v1 v2 v3 L0 hp hr hl
  replace hr : ((0 : Int) ≤ v0 ∧ v0 ≤ (9223372036854775807 : Int)) ∧ ((0 : Int) ≤ v1 ∧ v1 ≤ (9223372036854775807 : Int)) ∧ ((0 : Int) ≤ v2 ∧ v2 ≤ (9223372036854775807 : Int) * ((6 : Nat) : Int)) ∧ ((-9223372036854775808 : Int) ≤ v3 ∧ v3 ≤ (9223372036854775807 : Int)) ∧ True := hr
  replace hp : (True ∧ ((0 : Int) ≤ v0 ∧ v0 ≤ v1 ∧ (L0.length : Int) = v0 * ((6 : Nat) : Int) ∧ ((6 : Nat) ≠ 1 → v2 = v0 * ((6 : Nat) : Int)) ∧ ∀ j, j < L0.length → ((oneKind L2.ks6).getD (j % (oneKind L2.ks6).length) (.i .i64)).lo ≤ L0.getD j 0 ∧ L0.getD j 0 ≤ ((oneKind L2.ks6).getD (j % (oneKind L2.ks6).length) (.i .i64)).hi)) := hp
  show TableAll_t.dn ⟨_, []⟩ 4 [v3, v2, v1, v0] 1 [L0]
  rw [TableAll_vc]
  show ((L2.yes L2.f_messuagelaw2_begun).rel.pre [] [] ∧ _)
  refine ⟨trivial, fun _ => ?_⟩
  refine ⟨trivial, fun T0 hT0 => ?_⟩
  have hT0 : T0 = List.replicate 24 0 := by
    have : [T0] = [List.replicate 24 (0 : Int)] := hT0.2
    simpa using this
  intro W0 eW0
  have eW0 : W0 = List.replicate 24 0 := eW0
  refine ⟨fun xs ys => match xs, ys with | [i], [T, W] => 0 ≤ i ∧ T = W ∧ WSt W | _, _ => False, fun xs _ => match xs with | i :: _ => (40 - i).toNat | _ => 0, ?_, ?_⟩ <;> dsimp only
  · rw [hT0, eW0]; exact ⟨by omega, rfl, WSt.start⟩
  · intro i T W hI
    obtain ⟨i0, rfl, hW⟩ := hI
    have hWW := hW
    revert hW hWW
    generalize T = W
    intro hW hWW
    have same := fun (p : Int) (a : 0 ≤ p) (b : p < 8) (c : tG W p 2 = 0) => hW.same a b c
    have zat := fun (p : Int) (a : 0 ≤ p) (b : p < 8) (c : tG W p 2 = 0) => hW.at a b c
    refine ⟨fun c1 => ⟨fun c2 => ⟨c1, ?_⟩, fun c2 => ?_⟩, fun c1 => ?_⟩
    · have hv2 : v2 = v0 * 6 := by have := hp.2.2.2.2.1 (by decide); omega
      clear hp hr hl hT0 eW0
      simp only [fnSpec_post, fnSpec_pre, true_and, List.cons.injEq, and_true, List.getD_cons_zero, List.getD_cons_succ, and_imp, forall_eq, b2i_zero, b2i_eq, ne_eq, Bool.not_eq_false, Bool.not_eq_true', Bool.not_eq_false', decide_eq_true_eq, decide_eq_false_iff_not, Int.not_lt, Int.not_le, eq3]
      repeat' first | refine And.intro ?_ ?_ | intro _
      all_goals first | omega | skip
      all_goals first | (refine WSt.set hW (by omega) (by omega) (by omega); done) | (refine WSt.pro hW (by omega) (by omega) (by omega); done) | (exact hW) | skip
      all_goals clear c1 c2 hv2
      all_goals first
        | grind [insE, insL, tSet3, pageOk, tG, b2i]
        | grind [remE, remL, remV, tSet3, pageOk, tG, b2i]
        | grind [proE, proL, tSet3, pageOk, tG, b2i, rightsB]
    ·
      refine ⟨trivial, fun cw Lw hw => ?_⟩
      have hw : Lw = wordsL W := by
        have : [Lw] = [wordsL W] := hw
        simpa using this
      refine ⟨trivial, fun bn bc Lb hb => ?_⟩
      have hb : bn = ((byUp W v3 8).length : Int) ∧ bn ≤ bc ∧ [Lb] = [byUp W v3 8] := hb
      obtain ⟨hbn, _, hbl⟩ := hb
      have hbl : Lb = byUp W v3 8 := by simpa using hbl
      refine ⟨fun xs _ => match xs with | [i, n] => 0 ≤ i ∧ i ≤ 8 ∧ n = ((byUp W v3 i.toNat).length : Int) | _ => False, fun xs _ => match xs with | i :: _ => (8 - i).toNat | _ => 0, ?_, ?_⟩ <;> dsimp only
      · exact ⟨by omega, by omega, rfl⟩
      · intro i n hI2
        obtain ⟨i0', i8', hn⟩ := hI2
        obtain ⟨k, rfl⟩ : ∃ k : Nat, i = k := ⟨i.toNat, by omega⟩
        rw [Int.toNat_natCast] at hn
        have hnk := byUp_len W v3 k
        refine ⟨fun c3 => ?_, fun c3 => ?_⟩
        · have hk : k < 8 := by omega
          have hat := atV_ok hW hk
          have hword := wordsL_at (T := W) hk
          refine ⟨trivial, fun a0 a1 a2 ao ha => ?_⟩
          have ha : [a0, a1, a2, ao] = [atV W k 0, atV W k 1, atV W k 2, b2i (atOk W k)] := ha.1
          simp only [List.cons.injEq, and_true] at ha
          obtain ⟨h0, h1, h2, ho⟩ := ha
          intro x12 e12 x13 e13 x14 e14 x15 e15 x16 e16 x17 e17
          have g0 : x13 = tG W k 0 := by rw [e13, e12]; unfold tG; rw [Int.add_zero]
          have g1 : x15 = tG W k 1 := by rw [e15, e14, e12]; rfl
          have g2 : x17 = tG W k 2 := by rw [e17, e16, e12]; rfl
          refine ⟨trivial, fun p po hp => ?_⟩
          have hp : [p, po] = [pteN x13 x15 x17, b2i (pteOk x13 x15 x17)] := hp
          simp only [List.cons.injEq, and_true] at hp
          obtain ⟨hp, _⟩ := hp
          intro y0 f0 y1 f1 y2 f2 z0 d0 z1 d1 z2 d2 q hq
          have hq0 : q = 0 := by
            rw [hq, d2, d1, d0, f0, f1, f2, h0, h1, h2, hat.1, hat.2.1, hat.2.2.1, g0, g1, g2]
            simp [b2i]
          refine ⟨fun c => absurd hq0 c, fun _ => ?_⟩
          intro r27 e27 r28 e28 r29 e29
          have hr : r28 = r29 := by
            rw [e28, e29, e27, ho, hat.2.2.2, g2]
            by_cases hz : tG W k 2 = 0 <;> simp [hz, b2i]
          refine ⟨fun c => absurd hr c, fun _ => ?_⟩
          intro w31 e31
          have hw31 : p = w31 := by
            rw [e31, hw, Int.toNat_natCast, hword, hp, g0, g1, g2]
          refine ⟨fun c => absurd hw31 c, fun _ => ?_⟩
          have r27z : r27 = 0 ↔ tG W k 2 = 0 := by
            rw [e27, g2]
            by_cases hz : tG W k 2 = 0 <;> simp [hz, b2i]
          refine ⟨fun c4 => ⟨fun c5 => ?_, fun c5 => ?_⟩, fun c4 => ?_⟩
          · have hnext := byUp_next (T := W) (s := v3) hk (fun z => c4 (r27z.2 z)) (by rw [← g1]; exact c5.symm)
            refine ⟨fun c6 => by omega, fun c6 => ⟨c6, c6, fun w35 e35 => ⟨fun c7 => c7 ?_, fun _ => ?_⟩⟩⟩
            · rw [e35, hbl, hn, Int.toNat_natCast]; exact hnext.2.1.symm
            · intro n' en' k' ek'
              refine ⟨by omega, ⟨by omega, by omega, ?_⟩, by omega⟩
              rw [ek', show ((k : Int) + 1).toNat = k + 1 by omega, hnext.2.2, en', hn]; push_cast; rfl
          · intro k' ek'
            refine ⟨⟨by omega, by omega, ?_⟩, by omega⟩
            rw [ek', show ((k : Int) + 1).toNat = k + 1 by omega, byUp_skip (fun h => c5 (by rw [g1]; exact h.2.symm)), hn]
          · intro k' ek'
            refine ⟨⟨by omega, by omega, ?_⟩, by omega⟩
            rw [ek', show ((k : Int) + 1).toNat = k + 1 by omega, byUp_skip (fun h => h.1 (r27z.1 c4)), hn]
        · have hk : k = 8 := by omega
          subst hk
          refine ⟨trivial, fun a0 a1 a2 ao ha => ?_⟩
          have ha : [a0, a1, a2, ao] = [atV W 8 0, atV W 8 1, atV W 8 2, b2i (atOk W 8)] := ha.1
          simp only [List.cons.injEq, and_true] at ha
          have ho : ao = 0 := by rw [ha.2.2.2]; rfl
          refine ⟨fun _ x ex => ⟨by rw [ex, ho]; decide, trivial⟩, fun c => c ?_⟩
          rw [hbn, hn]
    ·
      refine ⟨trivial, fun cw Lw hw => ?_⟩
      have hw : Lw = wordsL W := by
        have : [Lw] = [wordsL W] := hw
        simpa using this
      refine ⟨trivial, fun bn bc Lb hb => ?_⟩
      have hb : bn = ((byUp W v3 8).length : Int) ∧ bn ≤ bc ∧ [Lb] = [byUp W v3 8] := hb
      obtain ⟨hbn, _, hbl⟩ := hb
      have hbl : Lb = byUp W v3 8 := by simpa using hbl
      refine ⟨fun xs _ => match xs with | [i, n] => 0 ≤ i ∧ i ≤ 8 ∧ n = ((byUp W v3 i.toNat).length : Int) | _ => False, fun xs _ => match xs with | i :: _ => (8 - i).toNat | _ => 0, ?_, ?_⟩ <;> dsimp only
      · exact ⟨by omega, by omega, rfl⟩
      · intro i n hI2
        obtain ⟨i0', i8', hn⟩ := hI2
        obtain ⟨k, rfl⟩ : ∃ k : Nat, i = k := ⟨i.toNat, by omega⟩
        rw [Int.toNat_natCast] at hn
        have hnk := byUp_len W v3 k
        refine ⟨fun c3 => ?_, fun c3 => ?_⟩
        · have hk : k < 8 := by omega
          have hat := atV_ok hW hk
          have hword := wordsL_at (T := W) hk
          refine ⟨trivial, fun a0 a1 a2 ao ha => ?_⟩
          have ha : [a0, a1, a2, ao] = [atV W k 0, atV W k 1, atV W k 2, b2i (atOk W k)] := ha.1
          simp only [List.cons.injEq, and_true] at ha
          obtain ⟨h0, h1, h2, ho⟩ := ha
          intro x12 e12 x13 e13 x14 e14 x15 e15 x16 e16 x17 e17
          have g0 : x13 = tG W k 0 := by rw [e13, e12]; unfold tG; rw [Int.add_zero]
          have g1 : x15 = tG W k 1 := by rw [e15, e14, e12]; rfl
          have g2 : x17 = tG W k 2 := by rw [e17, e16, e12]; rfl
          refine ⟨trivial, fun p po hp => ?_⟩
          have hp : [p, po] = [pteN x13 x15 x17, b2i (pteOk x13 x15 x17)] := hp
          simp only [List.cons.injEq, and_true] at hp
          obtain ⟨hp, _⟩ := hp
          intro y0 f0 y1 f1 y2 f2 z0 d0 z1 d1 z2 d2 q hq
          have hq0 : q = 0 := by
            rw [hq, d2, d1, d0, f0, f1, f2, h0, h1, h2, hat.1, hat.2.1, hat.2.2.1, g0, g1, g2]
            simp [b2i]
          refine ⟨fun c => absurd hq0 c, fun _ => ?_⟩
          intro r27 e27 r28 e28 r29 e29
          have hr : r28 = r29 := by
            rw [e28, e29, e27, ho, hat.2.2.2, g2]
            by_cases hz : tG W k 2 = 0 <;> simp [hz, b2i]
          refine ⟨fun c => absurd hr c, fun _ => ?_⟩
          intro w31 e31
          have hw31 : p = w31 := by
            rw [e31, hw, Int.toNat_natCast, hword, hp, g0, g1, g2]
          refine ⟨fun c => absurd hw31 c, fun _ => ?_⟩
          have r27z : r27 = 0 ↔ tG W k 2 = 0 := by
            rw [e27, g2]
            by_cases hz : tG W k 2 = 0 <;> simp [hz, b2i]
          refine ⟨fun c4 => ⟨fun c5 => ?_, fun c5 => ?_⟩, fun c4 => ?_⟩
          · have hnext := byUp_next (T := W) (s := v3) hk (fun z => c4 (r27z.2 z)) (by rw [← g1]; exact c5.symm)
            refine ⟨fun c6 => by omega, fun c6 => ⟨c6, c6, fun w35 e35 => ⟨fun c7 => c7 ?_, fun _ => ?_⟩⟩⟩
            · rw [e35, hbl, hn, Int.toNat_natCast]; exact hnext.2.1.symm
            · intro n' en' k' ek'
              refine ⟨by omega, ⟨by omega, by omega, ?_⟩, by omega⟩
              rw [ek', show ((k : Int) + 1).toNat = k + 1 by omega, hnext.2.2, en', hn]; push_cast; rfl
          · intro k' ek'
            refine ⟨⟨by omega, by omega, ?_⟩, by omega⟩
            rw [ek', show ((k : Int) + 1).toNat = k + 1 by omega, byUp_skip (fun h => c5 (by rw [g1]; exact h.2.symm)), hn]
          · intro k' ek'
            refine ⟨⟨by omega, by omega, ?_⟩, by omega⟩
            rw [ek', show ((k : Int) + 1).toNat = k + 1 by omega, byUp_skip (fun h => h.1 (r27z.1 c4)), hn]
        · have hk : k = 8 := by omega
          subst hk
          refine ⟨trivial, fun a0 a1 a2 ao ha => ?_⟩
          have ha : [a0, a1, a2, ao] = [atV W 8 0, atV W 8 1, atV W 8 2, b2i (atOk W 8)] := ha.1
          simp only [List.cons.injEq, and_true] at ha
          have ho : ao = 0 := by rw [ha.2.2.2]; rfl
          refine ⟨fun _ x ex => ⟨by rw [ex, ho]; decide, trivial⟩, fun c => c ?_⟩
          rw [hbn, hn])
theorem tableAll_holds : ((lawSpec 24 [.slc L2.ks6, .one (.i .i64)]).withPre fun _ => True).Holds Tryz.prog L2.ro := holds_withPre _ tableAll_holds0

noncomputable def TableAll_n_t : Tree := .call 25 (Go.Sx.L2.yes Go.Sx.L2.f_messuagelaw2_begun).rel [] [] 0 0 (.call 28 (Go.Sx.L2.tNew).rel [] [] 0 1 (.letL (.lit [.c (0), .c (0), .c (0), .c (0), .c (0), .c (0), .c (0), .c (0), .c (0), .c (0), .c (0), .c (0), .c (0), .c (0), .c (0), .c (0), .c (0), .c (0), .c (0), .c (0), .c (0), .c (0), .c (0), .c (0)]) (.loop [.c (0)] [0, 1] (.exit (.call 97 (Go.Sx.L2.tWords).rel [] [2] 1 1 (.call 30 (Go.Sx.L2.tBy).rel [.v 0] [2] 2 1 (.loop [.c (0), .c (0)] [] (.letI (.cmp .lss (.v 5) (.c 8)) (.ite (.v 7) (.call 98 (Go.Sx.L2.tAt).rel [.v 5] [2] 4 0 (.letI (.mul (.v 5) (.c 3)) (.letI (.get 3 (.v 12)) (.letI (.add (.v 12) (.c 1)) (.letI (.get 3 (.v 14)) (.letI (.add (.v 12) (.c 2)) (.letI (.get 3 (.v 16)) (.call 77 (Go.Sx.L2.put_ 77).rel [.v 13, .v 15, .v 17] [] 2 0 (.letI (.cmp .eql (.v 8) (.v 13)) (.letI (.cmp .eql (.v 9) (.v 15)) (.letI (.cmp .eql (.v 10) (.v 17)) (.letI (.pick (.v 22) (.c 1) (.c 0)) (.letI (.pick (.v 21) (.v 23) (.c 0)) (.letI (.pick (.v 20) (.v 24) (.c 0)) (.letI (.not (.v 25)) (.ite (.v 26) (.exit (.fail 180)) (.letI (.cmp .neq (.v 17) (.c 0)) (.letI (.not (.v 11)) (.letI (.not (.v 27)) (.letI (.cmp .neq (.v 28) (.v 29)) (.ite (.v 30) (.exit (.fail 180)) (.letI (.get 4 (.v 5)) (.letI (.cmp .neq (.v 18) (.v 31)) (.ite (.v 32) (.exit (.fail 180)) (.ite (.v 27) (.letI (.cmp .eql (.v 0) (.v 15)) (.ite (.v 33) (.letI (.cmp .leq (.v 3) (.v 6)) (.ite (.v 34) (.exit (.fail 180)) (.need .lss (.v 6) (.v 3) (.need .lss (.v 6) (.v 3) (.letI (.get 5 (.v 6)) (.letI (.cmp .neq (.v 5) (.v 35)) (.ite (.v 36) (.exit (.fail 180)) (.letI (.add (.v 6) (.c 1)) (.letI (.add (.v 5) (.c 1)) (.need .leq (.v 37) (.c 8) (.again [.v 38, .v 37] []))))))))))) (.letI (.add (.v 5) (.c 1)) (.again [.v 34, .v 6] [])))) (.letI (.add (.v 5) (.c 1)) (.again [.v 33, .v 6] []))))))))))))))))))))))))))) (.exit (.call 98 (Go.Sx.L2.tAt).rel [.c (8)] [2] 4 0 (.letI (.cmp .eql (.v 3) (.v 6)) (.ite (.v 12) (.letI (.not (.v 11)) (.need .neq (.v 13) (.c 0) (.done [] []))) (.fail 180))))))))))))))
theorem TableAll_n_tree : (lawSpec 24 [.nil, .one (.i .i64)]).exe Tryz.prog (withS (L2.cfg2 Tryz.prog) [L2.put_ 52, L2.put_ 77, L2.tNew, L2.tInsert, L2.tRemove, L2.tProtect, L2.tAt, L2.tWords, L2.tBy]) [{ f := 24, reg := 9, ints := [(8, 0, 40)], lists := [(6, [], some (-9223372036854775808, 9223372036854775807)), (7, [], some (-9223372036854775808, 9223372036854775807))] }, { f := 24, reg := 48, ints := [(163, 0, 8), (22, 0, 8)] }] 20 200 = TableAll_n_t := by kernel_rfl
theorem TableAll_n_vc (Q : List Int → List (List Int) → Prop) (v0 : Int) : TableAll_n_t.dn ⟨Q, []⟩ 1 [v0] 0 [] = ((Go.Sx.L2.yes Go.Sx.L2.f_messuagelaw2_begun).rel.pre [] [] ∧
((Go.Sx.L2.yes Go.Sx.L2.f_messuagelaw2_begun).rel.post [] [] [] [] → (Go.Sx.L2.tNew).rel.pre [] [] ∧
(∀ L0 : List Int, (Go.Sx.L2.tNew).rel.post [] [] [] [L0] → ∀ L1 : List Int, L1 = [(0 : Int), (0 : Int), (0 : Int), (0 : Int), (0 : Int), (0 : Int), (0 : Int), (0 : Int), (0 : Int), (0 : Int), (0 : Int), (0 : Int), (0 : Int), (0 : Int), (0 : Int), (0 : Int), (0 : Int), (0 : Int), (0 : Int), (0 : Int), (0 : Int), (0 : Int), (0 : Int), (0 : Int)] → ∃ (I0 : List Int → List (List Int) → Prop) (μ0 : List Int → List (List Int) → Nat), I0 [(0 : Int)] [L0, L1] ∧
(∀ v1 : Int, ∀ L2 : List Int, ∀ L3 : List Int, I0 [v1] [L2, L3] →
 (Go.Sx.L2.tWords).rel.pre [] [L2] ∧
(∀ v2 : Int, ∀ L4 : List Int, (Go.Sx.L2.tWords).rel.post [] [L2] [v2] [L4] → (Go.Sx.L2.tBy).rel.pre [v0] [L2] ∧
(∀ v3 : Int, ∀ v4 : Int, ∀ L5 : List Int, (Go.Sx.L2.tBy).rel.post [v0] [L2] [v3, v4] [L5] → ∃ (I1 : List Int → List (List Int) → Prop) (μ1 : List Int → List (List Int) → Nat), I1 [(0 : Int), (0 : Int)] [] ∧
(∀ v5 : Int, ∀ v6 : Int, I1 [v5, v6] [] →
 ((v5 < (8 : Int)) → (Go.Sx.L2.tAt).rel.pre [v5] [L2] ∧
(∀ v8 : Int, ∀ v9 : Int, ∀ v10 : Int, ∀ v11 : Int, (Go.Sx.L2.tAt).rel.post [v5] [L2] [v8, v9, v10, v11] [] → ∀ v12 : Int, v12 = v5 * (3 : Int) → ∀ v13 : Int, v13 = (L3).getD (v12).toNat 0 → ∀ v14 : Int, v14 = v12 + (1 : Int) → ∀ v15 : Int, v15 = (L3).getD (v14).toNat 0 → ∀ v16 : Int, v16 = v12 + (2 : Int) → ∀ v17 : Int, v17 = (L3).getD (v16).toNat 0 → (Go.Sx.L2.put_ 77).rel.pre [v13, v15, v17] [] ∧
(∀ v18 : Int, ∀ v19 : Int, (Go.Sx.L2.put_ 77).rel.post [v13, v15, v17] [] [v18, v19] [] → ∀ v20 : Int, v20 = b2i (v8 == v13) → ∀ v21 : Int, v21 = b2i (v9 == v15) → ∀ v22 : Int, v22 = b2i (v10 == v17) → ∀ v23 : Int, v23 = (if v22 = 0 then (0 : Int) else (1 : Int)) → ∀ v24 : Int, v24 = (if v21 = 0 then (0 : Int) else v23) → ∀ v25 : Int, v25 = (if v20 = 0 then (0 : Int) else v24) → ∀ v26 : Int, v26 = b2i (v25 == 0) → (v26 ≠ 0 → False) ∧
(v26 = 0 → ∀ v27 : Int, v27 = b2i (v17 != (0 : Int)) → ∀ v28 : Int, v28 = b2i (v11 == 0) → ∀ v29 : Int, v29 = b2i (v27 == 0) → ((v28 ≠ v29) → False) ∧
((v28 = v29) → ∀ v31 : Int, v31 = (L4).getD (v5).toNat 0 → ((v18 ≠ v31) → False) ∧
((v18 = v31) → (v27 ≠ 0 → ((v0 = v15) → ((v3 ≤ v6) → False) ∧
((v6 < v3) → (v6 < v3) ∧ (v6 < v3) ∧ ∀ v35 : Int, v35 = (L5).getD (v6).toNat 0 → ((v5 ≠ v35) → False) ∧
((v5 = v35) → ∀ v37 : Int, v37 = v6 + (1 : Int) → ∀ v38 : Int, v38 = v5 + (1 : Int) → (v37 ≤ (8 : Int)) ∧ (I1 [v38, v37] [] ∧ μ1 [v38, v37] [] < μ1 [v5, v6] [])))) ∧
((v0 ≠ v15) → ∀ v34 : Int, v34 = v5 + (1 : Int) → (I1 [v34, v6] [] ∧ μ1 [v34, v6] [] < μ1 [v5, v6] []))) ∧
(v27 = 0 → ∀ v33 : Int, v33 = v5 + (1 : Int) → (I1 [v33, v6] [] ∧ μ1 [v33, v6] [] < μ1 [v5, v6] [])))))))) ∧
(((8 : Int) ≤ v5) → (Go.Sx.L2.tAt).rel.pre [(8 : Int)] [L2] ∧
(∀ v8 : Int, ∀ v9 : Int, ∀ v10 : Int, ∀ v11 : Int, (Go.Sx.L2.tAt).rel.post [(8 : Int)] [L2] [v8, v9, v10, v11] [] → ((v3 = v6) → ∀ v13 : Int, v13 = b2i (v11 == 0) → (v13 ≠ (0 : Int)) ∧ Q [] []) ∧
((v3 ≠ v6) → False)))))))))) := by kernel_rfl
set_option maxHeartbeats 4000000 in
theorem tableAll_holds_n0 : (lawSpec 24 [.nil, .one (.i .i64)]).Holds Tryz.prog L2.ro := FSpec.holdsV (cfg := withS (L2.cfg2 Tryz.prog) [L2.put_ 52, L2.put_ 77, L2.tNew, L2.tInsert, L2.tRemove, L2.tProtect, L2.tAt, L2.tWords, L2.tBy]) [{ f := 24, reg := 9, ints := [(8, 0, 40)], lists := [(6, [], some (-9223372036854775808, 9223372036854775807)), (7, [], some (-9223372036854775808, 9223372036854775807))] }, { f := 24, reg := 48, ints := [(163, 0, 8), (22, 0, 8)] }] 20 200 (withS_ok cfg2_ok ⟨pPut_holds, rPte_holds, tNew_holds, tInsert_holds, tRemove_holds, tProtect_holds, tAt_holds, tWords_holds, tBy_holds, trivial⟩) mixed (t := TableAll_n_t) TableAll_n_tree (by
  show ∀ (v0 : Int) , _
  intro v0  hp hr hl
  replace hr : ((-9223372036854775808 : Int) ≤ v0 ∧ v0 ≤ (9223372036854775807 : Int)) ∧ True := hr
  replace hp : True := hp
  show TableAll_n_t.dn ⟨_, []⟩ 1 [v0] 0 []
  rw [TableAll_n_vc]
  show ((L2.yes L2.f_messuagelaw2_begun).rel.pre [] [] ∧ _)
  refine ⟨trivial, fun _ => ?_⟩
  refine ⟨trivial, fun T0 hT0 => ?_⟩
  have hT0 : T0 = List.replicate 24 0 := by
    have : [T0] = [List.replicate 24 (0 : Int)] := hT0.2
    simpa using this
  intro W0 eW0
  have eW0 : W0 = List.replicate 24 0 := eW0
  refine ⟨fun xs ys => match xs, ys with | [i], [T, W] => 0 ≤ i ∧ T = W ∧ WSt W | _, _ => False, fun xs _ => match xs with | i :: _ => (40 - i).toNat | _ => 0, ?_, ?_⟩ <;> dsimp only
  · rw [hT0, eW0]; exact ⟨by omega, rfl, WSt.start⟩
  · intro i T W hI
    obtain ⟨i0, rfl, hW⟩ := hI
    have hWW := hW
    revert hW hWW
    generalize T = W
    intro hW hWW
    have same := fun (p : Int) (a : 0 ≤ p) (b : p < 8) (c : tG W p 2 = 0) => hW.same a b c
    have zat := fun (p : Int) (a : 0 ≤ p) (b : p < 8) (c : tG W p 2 = 0) => hW.at a b c
    refine ⟨trivial, fun cw Lw hw => ?_⟩
    have hw : Lw = wordsL W := by
      have : [Lw] = [wordsL W] := hw
      simpa using this
    refine ⟨trivial, fun bn bc Lb hb => ?_⟩
    have hb : bn = ((byUp W v0 8).length : Int) ∧ bn ≤ bc ∧ [Lb] = [byUp W v0 8] := hb
    obtain ⟨hbn, _, hbl⟩ := hb
    have hbl : Lb = byUp W v0 8 := by simpa using hbl
    refine ⟨fun xs _ => match xs with | [i, n] => 0 ≤ i ∧ i ≤ 8 ∧ n = ((byUp W v0 i.toNat).length : Int) | _ => False, fun xs _ => match xs with | i :: _ => (8 - i).toNat | _ => 0, ?_, ?_⟩ <;> dsimp only
    · exact ⟨by omega, by omega, rfl⟩
    · intro i n hI2
      obtain ⟨i0', i8', hn⟩ := hI2
      obtain ⟨k, rfl⟩ : ∃ k : Nat, i = k := ⟨i.toNat, by omega⟩
      rw [Int.toNat_natCast] at hn
      have hnk := byUp_len W v0 k
      refine ⟨fun c3 => ?_, fun c3 => ?_⟩
      · have hk : k < 8 := by omega
        have hat := atV_ok hW hk
        have hword := wordsL_at (T := W) hk
        refine ⟨trivial, fun a0 a1 a2 ao ha => ?_⟩
        have ha : [a0, a1, a2, ao] = [atV W k 0, atV W k 1, atV W k 2, b2i (atOk W k)] := ha.1
        simp only [List.cons.injEq, and_true] at ha
        obtain ⟨h0, h1, h2, ho⟩ := ha
        intro x12 e12 x13 e13 x14 e14 x15 e15 x16 e16 x17 e17
        have g0 : x13 = tG W k 0 := by rw [e13, e12]; unfold tG; rw [Int.add_zero]
        have g1 : x15 = tG W k 1 := by rw [e15, e14, e12]; rfl
        have g2 : x17 = tG W k 2 := by rw [e17, e16, e12]; rfl
        refine ⟨trivial, fun p po hp => ?_⟩
        have hp : [p, po] = [pteN x13 x15 x17, b2i (pteOk x13 x15 x17)] := hp
        simp only [List.cons.injEq, and_true] at hp
        obtain ⟨hp, _⟩ := hp
        intro y0 f0 y1 f1 y2 f2 z0 d0 z1 d1 z2 d2 q hq
        have hq0 : q = 0 := by
          rw [hq, d2, d1, d0, f0, f1, f2, h0, h1, h2, hat.1, hat.2.1, hat.2.2.1, g0, g1, g2]
          simp [b2i]
        refine ⟨fun c => absurd hq0 c, fun _ => ?_⟩
        intro r27 e27 r28 e28 r29 e29
        have hr : r28 = r29 := by
          rw [e28, e29, e27, ho, hat.2.2.2, g2]
          by_cases hz : tG W k 2 = 0 <;> simp [hz, b2i]
        refine ⟨fun c => absurd hr c, fun _ => ?_⟩
        intro w31 e31
        have hw31 : p = w31 := by
          rw [e31, hw, Int.toNat_natCast, hword, hp, g0, g1, g2]
        refine ⟨fun c => absurd hw31 c, fun _ => ?_⟩
        have r27z : r27 = 0 ↔ tG W k 2 = 0 := by
          rw [e27, g2]
          by_cases hz : tG W k 2 = 0 <;> simp [hz, b2i]
        refine ⟨fun c4 => ⟨fun c5 => ?_, fun c5 => ?_⟩, fun c4 => ?_⟩
        · have hnext := byUp_next (T := W) (s := v0) hk (fun z => c4 (r27z.2 z)) (by rw [← g1]; exact c5.symm)
          refine ⟨fun c6 => by omega, fun c6 => ⟨c6, c6, fun w35 e35 => ⟨fun c7 => c7 ?_, fun _ => ?_⟩⟩⟩
          · rw [e35, hbl, hn, Int.toNat_natCast]; exact hnext.2.1.symm
          · intro n' en' k' ek'
            refine ⟨by omega, ⟨by omega, by omega, ?_⟩, by omega⟩
            rw [ek', show ((k : Int) + 1).toNat = k + 1 by omega, hnext.2.2, en', hn]; push_cast; rfl
        · intro k' ek'
          refine ⟨⟨by omega, by omega, ?_⟩, by omega⟩
          rw [ek', show ((k : Int) + 1).toNat = k + 1 by omega, byUp_skip (fun h => c5 (by rw [g1]; exact h.2.symm)), hn]
        · intro k' ek'
          refine ⟨⟨by omega, by omega, ?_⟩, by omega⟩
          rw [ek', show ((k : Int) + 1).toNat = k + 1 by omega, byUp_skip (fun h => h.1 (r27z.1 c4)), hn]
      · have hk : k = 8 := by omega
        subst hk
        refine ⟨trivial, fun a0 a1 a2 ao ha => ?_⟩
        have ha : [a0, a1, a2, ao] = [atV W 8 0, atV W 8 1, atV W 8 2, b2i (atOk W 8)] := ha.1
        simp only [List.cons.injEq, and_true] at ha
        have ho : ao = 0 := by rw [ha.2.2.2]; rfl
        refine ⟨fun _ x ex => ⟨by rw [ex, ho]; decide, trivial⟩, fun c => c ?_⟩
        rw [hbn, hn])
theorem tableAll_holds_n : ((lawSpec 24 [.nil, .one (.i .i64)]).withPre fun _ => True).Holds Tryz.prog L2.ro := holds_withPre _ tableAll_holds_n0

theorem tableAll_calls {H : Type} {enc : TypeId × Value → H} {W : World} {base : Nat} {args : Array Value} {ds : List (DataW H)} {p : List MemPlace} (hval : ∀ (j : Nat) t v, Tryz.f24.params[j]? = some t → args[j]? = some v → Value.okWide Tryz.prog W .any base t v)
    (hA : DataW.TrodAll enc Tryz.prog W 0 (fun _ => true) true Tryz.f24.params.toList args.toList ds p) (hL : laidMetH Tryz.prog laid1 W) : Calls Tryz.prog 24 args W fun e W' => e = .returned (.bool true) ∧ Go.Sx.Frame ⟨W, [], L2.ro⟩ W' := by
  rw [Tryz.params24] at hA hval
  obtain ⟨v0, v1, d0, d1, p0, p1, rfl, rfl, rfl, h0, h1⟩ := trodAll_two hA
  obtain ⟨n1, q1⟩ := par_int (base := 0) und3 (hval 1 3 v1 rfl rfl) h1
  rcases par_flats (base := 0) (f := 9) und119 flat122 cells122 (by decide) (hval 0 119 v0 rfl rfl) h0 with q0 | ⟨e0, q0⟩
  · exact law_calls (tableAll_holds_n) Tryz.func24 (show Tryz.f24.body = some _ from rfl) (by kernel_rfl) (.cons q0 (.cons q1 .none)) trivial (ro_of_laid hL)
  · exact law_calls (tableAll_holds) Tryz.func24 (show Tryz.f24.body = some _ from rfl) (by kernel_rfl) (.cons q0 (.cons q1 .none)) trivial (ro_of_laid hL)
set_option maxHeartbeats 1000000 in
theorem tableAll_lifted (os : Os) (started : os.Started) (H : Type) (enc : TypeId × Value → H) :
    ReturnsInHanded {} Tryz.checked os 24 .any (fun w args => (Rows.tableAllSpec.pre enc Tryz.prog Tryz.f24 [] false w args ∧ laidMetH Tryz.prog laid1 w) ∧ sizedMet enc Tryz.prog Tryz.f24 (OpenSpec.ofChange Rows.tableAllSpec) false w args)
      (Rows.tableAllSpec.post enc Tryz.prog Tryz.f24 false true false false) := by
  refine returnsInHanded_of_change_and (C := Tryz.checked) (X := fun w _ => laidMetH Tryz.prog laid1 w) (fun _ _ _ hh h => h.of_heap hh) Tryz.own started (by kernel_rfl) Tryz.func24
    (ChangeSpec.witness_at (enc := enc) (C := Tryz.checked) (os := os) (X := fun w _ => laidMetH Tryz.prog laid1 w) false (laidWorld os) #[.slice none 0 0, .int .i64 0] 8 rfl (by kernel_rfl) (by kernel_rfl) (by kernel_rfl) (by kernel_rfl) (by kernel_rfl) (laidWorld_met os _)) ?_
  intro W base args ds gs before hval0 hW _ _ hL _
  have hval : ∀ (j : Nat) t v, Tryz.f24.params[j]? = some t → args[j]? = some v → Value.okWide Tryz.prog W .any base t v := hval0
  have hW' := hW
  obtain ⟨p, q, hA0, hV0, rfl, hfz, hnd⟩ := hW
  have hcall := tableAll_calls (enc := enc) hval hA0 hL
  refine Calls.mono hcall ?_
  rintro e W' ⟨rfl, hfr⟩
  exact ⟨_, rfl, post_kept Tryz.laidOut (by kernel_rfl) rfl rfl und4 hW' hfr (by
    have hg : gs = [] := by cases gs with | nil => rfl | cons g r => exact absurd hV0 (by intro h; cases h)
    subst hg
    have hA1 : DataW.TrodAll enc Tryz.prog W 0 (fun _ => true) true Tryz.f24.params.toList args.toList ds p := hA0
    rw [Tryz.params24] at hA1
    obtain ⟨v0, v1, d0, d1, p0, p1, ea, rfl, ec, h0, h1⟩ := trodAll_two hA1
    rfl)⟩

theorem tableAll_row : Rows.TableAllSaid :=
  OpenClaim.holds_of_wide 24 Tryz.f24 rfl rfl rfl rfl rfl rfl rfl ⟨rfl, rfl, rfl, rfl, rfl⟩ rfl rfl rfl rfl rfl (by kernel_rfl) Tryz.func24 (restFacts.2 _ _ _ _ _ Tryz.mayEnter Tryz.liftsFinal Tryz.make (by kernel_rfl))
    (of_decide_eq_true (by kernel_rfl)) (by unfold Func.isWrapper; rw [if_neg (of_decide_eq_false (by kernel_rfl))]; exact ⟨rfl, rfl⟩)
    (fun os started H enc _ => tableAll_lifted os started H enc)
theorem tableAll_card : Rows.TableAllCardSaid :=
  Claim7.holds_tied_plain_at .later [] [.handle] true (true, "8c0441bbc8609432f713c1c89f5af20e6af72254f1482b9eed96a33066278ab6") true
    tableAll_row (fun _ h => by cases h) (by kernel_rfl) (fun _ h => by cases h) tableAll_row_tie rfl ⟨rfl, rfl⟩ Tryz.mainIs rfl
    (fun f fn hf hfn => by
      obtain rfl : f = 24 := Option.some.inj ((show Tryz.prog.funcNamed "messuage/messuagelaw2.TableAll" = some 24 by kernel_rfl).symm.trans hf) |>.symm
      obtain rfl : fn = Tryz.f24 := (Option.some.inj (Tryz.func24.symm.trans hfn)).symm
      exact ⟨by kernel_rfl, fun j t ht => by
        rw [Tryz.params24] at ht
        rcases j with _ | _ | j
        · obtain rfl : 119 = t := by simpa using ht
          exact (show Tryz.prog.wantsStandIn 119 = false by kernel_rfl)
        · obtain rfl : 3 = t := by simpa using ht
          exact (show Tryz.prog.wantsStandIn 3 = false by kernel_rfl)
        · simp at ht⟩)
    (by kernel_rfl)
#print axioms tableAll_card
end Go.Proofs.YthjfkblnbecjgaaGreatDoor
