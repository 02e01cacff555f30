/- The statement messuagelaw11.PlainPages of the seat: for every input the law returns true; the condition: errors.errorType is as the program lays it. -/
import Derived.Test.YtpmgfdakljjlaaaGreatDoorL2B
import Derived.Test.YtpmgfdakljjlaaaGreatDoorSxM7
import Derived.Test.YtpmgfdakljjlaaaGreatDoorL2Zn
import Derived.Test.YtpmgfdakljjlaaaGreatDoorL2Ja
import Derived.Test.YtpmgfdakljjlaaaGreatDoorL2Jm
import Derived.Test.YtpmgfdakljjlaaaGreatDoorL2Jr
import Derived.Test.YtpmgfdakljjlaaaGreatDoorL2Jd
import Derived.Test.YtpmgfdakljjlaaaGreatDoorPuPh
set_option linter.unusedVariables false
set_option linter.constructorNameAsVariable false
set_option linter.unusedSimpArgs false
open Go Go.Sx
namespace Go.Proofs.YtpmgfdakljjlaaaGreatDoor
open Go.ChangeShapes Go.WideShapes Go.RowKit
set_option maxRecDepth 100000

noncomputable def PlainPages_t : Tree := .call 5 (Go.Sx.L2.yes Go.Sx.L2.f_messuagelaw11_begun).rel [] [] 0 0 (.call 22 (Go.Sx.L2.pNew1).rel [] [] 2 0 (.call 8 (Go.Sx.L2.jA).rel [.v 3, .v 4] [] 0 0 (.call 8 (Go.Sx.L2.jA).rel [.v 3, .v 4] [] 0 0 (.call 8 (Go.Sx.L2.jA).rel [.v 3, .v 4] [] 0 0 (.letL (.rep (.c 16) (.c 0)) (.letL (.lit [.c (0), .c (0), .c (0), .c (0), .c (0), .c (0), .c (0), .c (0), .c (0), .c (0), .c (0), .c (0), .c (0), .c (0), .c (0), .c (0), .c (0), .c (0), .c (0), .c (0), .c (0), .c (0), .c (0), .c (1)]) (.loop [.c (0)] [1, 2] (.letI (.cmp .lss (.v 5) (.v 0)) (.ite (.v 6) (.letI (.cmp .lss (.v 5) (.c 12)) (.ite (.v 7) (.need .lss (.v 5) (.v 0) (.need .lss (.v 5) (.v 0) (.letI (.get 0 (.v 5)) (.letI (.rem (.v 8) (.c 7)) (.letI (.add (.v 9) (.c 7)) (.letI (.rem (.v 10) (.c 7)) (.both (.call 8 (Go.Sx.L2.jM).rel [.v 3, .v 4, .v 11] [4] 1 1 (.letI (.cmp .eql (.v 12) (.c 0)) (.letI (.get 3 (.v 11)) (.letI (.not (.v 13)) (.letI (.not (.v 14)) (.letI (.cmp .eql (.v 15) (.v 16)) (.ite (.v 17) (.exit (.fail 180)) (.letL (.set 3 (.v 11) (.c 1)) (.letI (.add (.v 5) (.c 1)) (.again [.v 18] [6, 5])))))))))) (.letI (.get 3 (.v 11)) (.call 8 (Go.Sx.L2.jM).rel [.v 3, .v 4, .v 11] [4] 1 1 (.letI (.cmp .eql (.v 13) (.c 0)) (.letI (.not (.v 14)) (.letI (.not (.v 12)) (.letI (.cmp .eql (.v 15) (.v 16)) (.ite (.v 17) (.exit (.fail 180)) (.letL (.set 3 (.v 11) (.c 1)) (.letI (.add (.v 5) (.c 1)) (.again [.v 18] [6, 5]))))))))))))))))) (.exit (.ite (.v 2) (.call 8 (Go.Sx.L2.jR).rel [.v 3, .v 4] [4] 0 1 (.call 50 (Go.Sx.L2.tAt).rel [.c (0)] [5] 4 0 (.ite (.v 11) (.fail 180) (.call 50 (Go.Sx.L2.tAt).rel [.c (1)] [5] 4 0 (.ite (.v 15) (.fail 180) (.call 50 (Go.Sx.L2.tAt).rel [.c (2)] [5] 4 0 (.ite (.v 19) (.fail 180) (.call 50 (Go.Sx.L2.tAt).rel [.c (3)] [5] 4 0 (.ite (.v 23) (.fail 180) (.call 50 (Go.Sx.L2.tAt).rel [.c (4)] [5] 4 0 (.ite (.v 27) (.fail 180) (.call 50 (Go.Sx.L2.tAt).rel [.c (5)] [5] 4 0 (.ite (.v 31) (.fail 180) (.call 50 (Go.Sx.L2.tAt).rel [.c (6)] [5] 4 0 (.ite (.v 35) (.fail 180) (.call 50 (Go.Sx.L2.tAt).rel [.c (7)] [5] 4 0 (.need .neq (.v 39) (.c 0) (.done [] [])))))))))))))))))) (.call 8 (Go.Sx.L2.jR).rel [.v 3, .v 4] [4] 0 1 (.call 50 (Go.Sx.L2.tAt).rel [.c (0)] [5] 4 0 (.ite (.v 11) (.fail 180) (.call 50 (Go.Sx.L2.tAt).rel [.c (1)] [5] 4 0 (.ite (.v 15) (.fail 180) (.call 50 (Go.Sx.L2.tAt).rel [.c (2)] [5] 4 0 (.ite (.v 19) (.fail 180) (.call 50 (Go.Sx.L2.tAt).rel [.c (3)] [5] 4 0 (.ite (.v 23) (.fail 180) (.call 50 (Go.Sx.L2.tAt).rel [.c (4)] [5] 4 0 (.ite (.v 27) (.fail 180) (.call 50 (Go.Sx.L2.tAt).rel [.c (5)] [5] 4 0 (.ite (.v 31) (.fail 180) (.call 50 (Go.Sx.L2.tAt).rel [.c (6)] [5] 4 0 (.ite (.v 35) (.fail 180) (.call 50 (Go.Sx.L2.tAt).rel [.c (7)] [5] 4 0 (.need .neq (.v 39) (.c 0) (.done [] [])))))))))))))))))))))) (.exit (.ite (.v 2) (.call 8 (Go.Sx.L2.jR).rel [.v 3, .v 4] [4] 0 1 (.call 50 (Go.Sx.L2.tAt).rel [.c (0)] [5] 4 0 (.ite (.v 10) (.fail 180) (.call 50 (Go.Sx.L2.tAt).rel [.c (1)] [5] 4 0 (.ite (.v 14) (.fail 180) (.call 50 (Go.Sx.L2.tAt).rel [.c (2)] [5] 4 0 (.ite (.v 18) (.fail 180) (.call 50 (Go.Sx.L2.tAt).rel [.c (3)] [5] 4 0 (.ite (.v 22) (.fail 180) (.call 50 (Go.Sx.L2.tAt).rel [.c (4)] [5] 4 0 (.ite (.v 26) (.fail 180) (.call 50 (Go.Sx.L2.tAt).rel [.c (5)] [5] 4 0 (.ite (.v 30) (.fail 180) (.call 50 (Go.Sx.L2.tAt).rel [.c (6)] [5] 4 0 (.ite (.v 34) (.fail 180) (.call 50 (Go.Sx.L2.tAt).rel [.c (7)] [5] 4 0 (.need .neq (.v 38) (.c 0) (.done [] [])))))))))))))))))) (.call 8 (Go.Sx.L2.jR).rel [.v 3, .v 4] [4] 0 1 (.call 50 (Go.Sx.L2.tAt).rel [.c (0)] [5] 4 0 (.ite (.v 10) (.fail 180) (.call 50 (Go.Sx.L2.tAt).rel [.c (1)] [5] 4 0 (.ite (.v 14) (.fail 180) (.call 50 (Go.Sx.L2.tAt).rel [.c (2)] [5] 4 0 (.ite (.v 18) (.fail 180) (.call 50 (Go.Sx.L2.tAt).rel [.c (3)] [5] 4 0 (.ite (.v 22) (.fail 180) (.call 50 (Go.Sx.L2.tAt).rel [.c (4)] [5] 4 0 (.ite (.v 26) (.fail 180) (.call 50 (Go.Sx.L2.tAt).rel [.c (5)] [5] 4 0 (.ite (.v 30) (.fail 180) (.call 50 (Go.Sx.L2.tAt).rel [.c (6)] [5] 4 0 (.ite (.v 34) (.fail 180) (.call 50 (Go.Sx.L2.tAt).rel [.c (7)] [5] 4 0 (.need .neq (.v 38) (.c 0) (.done [] [])))))))))))))))))))))))))))))
theorem PlainPages_tree : (lawSpec L2.f_messuagelaw11_PlainPages [.slc [.i .i64], .one .b]).exe Tryz.prog (withA (withS (L2.cfgB Tryz.prog) [L2.pNew1, L2.tAt]) L2.f_plain_Kernel_Do [L2.jA, L2.jB, L2.jC, L2.jM, L2.jR, L2.jD]) [{ f := L2.f_messuagelaw11_PlainPages, reg := 9, ints := [(8, 0, 12)], lists := [(7, [], some (0, 1)), (6, [4, 0], some (-9223372036854775808, 9223372036854775807))], maps := [(7, .i64, .b)] }] 20 200 = PlainPages_t := by kernel_rfl
theorem PlainPages_vc (Q : List Int → List (List Int) → Prop) (v0 v1 v2 : Int) (L0 : List Int) : PlainPages_t.dn ⟨Q, []⟩ 3 [v2, v1, v0] 1 [L0] = ((Go.Sx.L2.yes Go.Sx.L2.f_messuagelaw11_begun).rel.pre [] [] ∧
((Go.Sx.L2.yes Go.Sx.L2.f_messuagelaw11_begun).rel.post [] [] [] [] → (Go.Sx.L2.pNew1).rel.pre [] [] ∧
(∀ v3 : Int, ∀ v4 : Int, (Go.Sx.L2.pNew1).rel.post [] [] [v3, v4] [] → (Go.Sx.L2.jA).rel.pre [v3, v4] [] ∧
((Go.Sx.L2.jA).rel.post [v3, v4] [] [] [] → (Go.Sx.L2.jA).rel.pre [v3, v4] [] ∧
((Go.Sx.L2.jA).rel.post [v3, v4] [] [] [] → (Go.Sx.L2.jA).rel.pre [v3, v4] [] ∧
((Go.Sx.L2.jA).rel.post [v3, v4] [] [] [] → ∀ L1 : List Int, L1 = List.replicate ((16 : Int)).toNat (0 : Int) → ∀ L2 : List Int, L2 = [(0 : Int), (0 : Int), (0 : Int), (0 : Int), (0 : Int), (0 : Int), (0 : Int), (0 : Int), (0 : Int), (0 : Int), (0 : Int), (0 : Int), (0 : Int), (0 : Int), (0 : Int), (0 : Int), (0 : Int), (0 : Int), (0 : Int), (0 : Int), (0 : Int), (0 : Int), (0 : Int), (1 : Int)] → ∃ (I0 : List Int → List (List Int) → Prop) (μ0 : List Int → List (List Int) → Nat), I0 [(0 : Int)] [L1, L2] ∧
(∀ v5 : Int, ∀ L3 : List Int, ∀ L4 : List Int, I0 [v5] [L3, L4] →
 ((v5 < v0) → ((v5 < (12 : Int)) → (v5 < v0) ∧ (v5 < v0) ∧ ∀ v8 : Int, v8 = (L0).getD (v5).toNat 0 → ∀ v9 : Int, v9 = (v8).tmod (7 : Int) → ∀ v10 : Int, v10 = v9 + (7 : Int) → ∀ v11 : Int, v11 = (v10).tmod (7 : Int) → ((Go.Sx.L2.jM).rel.pre [v3, v4, v11] [L4] ∧
(∀ v12 : Int, ∀ L5 : List Int, (Go.Sx.L2.jM).rel.post [v3, v4, v11] [L4] [v12] [L5] → ∀ v13 : Int, v13 = b2i (v12 == (0 : Int)) → ∀ v14 : Int, v14 = (L3).getD (v11).toNat 0 → ∀ v15 : Int, v15 = b2i (v13 == 0) → ∀ v16 : Int, v16 = b2i (v14 == 0) → ((v15 = v16) → False) ∧
((v15 ≠ v16) → ∀ L6 : List Int, L6 = (L3).set (v11).toNat (1 : Int) → ∀ v18 : Int, v18 = v5 + (1 : Int) → (I0 [v18] [L6, L5] ∧ μ0 [v18] [L6, L5] < μ0 [v5] [L3, L4])))) ∧
(∀ v12 : Int, v12 = (L3).getD (v11).toNat 0 → (Go.Sx.L2.jM).rel.pre [v3, v4, v11] [L4] ∧
(∀ v13 : Int, ∀ L5 : List Int, (Go.Sx.L2.jM).rel.post [v3, v4, v11] [L4] [v13] [L5] → ∀ v14 : Int, v14 = b2i (v13 == (0 : Int)) → ∀ v15 : Int, v15 = b2i (v14 == 0) → ∀ v16 : Int, v16 = b2i (v12 == 0) → ((v15 = v16) → False) ∧
((v15 ≠ v16) → ∀ L6 : List Int, L6 = (L3).set (v11).toNat (1 : Int) → ∀ v18 : Int, v18 = v5 + (1 : Int) → (I0 [v18] [L6, L5] ∧ μ0 [v18] [L6, L5] < μ0 [v5] [L3, L4]))))) ∧
(((12 : Int) ≤ v5) → (v2 ≠ 0 → (Go.Sx.L2.jR).rel.pre [v3, v4] [L4] ∧
(∀ L5 : List Int, (Go.Sx.L2.jR).rel.post [v3, v4] [L4] [] [L5] → (Go.Sx.L2.tAt).rel.pre [(0 : Int)] [L5] ∧
(∀ v8 : Int, ∀ v9 : Int, ∀ v10 : Int, ∀ v11 : Int, (Go.Sx.L2.tAt).rel.post [(0 : Int)] [L5] [v8, v9, v10, v11] [] → (v11 ≠ 0 → False) ∧
(v11 = 0 → (Go.Sx.L2.tAt).rel.pre [(1 : Int)] [L5] ∧
(∀ v12 : Int, ∀ v13 : Int, ∀ v14 : Int, ∀ v15 : Int, (Go.Sx.L2.tAt).rel.post [(1 : Int)] [L5] [v12, v13, v14, v15] [] → (v15 ≠ 0 → False) ∧
(v15 = 0 → (Go.Sx.L2.tAt).rel.pre [(2 : Int)] [L5] ∧
(∀ v16 : Int, ∀ v17 : Int, ∀ v18 : Int, ∀ v19 : Int, (Go.Sx.L2.tAt).rel.post [(2 : Int)] [L5] [v16, v17, v18, v19] [] → (v19 ≠ 0 → False) ∧
(v19 = 0 → (Go.Sx.L2.tAt).rel.pre [(3 : Int)] [L5] ∧
(∀ v20 : Int, ∀ v21 : Int, ∀ v22 : Int, ∀ v23 : Int, (Go.Sx.L2.tAt).rel.post [(3 : Int)] [L5] [v20, v21, v22, v23] [] → (v23 ≠ 0 → False) ∧
(v23 = 0 → (Go.Sx.L2.tAt).rel.pre [(4 : Int)] [L5] ∧
(∀ v24 : Int, ∀ v25 : Int, ∀ v26 : Int, ∀ v27 : Int, (Go.Sx.L2.tAt).rel.post [(4 : Int)] [L5] [v24, v25, v26, v27] [] → (v27 ≠ 0 → False) ∧
(v27 = 0 → (Go.Sx.L2.tAt).rel.pre [(5 : Int)] [L5] ∧
(∀ v28 : Int, ∀ v29 : Int, ∀ v30 : Int, ∀ v31 : Int, (Go.Sx.L2.tAt).rel.post [(5 : Int)] [L5] [v28, v29, v30, v31] [] → (v31 ≠ 0 → False) ∧
(v31 = 0 → (Go.Sx.L2.tAt).rel.pre [(6 : Int)] [L5] ∧
(∀ v32 : Int, ∀ v33 : Int, ∀ v34 : Int, ∀ v35 : Int, (Go.Sx.L2.tAt).rel.post [(6 : Int)] [L5] [v32, v33, v34, v35] [] → (v35 ≠ 0 → False) ∧
(v35 = 0 → (Go.Sx.L2.tAt).rel.pre [(7 : Int)] [L5] ∧
(∀ v36 : Int, ∀ v37 : Int, ∀ v38 : Int, ∀ v39 : Int, (Go.Sx.L2.tAt).rel.post [(7 : Int)] [L5] [v36, v37, v38, v39] [] → (v39 ≠ (0 : Int)) ∧ Q [] []))))))))))))))))) ∧
(v2 = 0 → (Go.Sx.L2.jR).rel.pre [v3, v4] [L4] ∧
(∀ L5 : List Int, (Go.Sx.L2.jR).rel.post [v3, v4] [L4] [] [L5] → (Go.Sx.L2.tAt).rel.pre [(0 : Int)] [L5] ∧
(∀ v8 : Int, ∀ v9 : Int, ∀ v10 : Int, ∀ v11 : Int, (Go.Sx.L2.tAt).rel.post [(0 : Int)] [L5] [v8, v9, v10, v11] [] → (v11 ≠ 0 → False) ∧
(v11 = 0 → (Go.Sx.L2.tAt).rel.pre [(1 : Int)] [L5] ∧
(∀ v12 : Int, ∀ v13 : Int, ∀ v14 : Int, ∀ v15 : Int, (Go.Sx.L2.tAt).rel.post [(1 : Int)] [L5] [v12, v13, v14, v15] [] → (v15 ≠ 0 → False) ∧
(v15 = 0 → (Go.Sx.L2.tAt).rel.pre [(2 : Int)] [L5] ∧
(∀ v16 : Int, ∀ v17 : Int, ∀ v18 : Int, ∀ v19 : Int, (Go.Sx.L2.tAt).rel.post [(2 : Int)] [L5] [v16, v17, v18, v19] [] → (v19 ≠ 0 → False) ∧
(v19 = 0 → (Go.Sx.L2.tAt).rel.pre [(3 : Int)] [L5] ∧
(∀ v20 : Int, ∀ v21 : Int, ∀ v22 : Int, ∀ v23 : Int, (Go.Sx.L2.tAt).rel.post [(3 : Int)] [L5] [v20, v21, v22, v23] [] → (v23 ≠ 0 → False) ∧
(v23 = 0 → (Go.Sx.L2.tAt).rel.pre [(4 : Int)] [L5] ∧
(∀ v24 : Int, ∀ v25 : Int, ∀ v26 : Int, ∀ v27 : Int, (Go.Sx.L2.tAt).rel.post [(4 : Int)] [L5] [v24, v25, v26, v27] [] → (v27 ≠ 0 → False) ∧
(v27 = 0 → (Go.Sx.L2.tAt).rel.pre [(5 : Int)] [L5] ∧
(∀ v28 : Int, ∀ v29 : Int, ∀ v30 : Int, ∀ v31 : Int, (Go.Sx.L2.tAt).rel.post [(5 : Int)] [L5] [v28, v29, v30, v31] [] → (v31 ≠ 0 → False) ∧
(v31 = 0 → (Go.Sx.L2.tAt).rel.pre [(6 : Int)] [L5] ∧
(∀ v32 : Int, ∀ v33 : Int, ∀ v34 : Int, ∀ v35 : Int, (Go.Sx.L2.tAt).rel.post [(6 : Int)] [L5] [v32, v33, v34, v35] [] → (v35 ≠ 0 → False) ∧
(v35 = 0 → (Go.Sx.L2.tAt).rel.pre [(7 : Int)] [L5] ∧
(∀ v36 : Int, ∀ v37 : Int, ∀ v38 : Int, ∀ v39 : Int, (Go.Sx.L2.tAt).rel.post [(7 : Int)] [L5] [v36, v37, v38, v39] [] → (v39 ≠ (0 : Int)) ∧ Q [] []))))))))))))))))))) ∧
((v0 ≤ v5) → (v2 ≠ 0 → (Go.Sx.L2.jR).rel.pre [v3, v4] [L4] ∧
(∀ L5 : List Int, (Go.Sx.L2.jR).rel.post [v3, v4] [L4] [] [L5] → (Go.Sx.L2.tAt).rel.pre [(0 : Int)] [L5] ∧
(∀ v7 : Int, ∀ v8 : Int, ∀ v9 : Int, ∀ v10 : Int, (Go.Sx.L2.tAt).rel.post [(0 : Int)] [L5] [v7, v8, v9, v10] [] → (v10 ≠ 0 → False) ∧
(v10 = 0 → (Go.Sx.L2.tAt).rel.pre [(1 : Int)] [L5] ∧
(∀ v11 : Int, ∀ v12 : Int, ∀ v13 : Int, ∀ v14 : Int, (Go.Sx.L2.tAt).rel.post [(1 : Int)] [L5] [v11, v12, v13, v14] [] → (v14 ≠ 0 → False) ∧
(v14 = 0 → (Go.Sx.L2.tAt).rel.pre [(2 : Int)] [L5] ∧
(∀ v15 : Int, ∀ v16 : Int, ∀ v17 : Int, ∀ v18 : Int, (Go.Sx.L2.tAt).rel.post [(2 : Int)] [L5] [v15, v16, v17, v18] [] → (v18 ≠ 0 → False) ∧
(v18 = 0 → (Go.Sx.L2.tAt).rel.pre [(3 : Int)] [L5] ∧
(∀ v19 : Int, ∀ v20 : Int, ∀ v21 : Int, ∀ v22 : Int, (Go.Sx.L2.tAt).rel.post [(3 : Int)] [L5] [v19, v20, v21, v22] [] → (v22 ≠ 0 → False) ∧
(v22 = 0 → (Go.Sx.L2.tAt).rel.pre [(4 : Int)] [L5] ∧
(∀ v23 : Int, ∀ v24 : Int, ∀ v25 : Int, ∀ v26 : Int, (Go.Sx.L2.tAt).rel.post [(4 : Int)] [L5] [v23, v24, v25, v26] [] → (v26 ≠ 0 → False) ∧
(v26 = 0 → (Go.Sx.L2.tAt).rel.pre [(5 : Int)] [L5] ∧
(∀ v27 : Int, ∀ v28 : Int, ∀ v29 : Int, ∀ v30 : Int, (Go.Sx.L2.tAt).rel.post [(5 : Int)] [L5] [v27, v28, v29, v30] [] → (v30 ≠ 0 → False) ∧
(v30 = 0 → (Go.Sx.L2.tAt).rel.pre [(6 : Int)] [L5] ∧
(∀ v31 : Int, ∀ v32 : Int, ∀ v33 : Int, ∀ v34 : Int, (Go.Sx.L2.tAt).rel.post [(6 : Int)] [L5] [v31, v32, v33, v34] [] → (v34 ≠ 0 → False) ∧
(v34 = 0 → (Go.Sx.L2.tAt).rel.pre [(7 : Int)] [L5] ∧
(∀ v35 : Int, ∀ v36 : Int, ∀ v37 : Int, ∀ v38 : Int, (Go.Sx.L2.tAt).rel.post [(7 : Int)] [L5] [v35, v36, v37, v38] [] → (v38 ≠ (0 : Int)) ∧ Q [] []))))))))))))))))) ∧
(v2 = 0 → (Go.Sx.L2.jR).rel.pre [v3, v4] [L4] ∧
(∀ L5 : List Int, (Go.Sx.L2.jR).rel.post [v3, v4] [L4] [] [L5] → (Go.Sx.L2.tAt).rel.pre [(0 : Int)] [L5] ∧
(∀ v7 : Int, ∀ v8 : Int, ∀ v9 : Int, ∀ v10 : Int, (Go.Sx.L2.tAt).rel.post [(0 : Int)] [L5] [v7, v8, v9, v10] [] → (v10 ≠ 0 → False) ∧
(v10 = 0 → (Go.Sx.L2.tAt).rel.pre [(1 : Int)] [L5] ∧
(∀ v11 : Int, ∀ v12 : Int, ∀ v13 : Int, ∀ v14 : Int, (Go.Sx.L2.tAt).rel.post [(1 : Int)] [L5] [v11, v12, v13, v14] [] → (v14 ≠ 0 → False) ∧
(v14 = 0 → (Go.Sx.L2.tAt).rel.pre [(2 : Int)] [L5] ∧
(∀ v15 : Int, ∀ v16 : Int, ∀ v17 : Int, ∀ v18 : Int, (Go.Sx.L2.tAt).rel.post [(2 : Int)] [L5] [v15, v16, v17, v18] [] → (v18 ≠ 0 → False) ∧
(v18 = 0 → (Go.Sx.L2.tAt).rel.pre [(3 : Int)] [L5] ∧
(∀ v19 : Int, ∀ v20 : Int, ∀ v21 : Int, ∀ v22 : Int, (Go.Sx.L2.tAt).rel.post [(3 : Int)] [L5] [v19, v20, v21, v22] [] → (v22 ≠ 0 → False) ∧
(v22 = 0 → (Go.Sx.L2.tAt).rel.pre [(4 : Int)] [L5] ∧
(∀ v23 : Int, ∀ v24 : Int, ∀ v25 : Int, ∀ v26 : Int, (Go.Sx.L2.tAt).rel.post [(4 : Int)] [L5] [v23, v24, v25, v26] [] → (v26 ≠ 0 → False) ∧
(v26 = 0 → (Go.Sx.L2.tAt).rel.pre [(5 : Int)] [L5] ∧
(∀ v27 : Int, ∀ v28 : Int, ∀ v29 : Int, ∀ v30 : Int, (Go.Sx.L2.tAt).rel.post [(5 : Int)] [L5] [v27, v28, v29, v30] [] → (v30 ≠ 0 → False) ∧
(v30 = 0 → (Go.Sx.L2.tAt).rel.pre [(6 : Int)] [L5] ∧
(∀ v31 : Int, ∀ v32 : Int, ∀ v33 : Int, ∀ v34 : Int, (Go.Sx.L2.tAt).rel.post [(6 : Int)] [L5] [v31, v32, v33, v34] [] → (v34 ≠ 0 → False) ∧
(v34 = 0 → (Go.Sx.L2.tAt).rel.pre [(7 : Int)] [L5] ∧
(∀ v35 : Int, ∀ v36 : Int, ∀ v37 : Int, ∀ v38 : Int, (Go.Sx.L2.tAt).rel.post [(7 : Int)] [L5] [v35, v36, v37, v38] [] → (v38 ≠ (0 : Int)) ∧ Q [] []))))))))))))))))))))))))) := by kernel_rfl
set_option maxHeartbeats 4000000 in
theorem plainPages_holds0 : (lawSpec L2.f_messuagelaw11_PlainPages [.slc [.i .i64], .one .b]).Holds Tryz.prog L2.ro := FSpec.holdsV (cfg := withA (withS (L2.cfgB Tryz.prog) [L2.pNew1, L2.tAt]) L2.f_plain_Kernel_Do [L2.jA, L2.jB, L2.jC, L2.jM, L2.jR, L2.jD]) [{ f := L2.f_messuagelaw11_PlainPages, reg := 9, ints := [(8, 0, 12)], lists := [(7, [], some (0, 1)), (6, [4, 0], some (-9223372036854775808, 9223372036854775807))], maps := [(7, .i64, .b)] }] 20 200 (withA_ok (withS_ok cfgB_ok ⟨pNew1_holds, tAt_holds, trivial⟩) (fun s hs => by
  simp only [List.mem_cons, List.not_mem_nil, or_false] at hs
  rcases hs with rfl | rfl | rfl | rfl | rfl | rfl <;> rfl) ⟨jA_holds, jB_holds, jC_holds, jM_holds, jR_holds, jD_holds, trivial⟩) mixed (t := PlainPages_t) PlainPages_tree (by
  show ∀ (v0 v1 v2 : Int) (L0 : List Int), _
  intro v0 v1 v2 L0 hp hr hl
  replace hr : ((0 : Int) ≤ v0 ∧ v0 ≤ (9223372036854775807 : Int)) ∧ ((0 : Int) ≤ v1 ∧ v1 ≤ (9223372036854775807 : Int)) ∧ ((0 : Int) ≤ v2 ∧ v2 ≤ (1 : Int)) ∧ True := hr
  replace hp : (True ∧ ((0 : Int) ≤ v0 ∧ v0 ≤ v1 ∧ (L0.length : Int) = v0 * ((1 : Nat) : Int) ∧ ((1 : Nat) ≠ 1 → [v0, v1, v2].getD 2 0 = v0 * ((1 : Nat) : Int)) ∧ ∀ j, j < L0.length → ((oneKind [.i .i64]).getD (j % (oneKind [.i .i64]).length) (.i .i64)).lo ≤ L0.getD j 0 ∧ L0.getD j 0 ≤ ((oneKind [.i .i64]).getD (j % (oneKind [.i .i64]).length) (.i .i64)).hi)) := hp
  show PlainPages_t.dn ⟨_, []⟩ 3 [v2, v1, v0] 1 [L0]
  rw [PlainPages_vc]
  show ((L2.yes L2.f_messuagelaw11_begun).rel.pre [] [] ∧ _)
  refine ⟨trivial, fun _ => ?_⟩
  refine ⟨trivial, fun v3 v4 _ => ⟨trivial, fun _ => ⟨trivial, fun _ => ⟨trivial, fun _ => ?_⟩⟩⟩⟩
  intro L1 e1 L2 e2
  refine ⟨fun xs ys => match xs, ys with | [i], [H, L] => 0 ≤ i ∧ PgInv H L | _, _ => False, fun xs _ => match xs with | i :: _ => (12 - i).toNat | _ => 0, ?_, ?_⟩ <;> dsimp only
  · exact ⟨by omega, PgInv.start e1 e2⟩
  · intro i H L hI
    obtain ⟨i0, hP⟩ := hI
    refine ⟨fun c1 => ⟨fun c2 => ⟨c1, c1, fun x ex y ey z ez p ep => ?_⟩, fun c2 => ⟨fun d => ?_, fun d => ?_⟩⟩, fun c1 => ⟨fun d => ?_, fun d => ?_⟩⟩
    · have tm : ∀ a : Int, -7 < a.tmod 7 ∧ a.tmod 7 < 7 ∧ (0 ≤ a → 0 ≤ a.tmod 7) := fun a => by
        have := Int.tmod_lt_of_pos a (show (0 : Int) < 7 by decide)
        have := Int.lt_tmod_of_pos a (show (0 : Int) < 7 by decide)
        exact ⟨by omega, by omega, fun h => Int.tmod_nonneg _ h⟩
      have p0 : 0 ≤ p := by rw [ep]; exact (tm z).2.2 (by have := (tm x).1; omega)
      have p7 : p < 7 := by rw [ep]; exact (tm z).2.1
      clear ep ez ey ex tm
      have hN := (hP.next p0 p7).2
      refine ⟨⟨hP.ok, fun e L5 q a ea b eb c ec d ed => ?_⟩, fun b eb => ⟨hP.ok, fun e L5 q a ea c ec d ed => ?_⟩⟩
      all_goals
        obtain ⟨q1, q2⟩ := q
        have q1 : e = insE L p 0 3 1 := (List.cons.inj q1).1
        have q2 : L5 = insL L p 0 3 1 := (List.cons.inj q2).1
        have hne := hP.eq p0 p7 q1 ea eb ec ed
        refine ⟨fun k => hne k, fun _ H' eH j ej => ⟨⟨by omega, ?_⟩, by omega⟩⟩
        rw [eH, q2]; exact hN
    ·
      refine ⟨hP.ok, fun L5 q5 => ?_⟩
      have G : PgGone L5 := q5
      refine ⟨trivial, fun a b c v q => ⟨fun k => k (G.at (p := 0) (by decide) (by decide) q.1), fun _ => ?_⟩⟩
      refine ⟨trivial, fun a b c v q => ⟨fun k => k (G.at (p := 1) (by decide) (by decide) q.1), fun _ => ?_⟩⟩
      refine ⟨trivial, fun a b c v q => ⟨fun k => k (G.at (p := 2) (by decide) (by decide) q.1), fun _ => ?_⟩⟩
      refine ⟨trivial, fun a b c v q => ⟨fun k => k (G.at (p := 3) (by decide) (by decide) q.1), fun _ => ?_⟩⟩
      refine ⟨trivial, fun a b c v q => ⟨fun k => k (G.at (p := 4) (by decide) (by decide) q.1), fun _ => ?_⟩⟩
      refine ⟨trivial, fun a b c v q => ⟨fun k => k (G.at (p := 5) (by decide) (by decide) q.1), fun _ => ?_⟩⟩
      refine ⟨trivial, fun a b c v q => ⟨fun k => k (G.at (p := 6) (by decide) (by decide) q.1), fun _ => ?_⟩⟩
      exact ⟨trivial, fun a b c v q => ⟨G.at7 q.1, trivial⟩⟩
    ·
      refine ⟨hP.ok, fun L5 q5 => ?_⟩
      have G : PgGone L5 := q5
      refine ⟨trivial, fun a b c v q => ⟨fun k => k (G.at (p := 0) (by decide) (by decide) q.1), fun _ => ?_⟩⟩
      refine ⟨trivial, fun a b c v q => ⟨fun k => k (G.at (p := 1) (by decide) (by decide) q.1), fun _ => ?_⟩⟩
      refine ⟨trivial, fun a b c v q => ⟨fun k => k (G.at (p := 2) (by decide) (by decide) q.1), fun _ => ?_⟩⟩
      refine ⟨trivial, fun a b c v q => ⟨fun k => k (G.at (p := 3) (by decide) (by decide) q.1), fun _ => ?_⟩⟩
      refine ⟨trivial, fun a b c v q => ⟨fun k => k (G.at (p := 4) (by decide) (by decide) q.1), fun _ => ?_⟩⟩
      refine ⟨trivial, fun a b c v q => ⟨fun k => k (G.at (p := 5) (by decide) (by decide) q.1), fun _ => ?_⟩⟩
      refine ⟨trivial, fun a b c v q => ⟨fun k => k (G.at (p := 6) (by decide) (by decide) q.1), fun _ => ?_⟩⟩
      exact ⟨trivial, fun a b c v q => ⟨G.at7 q.1, trivial⟩⟩
    ·
      refine ⟨hP.ok, fun L5 q5 => ?_⟩
      have G : PgGone L5 := q5
      refine ⟨trivial, fun a b c v q => ⟨fun k => k (G.at (p := 0) (by decide) (by decide) q.1), fun _ => ?_⟩⟩
      refine ⟨trivial, fun a b c v q => ⟨fun k => k (G.at (p := 1) (by decide) (by decide) q.1), fun _ => ?_⟩⟩
      refine ⟨trivial, fun a b c v q => ⟨fun k => k (G.at (p := 2) (by decide) (by decide) q.1), fun _ => ?_⟩⟩
      refine ⟨trivial, fun a b c v q => ⟨fun k => k (G.at (p := 3) (by decide) (by decide) q.1), fun _ => ?_⟩⟩
      refine ⟨trivial, fun a b c v q => ⟨fun k => k (G.at (p := 4) (by decide) (by decide) q.1), fun _ => ?_⟩⟩
      refine ⟨trivial, fun a b c v q => ⟨fun k => k (G.at (p := 5) (by decide) (by decide) q.1), fun _ => ?_⟩⟩
      refine ⟨trivial, fun a b c v q => ⟨fun k => k (G.at (p := 6) (by decide) (by decide) q.1), fun _ => ?_⟩⟩
      exact ⟨trivial, fun a b c v q => ⟨G.at7 q.1, trivial⟩⟩
    ·
      refine ⟨hP.ok, fun L5 q5 => ?_⟩
      have G : PgGone L5 := q5
      refine ⟨trivial, fun a b c v q => ⟨fun k => k (G.at (p := 0) (by decide) (by decide) q.1), fun _ => ?_⟩⟩
      refine ⟨trivial, fun a b c v q => ⟨fun k => k (G.at (p := 1) (by decide) (by decide) q.1), fun _ => ?_⟩⟩
      refine ⟨trivial, fun a b c v q => ⟨fun k => k (G.at (p := 2) (by decide) (by decide) q.1), fun _ => ?_⟩⟩
      refine ⟨trivial, fun a b c v q => ⟨fun k => k (G.at (p := 3) (by decide) (by decide) q.1), fun _ => ?_⟩⟩
      refine ⟨trivial, fun a b c v q => ⟨fun k => k (G.at (p := 4) (by decide) (by decide) q.1), fun _ => ?_⟩⟩
      refine ⟨trivial, fun a b c v q => ⟨fun k => k (G.at (p := 5) (by decide) (by decide) q.1), fun _ => ?_⟩⟩
      refine ⟨trivial, fun a b c v q => ⟨fun k => k (G.at (p := 6) (by decide) (by decide) q.1), fun _ => ?_⟩⟩
      exact ⟨trivial, fun a b c v q => ⟨G.at7 q.1, trivial⟩⟩)
theorem plainPages_holds : ((lawSpec L2.f_messuagelaw11_PlainPages [.slc [.i .i64], .one .b]).withPre fun _ => True).Holds Tryz.prog L2.ro := holds_withPre _ plainPages_holds0

noncomputable def PlainPages_n_t : Tree := .call 5 (Go.Sx.L2.yes Go.Sx.L2.f_messuagelaw11_begun).rel [] [] 0 0 (.call 22 (Go.Sx.L2.pNew1).rel [] [] 2 0 (.call 8 (Go.Sx.L2.jA).rel [.v 1, .v 2] [] 0 0 (.call 8 (Go.Sx.L2.jA).rel [.v 1, .v 2] [] 0 0 (.call 8 (Go.Sx.L2.jA).rel [.v 1, .v 2] [] 0 0 (.letL (.rep (.c 16) (.c 0)) (.letL (.lit [.c (0), .c (0), .c (0), .c (0), .c (0), .c (0), .c (0), .c (0), .c (0), .c (0), .c (0), .c (0), .c (0), .c (0), .c (0), .c (0), .c (0), .c (0), .c (0), .c (0), .c (0), .c (0), .c (0), .c (1)]) (.loop [.c (0)] [0, 1] (.exit (.ite (.v 0) (.call 8 (Go.Sx.L2.jR).rel [.v 1, .v 2] [3] 0 1 (.call 50 (Go.Sx.L2.tAt).rel [.c (0)] [4] 4 0 (.ite (.v 7) (.fail 180) (.call 50 (Go.Sx.L2.tAt).rel [.c (1)] [4] 4 0 (.ite (.v 11) (.fail 180) (.call 50 (Go.Sx.L2.tAt).rel [.c (2)] [4] 4 0 (.ite (.v 15) (.fail 180) (.call 50 (Go.Sx.L2.tAt).rel [.c (3)] [4] 4 0 (.ite (.v 19) (.fail 180) (.call 50 (Go.Sx.L2.tAt).rel [.c (4)] [4] 4 0 (.ite (.v 23) (.fail 180) (.call 50 (Go.Sx.L2.tAt).rel [.c (5)] [4] 4 0 (.ite (.v 27) (.fail 180) (.call 50 (Go.Sx.L2.tAt).rel [.c (6)] [4] 4 0 (.ite (.v 31) (.fail 180) (.call 50 (Go.Sx.L2.tAt).rel [.c (7)] [4] 4 0 (.need .neq (.v 35) (.c 0) (.done [] [])))))))))))))))))) (.call 8 (Go.Sx.L2.jR).rel [.v 1, .v 2] [3] 0 1 (.call 50 (Go.Sx.L2.tAt).rel [.c (0)] [4] 4 0 (.ite (.v 7) (.fail 180) (.call 50 (Go.Sx.L2.tAt).rel [.c (1)] [4] 4 0 (.ite (.v 11) (.fail 180) (.call 50 (Go.Sx.L2.tAt).rel [.c (2)] [4] 4 0 (.ite (.v 15) (.fail 180) (.call 50 (Go.Sx.L2.tAt).rel [.c (3)] [4] 4 0 (.ite (.v 19) (.fail 180) (.call 50 (Go.Sx.L2.tAt).rel [.c (4)] [4] 4 0 (.ite (.v 23) (.fail 180) (.call 50 (Go.Sx.L2.tAt).rel [.c (5)] [4] 4 0 (.ite (.v 27) (.fail 180) (.call 50 (Go.Sx.L2.tAt).rel [.c (6)] [4] 4 0 (.ite (.v 31) (.fail 180) (.call 50 (Go.Sx.L2.tAt).rel [.c (7)] [4] 4 0 (.need .neq (.v 35) (.c 0) (.done [] [])))))))))))))))))))))))))))
theorem PlainPages_n_tree : (lawSpec L2.f_messuagelaw11_PlainPages [.nil, .one .b]).exe Tryz.prog (withA (withS (L2.cfgB Tryz.prog) [L2.pNew1, L2.tAt]) L2.f_plain_Kernel_Do [L2.jA, L2.jB, L2.jC, L2.jM, L2.jR, L2.jD]) [{ f := L2.f_messuagelaw11_PlainPages, reg := 9, ints := [(8, 0, 12)], lists := [(7, [], some (0, 1)), (6, [4, 0], some (-9223372036854775808, 9223372036854775807))], maps := [(7, .i64, .b)] }] 20 200 = PlainPages_n_t := by kernel_rfl
theorem PlainPages_n_vc (Q : List Int → List (List Int) → Prop) (v0 : Int) : PlainPages_n_t.dn ⟨Q, []⟩ 1 [v0] 0 [] = ((Go.Sx.L2.yes Go.Sx.L2.f_messuagelaw11_begun).rel.pre [] [] ∧
((Go.Sx.L2.yes Go.Sx.L2.f_messuagelaw11_begun).rel.post [] [] [] [] → (Go.Sx.L2.pNew1).rel.pre [] [] ∧
(∀ v1 : Int, ∀ v2 : Int, (Go.Sx.L2.pNew1).rel.post [] [] [v1, v2] [] → (Go.Sx.L2.jA).rel.pre [v1, v2] [] ∧
((Go.Sx.L2.jA).rel.post [v1, v2] [] [] [] → (Go.Sx.L2.jA).rel.pre [v1, v2] [] ∧
((Go.Sx.L2.jA).rel.post [v1, v2] [] [] [] → (Go.Sx.L2.jA).rel.pre [v1, v2] [] ∧
((Go.Sx.L2.jA).rel.post [v1, v2] [] [] [] → ∀ L0 : List Int, L0 = List.replicate ((16 : Int)).toNat (0 : Int) → ∀ L1 : List Int, L1 = [(0 : Int), (0 : Int), (0 : Int), (0 : Int), (0 : Int), (0 : Int), (0 : Int), (0 : Int), (0 : Int), (0 : Int), (0 : Int), (0 : Int), (0 : Int), (0 : Int), (0 : Int), (0 : Int), (0 : Int), (0 : Int), (0 : Int), (0 : Int), (0 : Int), (0 : Int), (0 : Int), (1 : Int)] → ∃ (I0 : List Int → List (List Int) → Prop) (μ0 : List Int → List (List Int) → Nat), I0 [(0 : Int)] [L0, L1] ∧
(∀ v3 : Int, ∀ L2 : List Int, ∀ L3 : List Int, I0 [v3] [L2, L3] →
 (v0 ≠ 0 → (Go.Sx.L2.jR).rel.pre [v1, v2] [L3] ∧
(∀ L4 : List Int, (Go.Sx.L2.jR).rel.post [v1, v2] [L3] [] [L4] → (Go.Sx.L2.tAt).rel.pre [(0 : Int)] [L4] ∧
(∀ v4 : Int, ∀ v5 : Int, ∀ v6 : Int, ∀ v7 : Int, (Go.Sx.L2.tAt).rel.post [(0 : Int)] [L4] [v4, v5, v6, v7] [] → (v7 ≠ 0 → False) ∧
(v7 = 0 → (Go.Sx.L2.tAt).rel.pre [(1 : Int)] [L4] ∧
(∀ v8 : Int, ∀ v9 : Int, ∀ v10 : Int, ∀ v11 : Int, (Go.Sx.L2.tAt).rel.post [(1 : Int)] [L4] [v8, v9, v10, v11] [] → (v11 ≠ 0 → False) ∧
(v11 = 0 → (Go.Sx.L2.tAt).rel.pre [(2 : Int)] [L4] ∧
(∀ v12 : Int, ∀ v13 : Int, ∀ v14 : Int, ∀ v15 : Int, (Go.Sx.L2.tAt).rel.post [(2 : Int)] [L4] [v12, v13, v14, v15] [] → (v15 ≠ 0 → False) ∧
(v15 = 0 → (Go.Sx.L2.tAt).rel.pre [(3 : Int)] [L4] ∧
(∀ v16 : Int, ∀ v17 : Int, ∀ v18 : Int, ∀ v19 : Int, (Go.Sx.L2.tAt).rel.post [(3 : Int)] [L4] [v16, v17, v18, v19] [] → (v19 ≠ 0 → False) ∧
(v19 = 0 → (Go.Sx.L2.tAt).rel.pre [(4 : Int)] [L4] ∧
(∀ v20 : Int, ∀ v21 : Int, ∀ v22 : Int, ∀ v23 : Int, (Go.Sx.L2.tAt).rel.post [(4 : Int)] [L4] [v20, v21, v22, v23] [] → (v23 ≠ 0 → False) ∧
(v23 = 0 → (Go.Sx.L2.tAt).rel.pre [(5 : Int)] [L4] ∧
(∀ v24 : Int, ∀ v25 : Int, ∀ v26 : Int, ∀ v27 : Int, (Go.Sx.L2.tAt).rel.post [(5 : Int)] [L4] [v24, v25, v26, v27] [] → (v27 ≠ 0 → False) ∧
(v27 = 0 → (Go.Sx.L2.tAt).rel.pre [(6 : Int)] [L4] ∧
(∀ v28 : Int, ∀ v29 : Int, ∀ v30 : Int, ∀ v31 : Int, (Go.Sx.L2.tAt).rel.post [(6 : Int)] [L4] [v28, v29, v30, v31] [] → (v31 ≠ 0 → False) ∧
(v31 = 0 → (Go.Sx.L2.tAt).rel.pre [(7 : Int)] [L4] ∧
(∀ v32 : Int, ∀ v33 : Int, ∀ v34 : Int, ∀ v35 : Int, (Go.Sx.L2.tAt).rel.post [(7 : Int)] [L4] [v32, v33, v34, v35] [] → (v35 ≠ (0 : Int)) ∧ Q [] []))))))))))))))))) ∧
(v0 = 0 → (Go.Sx.L2.jR).rel.pre [v1, v2] [L3] ∧
(∀ L4 : List Int, (Go.Sx.L2.jR).rel.post [v1, v2] [L3] [] [L4] → (Go.Sx.L2.tAt).rel.pre [(0 : Int)] [L4] ∧
(∀ v4 : Int, ∀ v5 : Int, ∀ v6 : Int, ∀ v7 : Int, (Go.Sx.L2.tAt).rel.post [(0 : Int)] [L4] [v4, v5, v6, v7] [] → (v7 ≠ 0 → False) ∧
(v7 = 0 → (Go.Sx.L2.tAt).rel.pre [(1 : Int)] [L4] ∧
(∀ v8 : Int, ∀ v9 : Int, ∀ v10 : Int, ∀ v11 : Int, (Go.Sx.L2.tAt).rel.post [(1 : Int)] [L4] [v8, v9, v10, v11] [] → (v11 ≠ 0 → False) ∧
(v11 = 0 → (Go.Sx.L2.tAt).rel.pre [(2 : Int)] [L4] ∧
(∀ v12 : Int, ∀ v13 : Int, ∀ v14 : Int, ∀ v15 : Int, (Go.Sx.L2.tAt).rel.post [(2 : Int)] [L4] [v12, v13, v14, v15] [] → (v15 ≠ 0 → False) ∧
(v15 = 0 → (Go.Sx.L2.tAt).rel.pre [(3 : Int)] [L4] ∧
(∀ v16 : Int, ∀ v17 : Int, ∀ v18 : Int, ∀ v19 : Int, (Go.Sx.L2.tAt).rel.post [(3 : Int)] [L4] [v16, v17, v18, v19] [] → (v19 ≠ 0 → False) ∧
(v19 = 0 → (Go.Sx.L2.tAt).rel.pre [(4 : Int)] [L4] ∧
(∀ v20 : Int, ∀ v21 : Int, ∀ v22 : Int, ∀ v23 : Int, (Go.Sx.L2.tAt).rel.post [(4 : Int)] [L4] [v20, v21, v22, v23] [] → (v23 ≠ 0 → False) ∧
(v23 = 0 → (Go.Sx.L2.tAt).rel.pre [(5 : Int)] [L4] ∧
(∀ v24 : Int, ∀ v25 : Int, ∀ v26 : Int, ∀ v27 : Int, (Go.Sx.L2.tAt).rel.post [(5 : Int)] [L4] [v24, v25, v26, v27] [] → (v27 ≠ 0 → False) ∧
(v27 = 0 → (Go.Sx.L2.tAt).rel.pre [(6 : Int)] [L4] ∧
(∀ v28 : Int, ∀ v29 : Int, ∀ v30 : Int, ∀ v31 : Int, (Go.Sx.L2.tAt).rel.post [(6 : Int)] [L4] [v28, v29, v30, v31] [] → (v31 ≠ 0 → False) ∧
(v31 = 0 → (Go.Sx.L2.tAt).rel.pre [(7 : Int)] [L4] ∧
(∀ v32 : Int, ∀ v33 : Int, ∀ v34 : Int, ∀ v35 : Int, (Go.Sx.L2.tAt).rel.post [(7 : Int)] [L4] [v32, v33, v34, v35] [] → (v35 ≠ (0 : Int)) ∧ Q [] [])))))))))))))))))))))))) := by kernel_rfl
set_option maxHeartbeats 4000000 in
theorem plainPages_holds_n0 : (lawSpec L2.f_messuagelaw11_PlainPages [.nil, .one .b]).Holds Tryz.prog L2.ro := FSpec.holdsV (cfg := withA (withS (L2.cfgB Tryz.prog) [L2.pNew1, L2.tAt]) L2.f_plain_Kernel_Do [L2.jA, L2.jB, L2.jC, L2.jM, L2.jR, L2.jD]) [{ f := L2.f_messuagelaw11_PlainPages, reg := 9, ints := [(8, 0, 12)], lists := [(7, [], some (0, 1)), (6, [4, 0], some (-9223372036854775808, 9223372036854775807))], maps := [(7, .i64, .b)] }] 20 200 (withA_ok (withS_ok cfgB_ok ⟨pNew1_holds, tAt_holds, trivial⟩) (fun s hs => by
  simp only [List.mem_cons, List.not_mem_nil, or_false] at hs
  rcases hs with rfl | rfl | rfl | rfl | rfl | rfl <;> rfl) ⟨jA_holds, jB_holds, jC_holds, jM_holds, jR_holds, jD_holds, trivial⟩) mixed (t := PlainPages_n_t) PlainPages_n_tree (by
  show ∀ (v0 : Int) , _
  intro v0  hp hr hl
  replace hr : ((0 : Int) ≤ v0 ∧ v0 ≤ (1 : Int)) ∧ True := hr
  replace hp : True := hp
  show PlainPages_n_t.dn ⟨_, []⟩ 1 [v0] 0 []
  rw [PlainPages_n_vc]
  show ((L2.yes L2.f_messuagelaw11_begun).rel.pre [] [] ∧ _)
  refine ⟨trivial, fun _ => ?_⟩
  refine ⟨trivial, fun v3 v4 _ => ⟨trivial, fun _ => ⟨trivial, fun _ => ⟨trivial, fun _ => ?_⟩⟩⟩⟩
  intro L1 e1 L2 e2
  refine ⟨fun xs ys => match xs, ys with | [i], [H, L] => 0 ≤ i ∧ PgInv H L | _, _ => False, fun xs _ => match xs with | i :: _ => (12 - i).toNat | _ => 0, ?_, ?_⟩ <;> dsimp only
  · exact ⟨by omega, PgInv.start e1 e2⟩
  · intro i H L hI
    obtain ⟨i0, hP⟩ := hI
    refine ⟨fun d => ?_, fun d => ?_⟩
    ·
      refine ⟨hP.ok, fun L5 q5 => ?_⟩
      have G : PgGone L5 := q5
      refine ⟨trivial, fun a b c v q => ⟨fun k => k (G.at (p := 0) (by decide) (by decide) q.1), fun _ => ?_⟩⟩
      refine ⟨trivial, fun a b c v q => ⟨fun k => k (G.at (p := 1) (by decide) (by decide) q.1), fun _ => ?_⟩⟩
      refine ⟨trivial, fun a b c v q => ⟨fun k => k (G.at (p := 2) (by decide) (by decide) q.1), fun _ => ?_⟩⟩
      refine ⟨trivial, fun a b c v q => ⟨fun k => k (G.at (p := 3) (by decide) (by decide) q.1), fun _ => ?_⟩⟩
      refine ⟨trivial, fun a b c v q => ⟨fun k => k (G.at (p := 4) (by decide) (by decide) q.1), fun _ => ?_⟩⟩
      refine ⟨trivial, fun a b c v q => ⟨fun k => k (G.at (p := 5) (by decide) (by decide) q.1), fun _ => ?_⟩⟩
      refine ⟨trivial, fun a b c v q => ⟨fun k => k (G.at (p := 6) (by decide) (by decide) q.1), fun _ => ?_⟩⟩
      exact ⟨trivial, fun a b c v q => ⟨G.at7 q.1, trivial⟩⟩
    ·
      refine ⟨hP.ok, fun L5 q5 => ?_⟩
      have G : PgGone L5 := q5
      refine ⟨trivial, fun a b c v q => ⟨fun k => k (G.at (p := 0) (by decide) (by decide) q.1), fun _ => ?_⟩⟩
      refine ⟨trivial, fun a b c v q => ⟨fun k => k (G.at (p := 1) (by decide) (by decide) q.1), fun _ => ?_⟩⟩
      refine ⟨trivial, fun a b c v q => ⟨fun k => k (G.at (p := 2) (by decide) (by decide) q.1), fun _ => ?_⟩⟩
      refine ⟨trivial, fun a b c v q => ⟨fun k => k (G.at (p := 3) (by decide) (by decide) q.1), fun _ => ?_⟩⟩
      refine ⟨trivial, fun a b c v q => ⟨fun k => k (G.at (p := 4) (by decide) (by decide) q.1), fun _ => ?_⟩⟩
      refine ⟨trivial, fun a b c v q => ⟨fun k => k (G.at (p := 5) (by decide) (by decide) q.1), fun _ => ?_⟩⟩
      refine ⟨trivial, fun a b c v q => ⟨fun k => k (G.at (p := 6) (by decide) (by decide) q.1), fun _ => ?_⟩⟩
      exact ⟨trivial, fun a b c v q => ⟨G.at7 q.1, trivial⟩⟩)
theorem plainPages_holds_n : ((lawSpec L2.f_messuagelaw11_PlainPages [.nil, .one .b]).withPre fun _ => True).Holds Tryz.prog L2.ro := holds_withPre _ plainPages_holds_n0

theorem plainPages_calls {H : Type} {enc : TypeId × Value → H} {W : World} {base : Nat} {args : Array Value} {ds : List (DataW H)} {p : List MemPlace} (hval : ∀ (j : Nat) t v, Tryz.f3.params[j]? = some t → args[j]? = some v → Value.okWide Tryz.prog W .any base t v)
    (hA : DataW.TrodAll enc Tryz.prog W 0 (fun _ => true) true Tryz.f3.params.toList args.toList ds p) (hL : laidMetH Tryz.prog laid1 W) : Calls Tryz.prog 3 args W fun e W' => e = .returned (.bool true) ∧ Go.Sx.Frame ⟨W, [], L2.ro⟩ W' := by
  rw [Tryz.params3] at hA hval
  obtain ⟨v0, v1, d0, d1, p0, p1, rfl, rfl, rfl, h0, h1⟩ := trodAll_two hA
  obtain ⟨n1, q1⟩ := par_bool (base := 0) und4 (hval 1 4 v1 rfl rfl) h1
  rcases par_flats (base := 0) (f := 9) und22 flat3 cells3 (by decide) (hval 0 22 v0 rfl rfl) h0 with q0 | ⟨e0, q0⟩
  · exact law_calls (plainPages_holds_n) Tryz.func3 (show Tryz.f3.body = some _ from rfl) (by kernel_rfl) (.cons q0 (.cons q1 .none)) trivial (ro_of_laid hL)
  · exact law_calls (plainPages_holds) Tryz.func3 (show Tryz.f3.body = some _ from rfl) (by kernel_rfl) (.cons q0 (.cons q1 .none)) trivial (ro_of_laid hL)
set_option maxHeartbeats 1000000 in
theorem plainPages_lifted (os : Os) (started : os.Started) (H : Type) (enc : TypeId × Value → H) :
    ReturnsInHanded {} Tryz.checked os 3 .any (fun w args => (Rows.plainPagesSpec.pre enc Tryz.prog Tryz.f3 [] false w args ∧ laidMetH Tryz.prog laid1 w) ∧ sizedMet enc Tryz.prog Tryz.f3 (OpenSpec.ofChange Rows.plainPagesSpec) false w args)
      (Rows.plainPagesSpec.post enc Tryz.prog Tryz.f3 false true false false) := by
  refine returnsInHanded_of_change_and (C := Tryz.checked) (X := fun w _ => laidMetH Tryz.prog laid1 w) (fun _ _ _ hh h => h.of_heap hh) Tryz.own started (by kernel_rfl) Tryz.func3
    (ChangeSpec.witness_at (enc := enc) (C := Tryz.checked) (os := os) (X := fun w _ => laidMetH Tryz.prog laid1 w) false (laidWorld os) #[.slice none 0 0, .bool false] 8 rfl (by kernel_rfl) (by kernel_rfl) (by kernel_rfl) (by kernel_rfl) (by kernel_rfl) (laidWorld_met os _)) ?_
  intro W base args ds gs before hval0 hW _ _ hL _
  have hval : ∀ (j : Nat) t v, Tryz.f3.params[j]? = some t → args[j]? = some v → Value.okWide Tryz.prog W .any base t v := hval0
  have hW' := hW
  obtain ⟨p, q, hA0, hV0, rfl, hfz, hnd⟩ := hW
  have hcall := plainPages_calls (enc := enc) hval hA0 hL
  refine Calls.mono hcall ?_
  rintro e W' ⟨rfl, hfr⟩
  exact ⟨_, rfl, post_kept Tryz.laidOut (by kernel_rfl) rfl rfl und4 hW' hfr (by
    have hg : gs = [] := by cases gs with | nil => rfl | cons g r => exact absurd hV0 (by intro h; cases h)
    subst hg
    have hA1 : DataW.TrodAll enc Tryz.prog W 0 (fun _ => true) true Tryz.f3.params.toList args.toList ds p := hA0
    rw [Tryz.params3] at hA1
    obtain ⟨v0, v1, d0, d1, p0, p1, ea, rfl, ec, h0, h1⟩ := trodAll_two hA1
    rfl)⟩

theorem plainPages_row : Rows.PlainPagesSaid :=
  OpenClaim.holds_of_wide 3 Tryz.f3 rfl rfl rfl rfl rfl rfl rfl ⟨rfl, rfl, rfl, rfl, rfl⟩ rfl rfl rfl rfl rfl (by kernel_rfl) Tryz.func3 (restFacts.2 _ _ _ _ _ Tryz.mayEnter Tryz.liftsFinal Tryz.make (by kernel_rfl))
    (of_decide_eq_true (by kernel_rfl)) (by unfold Func.isWrapper; rw [if_neg (of_decide_eq_false (by kernel_rfl))]; exact ⟨rfl, rfl⟩)
    (fun os started H enc _ => plainPages_lifted os started H enc)
theorem plainPages_card : Rows.PlainPagesCardSaid :=
  Claim7.holds_tied_plain_at .later [] [.handle] true (true, "c37214cd26cf5f1276fdeee23c58ff70ef53484e76f0d89ddbe54588837d2cdb") true
    plainPages_row (fun _ h => by cases h) (by kernel_rfl) (fun _ h => by cases h) plainPages_row_tie rfl ⟨rfl, rfl⟩ Tryz.mainIs rfl
    (fun f fn hf hfn => by
      obtain rfl : f = 3 := Option.some.inj ((show Tryz.prog.funcNamed "messuage/messuagelaw11.PlainPages" = some 3 by kernel_rfl).symm.trans hf) |>.symm
      obtain rfl : fn = Tryz.f3 := (Option.some.inj (Tryz.func3.symm.trans hfn)).symm
      exact ⟨by kernel_rfl, fun j t ht => by
        rw [Tryz.params3] at ht
        rcases j with _ | _ | j
        · obtain rfl : 22 = t := by simpa using ht
          exact (show Tryz.prog.wantsStandIn 22 = false by kernel_rfl)
        · obtain rfl : 4 = t := by simpa using ht
          exact (show Tryz.prog.wantsStandIn 4 = false by kernel_rfl)
        · simp at ht⟩)
    (by kernel_rfl)
#print axioms plainPages_card
end Go.Proofs.YtpmgfdakljjlaaaGreatDoor
