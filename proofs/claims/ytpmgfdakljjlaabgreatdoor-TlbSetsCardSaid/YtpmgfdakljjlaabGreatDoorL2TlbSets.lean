/- The statement messuagelaw2.TlbSets of the seat: for every input the law returns true; the condition: errors.errorType is as the program lays it. -/
import Derived.Test.YtpmgfdakljjlaabGreatDoorL2B
import Derived.Test.YtpmgfdakljjlaabGreatDoorSxM7
import Derived.Test.YtpmgfdakljjlaabGreatDoorL2Bt
import Derived.Test.YtpmgfdakljjlaabGreatDoorPuTt
set_option linter.unusedVariables false
set_option linter.constructorNameAsVariable false
set_option linter.unusedSimpArgs false
open Go Go.Sx
namespace Go.Proofs.YtpmgfdakljjlaabGreatDoor
open Go.ChangeShapes Go.WideShapes Go.RowKit
set_option maxRecDepth 100000

noncomputable def TlbSets_t : Tree := .call 5 (Go.Sx.L2.yes Go.Sx.L2.f_messuagelaw2_begun).rel [] [] 0 0 (.call 6 (Go.Sx.L2.bNew).rel [] [] 0 1 (.loop [.c (0)] [2] (.letI (.cmp .lss (.v 4) (.v 0)) (.ite (.v 5) (.letI (.cmp .lss (.v 4) (.v 2)) (.ite (.v 6) (.letI (.cmp .lss (.v 4) (.c 12)) (.ite (.v 7) (.need .lss (.v 4) (.v 0) (.need .lss (.v 4) (.v 0) (.letI (.get 0 (.v 4)) (.letI (.rem (.v 8) (.c 4)) (.letI (.add (.v 9) (.c 4)) (.letI (.rem (.v 10) (.c 4)) (.need .lss (.v 4) (.v 2) (.need .lss (.v 4) (.v 2) (.letI (.get 1 (.v 4)) (.letI (.rem (.v 12) (.c 8)) (.letI (.add (.v 13) (.c 8)) (.letI (.rem (.v 14) (.c 8)) (.call 7 (Go.Sx.L2.bFill).rel [.v 11, .v 15, .c (0), .c (1)] [3] 1 1 (.letI (.add (.v 4) (.c 1)) (.again [.v 17] [4]))))))))))))))) (.exit (.call 8 (Go.Sx.L2.bLines).rel [] [3] 2 1 (.letL (.rep (.c 16) (.c 0)) (.loop [.c (0)] [5] (.letI (.cmp .lss (.v 10) (.c 8)) (.ite (.v 11) (.letI (.mul (.v 10) (.c 4)) (.letI (.get 4 (.v 12)) (.letI (.add (.v 12) (.c 1)) (.letI (.get 4 (.v 14)) (.letI (.add (.v 12) (.c 2)) (.letI (.get 4 (.v 16)) (.letI (.add (.v 12) (.c 3)) (.letI (.get 4 (.v 18)) (.letI (.cmp .lss (.v 13) (.c 0)) (.ite (.v 20) (.letI (.cmp .eql (.v 13) (.c (-1))) (.letI (.cmp .eql (.v 15) (.c 0)) (.letI (.cmp .eql (.v 17) (.c 0)) (.letI (.cmp .eql (.v 19) (.c 0)) (.letI (.pick (.v 24) (.c 1) (.c 0)) (.letI (.pick (.v 23) (.v 25) (.c 0)) (.letI (.pick (.v 22) (.v 26) (.c 0)) (.letI (.pick (.v 21) (.v 27) (.c 0)) (.letI (.not (.v 28)) (.ite (.v 29) (.exit (.fail 180)) (.letI (.add (.v 10) (.c 1)) (.again [.v 30] [6])))))))))))) (.letI (.rem (.v 15) (.c 4)) (.need .geq (.v 21) (.c 0) (.letI (.get 6 (.v 21)) (.letI (.add (.v 22) (.c 1)) (.letI (.wr .i64 (.v 23)) (.letL (.set 6 (.v 21) (.v 24)) (.letI (.quo .i64 (.v 10) (.c 2)) (.letI (.cmp .neq (.v 21) (.v 25)) (.ite (.v 26) (.exit (.fail 180)) (.letI (.add (.v 10) (.c 1)) (.again [.v 27] [7]))))))))))))))))))))) (.exit (.loop [.c (0)] [] (.letI (.cmp .lss (.v 12) (.c 4)) (.ite (.v 13) (.letL (.rep (.c 33) (.c 0)) (.loop [.c (0)] [7] (.letI (.cmp .lss (.v 14) (.v 0)) (.ite (.v 15) (.letI (.cmp .lss (.v 14) (.v 2)) (.ite (.v 16) (.letI (.cmp .lss (.v 14) (.c 12)) (.ite (.v 17) (.need .lss (.v 14) (.v 2) (.need .lss (.v 14) (.v 2) (.letI (.get 1 (.v 14)) (.letI (.rem (.v 18) (.c 8)) (.letI (.add (.v 19) (.c 8)) (.letI (.rem (.v 20) (.c 8)) (.letI (.rem (.v 21) (.c 4)) (.letI (.cmp .eql (.v 12) (.v 22)) (.ite (.v 23) (.need .lss (.v 14) (.v 0) (.need .lss (.v 14) (.v 0) (.letI (.get 0 (.v 14)) (.letI (.rem (.v 24) (.c 4)) (.letI (.add (.v 25) (.c 4)) (.letI (.rem (.v 26) (.c 4)) (.letI (.mul (.v 27) (.c 8)) (.letI (.add (.v 28) (.v 21)) (.letI (.get 8 (.v 29)) (.letI (.get 8 (.c 32)) (.letI (.add (.v 31) (.c 1)) (.letI (.sub (.v 32) (.v 30)) (.letL (.set 8 (.v 29) (.c 1)) (.letL (.set 9 (.c 32) (.v 33)) (.letI (.add (.v 14) (.c 1)) (.again [.v 34] [10])))))))))))))))) (.letI (.add (.v 14) (.c 1)) (.again [.v 24] [8]))))))))))) (.exit (.letI (.get 6 (.v 12)) (.letI (.get 8 (.c 32)) (.letI (.mn (.v 19) (.c 2)) (.letI (.cmp .neq (.v 18) (.v 20)) (.ite (.v 21) (.exit (.fail 180)) (.letI (.add (.v 12) (.c 1)) (.again [.v 22] [])))))))))) (.exit (.letI (.get 6 (.v 12)) (.letI (.get 8 (.c 32)) (.letI (.mn (.v 18) (.c 2)) (.letI (.cmp .neq (.v 17) (.v 19)) (.ite (.v 20) (.exit (.fail 180)) (.letI (.add (.v 12) (.c 1)) (.again [.v 21] [])))))))))) (.exit (.letI (.get 6 (.v 12)) (.letI (.get 8 (.c 32)) (.letI (.mn (.v 17) (.c 2)) (.letI (.cmp .neq (.v 16) (.v 18)) (.ite (.v 19) (.exit (.fail 180)) (.letI (.add (.v 12) (.c 1)) (.again [.v 20] [])))))))))))) (.exit (.done [] [])))))))))))))) (.exit (.call 8 (Go.Sx.L2.bLines).rel [] [3] 2 1 (.letL (.rep (.c 16) (.c 0)) (.loop [.c (0)] [5] (.letI (.cmp .lss (.v 9) (.c 8)) (.ite (.v 10) (.letI (.mul (.v 9) (.c 4)) (.letI (.get 4 (.v 11)) (.letI (.add (.v 11) (.c 1)) (.letI (.get 4 (.v 13)) (.letI (.add (.v 11) (.c 2)) (.letI (.get 4 (.v 15)) (.letI (.add (.v 11) (.c 3)) (.letI (.get 4 (.v 17)) (.letI (.cmp .lss (.v 12) (.c 0)) (.ite (.v 19) (.letI (.cmp .eql (.v 12) (.c (-1))) (.letI (.cmp .eql (.v 14) (.c 0)) (.letI (.cmp .eql (.v 16) (.c 0)) (.letI (.cmp .eql (.v 18) (.c 0)) (.letI (.pick (.v 23) (.c 1) (.c 0)) (.letI (.pick (.v 22) (.v 24) (.c 0)) (.letI (.pick (.v 21) (.v 25) (.c 0)) (.letI (.pick (.v 20) (.v 26) (.c 0)) (.letI (.not (.v 27)) (.ite (.v 28) (.exit (.fail 180)) (.letI (.add (.v 9) (.c 1)) (.again [.v 29] [6])))))))))))) (.letI (.rem (.v 14) (.c 4)) (.need .geq (.v 20) (.c 0) (.letI (.get 6 (.v 20)) (.letI (.add (.v 21) (.c 1)) (.letI (.wr .i64 (.v 22)) (.letL (.set 6 (.v 20) (.v 23)) (.letI (.quo .i64 (.v 9) (.c 2)) (.letI (.cmp .neq (.v 20) (.v 24)) (.ite (.v 25) (.exit (.fail 180)) (.letI (.add (.v 9) (.c 1)) (.again [.v 26] [7]))))))))))))))))))))) (.exit (.loop [.c (0)] [] (.letI (.cmp .lss (.v 11) (.c 4)) (.ite (.v 12) (.letL (.rep (.c 33) (.c 0)) (.loop [.c (0)] [7] (.letI (.cmp .lss (.v 13) (.v 0)) (.ite (.v 14) (.letI (.cmp .lss (.v 13) (.v 2)) (.ite (.v 15) (.need .lss (.v 13) (.v 2) (.need .lss (.v 13) (.v 2) (.letI (.get 1 (.v 13)) (.letI (.rem (.v 16) (.c 8)) (.letI (.add (.v 17) (.c 8)) (.letI (.rem (.v 18) (.c 8)) (.letI (.rem (.v 19) (.c 4)) (.letI (.cmp .eql (.v 11) (.v 20)) (.ite (.v 21) (.need .lss (.v 13) (.v 0) (.need .lss (.v 13) (.v 0) (.letI (.get 0 (.v 13)) (.letI (.rem (.v 22) (.c 4)) (.letI (.add (.v 23) (.c 4)) (.letI (.rem (.v 24) (.c 4)) (.letI (.mul (.v 25) (.c 8)) (.letI (.add (.v 26) (.v 19)) (.letI (.get 8 (.v 27)) (.letI (.get 8 (.c 32)) (.letI (.add (.v 29) (.c 1)) (.letI (.sub (.v 30) (.v 28)) (.letL (.set 8 (.v 27) (.c 1)) (.letL (.set 9 (.c 32) (.v 31)) (.letI (.add (.v 13) (.c 1)) (.again [.v 32] [10])))))))))))))))) (.letI (.add (.v 13) (.c 1)) (.again [.v 22] [8]))))))))))) (.exit (.letI (.get 6 (.v 11)) (.letI (.get 8 (.c 32)) (.letI (.mn (.v 17) (.c 2)) (.letI (.cmp .neq (.v 16) (.v 18)) (.ite (.v 19) (.exit (.fail 180)) (.letI (.add (.v 11) (.c 1)) (.again [.v 20] [])))))))))) (.exit (.letI (.get 6 (.v 11)) (.letI (.get 8 (.c 32)) (.letI (.mn (.v 16) (.c 2)) (.letI (.cmp .neq (.v 15) (.v 17)) (.ite (.v 18) (.exit (.fail 180)) (.letI (.add (.v 11) (.c 1)) (.again [.v 19] [])))))))))))) (.exit (.done [] [])))))))))))))) (.exit (.call 8 (Go.Sx.L2.bLines).rel [] [3] 2 1 (.letL (.rep (.c 16) (.c 0)) (.loop [.c (0)] [5] (.letI (.cmp .lss (.v 8) (.c 8)) (.ite (.v 9) (.letI (.mul (.v 8) (.c 4)) (.letI (.get 4 (.v 10)) (.letI (.add (.v 10) (.c 1)) (.letI (.get 4 (.v 12)) (.letI (.add (.v 10) (.c 2)) (.letI (.get 4 (.v 14)) (.letI (.add (.v 10) (.c 3)) (.letI (.get 4 (.v 16)) (.letI (.cmp .lss (.v 11) (.c 0)) (.ite (.v 18) (.letI (.cmp .eql (.v 11) (.c (-1))) (.letI (.cmp .eql (.v 13) (.c 0)) (.letI (.cmp .eql (.v 15) (.c 0)) (.letI (.cmp .eql (.v 17) (.c 0)) (.letI (.pick (.v 22) (.c 1) (.c 0)) (.letI (.pick (.v 21) (.v 23) (.c 0)) (.letI (.pick (.v 20) (.v 24) (.c 0)) (.letI (.pick (.v 19) (.v 25) (.c 0)) (.letI (.not (.v 26)) (.ite (.v 27) (.exit (.fail 180)) (.letI (.add (.v 8) (.c 1)) (.again [.v 28] [6])))))))))))) (.letI (.rem (.v 13) (.c 4)) (.need .geq (.v 19) (.c 0) (.letI (.get 6 (.v 19)) (.letI (.add (.v 20) (.c 1)) (.letI (.wr .i64 (.v 21)) (.letL (.set 6 (.v 19) (.v 22)) (.letI (.quo .i64 (.v 8) (.c 2)) (.letI (.cmp .neq (.v 19) (.v 23)) (.ite (.v 24) (.exit (.fail 180)) (.letI (.add (.v 8) (.c 1)) (.again [.v 25] [7]))))))))))))))))))))) (.exit (.loop [.c (0)] [] (.letI (.cmp .lss (.v 10) (.c 4)) (.ite (.v 11) (.letL (.rep (.c 33) (.c 0)) (.loop [.c (0)] [7] (.letI (.cmp .lss (.v 12) (.v 0)) (.ite (.v 13) (.letI (.cmp .lss (.v 12) (.v 2)) (.ite (.v 14) (.need .lss (.v 12) (.v 2) (.need .lss (.v 12) (.v 2) (.letI (.get 1 (.v 12)) (.letI (.rem (.v 15) (.c 8)) (.letI (.add (.v 16) (.c 8)) (.letI (.rem (.v 17) (.c 8)) (.letI (.rem (.v 18) (.c 4)) (.letI (.cmp .eql (.v 10) (.v 19)) (.ite (.v 20) (.need .lss (.v 12) (.v 0) (.need .lss (.v 12) (.v 0) (.letI (.get 0 (.v 12)) (.letI (.rem (.v 21) (.c 4)) (.letI (.add (.v 22) (.c 4)) (.letI (.rem (.v 23) (.c 4)) (.letI (.mul (.v 24) (.c 8)) (.letI (.add (.v 25) (.v 18)) (.letI (.get 8 (.v 26)) (.letI (.get 8 (.c 32)) (.letI (.add (.v 28) (.c 1)) (.letI (.sub (.v 29) (.v 27)) (.letL (.set 8 (.v 26) (.c 1)) (.letL (.set 9 (.c 32) (.v 30)) (.letI (.add (.v 12) (.c 1)) (.again [.v 31] [10])))))))))))))))) (.letI (.add (.v 12) (.c 1)) (.again [.v 21] [8]))))))))))) (.exit (.letI (.get 6 (.v 10)) (.letI (.get 8 (.c 32)) (.letI (.mn (.v 16) (.c 2)) (.letI (.cmp .neq (.v 15) (.v 17)) (.ite (.v 18) (.exit (.fail 180)) (.letI (.add (.v 10) (.c 1)) (.again [.v 19] [])))))))))) (.exit (.letI (.get 6 (.v 10)) (.letI (.get 8 (.c 32)) (.letI (.mn (.v 15) (.c 2)) (.letI (.cmp .neq (.v 14) (.v 16)) (.ite (.v 17) (.exit (.fail 180)) (.letI (.add (.v 10) (.c 1)) (.again [.v 18] [])))))))))))) (.exit (.done [] []))))))))))))))))
theorem TlbSets_tree : (lawSpec L2.f_messuagelaw2_TlbSets [.slc [.i .i64], .slc [.i .i64]]).exe Tryz.prog (withS (L2.cfgB Tryz.prog) [L2.bNew, L2.bFill, L2.bLines]) [{ f := L2.f_messuagelaw2_TlbSets, reg := 6, ints := [(7, 0, 12)], lists := [(6, [], some (-9223372036854775808, 9223372036854775807))] }, { f := L2.f_messuagelaw2_TlbSets, reg := 11, ints := [(56, 0, 8)], lists := [(8, [], some (-9223372036854775808, 9223372036854775807))], maps := [(8, .i64, .i .i64)] }, { f := L2.f_messuagelaw2_TlbSets, reg := 21, ints := [(11, 0, 4)] }, { f := L2.f_messuagelaw2_TlbSets, reg := 25, ints := [(13, 0, 12)], lists := [(12, [], none)], pmaps := [(12, .i64, 4, 8)] }] 20 200 = TlbSets_t := by kernel_rfl
theorem TlbSets_vc (Q : List Int → List (List Int) → Prop) (v0 v1 v2 v3 : Int) (L0 L1 : List Int) : TlbSets_t.dn ⟨Q, []⟩ 4 [v3, v2, v1, v0] 2 [L1, L0] = ((Go.Sx.L2.yes Go.Sx.L2.f_messuagelaw2_begun).rel.pre [] [] ∧
((Go.Sx.L2.yes Go.Sx.L2.f_messuagelaw2_begun).rel.post [] [] [] [] → (Go.Sx.L2.bNew).rel.pre [] [] ∧
(∀ L2 : List Int, (Go.Sx.L2.bNew).rel.post [] [] [] [L2] → ∃ (I0 : List Int → List (List Int) → Prop) (μ0 : List Int → List (List Int) → Nat), I0 [(0 : Int)] [L2] ∧
(∀ v4 : Int, ∀ L3 : List Int, I0 [v4] [L3] →
 ((v4 < v0) → ((v4 < v2) → ((v4 < (12 : Int)) → (v4 < v0) ∧ (v4 < v0) ∧ ∀ v8 : Int, v8 = (L0).getD (v4).toNat 0 → ∀ v9 : Int, v9 = (v8).tmod (4 : Int) → ∀ v10 : Int, v10 = v9 + (4 : Int) → ∀ v11 : Int, v11 = (v10).tmod (4 : Int) → (v4 < v2) ∧ (v4 < v2) ∧ ∀ v12 : Int, v12 = (L1).getD (v4).toNat 0 → ∀ v13 : Int, v13 = (v12).tmod (8 : Int) → ∀ v14 : Int, v14 = v13 + (8 : Int) → ∀ v15 : Int, v15 = (v14).tmod (8 : Int) → (Go.Sx.L2.bFill).rel.pre [v11, v15, (0 : Int), (1 : Int)] [L3] ∧
(∀ v16 : Int, ∀ L4 : List Int, (Go.Sx.L2.bFill).rel.post [v11, v15, (0 : Int), (1 : Int)] [L3] [v16] [L4] → ∀ v17 : Int, v17 = v4 + (1 : Int) → (I0 [v17] [L4] ∧ μ0 [v17] [L4] < μ0 [v4] [L3]))) ∧
(((12 : Int) ≤ v4) → (Go.Sx.L2.bLines).rel.pre [] [L3] ∧
(∀ v8 : Int, ∀ v9 : Int, ∀ L4 : List Int, (Go.Sx.L2.bLines).rel.post [] [L3] [v8, v9] [L4] → ∀ L5 : List Int, L5 = List.replicate ((16 : Int)).toNat (0 : Int) → ∃ (I1 : List Int → List (List Int) → Prop) (μ1 : List Int → List (List Int) → Nat), I1 [(0 : Int)] [L5] ∧
(∀ v10 : Int, ∀ L6 : List Int, I1 [v10] [L6] →
 ((v10 < (8 : Int)) → ∀ v12 : Int, v12 = v10 * (4 : Int) → ∀ v13 : Int, v13 = (L4).getD (v12).toNat 0 → ∀ v14 : Int, v14 = v12 + (1 : Int) → ∀ v15 : Int, v15 = (L4).getD (v14).toNat 0 → ∀ v16 : Int, v16 = v12 + (2 : Int) → ∀ v17 : Int, v17 = (L4).getD (v16).toNat 0 → ∀ v18 : Int, v18 = v12 + (3 : Int) → ∀ v19 : Int, v19 = (L4).getD (v18).toNat 0 → ((v13 < (0 : Int)) → ∀ v21 : Int, v21 = b2i (v13 == ((-1) : Int)) → ∀ v22 : Int, v22 = b2i (v15 == (0 : Int)) → ∀ v23 : Int, v23 = b2i (v17 == (0 : Int)) → ∀ v24 : Int, v24 = b2i (v19 == (0 : Int)) → ∀ v25 : Int, v25 = (if v24 = 0 then (0 : Int) else (1 : Int)) → ∀ v26 : Int, v26 = (if v23 = 0 then (0 : Int) else v25) → ∀ v27 : Int, v27 = (if v22 = 0 then (0 : Int) else v26) → ∀ v28 : Int, v28 = (if v21 = 0 then (0 : Int) else v27) → ∀ v29 : Int, v29 = b2i (v28 == 0) → (v29 ≠ 0 → False) ∧
(v29 = 0 → ∀ v30 : Int, v30 = v10 + (1 : Int) → (I1 [v30] [L6] ∧ μ1 [v30] [L6] < μ1 [v10] [L6]))) ∧
(((0 : Int) ≤ v13) → ∀ v21 : Int, v21 = (v15).tmod (4 : Int) → ((0 : Int) ≤ v21) ∧ ∀ v22 : Int, v22 = (L6).getD (v21).toNat 0 → ∀ v23 : Int, v23 = v22 + (1 : Int) → ∀ v24 : Int, v24 = IntKind.wrap .i64 v23 → ∀ L7 : List Int, L7 = (L6).set (v21).toNat v24 → ∀ v25 : Int, v25 = IntKind.wrap .i64 ((v10).tdiv (2 : Int)) → ((v21 ≠ v25) → False) ∧
((v21 = v25) → ∀ v27 : Int, v27 = v10 + (1 : Int) → (I1 [v27] [L7] ∧ μ1 [v27] [L7] < μ1 [v10] [L6])))) ∧
(((8 : Int) ≤ v10) → ∃ (I2 : List Int → List (List Int) → Prop) (μ2 : List Int → List (List Int) → Nat), I2 [(0 : Int)] [] ∧
(∀ v12 : Int, I2 [v12] [] →
 ((v12 < (4 : Int)) → ∀ L7 : List Int, L7 = List.replicate ((33 : Int)).toNat (0 : Int) → ∃ (I3 : List Int → List (List Int) → Prop) (μ3 : List Int → List (List Int) → Nat), I3 [(0 : Int)] [L7] ∧
(∀ v14 : Int, ∀ L8 : List Int, I3 [v14] [L8] →
 ((v14 < v0) → ((v14 < v2) → ((v14 < (12 : Int)) → (v14 < v2) ∧ (v14 < v2) ∧ ∀ v18 : Int, v18 = (L1).getD (v14).toNat 0 → ∀ v19 : Int, v19 = (v18).tmod (8 : Int) → ∀ v20 : Int, v20 = v19 + (8 : Int) → ∀ v21 : Int, v21 = (v20).tmod (8 : Int) → ∀ v22 : Int, v22 = (v21).tmod (4 : Int) → ((v12 = v22) → (v14 < v0) ∧ (v14 < v0) ∧ ∀ v24 : Int, v24 = (L0).getD (v14).toNat 0 → ∀ v25 : Int, v25 = (v24).tmod (4 : Int) → ∀ v26 : Int, v26 = v25 + (4 : Int) → ∀ v27 : Int, v27 = (v26).tmod (4 : Int) → ∀ v28 : Int, v28 = v27 * (8 : Int) → ∀ v29 : Int, v29 = v28 + v21 → ∀ v30 : Int, v30 = (L8).getD (v29).toNat 0 → ∀ v31 : Int, v31 = (L8).getD ((32 : Int)).toNat 0 → ∀ v32 : Int, v32 = v31 + (1 : Int) → ∀ v33 : Int, v33 = v32 - v30 → ∀ L9 : List Int, L9 = (L8).set (v29).toNat (1 : Int) → ∀ L10 : List Int, L10 = (L9).set ((32 : Int)).toNat v33 → ∀ v34 : Int, v34 = v14 + (1 : Int) → (I3 [v34] [L10] ∧ μ3 [v34] [L10] < μ3 [v14] [L8])) ∧
((v12 ≠ v22) → ∀ v24 : Int, v24 = v14 + (1 : Int) → (I3 [v24] [L8] ∧ μ3 [v24] [L8] < μ3 [v14] [L8]))) ∧
(((12 : Int) ≤ v14) → ∀ v18 : Int, v18 = (L6).getD (v12).toNat 0 → ∀ v19 : Int, v19 = (L8).getD ((32 : Int)).toNat 0 → ∀ v20 : Int, v20 = (if (2 : Int) < v19 then (2 : Int) else v19) → ((v18 ≠ v20) → False) ∧
((v18 = v20) → ∀ v22 : Int, v22 = v12 + (1 : Int) → (I2 [v22] [] ∧ μ2 [v22] [] < μ2 [v12] [])))) ∧
((v2 ≤ v14) → ∀ v17 : Int, v17 = (L6).getD (v12).toNat 0 → ∀ v18 : Int, v18 = (L8).getD ((32 : Int)).toNat 0 → ∀ v19 : Int, v19 = (if (2 : Int) < v18 then (2 : Int) else v18) → ((v17 ≠ v19) → False) ∧
((v17 = v19) → ∀ v21 : Int, v21 = v12 + (1 : Int) → (I2 [v21] [] ∧ μ2 [v21] [] < μ2 [v12] [])))) ∧
((v0 ≤ v14) → ∀ v16 : Int, v16 = (L6).getD (v12).toNat 0 → ∀ v17 : Int, v17 = (L8).getD ((32 : Int)).toNat 0 → ∀ v18 : Int, v18 = (if (2 : Int) < v17 then (2 : Int) else v17) → ((v16 ≠ v18) → False) ∧
((v16 = v18) → ∀ v20 : Int, v20 = v12 + (1 : Int) → (I2 [v20] [] ∧ μ2 [v20] [] < μ2 [v12] []))))) ∧
(((4 : Int) ≤ v12) → Q [] []))))))) ∧
((v2 ≤ v4) → (Go.Sx.L2.bLines).rel.pre [] [L3] ∧
(∀ v7 : Int, ∀ v8 : Int, ∀ L4 : List Int, (Go.Sx.L2.bLines).rel.post [] [L3] [v7, v8] [L4] → ∀ L5 : List Int, L5 = List.replicate ((16 : Int)).toNat (0 : Int) → ∃ (I1 : List Int → List (List Int) → Prop) (μ1 : List Int → List (List Int) → Nat), I1 [(0 : Int)] [L5] ∧
(∀ v9 : Int, ∀ L6 : List Int, I1 [v9] [L6] →
 ((v9 < (8 : Int)) → ∀ v11 : Int, v11 = v9 * (4 : Int) → ∀ v12 : Int, v12 = (L4).getD (v11).toNat 0 → ∀ v13 : Int, v13 = v11 + (1 : Int) → ∀ v14 : Int, v14 = (L4).getD (v13).toNat 0 → ∀ v15 : Int, v15 = v11 + (2 : Int) → ∀ v16 : Int, v16 = (L4).getD (v15).toNat 0 → ∀ v17 : Int, v17 = v11 + (3 : Int) → ∀ v18 : Int, v18 = (L4).getD (v17).toNat 0 → ((v12 < (0 : Int)) → ∀ v20 : Int, v20 = b2i (v12 == ((-1) : Int)) → ∀ v21 : Int, v21 = b2i (v14 == (0 : Int)) → ∀ v22 : Int, v22 = b2i (v16 == (0 : Int)) → ∀ v23 : Int, v23 = b2i (v18 == (0 : Int)) → ∀ v24 : Int, v24 = (if v23 = 0 then (0 : Int) else (1 : Int)) → ∀ v25 : Int, v25 = (if v22 = 0 then (0 : Int) else v24) → ∀ v26 : Int, v26 = (if v21 = 0 then (0 : Int) else v25) → ∀ v27 : Int, v27 = (if v20 = 0 then (0 : Int) else v26) → ∀ v28 : Int, v28 = b2i (v27 == 0) → (v28 ≠ 0 → False) ∧
(v28 = 0 → ∀ v29 : Int, v29 = v9 + (1 : Int) → (I1 [v29] [L6] ∧ μ1 [v29] [L6] < μ1 [v9] [L6]))) ∧
(((0 : Int) ≤ v12) → ∀ v20 : Int, v20 = (v14).tmod (4 : Int) → ((0 : Int) ≤ v20) ∧ ∀ v21 : Int, v21 = (L6).getD (v20).toNat 0 → ∀ v22 : Int, v22 = v21 + (1 : Int) → ∀ v23 : Int, v23 = IntKind.wrap .i64 v22 → ∀ L7 : List Int, L7 = (L6).set (v20).toNat v23 → ∀ v24 : Int, v24 = IntKind.wrap .i64 ((v9).tdiv (2 : Int)) → ((v20 ≠ v24) → False) ∧
((v20 = v24) → ∀ v26 : Int, v26 = v9 + (1 : Int) → (I1 [v26] [L7] ∧ μ1 [v26] [L7] < μ1 [v9] [L6])))) ∧
(((8 : Int) ≤ v9) → ∃ (I2 : List Int → List (List Int) → Prop) (μ2 : List Int → List (List Int) → Nat), I2 [(0 : Int)] [] ∧
(∀ v11 : Int, I2 [v11] [] →
 ((v11 < (4 : Int)) → ∀ L7 : List Int, L7 = List.replicate ((33 : Int)).toNat (0 : Int) → ∃ (I3 : List Int → List (List Int) → Prop) (μ3 : List Int → List (List Int) → Nat), I3 [(0 : Int)] [L7] ∧
(∀ v13 : Int, ∀ L8 : List Int, I3 [v13] [L8] →
 ((v13 < v0) → ((v13 < v2) → (v13 < v2) ∧ (v13 < v2) ∧ ∀ v16 : Int, v16 = (L1).getD (v13).toNat 0 → ∀ v17 : Int, v17 = (v16).tmod (8 : Int) → ∀ v18 : Int, v18 = v17 + (8 : Int) → ∀ v19 : Int, v19 = (v18).tmod (8 : Int) → ∀ v20 : Int, v20 = (v19).tmod (4 : Int) → ((v11 = v20) → (v13 < v0) ∧ (v13 < v0) ∧ ∀ v22 : Int, v22 = (L0).getD (v13).toNat 0 → ∀ v23 : Int, v23 = (v22).tmod (4 : Int) → ∀ v24 : Int, v24 = v23 + (4 : Int) → ∀ v25 : Int, v25 = (v24).tmod (4 : Int) → ∀ v26 : Int, v26 = v25 * (8 : Int) → ∀ v27 : Int, v27 = v26 + v19 → ∀ v28 : Int, v28 = (L8).getD (v27).toNat 0 → ∀ v29 : Int, v29 = (L8).getD ((32 : Int)).toNat 0 → ∀ v30 : Int, v30 = v29 + (1 : Int) → ∀ v31 : Int, v31 = v30 - v28 → ∀ L9 : List Int, L9 = (L8).set (v27).toNat (1 : Int) → ∀ L10 : List Int, L10 = (L9).set ((32 : Int)).toNat v31 → ∀ v32 : Int, v32 = v13 + (1 : Int) → (I3 [v32] [L10] ∧ μ3 [v32] [L10] < μ3 [v13] [L8])) ∧
((v11 ≠ v20) → ∀ v22 : Int, v22 = v13 + (1 : Int) → (I3 [v22] [L8] ∧ μ3 [v22] [L8] < μ3 [v13] [L8]))) ∧
((v2 ≤ v13) → ∀ v16 : Int, v16 = (L6).getD (v11).toNat 0 → ∀ v17 : Int, v17 = (L8).getD ((32 : Int)).toNat 0 → ∀ v18 : Int, v18 = (if (2 : Int) < v17 then (2 : Int) else v17) → ((v16 ≠ v18) → False) ∧
((v16 = v18) → ∀ v20 : Int, v20 = v11 + (1 : Int) → (I2 [v20] [] ∧ μ2 [v20] [] < μ2 [v11] [])))) ∧
((v0 ≤ v13) → ∀ v15 : Int, v15 = (L6).getD (v11).toNat 0 → ∀ v16 : Int, v16 = (L8).getD ((32 : Int)).toNat 0 → ∀ v17 : Int, v17 = (if (2 : Int) < v16 then (2 : Int) else v16) → ((v15 ≠ v17) → False) ∧
((v15 = v17) → ∀ v19 : Int, v19 = v11 + (1 : Int) → (I2 [v19] [] ∧ μ2 [v19] [] < μ2 [v11] []))))) ∧
(((4 : Int) ≤ v11) → Q [] []))))))) ∧
((v0 ≤ v4) → (Go.Sx.L2.bLines).rel.pre [] [L3] ∧
(∀ v6 : Int, ∀ v7 : Int, ∀ L4 : List Int, (Go.Sx.L2.bLines).rel.post [] [L3] [v6, v7] [L4] → ∀ L5 : List Int, L5 = List.replicate ((16 : Int)).toNat (0 : Int) → ∃ (I1 : List Int → List (List Int) → Prop) (μ1 : List Int → List (List Int) → Nat), I1 [(0 : Int)] [L5] ∧
(∀ v8 : Int, ∀ L6 : List Int, I1 [v8] [L6] →
 ((v8 < (8 : Int)) → ∀ v10 : Int, v10 = v8 * (4 : Int) → ∀ v11 : Int, v11 = (L4).getD (v10).toNat 0 → ∀ v12 : Int, v12 = v10 + (1 : Int) → ∀ v13 : Int, v13 = (L4).getD (v12).toNat 0 → ∀ v14 : Int, v14 = v10 + (2 : Int) → ∀ v15 : Int, v15 = (L4).getD (v14).toNat 0 → ∀ v16 : Int, v16 = v10 + (3 : Int) → ∀ v17 : Int, v17 = (L4).getD (v16).toNat 0 → ((v11 < (0 : Int)) → ∀ v19 : Int, v19 = b2i (v11 == ((-1) : Int)) → ∀ v20 : Int, v20 = b2i (v13 == (0 : Int)) → ∀ v21 : Int, v21 = b2i (v15 == (0 : Int)) → ∀ v22 : Int, v22 = b2i (v17 == (0 : Int)) → ∀ v23 : Int, v23 = (if v22 = 0 then (0 : Int) else (1 : Int)) → ∀ v24 : Int, v24 = (if v21 = 0 then (0 : Int) else v23) → ∀ v25 : Int, v25 = (if v20 = 0 then (0 : Int) else v24) → ∀ v26 : Int, v26 = (if v19 = 0 then (0 : Int) else v25) → ∀ v27 : Int, v27 = b2i (v26 == 0) → (v27 ≠ 0 → False) ∧
(v27 = 0 → ∀ v28 : Int, v28 = v8 + (1 : Int) → (I1 [v28] [L6] ∧ μ1 [v28] [L6] < μ1 [v8] [L6]))) ∧
(((0 : Int) ≤ v11) → ∀ v19 : Int, v19 = (v13).tmod (4 : Int) → ((0 : Int) ≤ v19) ∧ ∀ v20 : Int, v20 = (L6).getD (v19).toNat 0 → ∀ v21 : Int, v21 = v20 + (1 : Int) → ∀ v22 : Int, v22 = IntKind.wrap .i64 v21 → ∀ L7 : List Int, L7 = (L6).set (v19).toNat v22 → ∀ v23 : Int, v23 = IntKind.wrap .i64 ((v8).tdiv (2 : Int)) → ((v19 ≠ v23) → False) ∧
((v19 = v23) → ∀ v25 : Int, v25 = v8 + (1 : Int) → (I1 [v25] [L7] ∧ μ1 [v25] [L7] < μ1 [v8] [L6])))) ∧
(((8 : Int) ≤ v8) → ∃ (I2 : List Int → List (List Int) → Prop) (μ2 : List Int → List (List Int) → Nat), I2 [(0 : Int)] [] ∧
(∀ v10 : Int, I2 [v10] [] →
 ((v10 < (4 : Int)) → ∀ L7 : List Int, L7 = List.replicate ((33 : Int)).toNat (0 : Int) → ∃ (I3 : List Int → List (List Int) → Prop) (μ3 : List Int → List (List Int) → Nat), I3 [(0 : Int)] [L7] ∧
(∀ v12 : Int, ∀ L8 : List Int, I3 [v12] [L8] →
 ((v12 < v0) → ((v12 < v2) → (v12 < v2) ∧ (v12 < v2) ∧ ∀ v15 : Int, v15 = (L1).getD (v12).toNat 0 → ∀ v16 : Int, v16 = (v15).tmod (8 : Int) → ∀ v17 : Int, v17 = v16 + (8 : Int) → ∀ v18 : Int, v18 = (v17).tmod (8 : Int) → ∀ v19 : Int, v19 = (v18).tmod (4 : Int) → ((v10 = v19) → (v12 < v0) ∧ (v12 < v0) ∧ ∀ v21 : Int, v21 = (L0).getD (v12).toNat 0 → ∀ v22 : Int, v22 = (v21).tmod (4 : Int) → ∀ v23 : Int, v23 = v22 + (4 : Int) → ∀ v24 : Int, v24 = (v23).tmod (4 : Int) → ∀ v25 : Int, v25 = v24 * (8 : Int) → ∀ v26 : Int, v26 = v25 + v18 → ∀ v27 : Int, v27 = (L8).getD (v26).toNat 0 → ∀ v28 : Int, v28 = (L8).getD ((32 : Int)).toNat 0 → ∀ v29 : Int, v29 = v28 + (1 : Int) → ∀ v30 : Int, v30 = v29 - v27 → ∀ L9 : List Int, L9 = (L8).set (v26).toNat (1 : Int) → ∀ L10 : List Int, L10 = (L9).set ((32 : Int)).toNat v30 → ∀ v31 : Int, v31 = v12 + (1 : Int) → (I3 [v31] [L10] ∧ μ3 [v31] [L10] < μ3 [v12] [L8])) ∧
((v10 ≠ v19) → ∀ v21 : Int, v21 = v12 + (1 : Int) → (I3 [v21] [L8] ∧ μ3 [v21] [L8] < μ3 [v12] [L8]))) ∧
((v2 ≤ v12) → ∀ v15 : Int, v15 = (L6).getD (v10).toNat 0 → ∀ v16 : Int, v16 = (L8).getD ((32 : Int)).toNat 0 → ∀ v17 : Int, v17 = (if (2 : Int) < v16 then (2 : Int) else v16) → ((v15 ≠ v17) → False) ∧
((v15 = v17) → ∀ v19 : Int, v19 = v10 + (1 : Int) → (I2 [v19] [] ∧ μ2 [v19] [] < μ2 [v10] [])))) ∧
((v0 ≤ v12) → ∀ v14 : Int, v14 = (L6).getD (v10).toNat 0 → ∀ v15 : Int, v15 = (L8).getD ((32 : Int)).toNat 0 → ∀ v16 : Int, v16 = (if (2 : Int) < v15 then (2 : Int) else v15) → ((v14 ≠ v16) → False) ∧
((v14 = v16) → ∀ v18 : Int, v18 = v10 + (1 : Int) → (I2 [v18] [] ∧ μ2 [v18] [] < μ2 [v10] []))))) ∧
(((4 : Int) ≤ v10) → Q [] [])))))))))) := by kernel_rfl
set_option maxHeartbeats 4000000 in
theorem tlbSets_holds0 : (lawSpec L2.f_messuagelaw2_TlbSets [.slc [.i .i64], .slc [.i .i64]]).Holds Tryz.prog L2.ro := FSpec.holdsV (cfg := withS (L2.cfgB Tryz.prog) [L2.bNew, L2.bFill, L2.bLines]) [{ f := L2.f_messuagelaw2_TlbSets, reg := 6, ints := [(7, 0, 12)], lists := [(6, [], some (-9223372036854775808, 9223372036854775807))] }, { f := L2.f_messuagelaw2_TlbSets, reg := 11, ints := [(56, 0, 8)], lists := [(8, [], some (-9223372036854775808, 9223372036854775807))], maps := [(8, .i64, .i .i64)] }, { f := L2.f_messuagelaw2_TlbSets, reg := 21, ints := [(11, 0, 4)] }, { f := L2.f_messuagelaw2_TlbSets, reg := 25, ints := [(13, 0, 12)], lists := [(12, [], none)], pmaps := [(12, .i64, 4, 8)] }] 20 200 (withS_ok cfgB_ok ⟨bNew_holds, bFill_holds, bLines_holds, trivial⟩) mixed (t := TlbSets_t) TlbSets_tree (by
  show ∀ (v0 v1 v2 v3 : Int) (L0 L1 : List Int), _
  intro v0 v1 v2 v3 L0 L1 hp hr hl
  replace hr : ((0 : Int) ≤ v0 ∧ v0 ≤ (9223372036854775807 : Int)) ∧ ((0 : Int) ≤ v1 ∧ v1 ≤ (9223372036854775807 : Int)) ∧ ((0 : Int) ≤ v2 ∧ v2 ≤ (9223372036854775807 : Int)) ∧ ((0 : Int) ≤ v3 ∧ v3 ≤ (9223372036854775807 : Int)) ∧ True := hr
  replace hp : ((True ∧ ((0 : Int) ≤ v0 ∧ v0 ≤ v1 ∧ (L0.length : Int) = v0 * ((1 : Nat) : Int) ∧ ((1 : Nat) ≠ 1 → [v0, v1, v2, v3].getD 2 0 = v0 * ((1 : Nat) : Int)) ∧ ∀ j, j < L0.length → ((oneKind [.i .i64]).getD (j % (oneKind [.i .i64]).length) (.i .i64)).lo ≤ L0.getD j 0 ∧ L0.getD j 0 ≤ ((oneKind [.i .i64]).getD (j % (oneKind [.i .i64]).length) (.i .i64)).hi)) ∧ ((0 : Int) ≤ v2 ∧ v2 ≤ v3 ∧ (L1.length : Int) = v2 * ((1 : Nat) : Int) ∧ ((1 : Nat) ≠ 1 → [v0, v1, v2, v3].getD 4 0 = v2 * ((1 : Nat) : Int)) ∧ ∀ j, j < L1.length → ((oneKind [.i .i64]).getD (j % (oneKind [.i .i64]).length) (.i .i64)).lo ≤ L1.getD j 0 ∧ L1.getD j 0 ≤ ((oneKind [.i .i64]).getD (j % (oneKind [.i .i64]).length) (.i .i64)).hi)) := hp
  show TlbSets_t.dn ⟨_, []⟩ 4 [v3, v2, v1, v0] 2 [L1, L0]
  rw [TlbSets_vc]
  show ((L2.yes L2.f_messuagelaw2_begun).rel.pre [] [] ∧ _)
  refine ⟨trivial, fun _ => ?_⟩
  refine ⟨trivial, fun LS hLS => ?_⟩
  have hLS : LS = clearB (List.replicate 41 0) := (List.cons.inj hLS.2).1
  refine ⟨fun xs ys => match xs, ys with | [i], [L] => ∃ n : Nat, i = n ∧ n ≤ 12 ∧ i ≤ v0 ∧ i ≤ v2 ∧ TsOk L L0 L1 n | _, _ => False, fun xs _ => match xs with | i :: _ => (12 - i).toNat | _ => 0, ?_, ?_⟩ <;> dsimp only
  · exact ⟨0, rfl, by omega, by omega, by omega, by rw [hLS]; exact TsOk.start L0 L1⟩
  · intro i L hI
    obtain ⟨n, rfl, n12, nv0, nv2, hT⟩ := hI
    refine ⟨fun c1 => ⟨fun c2 => ⟨fun c3 => ?_, fun c3 => ?_⟩, fun c2 => ?_⟩, fun c1 => ?_⟩
    · refine ⟨c1, c1, fun x1 e1 x2 e2 x3 e3 x4 e4 => ⟨c2, c2, fun y1 f1 y2 f2 y3 f3 y4 f4 => ⟨trivial, fun r L' q j ej => ?_⟩⟩⟩
      have hx : x4 = L0.getD n 0 % 4 := by rw [e4, e3, e2, e1, Int.toNat_natCast]; exact tfix4 _
      have hy : y4 = L1.getD n 0 % 8 := by rw [f4, f3, f2, f1, Int.toNat_natCast]; exact tfix8 _
      have hL' : L' = fillB L x4 y4 0 1 := (List.cons.inj q.2).1
      refine ⟨⟨n + 1, by omega, by omega, by omega, by omega, ?_⟩, by omega⟩
      rw [hL', hx, hy]; exact hT.next
    ·
      refine ⟨trivial, fun a b L4 q N0 hN0 => ?_⟩
      have hL4 : L4 = linesB L := (List.cons.inj q).1
      clear q
      refine ⟨fun xs ys => match xs, ys with | [k], [N] => ∃ m : Nat, k = m ∧ m ≤ 8 ∧ CntOk L N m | _, _ => False, fun xs _ => match xs with | k :: _ => (8 - k).toNat | _ => 0, ?_, ?_⟩ <;> dsimp only
      · exact ⟨0, rfl, by omega, by rw [hN0]; exact CntOk.start L⟩
      · intro k N hI
        obtain ⟨m, rfl, m8, hC⟩ := hI
        refine ⟨fun d1 => ?_, fun d1 => ?_⟩
        ·
          intro z0 ez0 w0 ew0 z1 ez1 w1 ew1 z2 ez2 w2 ew2 z3 ez3 w3 ew3
          have m8' : m < 8 := by omega
          have hw0 : w0 = L.getD (m * 5) 0 := by rw [ew0, ez0, hL4]; exact lineB_at0 m8'
          have hw1 : w1 = L.getD (m * 5 + 1) 0 := by rw [ew1, ez1, ez0, hL4]; exact lineB_at (j := 1) m8' (by omega)
          have hw2 : w2 = L.getD (m * 5 + 2) 0 := by rw [ew2, ez2, ez0, hL4]; exact lineB_at (j := 2) m8' (by omega)
          have hw3 : w3 = L.getD (m * 5 + 3) 0 := by rw [ew3, ez3, ez0, hL4]; exact lineB_at (j := 3) m8' (by omega)
          have ln := hT.line m8'
          have sk := fun h => hC.skip m8' h
          have ht' := fun h => hC.hit m8' h
          rw [← hw0, ← hw1, ← hw2, ← hw3] at ln
          rw [← hw0] at sk ht'
          clear ew0 ez0 ew1 ez1 ew2 ez2 ew3 ez3
          refine ⟨fun g => ?_, fun g => ?_⟩
          · obtain ⟨l0, l1, l2, l3⟩ := ln.resolve_right (fun c => by omega)
            intro a ea b eb c ec d ed e ee f ef g1 eg h1 eh o eo
            have ho : o = 0 := by rw [eo, eh, eg, ef, ee, ea, eb, ec, ed, l0, l1, l2, l3]; decide
            exact ⟨fun c => absurd ho c, fun _ j ej => ⟨⟨m + 1, by omega, by omega, sk g⟩, by omega⟩⟩
          · obtain ⟨l0, l1, l2, l3⟩ := ln.resolve_left (fun c => by omega)
            intro s es
            have hs : s = ((m / 2 : Nat) : Int) := by rw [es, Int.tmod_eq_emod_of_nonneg l1]; exact l3
            refine ⟨by omega, fun u eu v ev w ew N' eN t et => ?_⟩
            have hs' : s.toNat = m / 2 := by omega
            have hu := hC.le (s := m / 2) (by omega)
            have hu' : u = N.getD (m / 2) 0 := by rw [eu, hs']
            have hw' : w = u + 1 := by rw [ew, wrapI, ev]; omega
            have ht : t = s := by rw [et, hs, wrapI, Int.tdiv_eq_ediv_of_nonneg (by omega)]; omega
            refine ⟨fun c => absurd ht.symm c, fun _ j ej => ⟨⟨m + 1, by omega, by omega, ?_⟩, by omega⟩⟩
            rw [eN, hw', hs', hu']; exact ht' g
        · have m8' : m = 8 := by omega
          subst m8'
          refine ⟨fun xs _ => match xs with | [s] => ∃ t : Nat, s = t ∧ t ≤ 4 | _ => False, fun xs _ => match xs with | s :: _ => (4 - s).toNat | _ => 0, ?_, ?_⟩ <;> dsimp only
          · exact ⟨0, rfl, by omega⟩
          · intro s hI
            obtain ⟨t, rfl, t4⟩ := hI
            refine ⟨fun d2 => ?_, fun d2 => trivial⟩
            intro W0 hW0
            refine ⟨fun xs ys => match xs, ys with | [j], [W] => ∃ n' : Nat, j = n' ∧ n' ≤ 12 ∧ j ≤ v0 ∧ j ≤ v2 ∧ W = setW L0 L1 t n' | _, _ => False, fun xs _ => match xs with | j :: _ => (12 - j).toNat | _ => 0, ?_, ?_⟩ <;> dsimp only
            · exact ⟨0, rfl, by omega, by omega, by omega, hW0⟩
            · intro j W hI
              obtain ⟨n', rfl, a12, av0, av2, hW⟩ := hI
              have cnt := hT.counts hC (s := t) (by omega)
              have fin : n' = n → ∀ a b c : Int, a = N.getD ((t : Int)).toNat 0 → b = W.getD ((32 : Int)).toNat 0 → c = (if (2 : Int) < b then (2 : Int) else b) → a = c := by
                intro e a b c ea eb ec
                have eb' : b = (setW L0 L1 t n).getD 32 0 := by rw [eb, hW, e]; rfl
                rw [← eb'] at cnt
                rw [ea, ec, Int.toNat_natCast, cnt]
                split <;> split <;> omega
              refine ⟨fun k1 => ⟨fun k2 => ⟨fun k3 => ?_, fun k3 => ?_⟩, fun k2 => ?_⟩, fun k1 => ?_⟩
              · refine ⟨k2, k2, fun y1 f1 y2 f2 y3 f3 y4 f4 s' es' => ?_⟩
                have hy : y4 = L1.getD n' 0 % 8 := by rw [f4, f3, f2, f1, Int.toNat_natCast]; exact tfix8 _
                have hs' : s' = y4 % 4 := by rw [es']; exact Int.tmod_eq_emod_of_nonneg (by omega)
                clear f1 f2 f3 f4 es'
                refine ⟨fun hs => ⟨k1, k1, ?_⟩, fun hs j' ej => ⟨⟨n' + 1, by omega, by omega, by omega, by omega, ?_⟩, by omega⟩⟩
                · intro x1 e1 x2 e2 x3 e3 x4 e4 g1 h1 g2 h2 g3 h3 g4 h4 g5 h5 g6 h6 W1 hW1 W2 hW2 j' ej
                  have hx : x4 = L0.getD n' 0 % 4 := by rw [e4, e3, e2, e1, Int.toNat_natCast]; exact tfix4 _
                  clear e1 e2 e3 e4
                  refine ⟨⟨n' + 1, by omega, by omega, by omega, by omega, ?_⟩, by omega⟩
                  rw [setW, if_pos (by omega), ← hx, ← hy, ← hW, hW2, hW1, h6, h5, h4, h3, h2, h1]
                  rfl
                · rw [setW, if_neg (by omega)]; exact hW
              · exact fun a ea b eb c ec => ⟨fun k => k (fin (by omega) a b c ea eb ec), fun _ j' ej => ⟨⟨t + 1, by omega, by omega⟩, by omega⟩⟩
              · exact fun a ea b eb c ec => ⟨fun k => k (fin (by omega) a b c ea eb ec), fun _ j' ej => ⟨⟨t + 1, by omega, by omega⟩, by omega⟩⟩
              · exact fun a ea b eb c ec => ⟨fun k => k (fin (by omega) a b c ea eb ec), fun _ j' ej => ⟨⟨t + 1, by omega, by omega⟩, by omega⟩⟩
    ·
      refine ⟨trivial, fun a b L4 q N0 hN0 => ?_⟩
      have hL4 : L4 = linesB L := (List.cons.inj q).1
      clear q
      refine ⟨fun xs ys => match xs, ys with | [k], [N] => ∃ m : Nat, k = m ∧ m ≤ 8 ∧ CntOk L N m | _, _ => False, fun xs _ => match xs with | k :: _ => (8 - k).toNat | _ => 0, ?_, ?_⟩ <;> dsimp only
      · exact ⟨0, rfl, by omega, by rw [hN0]; exact CntOk.start L⟩
      · intro k N hI
        obtain ⟨m, rfl, m8, hC⟩ := hI
        refine ⟨fun d1 => ?_, fun d1 => ?_⟩
        ·
          intro z0 ez0 w0 ew0 z1 ez1 w1 ew1 z2 ez2 w2 ew2 z3 ez3 w3 ew3
          have m8' : m < 8 := by omega
          have hw0 : w0 = L.getD (m * 5) 0 := by rw [ew0, ez0, hL4]; exact lineB_at0 m8'
          have hw1 : w1 = L.getD (m * 5 + 1) 0 := by rw [ew1, ez1, ez0, hL4]; exact lineB_at (j := 1) m8' (by omega)
          have hw2 : w2 = L.getD (m * 5 + 2) 0 := by rw [ew2, ez2, ez0, hL4]; exact lineB_at (j := 2) m8' (by omega)
          have hw3 : w3 = L.getD (m * 5 + 3) 0 := by rw [ew3, ez3, ez0, hL4]; exact lineB_at (j := 3) m8' (by omega)
          have ln := hT.line m8'
          have sk := fun h => hC.skip m8' h
          have ht' := fun h => hC.hit m8' h
          rw [← hw0, ← hw1, ← hw2, ← hw3] at ln
          rw [← hw0] at sk ht'
          clear ew0 ez0 ew1 ez1 ew2 ez2 ew3 ez3
          refine ⟨fun g => ?_, fun g => ?_⟩
          · obtain ⟨l0, l1, l2, l3⟩ := ln.resolve_right (fun c => by omega)
            intro a ea b eb c ec d ed e ee f ef g1 eg h1 eh o eo
            have ho : o = 0 := by rw [eo, eh, eg, ef, ee, ea, eb, ec, ed, l0, l1, l2, l3]; decide
            exact ⟨fun c => absurd ho c, fun _ j ej => ⟨⟨m + 1, by omega, by omega, sk g⟩, by omega⟩⟩
          · obtain ⟨l0, l1, l2, l3⟩ := ln.resolve_left (fun c => by omega)
            intro s es
            have hs : s = ((m / 2 : Nat) : Int) := by rw [es, Int.tmod_eq_emod_of_nonneg l1]; exact l3
            refine ⟨by omega, fun u eu v ev w ew N' eN t et => ?_⟩
            have hs' : s.toNat = m / 2 := by omega
            have hu := hC.le (s := m / 2) (by omega)
            have hu' : u = N.getD (m / 2) 0 := by rw [eu, hs']
            have hw' : w = u + 1 := by rw [ew, wrapI, ev]; omega
            have ht : t = s := by rw [et, hs, wrapI, Int.tdiv_eq_ediv_of_nonneg (by omega)]; omega
            refine ⟨fun c => absurd ht.symm c, fun _ j ej => ⟨⟨m + 1, by omega, by omega, ?_⟩, by omega⟩⟩
            rw [eN, hw', hs', hu']; exact ht' g
        · have m8' : m = 8 := by omega
          subst m8'
          refine ⟨fun xs _ => match xs with | [s] => ∃ t : Nat, s = t ∧ t ≤ 4 | _ => False, fun xs _ => match xs with | s :: _ => (4 - s).toNat | _ => 0, ?_, ?_⟩ <;> dsimp only
          · exact ⟨0, rfl, by omega⟩
          · intro s hI
            obtain ⟨t, rfl, t4⟩ := hI
            refine ⟨fun d2 => ?_, fun d2 => trivial⟩
            intro W0 hW0
            refine ⟨fun xs ys => match xs, ys with | [j], [W] => ∃ n' : Nat, j = n' ∧ n' ≤ 12 ∧ j ≤ v0 ∧ j ≤ v2 ∧ W = setW L0 L1 t n' | _, _ => False, fun xs _ => match xs with | j :: _ => (12 - j).toNat | _ => 0, ?_, ?_⟩ <;> dsimp only
            · exact ⟨0, rfl, by omega, by omega, by omega, hW0⟩
            · intro j W hI
              obtain ⟨n', rfl, a12, av0, av2, hW⟩ := hI
              have cnt := hT.counts hC (s := t) (by omega)
              have fin : n' = n → ∀ a b c : Int, a = N.getD ((t : Int)).toNat 0 → b = W.getD ((32 : Int)).toNat 0 → c = (if (2 : Int) < b then (2 : Int) else b) → a = c := by
                intro e a b c ea eb ec
                have eb' : b = (setW L0 L1 t n).getD 32 0 := by rw [eb, hW, e]; rfl
                rw [← eb'] at cnt
                rw [ea, ec, Int.toNat_natCast, cnt]
                split <;> split <;> omega
              refine ⟨fun k1 => ⟨fun k2 => ?_, fun k2 => ?_⟩, fun k1 => ?_⟩
              · refine ⟨k2, k2, fun y1 f1 y2 f2 y3 f3 y4 f4 s' es' => ?_⟩
                have hy : y4 = L1.getD n' 0 % 8 := by rw [f4, f3, f2, f1, Int.toNat_natCast]; exact tfix8 _
                have hs' : s' = y4 % 4 := by rw [es']; exact Int.tmod_eq_emod_of_nonneg (by omega)
                clear f1 f2 f3 f4 es'
                refine ⟨fun hs => ⟨k1, k1, ?_⟩, fun hs j' ej => ⟨⟨n' + 1, by omega, by omega, by omega, by omega, ?_⟩, by omega⟩⟩
                · intro x1 e1 x2 e2 x3 e3 x4 e4 g1 h1 g2 h2 g3 h3 g4 h4 g5 h5 g6 h6 W1 hW1 W2 hW2 j' ej
                  have hx : x4 = L0.getD n' 0 % 4 := by rw [e4, e3, e2, e1, Int.toNat_natCast]; exact tfix4 _
                  clear e1 e2 e3 e4
                  refine ⟨⟨n' + 1, by omega, by omega, by omega, by omega, ?_⟩, by omega⟩
                  rw [setW, if_pos (by omega), ← hx, ← hy, ← hW, hW2, hW1, h6, h5, h4, h3, h2, h1]
                  rfl
                · rw [setW, if_neg (by omega)]; exact hW
              · exact fun a ea b eb c ec => ⟨fun k => k (fin (by omega) a b c ea eb ec), fun _ j' ej => ⟨⟨t + 1, by omega, by omega⟩, by omega⟩⟩
              · exact fun a ea b eb c ec => ⟨fun k => k (fin (by omega) a b c ea eb ec), fun _ j' ej => ⟨⟨t + 1, by omega, by omega⟩, by omega⟩⟩
    ·
      refine ⟨trivial, fun a b L4 q N0 hN0 => ?_⟩
      have hL4 : L4 = linesB L := (List.cons.inj q).1
      clear q
      refine ⟨fun xs ys => match xs, ys with | [k], [N] => ∃ m : Nat, k = m ∧ m ≤ 8 ∧ CntOk L N m | _, _ => False, fun xs _ => match xs with | k :: _ => (8 - k).toNat | _ => 0, ?_, ?_⟩ <;> dsimp only
      · exact ⟨0, rfl, by omega, by rw [hN0]; exact CntOk.start L⟩
      · intro k N hI
        obtain ⟨m, rfl, m8, hC⟩ := hI
        refine ⟨fun d1 => ?_, fun d1 => ?_⟩
        ·
          intro z0 ez0 w0 ew0 z1 ez1 w1 ew1 z2 ez2 w2 ew2 z3 ez3 w3 ew3
          have m8' : m < 8 := by omega
          have hw0 : w0 = L.getD (m * 5) 0 := by rw [ew0, ez0, hL4]; exact lineB_at0 m8'
          have hw1 : w1 = L.getD (m * 5 + 1) 0 := by rw [ew1, ez1, ez0, hL4]; exact lineB_at (j := 1) m8' (by omega)
          have hw2 : w2 = L.getD (m * 5 + 2) 0 := by rw [ew2, ez2, ez0, hL4]; exact lineB_at (j := 2) m8' (by omega)
          have hw3 : w3 = L.getD (m * 5 + 3) 0 := by rw [ew3, ez3, ez0, hL4]; exact lineB_at (j := 3) m8' (by omega)
          have ln := hT.line m8'
          have sk := fun h => hC.skip m8' h
          have ht' := fun h => hC.hit m8' h
          rw [← hw0, ← hw1, ← hw2, ← hw3] at ln
          rw [← hw0] at sk ht'
          clear ew0 ez0 ew1 ez1 ew2 ez2 ew3 ez3
          refine ⟨fun g => ?_, fun g => ?_⟩
          · obtain ⟨l0, l1, l2, l3⟩ := ln.resolve_right (fun c => by omega)
            intro a ea b eb c ec d ed e ee f ef g1 eg h1 eh o eo
            have ho : o = 0 := by rw [eo, eh, eg, ef, ee, ea, eb, ec, ed, l0, l1, l2, l3]; decide
            exact ⟨fun c => absurd ho c, fun _ j ej => ⟨⟨m + 1, by omega, by omega, sk g⟩, by omega⟩⟩
          · obtain ⟨l0, l1, l2, l3⟩ := ln.resolve_left (fun c => by omega)
            intro s es
            have hs : s = ((m / 2 : Nat) : Int) := by rw [es, Int.tmod_eq_emod_of_nonneg l1]; exact l3
            refine ⟨by omega, fun u eu v ev w ew N' eN t et => ?_⟩
            have hs' : s.toNat = m / 2 := by omega
            have hu := hC.le (s := m / 2) (by omega)
            have hu' : u = N.getD (m / 2) 0 := by rw [eu, hs']
            have hw' : w = u + 1 := by rw [ew, wrapI, ev]; omega
            have ht : t = s := by rw [et, hs, wrapI, Int.tdiv_eq_ediv_of_nonneg (by omega)]; omega
            refine ⟨fun c => absurd ht.symm c, fun _ j ej => ⟨⟨m + 1, by omega, by omega, ?_⟩, by omega⟩⟩
            rw [eN, hw', hs', hu']; exact ht' g
        · have m8' : m = 8 := by omega
          subst m8'
          refine ⟨fun xs _ => match xs with | [s] => ∃ t : Nat, s = t ∧ t ≤ 4 | _ => False, fun xs _ => match xs with | s :: _ => (4 - s).toNat | _ => 0, ?_, ?_⟩ <;> dsimp only
          · exact ⟨0, rfl, by omega⟩
          · intro s hI
            obtain ⟨t, rfl, t4⟩ := hI
            refine ⟨fun d2 => ?_, fun d2 => trivial⟩
            intro W0 hW0
            refine ⟨fun xs ys => match xs, ys with | [j], [W] => ∃ n' : Nat, j = n' ∧ n' ≤ 12 ∧ j ≤ v0 ∧ j ≤ v2 ∧ W = setW L0 L1 t n' | _, _ => False, fun xs _ => match xs with | j :: _ => (12 - j).toNat | _ => 0, ?_, ?_⟩ <;> dsimp only
            · exact ⟨0, rfl, by omega, by omega, by omega, hW0⟩
            · intro j W hI
              obtain ⟨n', rfl, a12, av0, av2, hW⟩ := hI
              have cnt := hT.counts hC (s := t) (by omega)
              have fin : n' = n → ∀ a b c : Int, a = N.getD ((t : Int)).toNat 0 → b = W.getD ((32 : Int)).toNat 0 → c = (if (2 : Int) < b then (2 : Int) else b) → a = c := by
                intro e a b c ea eb ec
                have eb' : b = (setW L0 L1 t n).getD 32 0 := by rw [eb, hW, e]; rfl
                rw [← eb'] at cnt
                rw [ea, ec, Int.toNat_natCast, cnt]
                split <;> split <;> omega
              refine ⟨fun k1 => ⟨fun k2 => ?_, fun k2 => ?_⟩, fun k1 => ?_⟩
              · refine ⟨k2, k2, fun y1 f1 y2 f2 y3 f3 y4 f4 s' es' => ?_⟩
                have hy : y4 = L1.getD n' 0 % 8 := by rw [f4, f3, f2, f1, Int.toNat_natCast]; exact tfix8 _
                have hs' : s' = y4 % 4 := by rw [es']; exact Int.tmod_eq_emod_of_nonneg (by omega)
                clear f1 f2 f3 f4 es'
                refine ⟨fun hs => ⟨k1, k1, ?_⟩, fun hs j' ej => ⟨⟨n' + 1, by omega, by omega, by omega, by omega, ?_⟩, by omega⟩⟩
                · intro x1 e1 x2 e2 x3 e3 x4 e4 g1 h1 g2 h2 g3 h3 g4 h4 g5 h5 g6 h6 W1 hW1 W2 hW2 j' ej
                  have hx : x4 = L0.getD n' 0 % 4 := by rw [e4, e3, e2, e1, Int.toNat_natCast]; exact tfix4 _
                  clear e1 e2 e3 e4
                  refine ⟨⟨n' + 1, by omega, by omega, by omega, by omega, ?_⟩, by omega⟩
                  rw [setW, if_pos (by omega), ← hx, ← hy, ← hW, hW2, hW1, h6, h5, h4, h3, h2, h1]
                  rfl
                · rw [setW, if_neg (by omega)]; exact hW
              · exact fun a ea b eb c ec => ⟨fun k => k (fin (by omega) a b c ea eb ec), fun _ j' ej => ⟨⟨t + 1, by omega, by omega⟩, by omega⟩⟩
              · exact fun a ea b eb c ec => ⟨fun k => k (fin (by omega) a b c ea eb ec), fun _ j' ej => ⟨⟨t + 1, by omega, by omega⟩, by omega⟩⟩)
theorem tlbSets_holds : ((lawSpec L2.f_messuagelaw2_TlbSets [.slc [.i .i64], .slc [.i .i64]]).withPre fun _ => True).Holds Tryz.prog L2.ro := holds_withPre _ tlbSets_holds0

noncomputable def TlbSets_sn_t : Tree := .call 5 (Go.Sx.L2.yes Go.Sx.L2.f_messuagelaw2_begun).rel [] [] 0 0 (.call 6 (Go.Sx.L2.bNew).rel [] [] 0 1 (.loop [.c (0)] [1] (.letI (.cmp .lss (.v 2) (.v 0)) (.ite (.v 3) (.exit (.call 8 (Go.Sx.L2.bLines).rel [] [2] 2 1 (.letL (.rep (.c 16) (.c 0)) (.loop [.c (0)] [4] (.letI (.cmp .lss (.v 6) (.c 8)) (.ite (.v 7) (.letI (.mul (.v 6) (.c 4)) (.letI (.get 3 (.v 8)) (.letI (.add (.v 8) (.c 1)) (.letI (.get 3 (.v 10)) (.letI (.add (.v 8) (.c 2)) (.letI (.get 3 (.v 12)) (.letI (.add (.v 8) (.c 3)) (.letI (.get 3 (.v 14)) (.letI (.cmp .lss (.v 9) (.c 0)) (.ite (.v 16) (.letI (.cmp .eql (.v 9) (.c (-1))) (.letI (.cmp .eql (.v 11) (.c 0)) (.letI (.cmp .eql (.v 13) (.c 0)) (.letI (.cmp .eql (.v 15) (.c 0)) (.letI (.pick (.v 20) (.c 1) (.c 0)) (.letI (.pick (.v 19) (.v 21) (.c 0)) (.letI (.pick (.v 18) (.v 22) (.c 0)) (.letI (.pick (.v 17) (.v 23) (.c 0)) (.letI (.not (.v 24)) (.ite (.v 25) (.exit (.fail 180)) (.letI (.add (.v 6) (.c 1)) (.again [.v 26] [5])))))))))))) (.letI (.rem (.v 11) (.c 4)) (.need .geq (.v 17) (.c 0) (.letI (.get 5 (.v 17)) (.letI (.add (.v 18) (.c 1)) (.letI (.wr .i64 (.v 19)) (.letL (.set 5 (.v 17) (.v 20)) (.letI (.quo .i64 (.v 6) (.c 2)) (.letI (.cmp .neq (.v 17) (.v 21)) (.ite (.v 22) (.exit (.fail 180)) (.letI (.add (.v 6) (.c 1)) (.again [.v 23] [6]))))))))))))))))))))) (.exit (.loop [.c (0)] [] (.letI (.cmp .lss (.v 8) (.c 4)) (.ite (.v 9) (.letL (.rep (.c 33) (.c 0)) (.loop [.c (0)] [6] (.letI (.cmp .lss (.v 10) (.v 0)) (.ite (.v 11) (.exit (.letI (.get 5 (.v 8)) (.letI (.get 7 (.c 32)) (.letI (.mn (.v 13) (.c 2)) (.letI (.cmp .neq (.v 12) (.v 14)) (.ite (.v 15) (.exit (.fail 180)) (.letI (.add (.v 8) (.c 1)) (.again [.v 16] [])))))))) (.exit (.letI (.get 5 (.v 8)) (.letI (.get 7 (.c 32)) (.letI (.mn (.v 13) (.c 2)) (.letI (.cmp .neq (.v 12) (.v 14)) (.ite (.v 15) (.exit (.fail 180)) (.letI (.add (.v 8) (.c 1)) (.again [.v 16] [])))))))))))) (.exit (.done [] [])))))))))))) (.exit (.call 8 (Go.Sx.L2.bLines).rel [] [2] 2 1 (.letL (.rep (.c 16) (.c 0)) (.loop [.c (0)] [4] (.letI (.cmp .lss (.v 6) (.c 8)) (.ite (.v 7) (.letI (.mul (.v 6) (.c 4)) (.letI (.get 3 (.v 8)) (.letI (.add (.v 8) (.c 1)) (.letI (.get 3 (.v 10)) (.letI (.add (.v 8) (.c 2)) (.letI (.get 3 (.v 12)) (.letI (.add (.v 8) (.c 3)) (.letI (.get 3 (.v 14)) (.letI (.cmp .lss (.v 9) (.c 0)) (.ite (.v 16) (.letI (.cmp .eql (.v 9) (.c (-1))) (.letI (.cmp .eql (.v 11) (.c 0)) (.letI (.cmp .eql (.v 13) (.c 0)) (.letI (.cmp .eql (.v 15) (.c 0)) (.letI (.pick (.v 20) (.c 1) (.c 0)) (.letI (.pick (.v 19) (.v 21) (.c 0)) (.letI (.pick (.v 18) (.v 22) (.c 0)) (.letI (.pick (.v 17) (.v 23) (.c 0)) (.letI (.not (.v 24)) (.ite (.v 25) (.exit (.fail 180)) (.letI (.add (.v 6) (.c 1)) (.again [.v 26] [5])))))))))))) (.letI (.rem (.v 11) (.c 4)) (.need .geq (.v 17) (.c 0) (.letI (.get 5 (.v 17)) (.letI (.add (.v 18) (.c 1)) (.letI (.wr .i64 (.v 19)) (.letL (.set 5 (.v 17) (.v 20)) (.letI (.quo .i64 (.v 6) (.c 2)) (.letI (.cmp .neq (.v 17) (.v 21)) (.ite (.v 22) (.exit (.fail 180)) (.letI (.add (.v 6) (.c 1)) (.again [.v 23] [6]))))))))))))))))))))) (.exit (.loop [.c (0)] [] (.letI (.cmp .lss (.v 8) (.c 4)) (.ite (.v 9) (.letL (.rep (.c 33) (.c 0)) (.loop [.c (0)] [6] (.letI (.cmp .lss (.v 10) (.v 0)) (.ite (.v 11) (.exit (.letI (.get 5 (.v 8)) (.letI (.get 7 (.c 32)) (.letI (.mn (.v 13) (.c 2)) (.letI (.cmp .neq (.v 12) (.v 14)) (.ite (.v 15) (.exit (.fail 180)) (.letI (.add (.v 8) (.c 1)) (.again [.v 16] [])))))))) (.exit (.letI (.get 5 (.v 8)) (.letI (.get 7 (.c 32)) (.letI (.mn (.v 13) (.c 2)) (.letI (.cmp .neq (.v 12) (.v 14)) (.ite (.v 15) (.exit (.fail 180)) (.letI (.add (.v 8) (.c 1)) (.again [.v 16] [])))))))))))) (.exit (.done [] []))))))))))))))))
theorem TlbSets_sn_tree : (lawSpec L2.f_messuagelaw2_TlbSets [.slc [.i .i64], .nil]).exe Tryz.prog (withS (L2.cfgB Tryz.prog) [L2.bNew, L2.bFill, L2.bLines]) [{ f := L2.f_messuagelaw2_TlbSets, reg := 6, ints := [(7, 0, 12)], lists := [(6, [], some (-9223372036854775808, 9223372036854775807))] }, { f := L2.f_messuagelaw2_TlbSets, reg := 11, ints := [(56, 0, 8)], lists := [(8, [], some (-9223372036854775808, 9223372036854775807))], maps := [(8, .i64, .i .i64)] }, { f := L2.f_messuagelaw2_TlbSets, reg := 21, ints := [(11, 0, 4)] }, { f := L2.f_messuagelaw2_TlbSets, reg := 25, ints := [(13, 0, 12)], lists := [(12, [], none)], pmaps := [(12, .i64, 4, 8)] }] 20 200 = TlbSets_sn_t := by kernel_rfl
theorem TlbSets_sn_vc (Q : List Int → List (List Int) → Prop) (v0 v1 : Int) (L0 : List Int) : TlbSets_sn_t.dn ⟨Q, []⟩ 2 [v1, v0] 1 [L0] = ((Go.Sx.L2.yes Go.Sx.L2.f_messuagelaw2_begun).rel.pre [] [] ∧
((Go.Sx.L2.yes Go.Sx.L2.f_messuagelaw2_begun).rel.post [] [] [] [] → (Go.Sx.L2.bNew).rel.pre [] [] ∧
(∀ L1 : List Int, (Go.Sx.L2.bNew).rel.post [] [] [] [L1] → ∃ (I0 : List Int → List (List Int) → Prop) (μ0 : List Int → List (List Int) → Nat), I0 [(0 : Int)] [L1] ∧
(∀ v2 : Int, ∀ L2 : List Int, I0 [v2] [L2] →
 ((v2 < v0) → (Go.Sx.L2.bLines).rel.pre [] [L2] ∧
(∀ v4 : Int, ∀ v5 : Int, ∀ L3 : List Int, (Go.Sx.L2.bLines).rel.post [] [L2] [v4, v5] [L3] → ∀ L4 : List Int, L4 = List.replicate ((16 : Int)).toNat (0 : Int) → ∃ (I1 : List Int → List (List Int) → Prop) (μ1 : List Int → List (List Int) → Nat), I1 [(0 : Int)] [L4] ∧
(∀ v6 : Int, ∀ L5 : List Int, I1 [v6] [L5] →
 ((v6 < (8 : Int)) → ∀ v8 : Int, v8 = v6 * (4 : Int) → ∀ v9 : Int, v9 = (L3).getD (v8).toNat 0 → ∀ v10 : Int, v10 = v8 + (1 : Int) → ∀ v11 : Int, v11 = (L3).getD (v10).toNat 0 → ∀ v12 : Int, v12 = v8 + (2 : Int) → ∀ v13 : Int, v13 = (L3).getD (v12).toNat 0 → ∀ v14 : Int, v14 = v8 + (3 : Int) → ∀ v15 : Int, v15 = (L3).getD (v14).toNat 0 → ((v9 < (0 : Int)) → ∀ v17 : Int, v17 = b2i (v9 == ((-1) : Int)) → ∀ v18 : Int, v18 = b2i (v11 == (0 : Int)) → ∀ v19 : Int, v19 = b2i (v13 == (0 : Int)) → ∀ v20 : Int, v20 = b2i (v15 == (0 : Int)) → ∀ v21 : Int, v21 = (if v20 = 0 then (0 : Int) else (1 : Int)) → ∀ v22 : Int, v22 = (if v19 = 0 then (0 : Int) else v21) → ∀ v23 : Int, v23 = (if v18 = 0 then (0 : Int) else v22) → ∀ v24 : Int, v24 = (if v17 = 0 then (0 : Int) else v23) → ∀ v25 : Int, v25 = b2i (v24 == 0) → (v25 ≠ 0 → False) ∧
(v25 = 0 → ∀ v26 : Int, v26 = v6 + (1 : Int) → (I1 [v26] [L5] ∧ μ1 [v26] [L5] < μ1 [v6] [L5]))) ∧
(((0 : Int) ≤ v9) → ∀ v17 : Int, v17 = (v11).tmod (4 : Int) → ((0 : Int) ≤ v17) ∧ ∀ v18 : Int, v18 = (L5).getD (v17).toNat 0 → ∀ v19 : Int, v19 = v18 + (1 : Int) → ∀ v20 : Int, v20 = IntKind.wrap .i64 v19 → ∀ L6 : List Int, L6 = (L5).set (v17).toNat v20 → ∀ v21 : Int, v21 = IntKind.wrap .i64 ((v6).tdiv (2 : Int)) → ((v17 ≠ v21) → False) ∧
((v17 = v21) → ∀ v23 : Int, v23 = v6 + (1 : Int) → (I1 [v23] [L6] ∧ μ1 [v23] [L6] < μ1 [v6] [L5])))) ∧
(((8 : Int) ≤ v6) → ∃ (I2 : List Int → List (List Int) → Prop) (μ2 : List Int → List (List Int) → Nat), I2 [(0 : Int)] [] ∧
(∀ v8 : Int, I2 [v8] [] →
 ((v8 < (4 : Int)) → ∀ L6 : List Int, L6 = List.replicate ((33 : Int)).toNat (0 : Int) → ∃ (I3 : List Int → List (List Int) → Prop) (μ3 : List Int → List (List Int) → Nat), I3 [(0 : Int)] [L6] ∧
(∀ v10 : Int, ∀ L7 : List Int, I3 [v10] [L7] →
 ((v10 < v0) → ∀ v12 : Int, v12 = (L5).getD (v8).toNat 0 → ∀ v13 : Int, v13 = (L7).getD ((32 : Int)).toNat 0 → ∀ v14 : Int, v14 = (if (2 : Int) < v13 then (2 : Int) else v13) → ((v12 ≠ v14) → False) ∧
((v12 = v14) → ∀ v16 : Int, v16 = v8 + (1 : Int) → (I2 [v16] [] ∧ μ2 [v16] [] < μ2 [v8] []))) ∧
((v0 ≤ v10) → ∀ v12 : Int, v12 = (L5).getD (v8).toNat 0 → ∀ v13 : Int, v13 = (L7).getD ((32 : Int)).toNat 0 → ∀ v14 : Int, v14 = (if (2 : Int) < v13 then (2 : Int) else v13) → ((v12 ≠ v14) → False) ∧
((v12 = v14) → ∀ v16 : Int, v16 = v8 + (1 : Int) → (I2 [v16] [] ∧ μ2 [v16] [] < μ2 [v8] []))))) ∧
(((4 : Int) ≤ v8) → Q [] [])))))) ∧
((v0 ≤ v2) → (Go.Sx.L2.bLines).rel.pre [] [L2] ∧
(∀ v4 : Int, ∀ v5 : Int, ∀ L3 : List Int, (Go.Sx.L2.bLines).rel.post [] [L2] [v4, v5] [L3] → ∀ L4 : List Int, L4 = List.replicate ((16 : Int)).toNat (0 : Int) → ∃ (I1 : List Int → List (List Int) → Prop) (μ1 : List Int → List (List Int) → Nat), I1 [(0 : Int)] [L4] ∧
(∀ v6 : Int, ∀ L5 : List Int, I1 [v6] [L5] →
 ((v6 < (8 : Int)) → ∀ v8 : Int, v8 = v6 * (4 : Int) → ∀ v9 : Int, v9 = (L3).getD (v8).toNat 0 → ∀ v10 : Int, v10 = v8 + (1 : Int) → ∀ v11 : Int, v11 = (L3).getD (v10).toNat 0 → ∀ v12 : Int, v12 = v8 + (2 : Int) → ∀ v13 : Int, v13 = (L3).getD (v12).toNat 0 → ∀ v14 : Int, v14 = v8 + (3 : Int) → ∀ v15 : Int, v15 = (L3).getD (v14).toNat 0 → ((v9 < (0 : Int)) → ∀ v17 : Int, v17 = b2i (v9 == ((-1) : Int)) → ∀ v18 : Int, v18 = b2i (v11 == (0 : Int)) → ∀ v19 : Int, v19 = b2i (v13 == (0 : Int)) → ∀ v20 : Int, v20 = b2i (v15 == (0 : Int)) → ∀ v21 : Int, v21 = (if v20 = 0 then (0 : Int) else (1 : Int)) → ∀ v22 : Int, v22 = (if v19 = 0 then (0 : Int) else v21) → ∀ v23 : Int, v23 = (if v18 = 0 then (0 : Int) else v22) → ∀ v24 : Int, v24 = (if v17 = 0 then (0 : Int) else v23) → ∀ v25 : Int, v25 = b2i (v24 == 0) → (v25 ≠ 0 → False) ∧
(v25 = 0 → ∀ v26 : Int, v26 = v6 + (1 : Int) → (I1 [v26] [L5] ∧ μ1 [v26] [L5] < μ1 [v6] [L5]))) ∧
(((0 : Int) ≤ v9) → ∀ v17 : Int, v17 = (v11).tmod (4 : Int) → ((0 : Int) ≤ v17) ∧ ∀ v18 : Int, v18 = (L5).getD (v17).toNat 0 → ∀ v19 : Int, v19 = v18 + (1 : Int) → ∀ v20 : Int, v20 = IntKind.wrap .i64 v19 → ∀ L6 : List Int, L6 = (L5).set (v17).toNat v20 → ∀ v21 : Int, v21 = IntKind.wrap .i64 ((v6).tdiv (2 : Int)) → ((v17 ≠ v21) → False) ∧
((v17 = v21) → ∀ v23 : Int, v23 = v6 + (1 : Int) → (I1 [v23] [L6] ∧ μ1 [v23] [L6] < μ1 [v6] [L5])))) ∧
(((8 : Int) ≤ v6) → ∃ (I2 : List Int → List (List Int) → Prop) (μ2 : List Int → List (List Int) → Nat), I2 [(0 : Int)] [] ∧
(∀ v8 : Int, I2 [v8] [] →
 ((v8 < (4 : Int)) → ∀ L6 : List Int, L6 = List.replicate ((33 : Int)).toNat (0 : Int) → ∃ (I3 : List Int → List (List Int) → Prop) (μ3 : List Int → List (List Int) → Nat), I3 [(0 : Int)] [L6] ∧
(∀ v10 : Int, ∀ L7 : List Int, I3 [v10] [L7] →
 ((v10 < v0) → ∀ v12 : Int, v12 = (L5).getD (v8).toNat 0 → ∀ v13 : Int, v13 = (L7).getD ((32 : Int)).toNat 0 → ∀ v14 : Int, v14 = (if (2 : Int) < v13 then (2 : Int) else v13) → ((v12 ≠ v14) → False) ∧
((v12 = v14) → ∀ v16 : Int, v16 = v8 + (1 : Int) → (I2 [v16] [] ∧ μ2 [v16] [] < μ2 [v8] []))) ∧
((v0 ≤ v10) → ∀ v12 : Int, v12 = (L5).getD (v8).toNat 0 → ∀ v13 : Int, v13 = (L7).getD ((32 : Int)).toNat 0 → ∀ v14 : Int, v14 = (if (2 : Int) < v13 then (2 : Int) else v13) → ((v12 ≠ v14) → False) ∧
((v12 = v14) → ∀ v16 : Int, v16 = v8 + (1 : Int) → (I2 [v16] [] ∧ μ2 [v16] [] < μ2 [v8] []))))) ∧
(((4 : Int) ≤ v8) → Q [] [])))))))))) := by kernel_rfl
set_option maxHeartbeats 4000000 in
theorem tlbSets_holds_sn0 : (lawSpec L2.f_messuagelaw2_TlbSets [.slc [.i .i64], .nil]).Holds Tryz.prog L2.ro := FSpec.holdsV (cfg := withS (L2.cfgB Tryz.prog) [L2.bNew, L2.bFill, L2.bLines]) [{ f := L2.f_messuagelaw2_TlbSets, reg := 6, ints := [(7, 0, 12)], lists := [(6, [], some (-9223372036854775808, 9223372036854775807))] }, { f := L2.f_messuagelaw2_TlbSets, reg := 11, ints := [(56, 0, 8)], lists := [(8, [], some (-9223372036854775808, 9223372036854775807))], maps := [(8, .i64, .i .i64)] }, { f := L2.f_messuagelaw2_TlbSets, reg := 21, ints := [(11, 0, 4)] }, { f := L2.f_messuagelaw2_TlbSets, reg := 25, ints := [(13, 0, 12)], lists := [(12, [], none)], pmaps := [(12, .i64, 4, 8)] }] 20 200 (withS_ok cfgB_ok ⟨bNew_holds, bFill_holds, bLines_holds, trivial⟩) mixed (t := TlbSets_sn_t) TlbSets_sn_tree (by
  show ∀ (v0 v1 : Int) (L0 : List Int), _
  intro v0 v1 L0 hp hr hl
  replace hr : ((0 : Int) ≤ v0 ∧ v0 ≤ (9223372036854775807 : Int)) ∧ ((0 : Int) ≤ v1 ∧ v1 ≤ (9223372036854775807 : Int)) ∧ True := hr
  replace hp : (True ∧ ((0 : Int) ≤ v0 ∧ v0 ≤ v1 ∧ (L0.length : Int) = v0 * ((1 : Nat) : Int) ∧ ((1 : Nat) ≠ 1 → [v0, v1].getD 2 0 = v0 * ((1 : Nat) : Int)) ∧ ∀ j, j < L0.length → ((oneKind [.i .i64]).getD (j % (oneKind [.i .i64]).length) (.i .i64)).lo ≤ L0.getD j 0 ∧ L0.getD j 0 ≤ ((oneKind [.i .i64]).getD (j % (oneKind [.i .i64]).length) (.i .i64)).hi)) := hp
  show TlbSets_sn_t.dn ⟨_, []⟩ 2 [v1, v0] 1 [L0]
  rw [TlbSets_sn_vc]
  show ((L2.yes L2.f_messuagelaw2_begun).rel.pre [] [] ∧ _)
  refine ⟨trivial, fun _ => ?_⟩
  refine ⟨trivial, fun LS hLS => ?_⟩
  have hLS : LS = clearB (List.replicate 41 0) := (List.cons.inj hLS.2).1
  refine ⟨fun xs ys => match xs, ys with | [i], [L] => ∃ n : Nat, i = n ∧ n = 0 ∧ TsOk L [] [] n | _, _ => False, fun xs _ => match xs with | i :: _ => (12 - i).toNat | _ => 0, ?_, ?_⟩ <;> dsimp only
  · exact ⟨0, rfl, rfl, by rw [hLS]; exact TsOk.start [] []⟩
  · intro i L hI
    obtain ⟨n, rfl, n12, hT⟩ := hI
    refine ⟨fun c1 => ?_, fun c1 => ?_⟩
    ·
      refine ⟨trivial, fun a b L4 q N0 hN0 => ?_⟩
      have hL4 : L4 = linesB L := (List.cons.inj q).1
      clear q
      refine ⟨fun xs ys => match xs, ys with | [k], [N] => ∃ m : Nat, k = m ∧ m ≤ 8 ∧ CntOk L N m | _, _ => False, fun xs _ => match xs with | k :: _ => (8 - k).toNat | _ => 0, ?_, ?_⟩ <;> dsimp only
      · exact ⟨0, rfl, by omega, by rw [hN0]; exact CntOk.start L⟩
      · intro k N hI
        obtain ⟨m, rfl, m8, hC⟩ := hI
        refine ⟨fun d1 => ?_, fun d1 => ?_⟩
        ·
          intro z0 ez0 w0 ew0 z1 ez1 w1 ew1 z2 ez2 w2 ew2 z3 ez3 w3 ew3
          have m8' : m < 8 := by omega
          have hw0 : w0 = L.getD (m * 5) 0 := by rw [ew0, ez0, hL4]; exact lineB_at0 m8'
          have hw1 : w1 = L.getD (m * 5 + 1) 0 := by rw [ew1, ez1, ez0, hL4]; exact lineB_at (j := 1) m8' (by omega)
          have hw2 : w2 = L.getD (m * 5 + 2) 0 := by rw [ew2, ez2, ez0, hL4]; exact lineB_at (j := 2) m8' (by omega)
          have hw3 : w3 = L.getD (m * 5 + 3) 0 := by rw [ew3, ez3, ez0, hL4]; exact lineB_at (j := 3) m8' (by omega)
          have ln := hT.line m8'
          have sk := fun h => hC.skip m8' h
          have ht' := fun h => hC.hit m8' h
          rw [← hw0, ← hw1, ← hw2, ← hw3] at ln
          rw [← hw0] at sk ht'
          clear ew0 ez0 ew1 ez1 ew2 ez2 ew3 ez3
          refine ⟨fun g => ?_, fun g => ?_⟩
          · obtain ⟨l0, l1, l2, l3⟩ := ln.resolve_right (fun c => by omega)
            intro a ea b eb c ec d ed e ee f ef g1 eg h1 eh o eo
            have ho : o = 0 := by rw [eo, eh, eg, ef, ee, ea, eb, ec, ed, l0, l1, l2, l3]; decide
            exact ⟨fun c => absurd ho c, fun _ j ej => ⟨⟨m + 1, by omega, by omega, sk g⟩, by omega⟩⟩
          · obtain ⟨l0, l1, l2, l3⟩ := ln.resolve_left (fun c => by omega)
            intro s es
            have hs : s = ((m / 2 : Nat) : Int) := by rw [es, Int.tmod_eq_emod_of_nonneg l1]; exact l3
            refine ⟨by omega, fun u eu v ev w ew N' eN t et => ?_⟩
            have hs' : s.toNat = m / 2 := by omega
            have hu := hC.le (s := m / 2) (by omega)
            have hu' : u = N.getD (m / 2) 0 := by rw [eu, hs']
            have hw' : w = u + 1 := by rw [ew, wrapI, ev]; omega
            have ht : t = s := by rw [et, hs, wrapI, Int.tdiv_eq_ediv_of_nonneg (by omega)]; omega
            refine ⟨fun c => absurd ht.symm c, fun _ j ej => ⟨⟨m + 1, by omega, by omega, ?_⟩, by omega⟩⟩
            rw [eN, hw', hs', hu']; exact ht' g
        · have m8' : m = 8 := by omega
          subst m8'
          refine ⟨fun xs _ => match xs with | [s] => ∃ t : Nat, s = t ∧ t ≤ 4 | _ => False, fun xs _ => match xs with | s :: _ => (4 - s).toNat | _ => 0, ?_, ?_⟩ <;> dsimp only
          · exact ⟨0, rfl, by omega⟩
          · intro s hI
            obtain ⟨t, rfl, t4⟩ := hI
            refine ⟨fun d2 => ?_, fun d2 => trivial⟩
            intro W0 hW0
            refine ⟨fun xs ys => match xs, ys with | [j], [W] => ∃ n' : Nat, j = n' ∧ n' = 0 ∧ W = setW [] [] t n' | _, _ => False, fun xs _ => match xs with | j :: _ => (12 - j).toNat | _ => 0, ?_, ?_⟩ <;> dsimp only
            · exact ⟨0, rfl, rfl, hW0⟩
            · intro j W hI
              obtain ⟨n', rfl, a12, hW⟩ := hI
              have cnt := hT.counts hC (s := t) (by omega)
              have fin : n' = n → ∀ a b c : Int, a = N.getD ((t : Int)).toNat 0 → b = W.getD ((32 : Int)).toNat 0 → c = (if (2 : Int) < b then (2 : Int) else b) → a = c := by
                intro e a b c ea eb ec
                have eb' : b = (setW [] [] t n).getD 32 0 := by rw [eb, hW, e]; rfl
                rw [← eb'] at cnt
                rw [ea, ec, Int.toNat_natCast, cnt]
                split <;> split <;> omega
              exact ⟨fun _ => fun a ea b eb c ec => ⟨fun k => k (fin (by omega) a b c ea eb ec), fun _ j' ej => ⟨⟨t + 1, by omega, by omega⟩, by omega⟩⟩, fun _ => fun a ea b eb c ec => ⟨fun k => k (fin (by omega) a b c ea eb ec), fun _ j' ej => ⟨⟨t + 1, by omega, by omega⟩, by omega⟩⟩⟩
    ·
      refine ⟨trivial, fun a b L4 q N0 hN0 => ?_⟩
      have hL4 : L4 = linesB L := (List.cons.inj q).1
      clear q
      refine ⟨fun xs ys => match xs, ys with | [k], [N] => ∃ m : Nat, k = m ∧ m ≤ 8 ∧ CntOk L N m | _, _ => False, fun xs _ => match xs with | k :: _ => (8 - k).toNat | _ => 0, ?_, ?_⟩ <;> dsimp only
      · exact ⟨0, rfl, by omega, by rw [hN0]; exact CntOk.start L⟩
      · intro k N hI
        obtain ⟨m, rfl, m8, hC⟩ := hI
        refine ⟨fun d1 => ?_, fun d1 => ?_⟩
        ·
          intro z0 ez0 w0 ew0 z1 ez1 w1 ew1 z2 ez2 w2 ew2 z3 ez3 w3 ew3
          have m8' : m < 8 := by omega
          have hw0 : w0 = L.getD (m * 5) 0 := by rw [ew0, ez0, hL4]; exact lineB_at0 m8'
          have hw1 : w1 = L.getD (m * 5 + 1) 0 := by rw [ew1, ez1, ez0, hL4]; exact lineB_at (j := 1) m8' (by omega)
          have hw2 : w2 = L.getD (m * 5 + 2) 0 := by rw [ew2, ez2, ez0, hL4]; exact lineB_at (j := 2) m8' (by omega)
          have hw3 : w3 = L.getD (m * 5 + 3) 0 := by rw [ew3, ez3, ez0, hL4]; exact lineB_at (j := 3) m8' (by omega)
          have ln := hT.line m8'
          have sk := fun h => hC.skip m8' h
          have ht' := fun h => hC.hit m8' h
          rw [← hw0, ← hw1, ← hw2, ← hw3] at ln
          rw [← hw0] at sk ht'
          clear ew0 ez0 ew1 ez1 ew2 ez2 ew3 ez3
          refine ⟨fun g => ?_, fun g => ?_⟩
          · obtain ⟨l0, l1, l2, l3⟩ := ln.resolve_right (fun c => by omega)
            intro a ea b eb c ec d ed e ee f ef g1 eg h1 eh o eo
            have ho : o = 0 := by rw [eo, eh, eg, ef, ee, ea, eb, ec, ed, l0, l1, l2, l3]; decide
            exact ⟨fun c => absurd ho c, fun _ j ej => ⟨⟨m + 1, by omega, by omega, sk g⟩, by omega⟩⟩
          · obtain ⟨l0, l1, l2, l3⟩ := ln.resolve_left (fun c => by omega)
            intro s es
            have hs : s = ((m / 2 : Nat) : Int) := by rw [es, Int.tmod_eq_emod_of_nonneg l1]; exact l3
            refine ⟨by omega, fun u eu v ev w ew N' eN t et => ?_⟩
            have hs' : s.toNat = m / 2 := by omega
            have hu := hC.le (s := m / 2) (by omega)
            have hu' : u = N.getD (m / 2) 0 := by rw [eu, hs']
            have hw' : w = u + 1 := by rw [ew, wrapI, ev]; omega
            have ht : t = s := by rw [et, hs, wrapI, Int.tdiv_eq_ediv_of_nonneg (by omega)]; omega
            refine ⟨fun c => absurd ht.symm c, fun _ j ej => ⟨⟨m + 1, by omega, by omega, ?_⟩, by omega⟩⟩
            rw [eN, hw', hs', hu']; exact ht' g
        · have m8' : m = 8 := by omega
          subst m8'
          refine ⟨fun xs _ => match xs with | [s] => ∃ t : Nat, s = t ∧ t ≤ 4 | _ => False, fun xs _ => match xs with | s :: _ => (4 - s).toNat | _ => 0, ?_, ?_⟩ <;> dsimp only
          · exact ⟨0, rfl, by omega⟩
          · intro s hI
            obtain ⟨t, rfl, t4⟩ := hI
            refine ⟨fun d2 => ?_, fun d2 => trivial⟩
            intro W0 hW0
            refine ⟨fun xs ys => match xs, ys with | [j], [W] => ∃ n' : Nat, j = n' ∧ n' = 0 ∧ W = setW [] [] t n' | _, _ => False, fun xs _ => match xs with | j :: _ => (12 - j).toNat | _ => 0, ?_, ?_⟩ <;> dsimp only
            · exact ⟨0, rfl, rfl, hW0⟩
            · intro j W hI
              obtain ⟨n', rfl, a12, hW⟩ := hI
              have cnt := hT.counts hC (s := t) (by omega)
              have fin : n' = n → ∀ a b c : Int, a = N.getD ((t : Int)).toNat 0 → b = W.getD ((32 : Int)).toNat 0 → c = (if (2 : Int) < b then (2 : Int) else b) → a = c := by
                intro e a b c ea eb ec
                have eb' : b = (setW [] [] t n).getD 32 0 := by rw [eb, hW, e]; rfl
                rw [← eb'] at cnt
                rw [ea, ec, Int.toNat_natCast, cnt]
                split <;> split <;> omega
              exact ⟨fun _ => fun a ea b eb c ec => ⟨fun k => k (fin (by omega) a b c ea eb ec), fun _ j' ej => ⟨⟨t + 1, by omega, by omega⟩, by omega⟩⟩, fun _ => fun a ea b eb c ec => ⟨fun k => k (fin (by omega) a b c ea eb ec), fun _ j' ej => ⟨⟨t + 1, by omega, by omega⟩, by omega⟩⟩⟩)
theorem tlbSets_holds_sn : ((lawSpec L2.f_messuagelaw2_TlbSets [.slc [.i .i64], .nil]).withPre fun _ => True).Holds Tryz.prog L2.ro := holds_withPre _ tlbSets_holds_sn0

noncomputable def TlbSets_ns_t : Tree := .call 5 (Go.Sx.L2.yes Go.Sx.L2.f_messuagelaw2_begun).rel [] [] 0 0 (.call 6 (Go.Sx.L2.bNew).rel [] [] 0 1 (.loop [.c (0)] [1] (.exit (.call 8 (Go.Sx.L2.bLines).rel [] [2] 2 1 (.letL (.rep (.c 16) (.c 0)) (.loop [.c (0)] [4] (.letI (.cmp .lss (.v 5) (.c 8)) (.ite (.v 6) (.letI (.mul (.v 5) (.c 4)) (.letI (.get 3 (.v 7)) (.letI (.add (.v 7) (.c 1)) (.letI (.get 3 (.v 9)) (.letI (.add (.v 7) (.c 2)) (.letI (.get 3 (.v 11)) (.letI (.add (.v 7) (.c 3)) (.letI (.get 3 (.v 13)) (.letI (.cmp .lss (.v 8) (.c 0)) (.ite (.v 15) (.letI (.cmp .eql (.v 8) (.c (-1))) (.letI (.cmp .eql (.v 10) (.c 0)) (.letI (.cmp .eql (.v 12) (.c 0)) (.letI (.cmp .eql (.v 14) (.c 0)) (.letI (.pick (.v 19) (.c 1) (.c 0)) (.letI (.pick (.v 18) (.v 20) (.c 0)) (.letI (.pick (.v 17) (.v 21) (.c 0)) (.letI (.pick (.v 16) (.v 22) (.c 0)) (.letI (.not (.v 23)) (.ite (.v 24) (.exit (.fail 180)) (.letI (.add (.v 5) (.c 1)) (.again [.v 25] [5])))))))))))) (.letI (.rem (.v 10) (.c 4)) (.need .geq (.v 16) (.c 0) (.letI (.get 5 (.v 16)) (.letI (.add (.v 17) (.c 1)) (.letI (.wr .i64 (.v 18)) (.letL (.set 5 (.v 16) (.v 19)) (.letI (.quo .i64 (.v 5) (.c 2)) (.letI (.cmp .neq (.v 16) (.v 20)) (.ite (.v 21) (.exit (.fail 180)) (.letI (.add (.v 5) (.c 1)) (.again [.v 22] [6]))))))))))))))))))))) (.exit (.loop [.c (0)] [] (.letI (.cmp .lss (.v 7) (.c 4)) (.ite (.v 8) (.letL (.rep (.c 33) (.c 0)) (.loop [.c (0)] [6] (.exit (.letI (.get 5 (.v 7)) (.letI (.get 7 (.c 32)) (.letI (.mn (.v 11) (.c 2)) (.letI (.cmp .neq (.v 10) (.v 12)) (.ite (.v 13) (.exit (.fail 180)) (.letI (.add (.v 7) (.c 1)) (.again [.v 14] [])))))))))) (.exit (.done [] []))))))))))))))
theorem TlbSets_ns_tree : (lawSpec L2.f_messuagelaw2_TlbSets [.nil, .slc [.i .i64]]).exe Tryz.prog (withS (L2.cfgB Tryz.prog) [L2.bNew, L2.bFill, L2.bLines]) [{ f := L2.f_messuagelaw2_TlbSets, reg := 6, ints := [(7, 0, 12)], lists := [(6, [], some (-9223372036854775808, 9223372036854775807))] }, { f := L2.f_messuagelaw2_TlbSets, reg := 11, ints := [(56, 0, 8)], lists := [(8, [], some (-9223372036854775808, 9223372036854775807))], maps := [(8, .i64, .i .i64)] }, { f := L2.f_messuagelaw2_TlbSets, reg := 21, ints := [(11, 0, 4)] }, { f := L2.f_messuagelaw2_TlbSets, reg := 25, ints := [(13, 0, 12)], lists := [(12, [], none)], pmaps := [(12, .i64, 4, 8)] }] 20 200 = TlbSets_ns_t := by kernel_rfl
theorem TlbSets_ns_vc (Q : List Int → List (List Int) → Prop) (v0 v1 : Int) (L0 : List Int) : TlbSets_ns_t.dn ⟨Q, []⟩ 2 [v1, v0] 1 [L0] = ((Go.Sx.L2.yes Go.Sx.L2.f_messuagelaw2_begun).rel.pre [] [] ∧
((Go.Sx.L2.yes Go.Sx.L2.f_messuagelaw2_begun).rel.post [] [] [] [] → (Go.Sx.L2.bNew).rel.pre [] [] ∧
(∀ L1 : List Int, (Go.Sx.L2.bNew).rel.post [] [] [] [L1] → ∃ (I0 : List Int → List (List Int) → Prop) (μ0 : List Int → List (List Int) → Nat), I0 [(0 : Int)] [L1] ∧
(∀ v2 : Int, ∀ L2 : List Int, I0 [v2] [L2] →
 (Go.Sx.L2.bLines).rel.pre [] [L2] ∧
(∀ v3 : Int, ∀ v4 : Int, ∀ L3 : List Int, (Go.Sx.L2.bLines).rel.post [] [L2] [v3, v4] [L3] → ∀ L4 : List Int, L4 = List.replicate ((16 : Int)).toNat (0 : Int) → ∃ (I1 : List Int → List (List Int) → Prop) (μ1 : List Int → List (List Int) → Nat), I1 [(0 : Int)] [L4] ∧
(∀ v5 : Int, ∀ L5 : List Int, I1 [v5] [L5] →
 ((v5 < (8 : Int)) → ∀ v7 : Int, v7 = v5 * (4 : Int) → ∀ v8 : Int, v8 = (L3).getD (v7).toNat 0 → ∀ v9 : Int, v9 = v7 + (1 : Int) → ∀ v10 : Int, v10 = (L3).getD (v9).toNat 0 → ∀ v11 : Int, v11 = v7 + (2 : Int) → ∀ v12 : Int, v12 = (L3).getD (v11).toNat 0 → ∀ v13 : Int, v13 = v7 + (3 : Int) → ∀ v14 : Int, v14 = (L3).getD (v13).toNat 0 → ((v8 < (0 : Int)) → ∀ v16 : Int, v16 = b2i (v8 == ((-1) : Int)) → ∀ v17 : Int, v17 = b2i (v10 == (0 : Int)) → ∀ v18 : Int, v18 = b2i (v12 == (0 : Int)) → ∀ v19 : Int, v19 = b2i (v14 == (0 : Int)) → ∀ v20 : Int, v20 = (if v19 = 0 then (0 : Int) else (1 : Int)) → ∀ v21 : Int, v21 = (if v18 = 0 then (0 : Int) else v20) → ∀ v22 : Int, v22 = (if v17 = 0 then (0 : Int) else v21) → ∀ v23 : Int, v23 = (if v16 = 0 then (0 : Int) else v22) → ∀ v24 : Int, v24 = b2i (v23 == 0) → (v24 ≠ 0 → False) ∧
(v24 = 0 → ∀ v25 : Int, v25 = v5 + (1 : Int) → (I1 [v25] [L5] ∧ μ1 [v25] [L5] < μ1 [v5] [L5]))) ∧
(((0 : Int) ≤ v8) → ∀ v16 : Int, v16 = (v10).tmod (4 : Int) → ((0 : Int) ≤ v16) ∧ ∀ v17 : Int, v17 = (L5).getD (v16).toNat 0 → ∀ v18 : Int, v18 = v17 + (1 : Int) → ∀ v19 : Int, v19 = IntKind.wrap .i64 v18 → ∀ L6 : List Int, L6 = (L5).set (v16).toNat v19 → ∀ v20 : Int, v20 = IntKind.wrap .i64 ((v5).tdiv (2 : Int)) → ((v16 ≠ v20) → False) ∧
((v16 = v20) → ∀ v22 : Int, v22 = v5 + (1 : Int) → (I1 [v22] [L6] ∧ μ1 [v22] [L6] < μ1 [v5] [L5])))) ∧
(((8 : Int) ≤ v5) → ∃ (I2 : List Int → List (List Int) → Prop) (μ2 : List Int → List (List Int) → Nat), I2 [(0 : Int)] [] ∧
(∀ v7 : Int, I2 [v7] [] →
 ((v7 < (4 : Int)) → ∀ L6 : List Int, L6 = List.replicate ((33 : Int)).toNat (0 : Int) → ∃ (I3 : List Int → List (List Int) → Prop) (μ3 : List Int → List (List Int) → Nat), I3 [(0 : Int)] [L6] ∧
(∀ v9 : Int, ∀ L7 : List Int, I3 [v9] [L7] →
 ∀ v10 : Int, v10 = (L5).getD (v7).toNat 0 → ∀ v11 : Int, v11 = (L7).getD ((32 : Int)).toNat 0 → ∀ v12 : Int, v12 = (if (2 : Int) < v11 then (2 : Int) else v11) → ((v10 ≠ v12) → False) ∧
((v10 = v12) → ∀ v14 : Int, v14 = v7 + (1 : Int) → (I2 [v14] [] ∧ μ2 [v14] [] < μ2 [v7] [])))) ∧
(((4 : Int) ≤ v7) → Q [] []))))))))) := by kernel_rfl
set_option maxHeartbeats 4000000 in
theorem tlbSets_holds_ns0 : (lawSpec L2.f_messuagelaw2_TlbSets [.nil, .slc [.i .i64]]).Holds Tryz.prog L2.ro := FSpec.holdsV (cfg := withS (L2.cfgB Tryz.prog) [L2.bNew, L2.bFill, L2.bLines]) [{ f := L2.f_messuagelaw2_TlbSets, reg := 6, ints := [(7, 0, 12)], lists := [(6, [], some (-9223372036854775808, 9223372036854775807))] }, { f := L2.f_messuagelaw2_TlbSets, reg := 11, ints := [(56, 0, 8)], lists := [(8, [], some (-9223372036854775808, 9223372036854775807))], maps := [(8, .i64, .i .i64)] }, { f := L2.f_messuagelaw2_TlbSets, reg := 21, ints := [(11, 0, 4)] }, { f := L2.f_messuagelaw2_TlbSets, reg := 25, ints := [(13, 0, 12)], lists := [(12, [], none)], pmaps := [(12, .i64, 4, 8)] }] 20 200 (withS_ok cfgB_ok ⟨bNew_holds, bFill_holds, bLines_holds, trivial⟩) mixed (t := TlbSets_ns_t) TlbSets_ns_tree (by
  show ∀ (v0 v1 : Int) (L0 : List Int), _
  intro v0 v1 L0 hp hr hl
  replace hr : ((0 : Int) ≤ v0 ∧ v0 ≤ (9223372036854775807 : Int)) ∧ ((0 : Int) ≤ v1 ∧ v1 ≤ (9223372036854775807 : Int)) ∧ True := hr
  replace hp : (True ∧ ((0 : Int) ≤ v0 ∧ v0 ≤ v1 ∧ (L0.length : Int) = v0 * ((1 : Nat) : Int) ∧ ((1 : Nat) ≠ 1 → [v0, v1].getD 2 0 = v0 * ((1 : Nat) : Int)) ∧ ∀ j, j < L0.length → ((oneKind [.i .i64]).getD (j % (oneKind [.i .i64]).length) (.i .i64)).lo ≤ L0.getD j 0 ∧ L0.getD j 0 ≤ ((oneKind [.i .i64]).getD (j % (oneKind [.i .i64]).length) (.i .i64)).hi)) := hp
  show TlbSets_ns_t.dn ⟨_, []⟩ 2 [v1, v0] 1 [L0]
  rw [TlbSets_ns_vc]
  show ((L2.yes L2.f_messuagelaw2_begun).rel.pre [] [] ∧ _)
  refine ⟨trivial, fun _ => ?_⟩
  refine ⟨trivial, fun LS hLS => ?_⟩
  have hLS : LS = clearB (List.replicate 41 0) := (List.cons.inj hLS.2).1
  refine ⟨fun xs ys => match xs, ys with | [i], [L] => ∃ n : Nat, i = n ∧ n = 0 ∧ TsOk L [] [] n | _, _ => False, fun xs _ => match xs with | i :: _ => (12 - i).toNat | _ => 0, ?_, ?_⟩ <;> dsimp only
  · exact ⟨0, rfl, rfl, by rw [hLS]; exact TsOk.start [] []⟩
  · intro i L hI
    obtain ⟨n, rfl, n12, hT⟩ := hI
    refine ⟨trivial, fun a b L4 q N0 hN0 => ?_⟩
    have hL4 : L4 = linesB L := (List.cons.inj q).1
    clear q
    refine ⟨fun xs ys => match xs, ys with | [k], [N] => ∃ m : Nat, k = m ∧ m ≤ 8 ∧ CntOk L N m | _, _ => False, fun xs _ => match xs with | k :: _ => (8 - k).toNat | _ => 0, ?_, ?_⟩ <;> dsimp only
    · exact ⟨0, rfl, by omega, by rw [hN0]; exact CntOk.start L⟩
    · intro k N hI
      obtain ⟨m, rfl, m8, hC⟩ := hI
      refine ⟨fun d1 => ?_, fun d1 => ?_⟩
      ·
        intro z0 ez0 w0 ew0 z1 ez1 w1 ew1 z2 ez2 w2 ew2 z3 ez3 w3 ew3
        have m8' : m < 8 := by omega
        have hw0 : w0 = L.getD (m * 5) 0 := by rw [ew0, ez0, hL4]; exact lineB_at0 m8'
        have hw1 : w1 = L.getD (m * 5 + 1) 0 := by rw [ew1, ez1, ez0, hL4]; exact lineB_at (j := 1) m8' (by omega)
        have hw2 : w2 = L.getD (m * 5 + 2) 0 := by rw [ew2, ez2, ez0, hL4]; exact lineB_at (j := 2) m8' (by omega)
        have hw3 : w3 = L.getD (m * 5 + 3) 0 := by rw [ew3, ez3, ez0, hL4]; exact lineB_at (j := 3) m8' (by omega)
        have ln := hT.line m8'
        have sk := fun h => hC.skip m8' h
        have ht' := fun h => hC.hit m8' h
        rw [← hw0, ← hw1, ← hw2, ← hw3] at ln
        rw [← hw0] at sk ht'
        clear ew0 ez0 ew1 ez1 ew2 ez2 ew3 ez3
        refine ⟨fun g => ?_, fun g => ?_⟩
        · obtain ⟨l0, l1, l2, l3⟩ := ln.resolve_right (fun c => by omega)
          intro a ea b eb c ec d ed e ee f ef g1 eg h1 eh o eo
          have ho : o = 0 := by rw [eo, eh, eg, ef, ee, ea, eb, ec, ed, l0, l1, l2, l3]; decide
          exact ⟨fun c => absurd ho c, fun _ j ej => ⟨⟨m + 1, by omega, by omega, sk g⟩, by omega⟩⟩
        · obtain ⟨l0, l1, l2, l3⟩ := ln.resolve_left (fun c => by omega)
          intro s es
          have hs : s = ((m / 2 : Nat) : Int) := by rw [es, Int.tmod_eq_emod_of_nonneg l1]; exact l3
          refine ⟨by omega, fun u eu v ev w ew N' eN t et => ?_⟩
          have hs' : s.toNat = m / 2 := by omega
          have hu := hC.le (s := m / 2) (by omega)
          have hu' : u = N.getD (m / 2) 0 := by rw [eu, hs']
          have hw' : w = u + 1 := by rw [ew, wrapI, ev]; omega
          have ht : t = s := by rw [et, hs, wrapI, Int.tdiv_eq_ediv_of_nonneg (by omega)]; omega
          refine ⟨fun c => absurd ht.symm c, fun _ j ej => ⟨⟨m + 1, by omega, by omega, ?_⟩, by omega⟩⟩
          rw [eN, hw', hs', hu']; exact ht' g
      · have m8' : m = 8 := by omega
        subst m8'
        refine ⟨fun xs _ => match xs with | [s] => ∃ t : Nat, s = t ∧ t ≤ 4 | _ => False, fun xs _ => match xs with | s :: _ => (4 - s).toNat | _ => 0, ?_, ?_⟩ <;> dsimp only
        · exact ⟨0, rfl, by omega⟩
        · intro s hI
          obtain ⟨t, rfl, t4⟩ := hI
          refine ⟨fun d2 => ?_, fun d2 => trivial⟩
          intro W0 hW0
          refine ⟨fun xs ys => match xs, ys with | [j], [W] => ∃ n' : Nat, j = n' ∧ n' = 0 ∧ W = setW [] [] t n' | _, _ => False, fun xs _ => match xs with | j :: _ => (12 - j).toNat | _ => 0, ?_, ?_⟩ <;> dsimp only
          · exact ⟨0, rfl, rfl, hW0⟩
          · intro j W hI
            obtain ⟨n', rfl, a12, hW⟩ := hI
            have cnt := hT.counts hC (s := t) (by omega)
            have fin : n' = n → ∀ a b c : Int, a = N.getD ((t : Int)).toNat 0 → b = W.getD ((32 : Int)).toNat 0 → c = (if (2 : Int) < b then (2 : Int) else b) → a = c := by
              intro e a b c ea eb ec
              have eb' : b = (setW [] [] t n).getD 32 0 := by rw [eb, hW, e]; rfl
              rw [← eb'] at cnt
              rw [ea, ec, Int.toNat_natCast, cnt]
              split <;> split <;> omega
            exact fun a ea b eb c ec => ⟨fun k => k (fin (by omega) a b c ea eb ec), fun _ j' ej => ⟨⟨t + 1, by omega, by omega⟩, by omega⟩⟩)
theorem tlbSets_holds_ns : ((lawSpec L2.f_messuagelaw2_TlbSets [.nil, .slc [.i .i64]]).withPre fun _ => True).Holds Tryz.prog L2.ro := holds_withPre _ tlbSets_holds_ns0

noncomputable def TlbSets_nn_t : Tree := .call 5 (Go.Sx.L2.yes Go.Sx.L2.f_messuagelaw2_begun).rel [] [] 0 0 (.call 6 (Go.Sx.L2.bNew).rel [] [] 0 1 (.loop [.c (0)] [0] (.exit (.call 8 (Go.Sx.L2.bLines).rel [] [1] 2 1 (.letL (.rep (.c 16) (.c 0)) (.loop [.c (0)] [3] (.letI (.cmp .lss (.v 3) (.c 8)) (.ite (.v 4) (.letI (.mul (.v 3) (.c 4)) (.letI (.get 2 (.v 5)) (.letI (.add (.v 5) (.c 1)) (.letI (.get 2 (.v 7)) (.letI (.add (.v 5) (.c 2)) (.letI (.get 2 (.v 9)) (.letI (.add (.v 5) (.c 3)) (.letI (.get 2 (.v 11)) (.letI (.cmp .lss (.v 6) (.c 0)) (.ite (.v 13) (.letI (.cmp .eql (.v 6) (.c (-1))) (.letI (.cmp .eql (.v 8) (.c 0)) (.letI (.cmp .eql (.v 10) (.c 0)) (.letI (.cmp .eql (.v 12) (.c 0)) (.letI (.pick (.v 17) (.c 1) (.c 0)) (.letI (.pick (.v 16) (.v 18) (.c 0)) (.letI (.pick (.v 15) (.v 19) (.c 0)) (.letI (.pick (.v 14) (.v 20) (.c 0)) (.letI (.not (.v 21)) (.ite (.v 22) (.exit (.fail 180)) (.letI (.add (.v 3) (.c 1)) (.again [.v 23] [4])))))))))))) (.letI (.rem (.v 8) (.c 4)) (.need .geq (.v 14) (.c 0) (.letI (.get 4 (.v 14)) (.letI (.add (.v 15) (.c 1)) (.letI (.wr .i64 (.v 16)) (.letL (.set 4 (.v 14) (.v 17)) (.letI (.quo .i64 (.v 3) (.c 2)) (.letI (.cmp .neq (.v 14) (.v 18)) (.ite (.v 19) (.exit (.fail 180)) (.letI (.add (.v 3) (.c 1)) (.again [.v 20] [5]))))))))))))))))))))) (.exit (.loop [.c (0)] [] (.letI (.cmp .lss (.v 5) (.c 4)) (.ite (.v 6) (.letL (.rep (.c 33) (.c 0)) (.loop [.c (0)] [5] (.exit (.letI (.get 4 (.v 5)) (.letI (.get 6 (.c 32)) (.letI (.mn (.v 9) (.c 2)) (.letI (.cmp .neq (.v 8) (.v 10)) (.ite (.v 11) (.exit (.fail 180)) (.letI (.add (.v 5) (.c 1)) (.again [.v 12] [])))))))))) (.exit (.done [] []))))))))))))))
theorem TlbSets_nn_tree : (lawSpec L2.f_messuagelaw2_TlbSets [.nil, .nil]).exe Tryz.prog (withS (L2.cfgB Tryz.prog) [L2.bNew, L2.bFill, L2.bLines]) [{ f := L2.f_messuagelaw2_TlbSets, reg := 6, ints := [(7, 0, 12)], lists := [(6, [], some (-9223372036854775808, 9223372036854775807))] }, { f := L2.f_messuagelaw2_TlbSets, reg := 11, ints := [(56, 0, 8)], lists := [(8, [], some (-9223372036854775808, 9223372036854775807))], maps := [(8, .i64, .i .i64)] }, { f := L2.f_messuagelaw2_TlbSets, reg := 21, ints := [(11, 0, 4)] }, { f := L2.f_messuagelaw2_TlbSets, reg := 25, ints := [(13, 0, 12)], lists := [(12, [], none)], pmaps := [(12, .i64, 4, 8)] }] 20 200 = TlbSets_nn_t := by kernel_rfl
theorem TlbSets_nn_vc (Q : List Int → List (List Int) → Prop) : TlbSets_nn_t.dn ⟨Q, []⟩ 0 [] 0 [] = ((Go.Sx.L2.yes Go.Sx.L2.f_messuagelaw2_begun).rel.pre [] [] ∧
((Go.Sx.L2.yes Go.Sx.L2.f_messuagelaw2_begun).rel.post [] [] [] [] → (Go.Sx.L2.bNew).rel.pre [] [] ∧
(∀ L0 : List Int, (Go.Sx.L2.bNew).rel.post [] [] [] [L0] → ∃ (I0 : List Int → List (List Int) → Prop) (μ0 : List Int → List (List Int) → Nat), I0 [(0 : Int)] [L0] ∧
(∀ v0 : Int, ∀ L1 : List Int, I0 [v0] [L1] →
 (Go.Sx.L2.bLines).rel.pre [] [L1] ∧
(∀ v1 : Int, ∀ v2 : Int, ∀ L2 : List Int, (Go.Sx.L2.bLines).rel.post [] [L1] [v1, v2] [L2] → ∀ L3 : List Int, L3 = List.replicate ((16 : Int)).toNat (0 : Int) → ∃ (I1 : List Int → List (List Int) → Prop) (μ1 : List Int → List (List Int) → Nat), I1 [(0 : Int)] [L3] ∧
(∀ v3 : Int, ∀ L4 : List Int, I1 [v3] [L4] →
 ((v3 < (8 : Int)) → ∀ v5 : Int, v5 = v3 * (4 : Int) → ∀ v6 : Int, v6 = (L2).getD (v5).toNat 0 → ∀ v7 : Int, v7 = v5 + (1 : Int) → ∀ v8 : Int, v8 = (L2).getD (v7).toNat 0 → ∀ v9 : Int, v9 = v5 + (2 : Int) → ∀ v10 : Int, v10 = (L2).getD (v9).toNat 0 → ∀ v11 : Int, v11 = v5 + (3 : Int) → ∀ v12 : Int, v12 = (L2).getD (v11).toNat 0 → ((v6 < (0 : Int)) → ∀ v14 : Int, v14 = b2i (v6 == ((-1) : Int)) → ∀ v15 : Int, v15 = b2i (v8 == (0 : Int)) → ∀ v16 : Int, v16 = b2i (v10 == (0 : Int)) → ∀ v17 : Int, v17 = b2i (v12 == (0 : Int)) → ∀ v18 : Int, v18 = (if v17 = 0 then (0 : Int) else (1 : Int)) → ∀ v19 : Int, v19 = (if v16 = 0 then (0 : Int) else v18) → ∀ v20 : Int, v20 = (if v15 = 0 then (0 : Int) else v19) → ∀ v21 : Int, v21 = (if v14 = 0 then (0 : Int) else v20) → ∀ v22 : Int, v22 = b2i (v21 == 0) → (v22 ≠ 0 → False) ∧
(v22 = 0 → ∀ v23 : Int, v23 = v3 + (1 : Int) → (I1 [v23] [L4] ∧ μ1 [v23] [L4] < μ1 [v3] [L4]))) ∧
(((0 : Int) ≤ v6) → ∀ v14 : Int, v14 = (v8).tmod (4 : Int) → ((0 : Int) ≤ v14) ∧ ∀ v15 : Int, v15 = (L4).getD (v14).toNat 0 → ∀ v16 : Int, v16 = v15 + (1 : Int) → ∀ v17 : Int, v17 = IntKind.wrap .i64 v16 → ∀ L5 : List Int, L5 = (L4).set (v14).toNat v17 → ∀ v18 : Int, v18 = IntKind.wrap .i64 ((v3).tdiv (2 : Int)) → ((v14 ≠ v18) → False) ∧
((v14 = v18) → ∀ v20 : Int, v20 = v3 + (1 : Int) → (I1 [v20] [L5] ∧ μ1 [v20] [L5] < μ1 [v3] [L4])))) ∧
(((8 : Int) ≤ v3) → ∃ (I2 : List Int → List (List Int) → Prop) (μ2 : List Int → List (List Int) → Nat), I2 [(0 : Int)] [] ∧
(∀ v5 : Int, I2 [v5] [] →
 ((v5 < (4 : Int)) → ∀ L5 : List Int, L5 = List.replicate ((33 : Int)).toNat (0 : Int) → ∃ (I3 : List Int → List (List Int) → Prop) (μ3 : List Int → List (List Int) → Nat), I3 [(0 : Int)] [L5] ∧
(∀ v7 : Int, ∀ L6 : List Int, I3 [v7] [L6] →
 ∀ v8 : Int, v8 = (L4).getD (v5).toNat 0 → ∀ v9 : Int, v9 = (L6).getD ((32 : Int)).toNat 0 → ∀ v10 : Int, v10 = (if (2 : Int) < v9 then (2 : Int) else v9) → ((v8 ≠ v10) → False) ∧
((v8 = v10) → ∀ v12 : Int, v12 = v5 + (1 : Int) → (I2 [v12] [] ∧ μ2 [v12] [] < μ2 [v5] [])))) ∧
(((4 : Int) ≤ v5) → Q [] []))))))))) := by kernel_rfl
set_option maxHeartbeats 4000000 in
theorem tlbSets_holds_nn0 : (lawSpec L2.f_messuagelaw2_TlbSets [.nil, .nil]).Holds Tryz.prog L2.ro := FSpec.holdsV (cfg := withS (L2.cfgB Tryz.prog) [L2.bNew, L2.bFill, L2.bLines]) [{ f := L2.f_messuagelaw2_TlbSets, reg := 6, ints := [(7, 0, 12)], lists := [(6, [], some (-9223372036854775808, 9223372036854775807))] }, { f := L2.f_messuagelaw2_TlbSets, reg := 11, ints := [(56, 0, 8)], lists := [(8, [], some (-9223372036854775808, 9223372036854775807))], maps := [(8, .i64, .i .i64)] }, { f := L2.f_messuagelaw2_TlbSets, reg := 21, ints := [(11, 0, 4)] }, { f := L2.f_messuagelaw2_TlbSets, reg := 25, ints := [(13, 0, 12)], lists := [(12, [], none)], pmaps := [(12, .i64, 4, 8)] }] 20 200 (withS_ok cfgB_ok ⟨bNew_holds, bFill_holds, bLines_holds, trivial⟩) mixed (t := TlbSets_nn_t) TlbSets_nn_tree (by
  show _ → _
  intro   hp hr hl
  replace hr : True := hr
  replace hp : True := hp
  show TlbSets_nn_t.dn ⟨_, []⟩ 0 [] 0 []
  rw [TlbSets_nn_vc]
  show ((L2.yes L2.f_messuagelaw2_begun).rel.pre [] [] ∧ _)
  refine ⟨trivial, fun _ => ?_⟩
  refine ⟨trivial, fun LS hLS => ?_⟩
  have hLS : LS = clearB (List.replicate 41 0) := (List.cons.inj hLS.2).1
  refine ⟨fun xs ys => match xs, ys with | [i], [L] => ∃ n : Nat, i = n ∧ n = 0 ∧ TsOk L [] [] n | _, _ => False, fun xs _ => match xs with | i :: _ => (12 - i).toNat | _ => 0, ?_, ?_⟩ <;> dsimp only
  · exact ⟨0, rfl, rfl, by rw [hLS]; exact TsOk.start [] []⟩
  · intro i L hI
    obtain ⟨n, rfl, n12, hT⟩ := hI
    refine ⟨trivial, fun a b L4 q N0 hN0 => ?_⟩
    have hL4 : L4 = linesB L := (List.cons.inj q).1
    clear q
    refine ⟨fun xs ys => match xs, ys with | [k], [N] => ∃ m : Nat, k = m ∧ m ≤ 8 ∧ CntOk L N m | _, _ => False, fun xs _ => match xs with | k :: _ => (8 - k).toNat | _ => 0, ?_, ?_⟩ <;> dsimp only
    · exact ⟨0, rfl, by omega, by rw [hN0]; exact CntOk.start L⟩
    · intro k N hI
      obtain ⟨m, rfl, m8, hC⟩ := hI
      refine ⟨fun d1 => ?_, fun d1 => ?_⟩
      ·
        intro z0 ez0 w0 ew0 z1 ez1 w1 ew1 z2 ez2 w2 ew2 z3 ez3 w3 ew3
        have m8' : m < 8 := by omega
        have hw0 : w0 = L.getD (m * 5) 0 := by rw [ew0, ez0, hL4]; exact lineB_at0 m8'
        have hw1 : w1 = L.getD (m * 5 + 1) 0 := by rw [ew1, ez1, ez0, hL4]; exact lineB_at (j := 1) m8' (by omega)
        have hw2 : w2 = L.getD (m * 5 + 2) 0 := by rw [ew2, ez2, ez0, hL4]; exact lineB_at (j := 2) m8' (by omega)
        have hw3 : w3 = L.getD (m * 5 + 3) 0 := by rw [ew3, ez3, ez0, hL4]; exact lineB_at (j := 3) m8' (by omega)
        have ln := hT.line m8'
        have sk := fun h => hC.skip m8' h
        have ht' := fun h => hC.hit m8' h
        rw [← hw0, ← hw1, ← hw2, ← hw3] at ln
        rw [← hw0] at sk ht'
        clear ew0 ez0 ew1 ez1 ew2 ez2 ew3 ez3
        refine ⟨fun g => ?_, fun g => ?_⟩
        · obtain ⟨l0, l1, l2, l3⟩ := ln.resolve_right (fun c => by omega)
          intro a ea b eb c ec d ed e ee f ef g1 eg h1 eh o eo
          have ho : o = 0 := by rw [eo, eh, eg, ef, ee, ea, eb, ec, ed, l0, l1, l2, l3]; decide
          exact ⟨fun c => absurd ho c, fun _ j ej => ⟨⟨m + 1, by omega, by omega, sk g⟩, by omega⟩⟩
        · obtain ⟨l0, l1, l2, l3⟩ := ln.resolve_left (fun c => by omega)
          intro s es
          have hs : s = ((m / 2 : Nat) : Int) := by rw [es, Int.tmod_eq_emod_of_nonneg l1]; exact l3
          refine ⟨by omega, fun u eu v ev w ew N' eN t et => ?_⟩
          have hs' : s.toNat = m / 2 := by omega
          have hu := hC.le (s := m / 2) (by omega)
          have hu' : u = N.getD (m / 2) 0 := by rw [eu, hs']
          have hw' : w = u + 1 := by rw [ew, wrapI, ev]; omega
          have ht : t = s := by rw [et, hs, wrapI, Int.tdiv_eq_ediv_of_nonneg (by omega)]; omega
          refine ⟨fun c => absurd ht.symm c, fun _ j ej => ⟨⟨m + 1, by omega, by omega, ?_⟩, by omega⟩⟩
          rw [eN, hw', hs', hu']; exact ht' g
      · have m8' : m = 8 := by omega
        subst m8'
        refine ⟨fun xs _ => match xs with | [s] => ∃ t : Nat, s = t ∧ t ≤ 4 | _ => False, fun xs _ => match xs with | s :: _ => (4 - s).toNat | _ => 0, ?_, ?_⟩ <;> dsimp only
        · exact ⟨0, rfl, by omega⟩
        · intro s hI
          obtain ⟨t, rfl, t4⟩ := hI
          refine ⟨fun d2 => ?_, fun d2 => trivial⟩
          intro W0 hW0
          refine ⟨fun xs ys => match xs, ys with | [j], [W] => ∃ n' : Nat, j = n' ∧ n' = 0 ∧ W = setW [] [] t n' | _, _ => False, fun xs _ => match xs with | j :: _ => (12 - j).toNat | _ => 0, ?_, ?_⟩ <;> dsimp only
          · exact ⟨0, rfl, rfl, hW0⟩
          · intro j W hI
            obtain ⟨n', rfl, a12, hW⟩ := hI
            have cnt := hT.counts hC (s := t) (by omega)
            have fin : n' = n → ∀ a b c : Int, a = N.getD ((t : Int)).toNat 0 → b = W.getD ((32 : Int)).toNat 0 → c = (if (2 : Int) < b then (2 : Int) else b) → a = c := by
              intro e a b c ea eb ec
              have eb' : b = (setW [] [] t n).getD 32 0 := by rw [eb, hW, e]; rfl
              rw [← eb'] at cnt
              rw [ea, ec, Int.toNat_natCast, cnt]
              split <;> split <;> omega
            exact fun a ea b eb c ec => ⟨fun k => k (fin (by omega) a b c ea eb ec), fun _ j' ej => ⟨⟨t + 1, by omega, by omega⟩, by omega⟩⟩)
theorem tlbSets_holds_nn : ((lawSpec L2.f_messuagelaw2_TlbSets [.nil, .nil]).withPre fun _ => True).Holds Tryz.prog L2.ro := holds_withPre _ tlbSets_holds_nn0

theorem tlbSets_calls {H : Type} {enc : TypeId × Value → H} {W : World} {base : Nat} {args : Array Value} {ds : List (DataW H)} {p : List MemPlace} (hval : ∀ (j : Nat) t v, Tryz.f3.params[j]? = some t → args[j]? = some v → Value.okWide Tryz.prog W .any base t v)
    (hA : DataW.TrodAll enc Tryz.prog W 0 (fun _ => true) true Tryz.f3.params.toList args.toList ds p) (hL : laidMetH Tryz.prog laid1 W) : Calls Tryz.prog 3 args W fun e W' => e = .returned (.bool true) ∧ Go.Sx.Frame ⟨W, [], L2.ro⟩ W' := by
  rw [Tryz.params3] at hA hval
  obtain ⟨v0, v1, d0, d1, p0, p1, rfl, rfl, rfl, h0, h1⟩ := trodAll_two hA
  rcases par_flats (base := 0) (f := 9) und22 flat3 cells3 (by decide) (hval 0 22 v0 rfl rfl) h0 with q0 | ⟨e0, q0⟩ <;> rcases par_flats (base := 0) (f := 9) und22 flat3 cells3 (by decide) (hval 1 22 v1 rfl rfl) h1 with q1 | ⟨e1, q1⟩
  · exact law_calls (tlbSets_holds_nn) Tryz.func3 (show Tryz.f3.body = some _ from rfl) (by kernel_rfl) (.cons q0 (.cons q1 .none)) trivial (ro_of_laid hL)
  · exact law_calls (tlbSets_holds_ns) Tryz.func3 (show Tryz.f3.body = some _ from rfl) (by kernel_rfl) (.cons q0 (.cons q1 .none)) trivial (ro_of_laid hL)
  · exact law_calls (tlbSets_holds_sn) Tryz.func3 (show Tryz.f3.body = some _ from rfl) (by kernel_rfl) (.cons q0 (.cons q1 .none)) trivial (ro_of_laid hL)
  · exact law_calls (tlbSets_holds) Tryz.func3 (show Tryz.f3.body = some _ from rfl) (by kernel_rfl) (.cons q0 (.cons q1 .none)) trivial (ro_of_laid hL)
set_option maxHeartbeats 1000000 in
theorem tlbSets_lifted (os : Os) (started : os.Started) (H : Type) (enc : TypeId × Value → H) :
    ReturnsInHanded {} Tryz.checked os 3 .any (fun w args => (Rows.tlbSetsSpec.pre enc Tryz.prog Tryz.f3 [] false w args ∧ laidMetH Tryz.prog laid1 w) ∧ sizedMet enc Tryz.prog Tryz.f3 (OpenSpec.ofChange Rows.tlbSetsSpec) false w args)
      (Rows.tlbSetsSpec.post enc Tryz.prog Tryz.f3 false true false false) := by
  refine returnsInHanded_of_change_and (C := Tryz.checked) (X := fun w _ => laidMetH Tryz.prog laid1 w) (fun _ _ _ hh h => h.of_heap hh) Tryz.own started (by kernel_rfl) Tryz.func3
    (ChangeSpec.witness_at (enc := enc) (C := Tryz.checked) (os := os) (X := fun w _ => laidMetH Tryz.prog laid1 w) false (laidWorld os) #[.slice none 0 0, .slice none 0 0] 8 rfl (by kernel_rfl) (by kernel_rfl) (by kernel_rfl) (by kernel_rfl) (by kernel_rfl) (laidWorld_met os _)) ?_
  intro W base args ds gs before hval0 hW _ _ hL _
  have hval : ∀ (j : Nat) t v, Tryz.f3.params[j]? = some t → args[j]? = some v → Value.okWide Tryz.prog W .any base t v := hval0
  have hW' := hW
  obtain ⟨p, q, hA0, hV0, rfl, hfz, hnd⟩ := hW
  have hcall := tlbSets_calls (enc := enc) hval hA0 hL
  refine Calls.mono hcall ?_
  rintro e W' ⟨rfl, hfr⟩
  exact ⟨_, rfl, post_kept Tryz.laidOut (by kernel_rfl) rfl rfl und4 hW' hfr (by
    have hg : gs = [] := by cases gs with | nil => rfl | cons g r => exact absurd hV0 (by intro h; cases h)
    subst hg
    have hA1 : DataW.TrodAll enc Tryz.prog W 0 (fun _ => true) true Tryz.f3.params.toList args.toList ds p := hA0
    rw [Tryz.params3] at hA1
    obtain ⟨v0, v1, d0, d1, p0, p1, ea, rfl, ec, h0, h1⟩ := trodAll_two hA1
    rfl)⟩

theorem tlbSets_row : Rows.TlbSetsSaid :=
  OpenClaim.holds_of_wide 3 Tryz.f3 rfl rfl rfl rfl rfl rfl rfl ⟨rfl, rfl, rfl, rfl, rfl⟩ rfl rfl rfl rfl rfl (by kernel_rfl) Tryz.func3 (restFacts.2 _ _ _ _ _ Tryz.mayEnter Tryz.liftsFinal Tryz.make (by kernel_rfl))
    (of_decide_eq_true (by kernel_rfl)) (by unfold Func.isWrapper; rw [if_neg (of_decide_eq_false (by kernel_rfl))]; exact ⟨rfl, rfl⟩)
    (fun os started H enc _ => tlbSets_lifted os started H enc)
theorem tlbSets_card : Rows.TlbSetsCardSaid :=
  Claim7.holds_tied_plain_at .later [] [.handle] true (true, "e052634f85e3eed01d9e3d4afab97c2ee72a124f300ee5a90da30f1c64bd110e") true
    tlbSets_row (fun _ h => by cases h) (by kernel_rfl) (fun _ h => by cases h) tlbSets_row_tie rfl ⟨rfl, rfl⟩ Tryz.mainIs rfl
    (fun f fn hf hfn => by
      obtain rfl : f = 3 := Option.some.inj ((show Tryz.prog.funcNamed "messuage/messuagelaw2.TlbSets" = some 3 by kernel_rfl).symm.trans hf) |>.symm
      obtain rfl : fn = Tryz.f3 := (Option.some.inj (Tryz.func3.symm.trans hfn)).symm
      exact ⟨by kernel_rfl, fun j t ht => by
        rw [Tryz.params3] at ht
        rcases j with _ | _ | j
        · obtain rfl : 22 = t := by simpa using ht
          exact (show Tryz.prog.wantsStandIn 22 = false by kernel_rfl)
        · obtain rfl : 22 = t := by simpa using ht
          exact (show Tryz.prog.wantsStandIn 22 = false by kernel_rfl)
        · simp at ht⟩)
    (by kernel_rfl)
#print axioms tlbSets_card
end Go.Proofs.YtpmgfdakljjlaabGreatDoor
