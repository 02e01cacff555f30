/- TlbFlush: the law at nil: tree, meaning, contract. -/
import Derived.Test.YthjfkblnbecjgaaGreatDoorL2Bx
import Derived.Test.YthjfkblnbecjgaaGreatDoorL2Rb
import Derived.Test.YthjfkblnbecjgaaGreatDoorPuW
set_option linter.unusedVariables false
set_option linter.unusedSimpArgs false
open Go Go.Sx
namespace Go.Proofs.YthjfkblnbecjgaaGreatDoor
open Go.ChangeShapes Go.WideShapes Go.RowKit
set_option maxRecDepth 100000

noncomputable def TlbFlush_n_t : Tree := .call 25 (Go.Sx.L2.yes Go.Sx.L2.f_messuagelaw2_begun).rel [] [] 0 0 (.call 60 (Go.Sx.L2.bNew).rel [] [] 0 1 (.loop [.c (0)] [0] (.exit (.call 62 (Go.Sx.L2.bLines).rel [] [1] 2 1 (.call 83 (Go.Sx.L2.bFlush).rel [.v 0, .v 1] [1] 1 1 (.call 84 (Go.Sx.L2.bFlushFrame).rel [.v 2] [3] 1 1 (.loop [.c (0), .c (0), .c (0)] [] (.letI (.cmp .lss (.v 8) (.c 8)) (.ite (.v 11) (.letI (.mul (.v 8) (.c 4)) (.letI (.get 2 (.v 12)) (.letI (.add (.v 12) (.c 1)) (.letI (.get 2 (.v 14)) (.letI (.add (.v 12) (.c 2)) (.letI (.get 2 (.v 16)) (.letI (.add (.v 12) (.c 3)) (.letI (.get 2 (.v 18)) (.call 85 (Go.Sx.L2.bFind).rel [.v 13, .v 15] [4] 5 0 (.letI (.cmp .eql (.v 0) (.v 13)) (.ite (.v 25) (.letI (.cmp .eql (.v 1) (.v 15)) (.ite (.v 10) (.letI (.cmp .leq (.c 0) (.v 13)) (.ite (.v 27) (.letI (.not (.v 26)) (.ite (.v 28) (.letI (.cmp .eql (.v 2) (.v 17)) (.ite (.v 29) (.letI (.add (.v 9) (.c 1)) (.letI (.not (.v 24)) (.letI (.cmp .neq (.v 31) (.c 1)) (.ite (.v 32) (.exit (.fail 180)) (.ite (.v 24) (.letI (.cmp .eql (.v 13) (.v 20)) (.letI (.cmp .eql (.v 15) (.v 21)) (.letI (.cmp .eql (.v 17) (.v 22)) (.letI (.cmp .eql (.v 19) (.v 23)) (.letI (.pick (.v 36) (.c 1) (.c 0)) (.letI (.pick (.v 35) (.v 37) (.c 0)) (.letI (.pick (.v 34) (.v 38) (.c 0)) (.letI (.pick (.v 33) (.v 39) (.c 0)) (.letI (.not (.v 40)) (.ite (.v 41) (.exit (.fail 180)) (.letI (.add (.v 8) (.c 1)) (.need .leq (.v 30) (.c 8) (.again [.v 42, .v 30, .c (1)] []))))))))))))) (.letI (.add (.v 8) (.c 1)) (.need .leq (.v 30) (.c 8) (.again [.v 33, .v 30, .c (1)] [])))))))) (.letI (.not (.v 24)) (.letI (.cmp .neq (.v 30) (.c 0)) (.ite (.v 31) (.exit (.fail 180)) (.ite (.v 24) (.letI (.cmp .eql (.v 13) (.v 20)) (.letI (.cmp .eql (.v 15) (.v 21)) (.letI (.cmp .eql (.v 17) (.v 22)) (.letI (.cmp .eql (.v 19) (.v 23)) (.letI (.pick (.v 35) (.c 1) (.c 0)) (.letI (.pick (.v 34) (.v 36) (.c 0)) (.letI (.pick (.v 33) (.v 37) (.c 0)) (.letI (.pick (.v 32) (.v 38) (.c 0)) (.letI (.not (.v 39)) (.ite (.v 40) (.exit (.fail 180)) (.letI (.add (.v 8) (.c 1)) (.again [.v 41, .v 9, .c (1)] [])))))))))))) (.letI (.add (.v 8) (.c 1)) (.again [.v 32, .v 9, .c (1)] [])))))))) (.letI (.not (.v 24)) (.letI (.cmp .neq (.v 29) (.c 1)) (.ite (.v 30) (.exit (.fail 180)) (.ite (.v 24) (.letI (.cmp .eql (.v 13) (.v 20)) (.letI (.cmp .eql (.v 15) (.v 21)) (.letI (.cmp .eql (.v 17) (.v 22)) (.letI (.cmp .eql (.v 19) (.v 23)) (.letI (.pick (.v 34) (.c 1) (.c 0)) (.letI (.pick (.v 33) (.v 35) (.c 0)) (.letI (.pick (.v 32) (.v 36) (.c 0)) (.letI (.pick (.v 31) (.v 37) (.c 0)) (.letI (.not (.v 38)) (.ite (.v 39) (.exit (.fail 180)) (.letI (.add (.v 8) (.c 1)) (.again [.v 40, .v 9, .c (1)] [])))))))))))) (.letI (.add (.v 8) (.c 1)) (.again [.v 31, .v 9, .c (1)] [])))))))) (.ite (.v 24) (.letI (.add (.v 8) (.c 1)) (.again [.v 28, .v 9, .c (1)] [])) (.letI (.add (.v 8) (.c 1)) (.again [.v 28, .v 9, .c (1)] []))))) (.letI (.cmp .leq (.c 0) (.v 13)) (.ite (.v 27) (.letI (.not (.v 26)) (.ite (.v 28) (.letI (.cmp .eql (.v 2) (.v 17)) (.ite (.v 29) (.letI (.add (.v 9) (.c 1)) (.letI (.not (.v 24)) (.letI (.cmp .neq (.v 31) (.c 1)) (.ite (.v 32) (.exit (.fail 180)) (.ite (.v 24) (.letI (.cmp .eql (.v 13) (.v 20)) (.letI (.cmp .eql (.v 15) (.v 21)) (.letI (.cmp .eql (.v 17) (.v 22)) (.letI (.cmp .eql (.v 19) (.v 23)) (.letI (.pick (.v 36) (.c 1) (.c 0)) (.letI (.pick (.v 35) (.v 37) (.c 0)) (.letI (.pick (.v 34) (.v 38) (.c 0)) (.letI (.pick (.v 33) (.v 39) (.c 0)) (.letI (.not (.v 40)) (.ite (.v 41) (.exit (.fail 180)) (.letI (.add (.v 8) (.c 1)) (.need .leq (.v 30) (.c 8) (.again [.v 42, .v 30, .v 26] []))))))))))))) (.letI (.add (.v 8) (.c 1)) (.need .leq (.v 30) (.c 8) (.again [.v 33, .v 30, .v 26] [])))))))) (.letI (.not (.v 24)) (.letI (.cmp .neq (.v 30) (.c 0)) (.ite (.v 31) (.exit (.fail 180)) (.ite (.v 24) (.letI (.cmp .eql (.v 13) (.v 20)) (.letI (.cmp .eql (.v 15) (.v 21)) (.letI (.cmp .eql (.v 17) (.v 22)) (.letI (.cmp .eql (.v 19) (.v 23)) (.letI (.pick (.v 35) (.c 1) (.c 0)) (.letI (.pick (.v 34) (.v 36) (.c 0)) (.letI (.pick (.v 33) (.v 37) (.c 0)) (.letI (.pick (.v 32) (.v 38) (.c 0)) (.letI (.not (.v 39)) (.ite (.v 40) (.exit (.fail 180)) (.letI (.add (.v 8) (.c 1)) (.again [.v 41, .v 9, .v 26] [])))))))))))) (.letI (.add (.v 8) (.c 1)) (.again [.v 32, .v 9, .v 26] [])))))))) (.letI (.not (.v 24)) (.letI (.cmp .neq (.v 29) (.c 1)) (.ite (.v 30) (.exit (.fail 180)) (.ite (.v 24) (.letI (.cmp .eql (.v 13) (.v 20)) (.letI (.cmp .eql (.v 15) (.v 21)) (.letI (.cmp .eql (.v 17) (.v 22)) (.letI (.cmp .eql (.v 19) (.v 23)) (.letI (.pick (.v 34) (.c 1) (.c 0)) (.letI (.pick (.v 33) (.v 35) (.c 0)) (.letI (.pick (.v 32) (.v 36) (.c 0)) (.letI (.pick (.v 31) (.v 37) (.c 0)) (.letI (.not (.v 38)) (.ite (.v 39) (.exit (.fail 180)) (.letI (.add (.v 8) (.c 1)) (.again [.v 40, .v 9, .v 26] [])))))))))))) (.letI (.add (.v 8) (.c 1)) (.again [.v 31, .v 9, .v 26] [])))))))) (.ite (.v 24) (.letI (.add (.v 8) (.c 1)) (.again [.v 28, .v 9, .c (0)] [])) (.letI (.add (.v 8) (.c 1)) (.again [.v 28, .v 9, .c (0)] []))))))) (.ite (.v 10) (.letI (.cmp .leq (.c 0) (.v 13)) (.ite (.v 26) (.letI (.cmp .eql (.v 2) (.v 17)) (.ite (.v 27) (.letI (.add (.v 9) (.c 1)) (.letI (.not (.v 24)) (.letI (.cmp .neq (.v 29) (.c 1)) (.ite (.v 30) (.exit (.fail 180)) (.ite (.v 24) (.letI (.cmp .eql (.v 13) (.v 20)) (.letI (.cmp .eql (.v 15) (.v 21)) (.letI (.cmp .eql (.v 17) (.v 22)) (.letI (.cmp .eql (.v 19) (.v 23)) (.letI (.pick (.v 34) (.c 1) (.c 0)) (.letI (.pick (.v 33) (.v 35) (.c 0)) (.letI (.pick (.v 32) (.v 36) (.c 0)) (.letI (.pick (.v 31) (.v 37) (.c 0)) (.letI (.not (.v 38)) (.ite (.v 39) (.exit (.fail 180)) (.letI (.add (.v 8) (.c 1)) (.need .leq (.v 28) (.c 8) (.again [.v 40, .v 28, .c (1)] []))))))))))))) (.letI (.add (.v 8) (.c 1)) (.need .leq (.v 28) (.c 8) (.again [.v 31, .v 28, .c (1)] [])))))))) (.letI (.not (.v 24)) (.letI (.cmp .neq (.v 28) (.c 0)) (.ite (.v 29) (.exit (.fail 180)) (.ite (.v 24) (.letI (.cmp .eql (.v 13) (.v 20)) (.letI (.cmp .eql (.v 15) (.v 21)) (.letI (.cmp .eql (.v 17) (.v 22)) (.letI (.cmp .eql (.v 19) (.v 23)) (.letI (.pick (.v 33) (.c 1) (.c 0)) (.letI (.pick (.v 32) (.v 34) (.c 0)) (.letI (.pick (.v 31) (.v 35) (.c 0)) (.letI (.pick (.v 30) (.v 36) (.c 0)) (.letI (.not (.v 37)) (.ite (.v 38) (.exit (.fail 180)) (.letI (.add (.v 8) (.c 1)) (.again [.v 39, .v 9, .c (1)] [])))))))))))) (.letI (.add (.v 8) (.c 1)) (.again [.v 30, .v 9, .c (1)] [])))))))) (.ite (.v 24) (.letI (.add (.v 8) (.c 1)) (.again [.v 27, .v 9, .c (1)] [])) (.letI (.add (.v 8) (.c 1)) (.again [.v 27, .v 9, .c (1)] []))))) (.letI (.cmp .leq (.c 0) (.v 13)) (.ite (.v 26) (.letI (.cmp .eql (.v 2) (.v 17)) (.ite (.v 27) (.letI (.add (.v 9) (.c 1)) (.letI (.not (.v 24)) (.letI (.cmp .neq (.v 29) (.c 1)) (.ite (.v 30) (.exit (.fail 180)) (.ite (.v 24) (.letI (.cmp .eql (.v 13) (.v 20)) (.letI (.cmp .eql (.v 15) (.v 21)) (.letI (.cmp .eql (.v 17) (.v 22)) (.letI (.cmp .eql (.v 19) (.v 23)) (.letI (.pick (.v 34) (.c 1) (.c 0)) (.letI (.pick (.v 33) (.v 35) (.c 0)) (.letI (.pick (.v 32) (.v 36) (.c 0)) (.letI (.pick (.v 31) (.v 37) (.c 0)) (.letI (.not (.v 38)) (.ite (.v 39) (.exit (.fail 180)) (.letI (.add (.v 8) (.c 1)) (.need .leq (.v 28) (.c 8) (.again [.v 40, .v 28, .c (0)] []))))))))))))) (.letI (.add (.v 8) (.c 1)) (.need .leq (.v 28) (.c 8) (.again [.v 31, .v 28, .c (0)] [])))))))) (.letI (.not (.v 24)) (.letI (.cmp .neq (.v 28) (.c 0)) (.ite (.v 29) (.exit (.fail 180)) (.ite (.v 24) (.letI (.cmp .eql (.v 13) (.v 20)) (.letI (.cmp .eql (.v 15) (.v 21)) (.letI (.cmp .eql (.v 17) (.v 22)) (.letI (.cmp .eql (.v 19) (.v 23)) (.letI (.pick (.v 33) (.c 1) (.c 0)) (.letI (.pick (.v 32) (.v 34) (.c 0)) (.letI (.pick (.v 31) (.v 35) (.c 0)) (.letI (.pick (.v 30) (.v 36) (.c 0)) (.letI (.not (.v 37)) (.ite (.v 38) (.exit (.fail 180)) (.letI (.add (.v 8) (.c 1)) (.again [.v 39, .v 9, .c (0)] [])))))))))))) (.letI (.add (.v 8) (.c 1)) (.again [.v 30, .v 9, .c (0)] [])))))))) (.ite (.v 24) (.letI (.add (.v 8) (.c 1)) (.again [.v 27, .v 9, .c (0)] [])) (.letI (.add (.v 8) (.c 1)) (.again [.v 27, .v 9, .c (0)] []))))))))))))))))) (.exit (.letI (.not (.v 6)) (.letI (.not (.v 10)) (.letI (.cmp .eql (.v 12) (.v 13)) (.ite (.v 14) (.letI (.cmp .eql (.v 7) (.v 9)) (.need .neq (.v 15) (.c 0) (.done [] []))) (.fail 180)))))))))))))))
theorem TlbFlush_n_tree : (lawSpec 22 [.nil, .one (.i .i64), .one (.i .i64), .one (.i .i64)]).exe Tryz.prog (withS (L2.cfg2 Tryz.prog) [L2.bNew, L2.bClear, L2.bFind, L2.bFill, L2.bFlush, L2.bEvict, L2.bLines, L2.bFlushFrame, L2.rNew, L2.rFind0, L2.rFind, L2.rFill, L2.rFlush, L2.rEvict, L2.rFlushFrame]) [{ f := 22, reg := 6, ints := [(11, 0, 12)], lists := [(10, [], some (-9223372036854775808, 9223372036854775807))] }, { f := 22, reg := 15, ints := [(53, 0, 8), (15, 0, 8), (16, 0, 1)] }] 20 200 = TlbFlush_n_t := by kernel_rfl
theorem TlbFlush_n_vc (Q : List Int → List (List Int) → Prop) (v0 v1 v2 : Int) : TlbFlush_n_t.dn ⟨Q, []⟩ 3 [v2, v1, v0] 0 [] = ((Go.Sx.L2.yes Go.Sx.L2.f_messuagelaw2_begun).rel.pre [] [] ∧
((Go.Sx.L2.yes Go.Sx.L2.f_messuagelaw2_begun).rel.post [] [] [] [] → (Go.Sx.L2.bNew).rel.pre [] [] ∧
(∀ L0 : List Int, (Go.Sx.L2.bNew).rel.post [] [] [] [L0] → ∃ (I0 : List Int → List (List Int) → Prop) (μ0 : List Int → List (List Int) → Nat), I0 [(0 : Int)] [L0] ∧
(∀ v3 : Int, ∀ L1 : List Int, I0 [v3] [L1] →
 (Go.Sx.L2.bLines).rel.pre [] [L1] ∧
(∀ v4 : Int, ∀ v5 : Int, ∀ L2 : List Int, (Go.Sx.L2.bLines).rel.post [] [L1] [v4, v5] [L2] → (Go.Sx.L2.bFlush).rel.pre [v0, v1] [L1] ∧
(∀ v6 : Int, ∀ L3 : List Int, (Go.Sx.L2.bFlush).rel.post [v0, v1] [L1] [v6] [L3] → (Go.Sx.L2.bFlushFrame).rel.pre [v2] [L3] ∧
(∀ v7 : Int, ∀ L4 : List Int, (Go.Sx.L2.bFlushFrame).rel.post [v2] [L3] [v7] [L4] → ∃ (I1 : List Int → List (List Int) → Prop) (μ1 : List Int → List (List Int) → Nat), I1 [(0 : Int), (0 : Int), (0 : Int)] [] ∧
(∀ v8 : Int, ∀ v9 : Int, ∀ v10 : Int, I1 [v8, v9, v10] [] →
 ((v8 < (8 : Int)) → ∀ v12 : Int, v12 = v8 * (4 : Int) → ∀ v13 : Int, v13 = (L2).getD (v12).toNat 0 → ∀ v14 : Int, v14 = v12 + (1 : Int) → ∀ v15 : Int, v15 = (L2).getD (v14).toNat 0 → ∀ v16 : Int, v16 = v12 + (2 : Int) → ∀ v17 : Int, v17 = (L2).getD (v16).toNat 0 → ∀ v18 : Int, v18 = v12 + (3 : Int) → ∀ v19 : Int, v19 = (L2).getD (v18).toNat 0 → (Go.Sx.L2.bFind).rel.pre [v13, v15] [L4] ∧
(∀ v20 : Int, ∀ v21 : Int, ∀ v22 : Int, ∀ v23 : Int, ∀ v24 : Int, (Go.Sx.L2.bFind).rel.post [v13, v15] [L4] [v20, v21, v22, v23, v24] [] → ((v0 = v13) → ∀ v26 : Int, v26 = b2i (v1 == v15) → (v10 ≠ 0 → (((0 : Int) ≤ v13) → ∀ v28 : Int, v28 = b2i (v26 == 0) → (v28 ≠ 0 → ((v2 = v17) → ∀ v30 : Int, v30 = v9 + (1 : Int) → ∀ v31 : Int, v31 = b2i (v24 == 0) → ((v31 ≠ (1 : Int)) → False) ∧
((v31 = (1 : Int)) → (v24 ≠ 0 → ∀ v33 : Int, v33 = b2i (v13 == v20) → ∀ v34 : Int, v34 = b2i (v15 == v21) → ∀ v35 : Int, v35 = b2i (v17 == v22) → ∀ v36 : Int, v36 = b2i (v19 == v23) → ∀ v37 : Int, v37 = (if v36 = 0 then (0 : Int) else (1 : Int)) → ∀ v38 : Int, v38 = (if v35 = 0 then (0 : Int) else v37) → ∀ v39 : Int, v39 = (if v34 = 0 then (0 : Int) else v38) → ∀ v40 : Int, v40 = (if v33 = 0 then (0 : Int) else v39) → ∀ v41 : Int, v41 = b2i (v40 == 0) → (v41 ≠ 0 → False) ∧
(v41 = 0 → ∀ v42 : Int, v42 = v8 + (1 : Int) → (v30 ≤ (8 : Int)) ∧ (I1 [v42, v30, (1 : Int)] [] ∧ μ1 [v42, v30, (1 : Int)] [] < μ1 [v8, v9, v10] []))) ∧
(v24 = 0 → ∀ v33 : Int, v33 = v8 + (1 : Int) → (v30 ≤ (8 : Int)) ∧ (I1 [v33, v30, (1 : Int)] [] ∧ μ1 [v33, v30, (1 : Int)] [] < μ1 [v8, v9, v10] [])))) ∧
((v2 ≠ v17) → ∀ v30 : Int, v30 = b2i (v24 == 0) → ((v30 ≠ (0 : Int)) → False) ∧
((v30 = (0 : Int)) → (v24 ≠ 0 → ∀ v32 : Int, v32 = b2i (v13 == v20) → ∀ v33 : Int, v33 = b2i (v15 == v21) → ∀ v34 : Int, v34 = b2i (v17 == v22) → ∀ v35 : Int, v35 = b2i (v19 == v23) → ∀ v36 : Int, v36 = (if v35 = 0 then (0 : Int) else (1 : Int)) → ∀ v37 : Int, v37 = (if v34 = 0 then (0 : Int) else v36) → ∀ v38 : Int, v38 = (if v33 = 0 then (0 : Int) else v37) → ∀ v39 : Int, v39 = (if v32 = 0 then (0 : Int) else v38) → ∀ v40 : Int, v40 = b2i (v39 == 0) → (v40 ≠ 0 → False) ∧
(v40 = 0 → ∀ v41 : Int, v41 = v8 + (1 : Int) → (I1 [v41, v9, (1 : Int)] [] ∧ μ1 [v41, v9, (1 : Int)] [] < μ1 [v8, v9, v10] []))) ∧
(v24 = 0 → ∀ v32 : Int, v32 = v8 + (1 : Int) → (I1 [v32, v9, (1 : Int)] [] ∧ μ1 [v32, v9, (1 : Int)] [] < μ1 [v8, v9, v10] []))))) ∧
(v28 = 0 → ∀ v29 : Int, v29 = b2i (v24 == 0) → ((v29 ≠ (1 : Int)) → False) ∧
((v29 = (1 : Int)) → (v24 ≠ 0 → ∀ v31 : Int, v31 = b2i (v13 == v20) → ∀ v32 : Int, v32 = b2i (v15 == v21) → ∀ v33 : Int, v33 = b2i (v17 == v22) → ∀ v34 : Int, v34 = b2i (v19 == v23) → ∀ v35 : Int, v35 = (if v34 = 0 then (0 : Int) else (1 : Int)) → ∀ v36 : Int, v36 = (if v33 = 0 then (0 : Int) else v35) → ∀ v37 : Int, v37 = (if v32 = 0 then (0 : Int) else v36) → ∀ v38 : Int, v38 = (if v31 = 0 then (0 : Int) else v37) → ∀ v39 : Int, v39 = b2i (v38 == 0) → (v39 ≠ 0 → False) ∧
(v39 = 0 → ∀ v40 : Int, v40 = v8 + (1 : Int) → (I1 [v40, v9, (1 : Int)] [] ∧ μ1 [v40, v9, (1 : Int)] [] < μ1 [v8, v9, v10] []))) ∧
(v24 = 0 → ∀ v31 : Int, v31 = v8 + (1 : Int) → (I1 [v31, v9, (1 : Int)] [] ∧ μ1 [v31, v9, (1 : Int)] [] < μ1 [v8, v9, v10] []))))) ∧
((v13 < (0 : Int)) → (v24 ≠ 0 → ∀ v28 : Int, v28 = v8 + (1 : Int) → (I1 [v28, v9, (1 : Int)] [] ∧ μ1 [v28, v9, (1 : Int)] [] < μ1 [v8, v9, v10] [])) ∧
(v24 = 0 → ∀ v28 : Int, v28 = v8 + (1 : Int) → (I1 [v28, v9, (1 : Int)] [] ∧ μ1 [v28, v9, (1 : Int)] [] < μ1 [v8, v9, v10] [])))) ∧
(v10 = 0 → (((0 : Int) ≤ v13) → ∀ v28 : Int, v28 = b2i (v26 == 0) → (v28 ≠ 0 → ((v2 = v17) → ∀ v30 : Int, v30 = v9 + (1 : Int) → ∀ v31 : Int, v31 = b2i (v24 == 0) → ((v31 ≠ (1 : Int)) → False) ∧
((v31 = (1 : Int)) → (v24 ≠ 0 → ∀ v33 : Int, v33 = b2i (v13 == v20) → ∀ v34 : Int, v34 = b2i (v15 == v21) → ∀ v35 : Int, v35 = b2i (v17 == v22) → ∀ v36 : Int, v36 = b2i (v19 == v23) → ∀ v37 : Int, v37 = (if v36 = 0 then (0 : Int) else (1 : Int)) → ∀ v38 : Int, v38 = (if v35 = 0 then (0 : Int) else v37) → ∀ v39 : Int, v39 = (if v34 = 0 then (0 : Int) else v38) → ∀ v40 : Int, v40 = (if v33 = 0 then (0 : Int) else v39) → ∀ v41 : Int, v41 = b2i (v40 == 0) → (v41 ≠ 0 → False) ∧
(v41 = 0 → ∀ v42 : Int, v42 = v8 + (1 : Int) → (v30 ≤ (8 : Int)) ∧ (I1 [v42, v30, v26] [] ∧ μ1 [v42, v30, v26] [] < μ1 [v8, v9, v10] []))) ∧
(v24 = 0 → ∀ v33 : Int, v33 = v8 + (1 : Int) → (v30 ≤ (8 : Int)) ∧ (I1 [v33, v30, v26] [] ∧ μ1 [v33, v30, v26] [] < μ1 [v8, v9, v10] [])))) ∧
((v2 ≠ v17) → ∀ v30 : Int, v30 = b2i (v24 == 0) → ((v30 ≠ (0 : Int)) → False) ∧
((v30 = (0 : Int)) → (v24 ≠ 0 → ∀ v32 : Int, v32 = b2i (v13 == v20) → ∀ v33 : Int, v33 = b2i (v15 == v21) → ∀ v34 : Int, v34 = b2i (v17 == v22) → ∀ v35 : Int, v35 = b2i (v19 == v23) → ∀ v36 : Int, v36 = (if v35 = 0 then (0 : Int) else (1 : Int)) → ∀ v37 : Int, v37 = (if v34 = 0 then (0 : Int) else v36) → ∀ v38 : Int, v38 = (if v33 = 0 then (0 : Int) else v37) → ∀ v39 : Int, v39 = (if v32 = 0 then (0 : Int) else v38) → ∀ v40 : Int, v40 = b2i (v39 == 0) → (v40 ≠ 0 → False) ∧
(v40 = 0 → ∀ v41 : Int, v41 = v8 + (1 : Int) → (I1 [v41, v9, v26] [] ∧ μ1 [v41, v9, v26] [] < μ1 [v8, v9, v10] []))) ∧
(v24 = 0 → ∀ v32 : Int, v32 = v8 + (1 : Int) → (I1 [v32, v9, v26] [] ∧ μ1 [v32, v9, v26] [] < μ1 [v8, v9, v10] []))))) ∧
(v28 = 0 → ∀ v29 : Int, v29 = b2i (v24 == 0) → ((v29 ≠ (1 : Int)) → False) ∧
((v29 = (1 : Int)) → (v24 ≠ 0 → ∀ v31 : Int, v31 = b2i (v13 == v20) → ∀ v32 : Int, v32 = b2i (v15 == v21) → ∀ v33 : Int, v33 = b2i (v17 == v22) → ∀ v34 : Int, v34 = b2i (v19 == v23) → ∀ v35 : Int, v35 = (if v34 = 0 then (0 : Int) else (1 : Int)) → ∀ v36 : Int, v36 = (if v33 = 0 then (0 : Int) else v35) → ∀ v37 : Int, v37 = (if v32 = 0 then (0 : Int) else v36) → ∀ v38 : Int, v38 = (if v31 = 0 then (0 : Int) else v37) → ∀ v39 : Int, v39 = b2i (v38 == 0) → (v39 ≠ 0 → False) ∧
(v39 = 0 → ∀ v40 : Int, v40 = v8 + (1 : Int) → (I1 [v40, v9, v26] [] ∧ μ1 [v40, v9, v26] [] < μ1 [v8, v9, v10] []))) ∧
(v24 = 0 → ∀ v31 : Int, v31 = v8 + (1 : Int) → (I1 [v31, v9, v26] [] ∧ μ1 [v31, v9, v26] [] < μ1 [v8, v9, v10] []))))) ∧
((v13 < (0 : Int)) → (v24 ≠ 0 → ∀ v28 : Int, v28 = v8 + (1 : Int) → (I1 [v28, v9, (0 : Int)] [] ∧ μ1 [v28, v9, (0 : Int)] [] < μ1 [v8, v9, v10] [])) ∧
(v24 = 0 → ∀ v28 : Int, v28 = v8 + (1 : Int) → (I1 [v28, v9, (0 : Int)] [] ∧ μ1 [v28, v9, (0 : Int)] [] < μ1 [v8, v9, v10] []))))) ∧
((v0 ≠ v13) → (v10 ≠ 0 → (((0 : Int) ≤ v13) → ((v2 = v17) → ∀ v28 : Int, v28 = v9 + (1 : Int) → ∀ v29 : Int, v29 = b2i (v24 == 0) → ((v29 ≠ (1 : Int)) → False) ∧
((v29 = (1 : Int)) → (v24 ≠ 0 → ∀ v31 : Int, v31 = b2i (v13 == v20) → ∀ v32 : Int, v32 = b2i (v15 == v21) → ∀ v33 : Int, v33 = b2i (v17 == v22) → ∀ v34 : Int, v34 = b2i (v19 == v23) → ∀ v35 : Int, v35 = (if v34 = 0 then (0 : Int) else (1 : Int)) → ∀ v36 : Int, v36 = (if v33 = 0 then (0 : Int) else v35) → ∀ v37 : Int, v37 = (if v32 = 0 then (0 : Int) else v36) → ∀ v38 : Int, v38 = (if v31 = 0 then (0 : Int) else v37) → ∀ v39 : Int, v39 = b2i (v38 == 0) → (v39 ≠ 0 → False) ∧
(v39 = 0 → ∀ v40 : Int, v40 = v8 + (1 : Int) → (v28 ≤ (8 : Int)) ∧ (I1 [v40, v28, (1 : Int)] [] ∧ μ1 [v40, v28, (1 : Int)] [] < μ1 [v8, v9, v10] []))) ∧
(v24 = 0 → ∀ v31 : Int, v31 = v8 + (1 : Int) → (v28 ≤ (8 : Int)) ∧ (I1 [v31, v28, (1 : Int)] [] ∧ μ1 [v31, v28, (1 : Int)] [] < μ1 [v8, v9, v10] [])))) ∧
((v2 ≠ v17) → ∀ v28 : Int, v28 = b2i (v24 == 0) → ((v28 ≠ (0 : Int)) → False) ∧
((v28 = (0 : Int)) → (v24 ≠ 0 → ∀ v30 : Int, v30 = b2i (v13 == v20) → ∀ v31 : Int, v31 = b2i (v15 == v21) → ∀ v32 : Int, v32 = b2i (v17 == v22) → ∀ v33 : Int, v33 = b2i (v19 == v23) → ∀ v34 : Int, v34 = (if v33 = 0 then (0 : Int) else (1 : Int)) → ∀ v35 : Int, v35 = (if v32 = 0 then (0 : Int) else v34) → ∀ v36 : Int, v36 = (if v31 = 0 then (0 : Int) else v35) → ∀ v37 : Int, v37 = (if v30 = 0 then (0 : Int) else v36) → ∀ v38 : Int, v38 = b2i (v37 == 0) → (v38 ≠ 0 → False) ∧
(v38 = 0 → ∀ v39 : Int, v39 = v8 + (1 : Int) → (I1 [v39, v9, (1 : Int)] [] ∧ μ1 [v39, v9, (1 : Int)] [] < μ1 [v8, v9, v10] []))) ∧
(v24 = 0 → ∀ v30 : Int, v30 = v8 + (1 : Int) → (I1 [v30, v9, (1 : Int)] [] ∧ μ1 [v30, v9, (1 : Int)] [] < μ1 [v8, v9, v10] []))))) ∧
((v13 < (0 : Int)) → (v24 ≠ 0 → ∀ v27 : Int, v27 = v8 + (1 : Int) → (I1 [v27, v9, (1 : Int)] [] ∧ μ1 [v27, v9, (1 : Int)] [] < μ1 [v8, v9, v10] [])) ∧
(v24 = 0 → ∀ v27 : Int, v27 = v8 + (1 : Int) → (I1 [v27, v9, (1 : Int)] [] ∧ μ1 [v27, v9, (1 : Int)] [] < μ1 [v8, v9, v10] [])))) ∧
(v10 = 0 → (((0 : Int) ≤ v13) → ((v2 = v17) → ∀ v28 : Int, v28 = v9 + (1 : Int) → ∀ v29 : Int, v29 = b2i (v24 == 0) → ((v29 ≠ (1 : Int)) → False) ∧
((v29 = (1 : Int)) → (v24 ≠ 0 → ∀ v31 : Int, v31 = b2i (v13 == v20) → ∀ v32 : Int, v32 = b2i (v15 == v21) → ∀ v33 : Int, v33 = b2i (v17 == v22) → ∀ v34 : Int, v34 = b2i (v19 == v23) → ∀ v35 : Int, v35 = (if v34 = 0 then (0 : Int) else (1 : Int)) → ∀ v36 : Int, v36 = (if v33 = 0 then (0 : Int) else v35) → ∀ v37 : Int, v37 = (if v32 = 0 then (0 : Int) else v36) → ∀ v38 : Int, v38 = (if v31 = 0 then (0 : Int) else v37) → ∀ v39 : Int, v39 = b2i (v38 == 0) → (v39 ≠ 0 → False) ∧
(v39 = 0 → ∀ v40 : Int, v40 = v8 + (1 : Int) → (v28 ≤ (8 : Int)) ∧ (I1 [v40, v28, (0 : Int)] [] ∧ μ1 [v40, v28, (0 : Int)] [] < μ1 [v8, v9, v10] []))) ∧
(v24 = 0 → ∀ v31 : Int, v31 = v8 + (1 : Int) → (v28 ≤ (8 : Int)) ∧ (I1 [v31, v28, (0 : Int)] [] ∧ μ1 [v31, v28, (0 : Int)] [] < μ1 [v8, v9, v10] [])))) ∧
((v2 ≠ v17) → ∀ v28 : Int, v28 = b2i (v24 == 0) → ((v28 ≠ (0 : Int)) → False) ∧
((v28 = (0 : Int)) → (v24 ≠ 0 → ∀ v30 : Int, v30 = b2i (v13 == v20) → ∀ v31 : Int, v31 = b2i (v15 == v21) → ∀ v32 : Int, v32 = b2i (v17 == v22) → ∀ v33 : Int, v33 = b2i (v19 == v23) → ∀ v34 : Int, v34 = (if v33 = 0 then (0 : Int) else (1 : Int)) → ∀ v35 : Int, v35 = (if v32 = 0 then (0 : Int) else v34) → ∀ v36 : Int, v36 = (if v31 = 0 then (0 : Int) else v35) → ∀ v37 : Int, v37 = (if v30 = 0 then (0 : Int) else v36) → ∀ v38 : Int, v38 = b2i (v37 == 0) → (v38 ≠ 0 → False) ∧
(v38 = 0 → ∀ v39 : Int, v39 = v8 + (1 : Int) → (I1 [v39, v9, (0 : Int)] [] ∧ μ1 [v39, v9, (0 : Int)] [] < μ1 [v8, v9, v10] []))) ∧
(v24 = 0 → ∀ v30 : Int, v30 = v8 + (1 : Int) → (I1 [v30, v9, (0 : Int)] [] ∧ μ1 [v30, v9, (0 : Int)] [] < μ1 [v8, v9, v10] []))))) ∧
((v13 < (0 : Int)) → (v24 ≠ 0 → ∀ v27 : Int, v27 = v8 + (1 : Int) → (I1 [v27, v9, (0 : Int)] [] ∧ μ1 [v27, v9, (0 : Int)] [] < μ1 [v8, v9, v10] [])) ∧
(v24 = 0 → ∀ v27 : Int, v27 = v8 + (1 : Int) → (I1 [v27, v9, (0 : Int)] [] ∧ μ1 [v27, v9, (0 : Int)] [] < μ1 [v8, v9, v10] []))))))) ∧
(((8 : Int) ≤ v8) → ∀ v12 : Int, v12 = b2i (v6 == 0) → ∀ v13 : Int, v13 = b2i (v10 == 0) → ((v12 = v13) → ∀ v15 : Int, v15 = b2i (v7 == v9) → (v15 ≠ (0 : Int)) ∧ Q [] []) ∧
((v12 ≠ v13) → False)))))))))) := by kernel_rfl
set_option maxHeartbeats 4000000 in
theorem tlbFlush_holds_n0 : (lawSpec 22 [.nil, .one (.i .i64), .one (.i .i64), .one (.i .i64)]).Holds Tryz.prog L2.ro := FSpec.holdsV (cfg := withS (L2.cfg2 Tryz.prog) [L2.bNew, L2.bClear, L2.bFind, L2.bFill, L2.bFlush, L2.bEvict, L2.bLines, L2.bFlushFrame, L2.rNew, L2.rFind0, L2.rFind, L2.rFill, L2.rFlush, L2.rEvict, L2.rFlushFrame]) [{ f := 22, reg := 6, ints := [(11, 0, 12)], lists := [(10, [], some (-9223372036854775808, 9223372036854775807))] }, { f := 22, reg := 15, ints := [(53, 0, 8), (15, 0, 8), (16, 0, 1)] }] 20 200 (withS_ok cfg2_ok ⟨bNew_holds, bClear_holds, bFind_holds, bFill_holds, bFlush_holds, bEvict_holds, bLines_holds, bFlushFrame_holds, rNew_holds, rFind0_holds, rFind_holds, rFill_holds, rFlush_holds, rEvict_holds, rFlushFrame_holds, trivial⟩) mixed (t := TlbFlush_n_t) TlbFlush_n_tree (by
  show ∀ (v0 v1 v2 : Int) , _
  intro v0 v1 v2  hp hr hl
  replace hr : ((-9223372036854775808 : Int) ≤ v0 ∧ v0 ≤ (9223372036854775807 : Int)) ∧ ((-9223372036854775808 : Int) ≤ v1 ∧ v1 ≤ (9223372036854775807 : Int)) ∧ ((-9223372036854775808 : Int) ≤ v2 ∧ v2 ≤ (9223372036854775807 : Int)) ∧ True := hr
  replace hp : True := hp
  show TlbFlush_n_t.dn ⟨_, []⟩ 3 [v2, v1, v0] 0 []
  rw [TlbFlush_n_vc]
  show ((L2.yes L2.f_messuagelaw2_begun).rel.pre [] [] ∧ _)
  refine ⟨trivial, fun _ => ?_⟩
  refine ⟨trivial, fun T0 hT0 => ?_⟩
  have hT0 : T0 = clearB (List.replicate 41 0) := by
    have : [T0] = [clearB (List.replicate 41 (0 : Int))] := hT0.2
    simpa using this
  refine ⟨fun xs ys => match xs, ys with | [i], [L] => 0 ≤ i ∧ WB L | _, _ => False, fun xs _ => match xs with | i :: _ => (12 - i).toNat | _ => 0, ?_, ?_⟩ <;> dsimp only
  · rw [hT0]; exact ⟨by omega, WB.start⟩
  · intro i L hI
    obtain ⟨i0, hW⟩ := hI
    refine ⟨trivial, fun lc lr Lw hw => ?_⟩
    have hw : Lw = linesB L := by
      have : [Lw] = [linesB L] := hw
      simpa using this
    refine ⟨trivial, fun okf La hf => ?_⟩
    have hf : [okf] = [b2i (decide (atB L v0 v1 ≠ -1))] ∧ [La] = [flushB L v0 v1] := hf
    have hok : okf = b2i (decide (atB L v0 v1 ≠ -1)) := by simpa using hf.1
    have hLa : La = flushB L v0 v1 := by simpa using hf.2
    refine ⟨trivial, fun nf Lb hn => ?_⟩
    have hn : [nf] = [(ffB La v2 8).2] ∧ [Lb] = [(ffB La v2 8).1] := hn
    have hnf : nf = (ffB La v2 8).2 := by simpa using hn.1
    have hLb : Lb = (ffB La v2 8).1 := by simpa using hn.2
    have hWa : WB La := by rw [hLa]; exact hW.flush _ _
    have hff := hWa.ff v2 8 (Nat.le_refl 8)
    rw [← hnf, ← hLb] at hff
    -- what the first flush leaves of a place
    have hcell : ∀ i c : Int, 0 ≤ i → i < 8 → 0 ≤ c → c < 4 → 0 ≤ gI L (5 * i) → gI La (5 * i + c) = if gI L (5 * i) = v0 ∧ gI L (5 * i + 1) = v1 then (if c = 0 then -1 else 0) else gI L (5 * i + c) := by
      intro i c i0 i8 c0 c4 hv
      rw [hLa]
      unfold flushB
      by_cases ha : atB L v0 v1 = -1
      · rw [if_pos ha, if_neg]
        rintro ⟨c1, c2⟩
        have := hW.at_of i0 i8 (by omega) c1 c2
        omega
      · rw [if_neg ha]
        obtain ⟨j, j0, j8, hj, _, g1, g2, _⟩ := hW.at_some ha
        rw [hj, gI_emptyB hW.len (by omega) (by omega) (by omega)]
        by_cases hij : i = j
        · subst hij
          rw [if_pos (c := gI L (5 * i) = v0 ∧ _) ⟨g1, g2⟩]
          by_cases h0 : c = 0
          · rw [if_pos (by omega), if_pos h0]
          · rw [if_neg (by omega), if_pos (by omega), if_neg h0]
        · rw [if_neg (by omega), if_neg (by omega), if_neg]
          rintro ⟨c1, c2⟩
          exact hij (hW.uniq i j i0 i8 j0 j8 hv (by omega) (by omega))
    have hinv : ∀ i : Int, 0 ≤ i → i < 8 → gI L (5 * i) < 0 → gI La (5 * i) < 0 := by
      intro i i0 i8 hv
      rw [hLa]
      unfold flushB
      split
      · exact hv
      · rename_i ha
        obtain ⟨j, j0, j8, hj, e0, g1, g2, _⟩ := hW.at_some ha
        rw [hj, gI_emptyB hW.len (by omega) (by omega) (by omega)]
        rw [if_neg (by intro c; have : i = j := by omega
                       subst this; omega), if_neg (by omega)]
        exact hv
    refine ⟨fun xs _ => match xs with | [i, m, t] => 0 ≤ i ∧ i ≤ 8 ∧ 0 ≤ m ∧ m ≤ i ∧ m = cntB La v2 i.toNat ∧ (t = 0 ∨ t = 1) ∧ (t = 1 → atB L v0 v1 ≠ -1) ∧ (t = 0 → NoHit L v0 v1 i) | _ => False, fun xs _ => match xs with | i :: _ => (8 - i).toNat | _ => 0, ?_, ?_⟩ <;> dsimp only
    · exact ⟨by omega, by omega, by omega, by omega, rfl, .inl rfl, fun c => by omega, fun _ => ⟨fun j h1 h2 => by omega⟩⟩
    · intro i m t hI2
      obtain ⟨i0', i8', m0, m8, hm, ht, ht1, ht0⟩ := hI2
      obtain ⟨k, rfl⟩ : ∃ k : Nat, i = k := ⟨i.toNat, by omega⟩
      rw [Int.toNat_natCast] at hm
      have hk1 : ((k : Int) + 1).toNat = k + 1 := by omega
      refine ⟨fun c3 => ?_, fun c3 => ?_⟩
      · have hk : k < 8 := by omega
        intro x1 f1 E fE x2 f2 Pg fP x3 f3 F fF x4 f4 R fR
        have gE : E = gI L (5 * k) := by
          rw [fE, f1, hw, show ((k : Int) * 4).toNat = k * 4 + 0 by omega, linesB_at hk (by omega), Int.mul_comm]; simp
        have gP : Pg = gI L (5 * k + 1) := by
          rw [fP, f2, f1, hw, show ((k : Int) * 4 + 1).toNat = k * 4 + 1 by omega, linesB_at hk (by omega), Int.mul_comm]; simp
        have gF : F = gI L (5 * k + 2) := by
          rw [fF, f3, f1, hw, show ((k : Int) * 4 + 2).toNat = k * 4 + 2 by omega, linesB_at hk (by omega), Int.mul_comm]; simp
        have gR : R = gI L (5 * k + 3) := by
          rw [fR, f4, f1, hw, show ((k : Int) * 4 + 3).toNat = k * 4 + 3 by omega, linesB_at hk (by omega), Int.mul_comm]; simp
        clear fE fP fF fR f1 f2 f3 f4
        refine ⟨trivial, fun a0 a1 a2 a3 th ha => ?_⟩
        have ha : [a0, a1, a2, a3, th] = [findB Lb E Pg 0, findB Lb E Pg 1, findB Lb E Pg 2, findB Lb E Pg 3, b2i (decide (atB Lb E Pg ≠ -1))] := ha
        simp only [List.cons.injEq, and_true] at ha
        obtain ⟨h0, h1, h2, h3, hth⟩ := ha
        -- the place in what is left
        have hA : 0 ≤ E → (th = 1 ∧ ¬ (E = v0 ∧ Pg = v1) ∧ F ≠ v2 ∧ a0 = E ∧ a1 = Pg ∧ a2 = F ∧ a3 = R) ∨ (th = 0 ∧ ((E = v0 ∧ Pg = v1) ∨ F = v2)) := by
          intro hE
          have q0 := hcell k 0 (by omega) (by omega) (by omega) (by omega) (by omega)
          have q1 := hcell k 1 (by omega) (by omega) (by omega) (by omega) (by omega)
          have q2 := hcell k 2 (by omega) (by omega) (by omega) (by omega) (by omega)
          have q3 := hcell k 3 (by omega) (by omega) (by omega) (by omega) (by omega)
          have r0 := hff.cell k 0 (by omega) (by omega) (by omega) (by omega)
          have r1 := hff.cell k 1 (by omega) (by omega) (by omega) (by omega)
          have r2 := hff.cell k 2 (by omega) (by omega) (by omega) (by omega)
          have r3 := hff.cell k 3 (by omega) (by omega) (by omega) (by omega)
          rw [← gE, ← gP] at q0 q1 q2 q3
          rw [← gF] at q2
          rw [← gR] at q3
          rw [Int.add_zero] at q0 r0
          have hkk : (k : Int) < ((8 : Nat) : Int) := by omega
          -- whoever is found there is this one
          have only : atB Lb E Pg ≠ -1 → atB Lb E Pg = 5 * (k : Int) ∧ gI Lb (5 * k) = E := by
            intro hne
            obtain ⟨j, j0, j8, hj, _, g1, g2, _⟩ := hff.wb.at_some hne
            have s0 := hff.cell j 0 j0 j8 (by omega) (by omega)
            have s1 := hff.cell j 1 j0 j8 (by omega) (by omega)
            rw [Int.add_zero] at s0
            have hv : 0 ≤ gI L (5 * j) := by
              cases Decidable.em (0 ≤ gI L (5 * j)) with
              | inl h => exact h
              | inr h =>
                have := hinv j j0 j8 (by omega)
                rw [if_neg (by omega)] at s0
                omega
            have t0 := hcell j 0 j0 j8 (by omega) (by omega) hv
            have t1 := hcell j 1 j0 j8 (by omega) (by omega) hv
            rw [Int.add_zero] at t0
            have hnf : ¬ (j < ((8 : Nat) : Int) ∧ 0 ≤ gI La (5 * j) ∧ gI La (5 * j + 2) = v2) := by
              intro c; rw [if_pos c] at s0; simp at s0; omega
            rw [if_neg hnf] at s0 s1
            have hng : ¬ (gI L (5 * j) = v0 ∧ gI L (5 * j + 1) = v1) := by
              intro c; rw [if_pos c] at t0; simp at t0; omega
            rw [if_neg hng] at t0 t1
            have := hW.uniq j k j0 j8 (by omega) (by omega) hv (by omega) (by omega)
            subst this
            exact ⟨hj, g1⟩
          by_cases hg : E = v0 ∧ Pg = v1
          · right
            refine ⟨?_, .inl hg⟩
            rw [if_pos hg] at q0
            simp at q0
            rw [if_neg (by omega)] at r0
            have : atB Lb E Pg = -1 := by
              cases Decidable.em (atB Lb E Pg = -1) with
              | inl h => exact h
              | inr h => have := (only h).2; omega
            rw [hth, this]; rfl
          · rw [if_neg hg] at q0 q1 q2 q3
            rw [← gE] at q0
            by_cases hfr : F = v2
            · right
              refine ⟨?_, .inr hfr⟩
              rw [if_pos ⟨hkk, by omega, by omega⟩] at r0
              simp at r0
              have : atB Lb E Pg = -1 := by
                cases Decidable.em (atB Lb E Pg = -1) with
                | inl h => exact h
                | inr h => have := (only h).2; omega
              rw [hth, this]; rfl
            · left
              rw [if_neg (by omega)] at r0 r1 r2 r3
              have hat : atB Lb E Pg = 5 * (k : Int) := hff.wb.at_of (by omega) (by omega) hE (by omega) (by omega)
              refine ⟨?_, hg, hfr, ?_, ?_, ?_, ?_⟩
              · rw [hth, hat]; simp [b2i]; omega
              · rw [h0]; unfold findB; rw [hat, if_neg (by omega), Int.add_zero]; omega
              · rw [h1]; unfold findB; rw [hat, if_neg (by omega)]; omega
              · rw [h2]; unfold findB; rw [hat, if_neg (by omega)]; omega
              · rw [h3]; unfold findB; rw [hat, if_neg (by omega)]; omega
        have hth01 : th = 0 ∨ th = 1 := by rw [hth]; cases decide (atB Lb E Pg ≠ -1) <;> simp [b2i]
        have hB : cntB La v2 (k + 1) = cntB La v2 k + (if 0 ≤ E ∧ ¬ (E = v0 ∧ Pg = v1) ∧ F = v2 then 1 else 0) := by
          simp only [cntB]
          congr 1
          by_cases hE : 0 ≤ E
          · have q0 := hcell k 0 (by omega) (by omega) (by omega) (by omega) (by omega)
            have q2 := hcell k 2 (by omega) (by omega) (by omega) (by omega) (by omega)
            rw [Int.add_zero] at q0
            rw [← gE, ← gP] at q0 q2
            by_cases hg : E = v0 ∧ Pg = v1
            · rw [if_pos hg] at q0
              simp at q0
              rw [if_neg (by omega), if_neg (fun c => c.2.1 hg)]
            · rw [if_neg hg] at q0 q2
              rw [← gF] at q2
              by_cases hfr : F = v2
              · rw [if_pos ⟨by omega, by omega⟩, if_pos ⟨hE, hg, hfr⟩]
              · rw [if_neg (by omega), if_neg (fun c => hfr c.2.2)]
          · have := hinv k (by omega) (by omega) (by omega)
            rw [if_neg (by omega), if_neg (fun c => hE c.1)]
        have hC : 0 ≤ E → E = v0 → Pg = v1 → atB L v0 v1 ≠ -1 := by
          intro hE c1 c2
          have := hW.at_of (i := k) (by omega) (by omega) (by omega) (by omega) (by omega) (e := v0) (p := v1)
          omega
        have hD : NoHit L v0 v1 k → ¬ (0 ≤ E ∧ E = v0 ∧ Pg = v1) → NoHit L v0 v1 (k + 1) := by
          intro hno hc
          refine ⟨fun j j0 j1 c => ?_⟩
          by_cases hj : j = k
          · subst hj; exact hc ⟨by omega, by omega, by omega⟩
          · exact hno.no j j0 (by omega) c
        rw [← hm] at hB
        clear hcell hinv hff hn hf hw hWa h0 h1 h2 h3 hth hLa hLb hnf hok
        simp only [forall_eq, hk1, hB, b2i, beq_iff_eq]
        repeat' first | refine And.intro ?_ ?_ | intro _
        all_goals first | omega | grind
      · have hk : k = 8 := by omega
        subst hk
        have hhit : okf = t := by
          rw [hok]
          rcases ht with ht | ht
          · have hno := ht0 ht
            have : atB L v0 v1 = -1 := by
              cases Decidable.em (atB L v0 v1 = -1) with
              | inl h => exact h
              | inr h =>
                obtain ⟨j, j0, j8, hj, e0, g1, g2, _⟩ := hW.at_some h
                exact absurd ⟨by omega, g1, g2⟩ (hno.no j j0 j8)
            rw [this, ht]; rfl
          · have := ht1 ht
            rw [ht]; simp [b2i, this]
        have hcnt : nf = m := by rw [hff.cnt, hm]
        subst hhit hcnt
        simp only [forall_eq]
        repeat' first | refine And.intro ?_ ?_ | intro _
        all_goals first | trivial | omega | simp_all [b2i])
theorem tlbFlush_holds_n : ((lawSpec 22 [.nil, .one (.i .i64), .one (.i .i64), .one (.i .i64)]).withPre fun _ => True).Holds Tryz.prog L2.ro := holds_withPre _ tlbFlush_holds_n0

end Go.Proofs.YthjfkblnbecjgaaGreatDoor
