/- The statement messuagelaw11.UserKinds of the seat: for every input the law returns true; the condition: errors.errorType is as the program lays it. -/
import Derived.Test.YtegeplgckfpleaaGreatDoorL2B
import Derived.Test.YtegeplgckfpleaaGreatDoorSxM7
import Derived.Test.YtegeplgckfpleaaGreatDoorL2W1
import Derived.Test.YtegeplgckfpleaaGreatDoorL2Vx
set_option linter.unusedVariables false
set_option linter.unusedSimpArgs false
open Go Go.Sx
namespace Go.Proofs.YtegeplgckfpleaaGreatDoor
open Go.ChangeShapes Go.WideShapes Go.RowKit
set_option maxRecDepth 100000

noncomputable def UserKinds_t : Tree := .call 15 (Go.Sx.L2.yes Go.Sx.L2.f_messuagelaw11_begun).rel [] [] 0 0 (.call 16 (Go.Sx.L2.bNew).rel [] [] 0 1 (.call 17 (Go.Sx.L2.tNew).rel [] [] 0 1 (.any (.c 1) (.c 9223372036854775807) (.call 19 (Go.Sx.L2.tInsert).rel [.c (0), .c (0), .c (0), .c (3)] [1] 1 1 (.letI (.add (.v 0) (.v 1)) (.letI (.wr .u64 (.v 5)) (.letL (.lit [.c (0), .c (0), .c (0), .c (0), .c (0), .c (0), .c (0), .c (0), .c (0), .c (0), .c (0), .c (0), .c (0), .c (0), .c (0), .c (0)]) (.call 36 (Go.Sx.L2.uDo 1).rel [.v 3, .c (0), .c (21), .c (0), .c (4), .v 0, .c (0)] [0, 2, 3] 6 2 (.letI (.cmp .eql (.v 7) (.c 0)) (.letI (.cmp .eql (.v 8) (.c 0)) (.letI (.pick (.v 14) (.c 1) (.c 0)) (.letI (.pick (.v 13) (.v 15) (.c 0)) (.letI (.not (.v 16)) (.ite (.v 17) (.fail 180) (.letI (.cmp .neq (.v 12) (.c 3)) (.ite (.v 18) (.fail 180) (.call 36 (Go.Sx.L2.uDo 1).rel [.v 3, .c (0), .c (23), .c (0), .c (4), .v 1, .c (0)] [4, 2, 5] 6 2 (.letI (.cmp .eql (.v 19) (.c 0)) (.letI (.cmp .eql (.v 0) (.v 20)) (.letI (.pick (.v 26) (.c 1) (.c 0)) (.letI (.pick (.v 25) (.v 27) (.c 0)) (.letI (.not (.v 28)) (.ite (.v 29) (.fail 180) (.letI (.cmp .neq (.v 24) (.c 3)) (.ite (.v 30) (.fail 180) (.call 36 (Go.Sx.L2.uDo 1).rel [.v 3, .c (0), .c (20), .c (0), .c (4), .c (0), .c (0)] [6, 2, 7] 6 2 (.letI (.cmp .eql (.v 31) (.c 0)) (.letI (.cmp .eql (.v 6) (.v 32)) (.letI (.pick (.v 38) (.c 1) (.c 0)) (.letI (.pick (.v 37) (.v 39) (.c 0)) (.letI (.not (.v 40)) (.ite (.v 41) (.fail 180) (.letI (.cmp .neq (.v 36) (.c 3)) (.ite (.v 42) (.fail 180) (.call 36 (Go.Sx.L2.uDo 1).rel [.v 3, .c (0), .c (22), .c (0), .c (4), .v 6, .v 2] [8, 2, 9] 6 2 (.letI (.cmp .eql (.v 43) (.c 0)) (.letI (.cmp .eql (.v 6) (.v 44)) (.letI (.pick (.v 50) (.c 1) (.c 0)) (.letI (.pick (.v 49) (.v 51) (.c 0)) (.letI (.not (.v 52)) (.ite (.v 53) (.fail 180) (.letI (.cmp .neq (.v 48) (.c 3)) (.ite (.v 54) (.fail 180) (.call 36 (Go.Sx.L2.uDo 1).rel [.v 3, .c (0), .c (22), .c (0), .c (4), .v 0, .v 1] [10, 2, 11] 6 2 (.letI (.cmp .eql (.v 0) (.v 2)) (.ite (.v 61) (.letI (.cmp .eql (.v 55) (.c 0)) (.letI (.cmp .eql (.v 2) (.v 56)) (.letI (.pick (.v 63) (.c 1) (.c 0)) (.letI (.pick (.v 62) (.v 64) (.c 0)) (.letI (.not (.v 65)) (.ite (.v 66) (.fail 180) (.letI (.cmp .neq (.v 60) (.c 3)) (.ite (.v 67) (.fail 180) (.call 36 (Go.Sx.L2.uDo 1).rel [.v 3, .c (0), .c (20), .c (0), .c (4), .c (0), .c (0)] [12, 2, 13] 6 2 (.letI (.cmp .eql (.v 68) (.c 0)) (.letI (.cmp .eql (.v 1) (.v 69)) (.letI (.pick (.v 75) (.c 1) (.c 0)) (.letI (.pick (.v 74) (.v 76) (.c 0)) (.letI (.not (.v 77)) (.ite (.v 78) (.fail 180) (.letI (.cmp .neq (.v 73) (.c 3)) (.ite (.v 79) (.fail 180) (.call 36 (Go.Sx.L2.uDo 1).rel [.v 3, .c (0), .c (23), .c (0), .c (4), .v 2, .c (0)] [14, 2, 15] 6 2 (.letI (.add (.v 1) (.v 2)) (.letI (.wr .u64 (.v 86)) (.letI (.cmp .eql (.v 80) (.c 0)) (.letI (.cmp .eql (.v 1) (.v 81)) (.letI (.pick (.v 89) (.c 1) (.c 0)) (.letI (.pick (.v 88) (.v 90) (.c 0)) (.letI (.not (.v 91)) (.ite (.v 92) (.fail 180) (.letI (.cmp .neq (.v 85) (.c 3)) (.ite (.v 93) (.fail 180) (.call 36 (Go.Sx.L2.uDo 1).rel [.v 3, .c (0), .c (20), .c (0), .c (4), .c (0), .c (0)] [16, 2, 17] 6 2 (.letI (.cmp .eql (.v 94) (.c 0)) (.letI (.cmp .eql (.v 87) (.v 95)) (.letI (.pick (.v 101) (.c 1) (.c 0)) (.letI (.pick (.v 100) (.v 102) (.c 0)) (.letI (.not (.v 103)) (.ite (.v 104) (.fail 180) (.letI (.cmp .neq (.v 99) (.c 3)) (.ite (.v 105) (.fail 180) (.done [] [])))))))))))))))))))))))))))))))))))))) (.letI (.cmp .eql (.v 55) (.c 0)) (.letI (.cmp .eql (.v 2) (.v 56)) (.letI (.pick (.v 63) (.c 1) (.c 0)) (.letI (.pick (.v 62) (.v 64) (.c 0)) (.letI (.not (.v 65)) (.ite (.v 66) (.fail 180) (.letI (.cmp .neq (.v 60) (.c 3)) (.ite (.v 67) (.fail 180) (.call 36 (Go.Sx.L2.uDo 1).rel [.v 3, .c (0), .c (20), .c (0), .c (4), .c (0), .c (0)] [12, 2, 13] 6 2 (.letI (.cmp .eql (.v 68) (.c 0)) (.letI (.cmp .eql (.v 2) (.v 69)) (.letI (.pick (.v 75) (.c 1) (.c 0)) (.letI (.pick (.v 74) (.v 76) (.c 0)) (.letI (.not (.v 77)) (.ite (.v 78) (.fail 180) (.letI (.cmp .neq (.v 73) (.c 3)) (.ite (.v 79) (.fail 180) (.call 36 (Go.Sx.L2.uDo 1).rel [.v 3, .c (0), .c (23), .c (0), .c (4), .v 2, .c (0)] [14, 2, 15] 6 2 (.letI (.add (.v 2) (.v 2)) (.letI (.wr .u64 (.v 86)) (.letI (.cmp .eql (.v 80) (.c 0)) (.letI (.cmp .eql (.v 2) (.v 81)) (.letI (.pick (.v 89) (.c 1) (.c 0)) (.letI (.pick (.v 88) (.v 90) (.c 0)) (.letI (.not (.v 91)) (.ite (.v 92) (.fail 180) (.letI (.cmp .neq (.v 85) (.c 3)) (.ite (.v 93) (.fail 180) (.call 36 (Go.Sx.L2.uDo 1).rel [.v 3, .c (0), .c (20), .c (0), .c (4), .c (0), .c (0)] [16, 2, 17] 6 2 (.letI (.cmp .eql (.v 94) (.c 0)) (.letI (.cmp .eql (.v 87) (.v 95)) (.letI (.pick (.v 101) (.c 1) (.c 0)) (.letI (.pick (.v 100) (.v 102) (.c 0)) (.letI (.not (.v 103)) (.ite (.v 104) (.fail 180) (.letI (.cmp .neq (.v 99) (.c 3)) (.ite (.v 105) (.fail 180) (.done [] []))))))))))))))))))))))))))))))))))))))))))))))))))))))))))))))))))))))))))))))))))))
theorem UserKinds_tree : (lawSpec L2.f_messuagelaw11_UserKinds [.one (.i .u64), .one (.i .u64), .one (.i .u64)]).exe Tryz.prog (withS (L2.cfgB Tryz.prog) [L2.lets_ L2.f_messuageref2_Lets, L2.tNew, L2.tInsert, L2.tRemove, L2.bNew, L2.bFind, L2.bFill, L2.bFlush, L2.uDo 1]) [] 20 200 = UserKinds_t := by kernel_rfl
theorem UserKinds_vc (Q : List Int → List (List Int) → Prop) (v0 v1 v2 : Int) : UserKinds_t.dn ⟨Q, []⟩ 3 [v2, v1, v0] 0 [] = ((Go.Sx.L2.yes Go.Sx.L2.f_messuagelaw11_begun).rel.pre [] [] ∧
((Go.Sx.L2.yes Go.Sx.L2.f_messuagelaw11_begun).rel.post [] [] [] [] → (Go.Sx.L2.bNew).rel.pre [] [] ∧
(∀ L0 : List Int, (Go.Sx.L2.bNew).rel.post [] [] [] [L0] → (Go.Sx.L2.tNew).rel.pre [] [] ∧
(∀ L1 : List Int, (Go.Sx.L2.tNew).rel.post [] [] [] [L1] → ∀ v3 : Int, (1 : Int) ≤ v3 → v3 ≤ (9223372036854775807 : Int) → (Go.Sx.L2.tInsert).rel.pre [(0 : Int), (0 : Int), (0 : Int), (3 : Int)] [L1] ∧
(∀ v4 : Int, ∀ L2 : List Int, (Go.Sx.L2.tInsert).rel.post [(0 : Int), (0 : Int), (0 : Int), (3 : Int)] [L1] [v4] [L2] → ∀ v5 : Int, v5 = v0 + v1 → ∀ v6 : Int, v6 = IntKind.wrap .u64 v5 → ∀ L3 : List Int, L3 = [(0 : Int), (0 : Int), (0 : Int), (0 : Int), (0 : Int), (0 : Int), (0 : Int), (0 : Int), (0 : Int), (0 : Int), (0 : Int), (0 : Int), (0 : Int), (0 : Int), (0 : Int), (0 : Int)] → (Go.Sx.L2.uDo 1).rel.pre [v3, (0 : Int), (21 : Int), (0 : Int), (4 : Int), v0, (0 : Int)] [L0, L2, L3] ∧
(∀ v7 : Int, ∀ v8 : Int, ∀ v9 : Int, ∀ v10 : Int, ∀ v11 : Int, ∀ v12 : Int, ∀ L4 : List Int, ∀ L5 : List Int, (Go.Sx.L2.uDo 1).rel.post [v3, (0 : Int), (21 : Int), (0 : Int), (4 : Int), v0, (0 : Int)] [L0, L2, L3] [v7, v8, v9, v10, v11, v12] [L4, L5] → ∀ v13 : Int, v13 = b2i (v7 == (0 : Int)) → ∀ v14 : Int, v14 = b2i (v8 == (0 : Int)) → ∀ v15 : Int, v15 = (if v14 = 0 then (0 : Int) else (1 : Int)) → ∀ v16 : Int, v16 = (if v13 = 0 then (0 : Int) else v15) → ∀ v17 : Int, v17 = b2i (v16 == 0) → (v17 ≠ 0 → False) ∧
(v17 = 0 → ((v12 ≠ (3 : Int)) → False) ∧
((v12 = (3 : Int)) → (Go.Sx.L2.uDo 1).rel.pre [v3, (0 : Int), (23 : Int), (0 : Int), (4 : Int), v1, (0 : Int)] [L4, L2, L5] ∧
(∀ v19 : Int, ∀ v20 : Int, ∀ v21 : Int, ∀ v22 : Int, ∀ v23 : Int, ∀ v24 : Int, ∀ L6 : List Int, ∀ L7 : List Int, (Go.Sx.L2.uDo 1).rel.post [v3, (0 : Int), (23 : Int), (0 : Int), (4 : Int), v1, (0 : Int)] [L4, L2, L5] [v19, v20, v21, v22, v23, v24] [L6, L7] → ∀ v25 : Int, v25 = b2i (v19 == (0 : Int)) → ∀ v26 : Int, v26 = b2i (v0 == v20) → ∀ v27 : Int, v27 = (if v26 = 0 then (0 : Int) else (1 : Int)) → ∀ v28 : Int, v28 = (if v25 = 0 then (0 : Int) else v27) → ∀ v29 : Int, v29 = b2i (v28 == 0) → (v29 ≠ 0 → False) ∧
(v29 = 0 → ((v24 ≠ (3 : Int)) → False) ∧
((v24 = (3 : Int)) → (Go.Sx.L2.uDo 1).rel.pre [v3, (0 : Int), (20 : Int), (0 : Int), (4 : Int), (0 : Int), (0 : Int)] [L6, L2, L7] ∧
(∀ v31 : Int, ∀ v32 : Int, ∀ v33 : Int, ∀ v34 : Int, ∀ v35 : Int, ∀ v36 : Int, ∀ L8 : List Int, ∀ L9 : List Int, (Go.Sx.L2.uDo 1).rel.post [v3, (0 : Int), (20 : Int), (0 : Int), (4 : Int), (0 : Int), (0 : Int)] [L6, L2, L7] [v31, v32, v33, v34, v35, v36] [L8, L9] → ∀ v37 : Int, v37 = b2i (v31 == (0 : Int)) → ∀ v38 : Int, v38 = b2i (v6 == v32) → ∀ v39 : Int, v39 = (if v38 = 0 then (0 : Int) else (1 : Int)) → ∀ v40 : Int, v40 = (if v37 = 0 then (0 : Int) else v39) → ∀ v41 : Int, v41 = b2i (v40 == 0) → (v41 ≠ 0 → False) ∧
(v41 = 0 → ((v36 ≠ (3 : Int)) → False) ∧
((v36 = (3 : Int)) → (Go.Sx.L2.uDo 1).rel.pre [v3, (0 : Int), (22 : Int), (0 : Int), (4 : Int), v6, v2] [L8, L2, L9] ∧
(∀ v43 : Int, ∀ v44 : Int, ∀ v45 : Int, ∀ v46 : Int, ∀ v47 : Int, ∀ v48 : Int, ∀ L10 : List Int, ∀ L11 : List Int, (Go.Sx.L2.uDo 1).rel.post [v3, (0 : Int), (22 : Int), (0 : Int), (4 : Int), v6, v2] [L8, L2, L9] [v43, v44, v45, v46, v47, v48] [L10, L11] → ∀ v49 : Int, v49 = b2i (v43 == (0 : Int)) → ∀ v50 : Int, v50 = b2i (v6 == v44) → ∀ v51 : Int, v51 = (if v50 = 0 then (0 : Int) else (1 : Int)) → ∀ v52 : Int, v52 = (if v49 = 0 then (0 : Int) else v51) → ∀ v53 : Int, v53 = b2i (v52 == 0) → (v53 ≠ 0 → False) ∧
(v53 = 0 → ((v48 ≠ (3 : Int)) → False) ∧
((v48 = (3 : Int)) → (Go.Sx.L2.uDo 1).rel.pre [v3, (0 : Int), (22 : Int), (0 : Int), (4 : Int), v0, v1] [L10, L2, L11] ∧
(∀ v55 : Int, ∀ v56 : Int, ∀ v57 : Int, ∀ v58 : Int, ∀ v59 : Int, ∀ v60 : Int, ∀ L12 : List Int, ∀ L13 : List Int, (Go.Sx.L2.uDo 1).rel.post [v3, (0 : Int), (22 : Int), (0 : Int), (4 : Int), v0, v1] [L10, L2, L11] [v55, v56, v57, v58, v59, v60] [L12, L13] → ((v0 = v2) → ∀ v62 : Int, v62 = b2i (v55 == (0 : Int)) → ∀ v63 : Int, v63 = b2i (v2 == v56) → ∀ v64 : Int, v64 = (if v63 = 0 then (0 : Int) else (1 : Int)) → ∀ v65 : Int, v65 = (if v62 = 0 then (0 : Int) else v64) → ∀ v66 : Int, v66 = b2i (v65 == 0) → (v66 ≠ 0 → False) ∧
(v66 = 0 → ((v60 ≠ (3 : Int)) → False) ∧
((v60 = (3 : Int)) → (Go.Sx.L2.uDo 1).rel.pre [v3, (0 : Int), (20 : Int), (0 : Int), (4 : Int), (0 : Int), (0 : Int)] [L12, L2, L13] ∧
(∀ v68 : Int, ∀ v69 : Int, ∀ v70 : Int, ∀ v71 : Int, ∀ v72 : Int, ∀ v73 : Int, ∀ L14 : List Int, ∀ L15 : List Int, (Go.Sx.L2.uDo 1).rel.post [v3, (0 : Int), (20 : Int), (0 : Int), (4 : Int), (0 : Int), (0 : Int)] [L12, L2, L13] [v68, v69, v70, v71, v72, v73] [L14, L15] → ∀ v74 : Int, v74 = b2i (v68 == (0 : Int)) → ∀ v75 : Int, v75 = b2i (v1 == v69) → ∀ v76 : Int, v76 = (if v75 = 0 then (0 : Int) else (1 : Int)) → ∀ v77 : Int, v77 = (if v74 = 0 then (0 : Int) else v76) → ∀ v78 : Int, v78 = b2i (v77 == 0) → (v78 ≠ 0 → False) ∧
(v78 = 0 → ((v73 ≠ (3 : Int)) → False) ∧
((v73 = (3 : Int)) → (Go.Sx.L2.uDo 1).rel.pre [v3, (0 : Int), (23 : Int), (0 : Int), (4 : Int), v2, (0 : Int)] [L14, L2, L15] ∧
(∀ v80 : Int, ∀ v81 : Int, ∀ v82 : Int, ∀ v83 : Int, ∀ v84 : Int, ∀ v85 : Int, ∀ L16 : List Int, ∀ L17 : List Int, (Go.Sx.L2.uDo 1).rel.post [v3, (0 : Int), (23 : Int), (0 : Int), (4 : Int), v2, (0 : Int)] [L14, L2, L15] [v80, v81, v82, v83, v84, v85] [L16, L17] → ∀ v86 : Int, v86 = v1 + v2 → ∀ v87 : Int, v87 = IntKind.wrap .u64 v86 → ∀ v88 : Int, v88 = b2i (v80 == (0 : Int)) → ∀ v89 : Int, v89 = b2i (v1 == v81) → ∀ v90 : Int, v90 = (if v89 = 0 then (0 : Int) else (1 : Int)) → ∀ v91 : Int, v91 = (if v88 = 0 then (0 : Int) else v90) → ∀ v92 : Int, v92 = b2i (v91 == 0) → (v92 ≠ 0 → False) ∧
(v92 = 0 → ((v85 ≠ (3 : Int)) → False) ∧
((v85 = (3 : Int)) → (Go.Sx.L2.uDo 1).rel.pre [v3, (0 : Int), (20 : Int), (0 : Int), (4 : Int), (0 : Int), (0 : Int)] [L16, L2, L17] ∧
(∀ v94 : Int, ∀ v95 : Int, ∀ v96 : Int, ∀ v97 : Int, ∀ v98 : Int, ∀ v99 : Int, ∀ L18 : List Int, ∀ L19 : List Int, (Go.Sx.L2.uDo 1).rel.post [v3, (0 : Int), (20 : Int), (0 : Int), (4 : Int), (0 : Int), (0 : Int)] [L16, L2, L17] [v94, v95, v96, v97, v98, v99] [L18, L19] → ∀ v100 : Int, v100 = b2i (v94 == (0 : Int)) → ∀ v101 : Int, v101 = b2i (v87 == v95) → ∀ v102 : Int, v102 = (if v101 = 0 then (0 : Int) else (1 : Int)) → ∀ v103 : Int, v103 = (if v100 = 0 then (0 : Int) else v102) → ∀ v104 : Int, v104 = b2i (v103 == 0) → (v104 ≠ 0 → False) ∧
(v104 = 0 → ((v99 ≠ (3 : Int)) → False) ∧
((v99 = (3 : Int)) → Q [] [])))))))))))) ∧
((v0 ≠ v2) → ∀ v62 : Int, v62 = b2i (v55 == (0 : Int)) → ∀ v63 : Int, v63 = b2i (v2 == v56) → ∀ v64 : Int, v64 = (if v63 = 0 then (0 : Int) else (1 : Int)) → ∀ v65 : Int, v65 = (if v62 = 0 then (0 : Int) else v64) → ∀ v66 : Int, v66 = b2i (v65 == 0) → (v66 ≠ 0 → False) ∧
(v66 = 0 → ((v60 ≠ (3 : Int)) → False) ∧
((v60 = (3 : Int)) → (Go.Sx.L2.uDo 1).rel.pre [v3, (0 : Int), (20 : Int), (0 : Int), (4 : Int), (0 : Int), (0 : Int)] [L12, L2, L13] ∧
(∀ v68 : Int, ∀ v69 : Int, ∀ v70 : Int, ∀ v71 : Int, ∀ v72 : Int, ∀ v73 : Int, ∀ L14 : List Int, ∀ L15 : List Int, (Go.Sx.L2.uDo 1).rel.post [v3, (0 : Int), (20 : Int), (0 : Int), (4 : Int), (0 : Int), (0 : Int)] [L12, L2, L13] [v68, v69, v70, v71, v72, v73] [L14, L15] → ∀ v74 : Int, v74 = b2i (v68 == (0 : Int)) → ∀ v75 : Int, v75 = b2i (v2 == v69) → ∀ v76 : Int, v76 = (if v75 = 0 then (0 : Int) else (1 : Int)) → ∀ v77 : Int, v77 = (if v74 = 0 then (0 : Int) else v76) → ∀ v78 : Int, v78 = b2i (v77 == 0) → (v78 ≠ 0 → False) ∧
(v78 = 0 → ((v73 ≠ (3 : Int)) → False) ∧
((v73 = (3 : Int)) → (Go.Sx.L2.uDo 1).rel.pre [v3, (0 : Int), (23 : Int), (0 : Int), (4 : Int), v2, (0 : Int)] [L14, L2, L15] ∧
(∀ v80 : Int, ∀ v81 : Int, ∀ v82 : Int, ∀ v83 : Int, ∀ v84 : Int, ∀ v85 : Int, ∀ L16 : List Int, ∀ L17 : List Int, (Go.Sx.L2.uDo 1).rel.post [v3, (0 : Int), (23 : Int), (0 : Int), (4 : Int), v2, (0 : Int)] [L14, L2, L15] [v80, v81, v82, v83, v84, v85] [L16, L17] → ∀ v86 : Int, v86 = v2 + v2 → ∀ v87 : Int, v87 = IntKind.wrap .u64 v86 → ∀ v88 : Int, v88 = b2i (v80 == (0 : Int)) → ∀ v89 : Int, v89 = b2i (v2 == v81) → ∀ v90 : Int, v90 = (if v89 = 0 then (0 : Int) else (1 : Int)) → ∀ v91 : Int, v91 = (if v88 = 0 then (0 : Int) else v90) → ∀ v92 : Int, v92 = b2i (v91 == 0) → (v92 ≠ 0 → False) ∧
(v92 = 0 → ((v85 ≠ (3 : Int)) → False) ∧
((v85 = (3 : Int)) → (Go.Sx.L2.uDo 1).rel.pre [v3, (0 : Int), (20 : Int), (0 : Int), (4 : Int), (0 : Int), (0 : Int)] [L16, L2, L17] ∧
(∀ v94 : Int, ∀ v95 : Int, ∀ v96 : Int, ∀ v97 : Int, ∀ v98 : Int, ∀ v99 : Int, ∀ L18 : List Int, ∀ L19 : List Int, (Go.Sx.L2.uDo 1).rel.post [v3, (0 : Int), (20 : Int), (0 : Int), (4 : Int), (0 : Int), (0 : Int)] [L16, L2, L17] [v94, v95, v96, v97, v98, v99] [L18, L19] → ∀ v100 : Int, v100 = b2i (v94 == (0 : Int)) → ∀ v101 : Int, v101 = b2i (v87 == v95) → ∀ v102 : Int, v102 = (if v101 = 0 then (0 : Int) else (1 : Int)) → ∀ v103 : Int, v103 = (if v100 = 0 then (0 : Int) else v102) → ∀ v104 : Int, v104 = b2i (v103 == 0) → (v104 ≠ 0 → False) ∧
(v104 = 0 → ((v99 ≠ (3 : Int)) → False) ∧
((v99 = (3 : Int)) → Q [] [])))))))))))))))))))))))))))))) := by kernel_rfl
set_option maxHeartbeats 4000000 in
theorem userKinds_holds0 : (lawSpec L2.f_messuagelaw11_UserKinds [.one (.i .u64), .one (.i .u64), .one (.i .u64)]).Holds Tryz.prog L2.ro := FSpec.holdsV (cfg := withS (L2.cfgB Tryz.prog) [L2.lets_ L2.f_messuageref2_Lets, L2.tNew, L2.tInsert, L2.tRemove, L2.bNew, L2.bFind, L2.bFill, L2.bFlush, L2.uDo 1]) [] 20 200 (withS_ok cfgB_ok ⟨rLets_holds, tNew_holds, tInsert_holds, tRemove_holds, bNew_holds, bFind_holds, bFill_holds, bFlush_holds, uDoM1_holds, trivial⟩) mixed (t := UserKinds_t) UserKinds_tree (by
  show ∀ (v0 v1 v2 : Int) , _
  intro v0 v1 v2  hp hr hl
  replace hr : ((0 : Int) ≤ v0 ∧ v0 ≤ (18446744073709551615 : Int)) ∧ ((0 : Int) ≤ v1 ∧ v1 ≤ (18446744073709551615 : Int)) ∧ ((0 : Int) ≤ v2 ∧ v2 ≤ (18446744073709551615 : Int)) ∧ True := hr
  replace hp : True := hp
  show UserKinds_t.dn ⟨_, []⟩ 3 [v2, v1, v0] 0 []
  rw [UserKinds_vc]
  show ((L2.yes L2.f_messuagelaw11_begun).rel.pre [] [] ∧ _)
  refine ⟨trivial, fun _ => ?_⟩
  refine ⟨trivial, fun B0 hB0 => ⟨trivial, fun T0 hT0 => ?_⟩⟩
  have hB0 : B0 = b0 := by
    have : [B0] = [clearB (List.replicate 41 (0 : Int))] := hB0.2
    exact (List.cons.inj this).1
  have hT0 : T0 = t0 := by
    have : [T0] = [List.replicate 24 (0 : Int)] := hT0.2
    exact (List.cons.inj this).1
  intro cap hc1 hc2
  refine ⟨trivial, fun ie T hT => ?_⟩
  have hT : T = kT := by
    have : [T] = [insL T0 0 0 0 3] := hT.2
    rw [hT0] at this; exact (List.cons.inj this).1
  subst hT
  subst hB0
  intro v5 e5 v6 e6 M eM
  have hl0 : M.length = 16 := by rw [eM]; rfl
  have hx0 : M.getD 4 0 = 0 := by rw [eM]; rfl
  clear eM hp hr hl hT0
  have pre : ∀ {B M : List Int}, M.length = 16 → _root_.Go.Sx.L2.mLen 1 [B, kT, M] 2 := by
    intro B M h j hj
    have : j = 0 := by omega
    subst this; exact h
  refine ⟨pre hl0, ?_⟩
  intro a0 b0 p0 q0 r0 s0 B0 M0 h0
  have g0 := k_step (x := 0) (.inl rfl) hl0 hx0 (by omega) h0
  obtain ⟨u0, w0, y0, l0, z0, x0⟩ := g0
  subst y0
  have xx0 : M0.getD 4 0 = v0 := by rw [x0]; simp
  intro j1 f1 j2 f2 j3 f3 j4 f4 j5 f5
  have hz : j5 = 0 := by rw [f5, f4, f3, f2, f1, u0, z0]; simp [b2i]
  clear f1 f2 f3 f4 f5
  refine ⟨fun c => absurd hz c, fun _ => ⟨fun c => absurd w0 c, fun _ => ?_⟩⟩
  refine ⟨pre l0, ?_⟩
  intro a1 b1 p1 q1 r1 s1 B1 M1 h1
  have g1 := k_step (x := v0) (.inr rfl) l0 xx0 (by omega) h1
  obtain ⟨u1, w1, y1, l1, z1, x1⟩ := g1
  subst y1
  have xx1 : M1.getD 4 0 = v6 := by rw [x1, e6, e5]; simp
  intro j1 f1 j2 f2 j3 f3 j4 f4 j5 f5
  have hz : j5 = 0 := by rw [f5, f4, f3, f2, f1, u1, z1]; simp [b2i]
  clear f1 f2 f3 f4 f5
  refine ⟨fun c => absurd hz c, fun _ => ⟨fun c => absurd w1 c, fun _ => ?_⟩⟩
  refine ⟨pre l1, ?_⟩
  intro a2 b2 p2 q2 r2 s2 B2 M2 h2
  have g2 := k_step (x := v6) (.inr rfl) l1 xx1 (by omega) h2
  obtain ⟨u2, w2, y2, l2, z2, x2⟩ := g2
  subst y2
  have xx2 : M2.getD 4 0 = v6 := by rw [x2]; simp
  intro j1 f1 j2 f2 j3 f3 j4 f4 j5 f5
  have hz : j5 = 0 := by rw [f5, f4, f3, f2, f1, u2, z2]; simp [b2i]
  clear f1 f2 f3 f4 f5
  refine ⟨fun c => absurd hz c, fun _ => ⟨fun c => absurd w2 c, fun _ => ?_⟩⟩
  refine ⟨pre l2, ?_⟩
  intro a3 b3 p3 q3 r3 s3 B3 M3 h3
  have g3 := k_step (x := v6) (.inr rfl) l2 xx2 (by omega) h3
  obtain ⟨u3, w3, y3, l3, z3, x3⟩ := g3
  subst y3
  have xx3 : M3.getD 4 0 = v2 := by rw [x3]; simp
  intro j1 f1 j2 f2 j3 f3 j4 f4 j5 f5
  have hz : j5 = 0 := by rw [f5, f4, f3, f2, f1, u3, z3]; simp [b2i]
  clear f1 f2 f3 f4 f5
  refine ⟨fun c => absurd hz c, fun _ => ⟨fun c => absurd w3 c, fun _ => ?_⟩⟩
  refine ⟨pre l3, ?_⟩
  intro a4 b4 p4 q4 r4 s4 B4 M4 h4
  have g4 := k_step (x := v2) (.inr rfl) l3 xx3 (by omega) h4
  obtain ⟨u4, w4, y4, l4, z4, x4⟩ := g4
  subst y4
  refine ⟨fun cc => ?_, fun cc => ?_⟩
  ·
    have xx : M4.getD 4 0 = v1 := by rw [x4]; simp [cc]
    intro j1 f1 j2 f2 j3 f3 j4 f4 j5 f5
    have hz : j5 = 0 := by rw [f5, f4, f3, f2, f1, u4, z4]; simp [b2i]
    clear f1 f2 f3 f4 f5
    refine ⟨fun c => absurd hz c, fun _ => ⟨fun c => absurd w4 c, fun _ => ?_⟩⟩
    refine ⟨pre l4, ?_⟩
    intro a5 b5 p5 q5 r5 s5 B5 M5 h5
    have g5 := k_step (x := v1) (.inr rfl) l4 xx (by omega) h5
    obtain ⟨u5, w5, y5, l5, z5, x5⟩ := g5
    subst y5
    have xx5 : M5.getD 4 0 = v1 := by rw [x5]; simp
    intro j1 f1 j2 f2 j3 f3 j4 f4 j5 f5
    have hz : j5 = 0 := by rw [f5, f4, f3, f2, f1, u5, z5]; simp [b2i]
    clear f1 f2 f3 f4 f5
    refine ⟨fun c => absurd hz c, fun _ => ⟨fun c => absurd w5 c, fun _ => ?_⟩⟩
    refine ⟨pre l5, ?_⟩
    intro a6 b6 p6 q6 r6 s6 B6 M6 h6
    have g6 := k_step (x := v1) (.inr rfl) l5 xx5 (by omega) h6
    obtain ⟨u6, w6, y6, l6, z6, x6⟩ := g6
    subst y6
    intro n1 en1 n2 en2
    have xx6 : M6.getD 4 0 = n2 := by rw [x6, en2, en1]; simp
    intro j1 f1 j2 f2 j3 f3 j4 f4 j5 f5
    have hz : j5 = 0 := by rw [f5, f4, f3, f2, f1, u6, z6]; simp [b2i]
    clear f1 f2 f3 f4 f5
    refine ⟨fun c => absurd hz c, fun _ => ⟨fun c => absurd w6 c, fun _ => ?_⟩⟩
    refine ⟨pre l6, ?_⟩
    intro a7 b7 p7 q7 r7 s7 B7 M7 h7
    have g7 := k_step (x := n2) (.inr rfl) l6 xx6 (by omega) h7
    obtain ⟨u7, w7, y7, l7, z7, x7⟩ := g7
    subst y7
    intro j1 f1 j2 f2 j3 f3 j4 f4 j5 f5
    have hz : j5 = 0 := by rw [f5, f4, f3, f2, f1, u7, z7]; simp [b2i]
    clear f1 f2 f3 f4 f5
    refine ⟨fun c => absurd hz c, fun _ => ⟨fun c => absurd w7 c, fun _ => ?_⟩⟩
    trivial
  ·
    have xx : M4.getD 4 0 = v2 := by rw [x4]; simp [Ne.symm cc]
    intro j1 f1 j2 f2 j3 f3 j4 f4 j5 f5
    have hz : j5 = 0 := by rw [f5, f4, f3, f2, f1, u4, z4]; simp [b2i]
    clear f1 f2 f3 f4 f5
    refine ⟨fun c => absurd hz c, fun _ => ⟨fun c => absurd w4 c, fun _ => ?_⟩⟩
    refine ⟨pre l4, ?_⟩
    intro a5 b5 p5 q5 r5 s5 B5 M5 h5
    have g5 := k_step (x := v2) (.inr rfl) l4 xx (by omega) h5
    obtain ⟨u5, w5, y5, l5, z5, x5⟩ := g5
    subst y5
    have xx5 : M5.getD 4 0 = v2 := by rw [x5]; simp
    intro j1 f1 j2 f2 j3 f3 j4 f4 j5 f5
    have hz : j5 = 0 := by rw [f5, f4, f3, f2, f1, u5, z5]; simp [b2i]
    clear f1 f2 f3 f4 f5
    refine ⟨fun c => absurd hz c, fun _ => ⟨fun c => absurd w5 c, fun _ => ?_⟩⟩
    refine ⟨pre l5, ?_⟩
    intro a6 b6 p6 q6 r6 s6 B6 M6 h6
    have g6 := k_step (x := v2) (.inr rfl) l5 xx5 (by omega) h6
    obtain ⟨u6, w6, y6, l6, z6, x6⟩ := g6
    subst y6
    intro n1 en1 n2 en2
    have xx6 : M6.getD 4 0 = n2 := by rw [x6, en2, en1]; simp
    intro j1 f1 j2 f2 j3 f3 j4 f4 j5 f5
    have hz : j5 = 0 := by rw [f5, f4, f3, f2, f1, u6, z6]; simp [b2i]
    clear f1 f2 f3 f4 f5
    refine ⟨fun c => absurd hz c, fun _ => ⟨fun c => absurd w6 c, fun _ => ?_⟩⟩
    refine ⟨pre l6, ?_⟩
    intro a7 b7 p7 q7 r7 s7 B7 M7 h7
    have g7 := k_step (x := n2) (.inr rfl) l6 xx6 (by omega) h7
    obtain ⟨u7, w7, y7, l7, z7, x7⟩ := g7
    subst y7
    intro j1 f1 j2 f2 j3 f3 j4 f4 j5 f5
    have hz : j5 = 0 := by rw [f5, f4, f3, f2, f1, u7, z7]; simp [b2i]
    clear f1 f2 f3 f4 f5
    refine ⟨fun c => absurd hz c, fun _ => ⟨fun c => absurd w7 c, fun _ => ?_⟩⟩
    trivial)
theorem userKinds_holds : ((lawSpec L2.f_messuagelaw11_UserKinds [.one (.i .u64), .one (.i .u64), .one (.i .u64)]).withPre fun _ => True).Holds Tryz.prog L2.ro := holds_withPre _ userKinds_holds0

theorem userKinds_calls {H : Type} {enc : TypeId × Value → H} {W : World} {base : Nat} {args : Array Value} {ds : List (DataW H)} {p : List MemPlace} (hval : ∀ (j : Nat) t v, Tryz.f8.params[j]? = some t → args[j]? = some v → Value.okWide Tryz.prog W .any base t v)
    (hA : DataW.TrodAll enc Tryz.prog W 0 (fun _ => true) true Tryz.f8.params.toList args.toList ds p) (hL : laidMetH Tryz.prog laid1 W) : Calls Tryz.prog 8 args W fun e W' => e = .returned (.bool true) ∧ Go.Sx.Frame ⟨W, [], L2.ro⟩ W' := by
  rw [Tryz.params8] at hA hval
  obtain ⟨v0, v1, v2, d0, d1, d2, p0, p1, p2, rfl, rfl, rfl, h0, h1, h2⟩ := trodAll_three hA
  obtain ⟨n0, q0⟩ := par_int (base := 0) und56 (hval 0 56 v0 rfl rfl) h0
  obtain ⟨n1, q1⟩ := par_int (base := 0) und56 (hval 1 56 v1 rfl rfl) h1
  obtain ⟨n2, q2⟩ := par_int (base := 0) und56 (hval 2 56 v2 rfl rfl) h2
  exact law_calls (userKinds_holds) Tryz.func8 (show Tryz.f8.body = some _ from rfl) (by kernel_rfl) (.cons q0 (.cons q1 (.cons q2 .none))) trivial (ro_of_laid hL)
set_option maxHeartbeats 1000000 in
theorem userKinds_lifted (os : Os) (started : os.Started) (H : Type) (enc : TypeId × Value → H) :
    ReturnsInHanded {} Tryz.checked os 8 .any (fun w args => (Rows.userKindsSpec.pre enc Tryz.prog Tryz.f8 [] false w args ∧ laidMetH Tryz.prog laid1 w) ∧ sizedMet enc Tryz.prog Tryz.f8 (OpenSpec.ofChange Rows.userKindsSpec) false w args)
      (Rows.userKindsSpec.post enc Tryz.prog Tryz.f8 false true false false) := by
  refine returnsInHanded_of_change_and (C := Tryz.checked) (X := fun w _ => laidMetH Tryz.prog laid1 w) (fun _ _ _ hh h => h.of_heap hh) Tryz.own started (by kernel_rfl) Tryz.func8
    (ChangeSpec.witness_at (enc := enc) (C := Tryz.checked) (os := os) (X := fun w _ => laidMetH Tryz.prog laid1 w) false (laidWorld os) #[.int .u64 0, .int .u64 0, .int .u64 0] 8 rfl (by kernel_rfl) (by kernel_rfl) (by kernel_rfl) (by kernel_rfl) (by kernel_rfl) (laidWorld_met os _)) ?_
  intro W base args ds gs before hval0 hW _ _ hL _
  have hval : ∀ (j : Nat) t v, Tryz.f8.params[j]? = some t → args[j]? = some v → Value.okWide Tryz.prog W .any base t v := hval0
  have hW' := hW
  obtain ⟨p, q, hA0, hV0, rfl, hfz, hnd⟩ := hW
  have hcall := userKinds_calls (enc := enc) hval hA0 hL
  refine Calls.mono hcall ?_
  rintro e W' ⟨rfl, hfr⟩
  exact ⟨_, rfl, post_kept Tryz.laidOut (by kernel_rfl) rfl rfl und4 hW' hfr (by
    have hg : gs = [] := by cases gs with | nil => rfl | cons g r => exact absurd hV0 (by intro h; cases h)
    subst hg
    have hA1 : DataW.TrodAll enc Tryz.prog W 0 (fun _ => true) true Tryz.f8.params.toList args.toList ds p := hA0
    rw [Tryz.params8] at hA1
    obtain ⟨v0, v1, v2, d0, d1, d2, p0, p1, p2, ea, rfl, ec, h0, h1, h2⟩ := trodAll_three hA1
    rfl)⟩

theorem userKinds_row : Rows.UserKindsSaid :=
  OpenClaim.holds_of_wide 8 Tryz.f8 rfl rfl rfl rfl rfl rfl rfl ⟨rfl, rfl, rfl, rfl, rfl⟩ rfl rfl rfl rfl rfl (by kernel_rfl) Tryz.func8 (restFacts.2 _ _ _ _ _ Tryz.mayEnter Tryz.liftsFinal Tryz.make (by kernel_rfl))
    (of_decide_eq_true (by kernel_rfl)) (by unfold Func.isWrapper; rw [if_neg (of_decide_eq_false (by kernel_rfl))]; exact ⟨rfl, rfl⟩)
    (fun os started H enc _ => userKinds_lifted os started H enc)
theorem userKinds_card : Rows.UserKindsCardSaid :=
  Claim7.holds_tied_plain_at .later [] [.handle] true (true, "2b6aa8c52f26a36866b589049fd1d65802bdae42632cc16d24d227b9428605b6") true
    userKinds_row (fun _ h => by cases h) (by kernel_rfl) (fun _ h => by cases h) userKinds_row_tie rfl ⟨rfl, rfl⟩ Tryz.mainIs rfl
    (fun f fn hf hfn => by
      obtain rfl : f = 8 := Option.some.inj ((show Tryz.prog.funcNamed "messuage/messuagelaw11.UserKinds" = some 8 by kernel_rfl).symm.trans hf) |>.symm
      obtain rfl : fn = Tryz.f8 := (Option.some.inj (Tryz.func8.symm.trans hfn)).symm
      exact ⟨by kernel_rfl, fun j t ht => by
        rw [Tryz.params8] at ht
        rcases j with _ | _ | _ | j
        · obtain rfl : 56 = t := by simpa using ht
          exact (show Tryz.prog.wantsStandIn 56 = false by kernel_rfl)
        · obtain rfl : 56 = t := by simpa using ht
          exact (show Tryz.prog.wantsStandIn 56 = false by kernel_rfl)
        · obtain rfl : 56 = t := by simpa using ht
          exact (show Tryz.prog.wantsStandIn 56 = false by kernel_rfl)
        · simp at ht⟩)
    (by kernel_rfl)
#print axioms userKinds_card
end Go.Proofs.YtegeplgckfpleaaGreatDoor
