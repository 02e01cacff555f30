/- The statement messuagelaw11.CapsChain of the seat: for every input the law returns true; the condition: errors.errorType is as the program lays it. -/
import Derived.Test.YtegeplgckfpleaaGreatDoorL2B
import Derived.Test.YtegeplgckfpleaaGreatDoorSxM7
import Derived.Test.YtegeplgckfpleaaGreatDoorL2Cr
import Derived.Test.YtegeplgckfpleaaGreatDoorL2Cd
import Derived.Test.YtegeplgckfpleaaGreatDoorL2Cx
set_option linter.unusedVariables false
set_option linter.unusedSimpArgs false
open Go Go.Sx
namespace Go.Proofs.YtegeplgckfpleaaGreatDoor
open Go.ChangeShapes Go.WideShapes Go.RowKit
set_option maxRecDepth 100000

noncomputable def CapsChain_t : Tree := .call 15 (Go.Sx.L2.yes Go.Sx.L2.f_messuagelaw11_begun).rel [] [] 0 0 (.letI (.rem (.v 0) (.c 6)) (.letI (.add (.v 3) (.c 6)) (.letI (.rem (.v 4) (.c 6)) (.letI (.add (.c 2) (.v 5)) (.letI (.rem (.v 1) (.v 6)) (.letI (.add (.v 7) (.v 6)) (.letI (.wr .i64 (.v 8)) (.letI (.rem (.v 9) (.v 6)) (.letL (.lit [.c (0), .c (0), .c (0), .c (0), .c (0), .c (0), .c (0), .c (0), .c (0), .c (0), .c (0), .c (0), .c (0), .c (0), .c (0), .c (0), .c (0), .c (0), .c (0), .c (0), .c (0), .c (0), .c (0), .c (0), .c (0), .c (0), .c (0), .c (0), .c (0), .c (0), .c (0), .c (0), .c (0), .c (0), .c (0), .c (0), .c (0), .c (0), .c (0), .c (0), .c (0), .c (0), .c (0), .c (0), .c (0), .c (0), .c (0), .c (0), .c (0), .c (0), .c (0), .c (0), .c (0), .c (0), .c (0), .c (0), .c (0), .c (0), .c (0), .c (0), .c (0), .c (0), .c (0), .c (0)]) (.call 25 (Go.Sx.L2.cRoot).rel [.c (2), .c (64), .c (0), .c (0), .c (3)] [0] 1 1 (.letI (.cmp .neq (.v 11) (.c 0)) (.ite (.v 12) (.fail 180) (.loop [.c (1)] [1] (.letI (.cmp .lss (.v 13) (.v 6)) (.ite (.v 14) (.letI (.sub (.v 13) (.c 1)) (.letI (.rem (.v 15) (.c 2)) (.letI (.rem (.v 13) (.c 2)) (.call 26 (Go.Sx.L2.cDer).rel [.c (2), .c (64), .v 16, .v 15, .v 17, .v 13, .c (3)] [2] 1 1 (.letI (.cmp .neq (.v 18) (.c 0)) (.ite (.v 19) (.exit (.fail 180)) (.letI (.add (.v 13) (.c 1)) (.again [.v 20] [3])))))))) (.exit (.call 47 (Go.Sx.L2.cBelow).rel [.c (2), .c (64), .c (0), .c (0)] [2] 4 1 (.letI (.pick (.v 16) (.v 15) (.c 0)) (.letI (.sub (.v 6) (.c 1)) (.letI (.cmp .neq (.v 19) (.v 20)) (.ite (.v 21) (.fail 180) (.call 49 (Go.Sx.L2.cOf).rel [.c (2), .c (64), .c (3)] [2] 4 1 (.letI (.pick (.v 23) (.v 22) (.c 0)) (.letI (.cmp .neq (.v 6) (.v 26)) (.ite (.v 27) (.fail 180) (.letI (.rem (.v 10) (.c 2)) (.need .geq (.v 10) (.c (-9223372036854775808)) (.need .leq (.v 10) (.c 9223372036854775807) (.call 42 (Go.Sx.L2.cRevoke).rel [.c (2), .c (64), .v 28, .v 10] [2] 5 2 (.letI (.sub (.v 20) (.v 10)) (.letI (.wr .i64 (.v 34)) (.ite (.v 2) (.letL (.lit [.c (0), .c (0), .c (0), .c (0), .c (0), .c (0), .c (0), .c (0), .c (0), .c (0), .c (0), .c (0), .c (0), .c (0), .c (0), .c (0), .c (0), .c (0), .c (0), .c (0), .c (0), .c (0), .c (0), .c (0), .c (0), .c (0), .c (0), .c (0), .c (0), .c (0), .c (0), .c (0), .c (0), .c (0), .c (0), .c (0), .c (0), .c (0), .c (0), .c (0), .c (0), .c (0), .c (0), .c (0), .c (0), .c (0), .c (0), .c (0), .c (0), .c (0), .c (0), .c (0), .c (0), .c (0), .c (0), .c (0), .c (0), .c (0), .c (0), .c (0), .c (0), .c (0), .c (0), .c (0)]) (.call 25 (Go.Sx.L2.cRoot).rel [.c (2), .c (64), .c (0), .c (0), .c (3)] [7] 1 1 (.loop [.c (1)] [8] (.letI (.cmp .lss (.v 37) (.v 6)) (.ite (.v 38) (.letI (.sub (.v 37) (.c 1)) (.letI (.rem (.v 39) (.c 2)) (.letI (.rem (.v 37) (.c 2)) (.call 26 (Go.Sx.L2.cDer).rel [.c (2), .c (64), .v 40, .v 39, .v 41, .v 37, .c (3)] [9] 1 1 (.letI (.add (.v 37) (.c 1)) (.again [.v 43] [10])))))) (.exit (.need .geq (.v 10) (.c (-9223372036854775808)) (.need .leq (.v 10) (.c 9223372036854775807) (.call 43 (Go.Sx.L2.cDrop).rel [.c (2), .c (64), .v 28, .v 10] [9] 5 2 (.letI (.add (.v 35) (.c 1)) (.letI (.wr .i64 (.v 44)) (.letI (.cmp .neq (.v 43) (.c 0)) (.ite (.v 46) (.fail 180) (.letI (.pick (.v 40) (.v 39) (.c 0)) (.letI (.cmp .neq (.v 45) (.v 47)) (.ite (.v 48) (.fail 180) (.loop [.c (0)] [] (.letI (.cmp .lss (.v 49) (.v 6)) (.ite (.v 50) (.letI (.rem (.v 49) (.c 2)) (.call 29 (Go.Sx.L2.cAt).rel [.c (2), .c (64), .v 51, .v 49] [11] 5 0 (.letI (.sub (.v 6) (.v 45)) (.letI (.cmp .lss (.v 49) (.v 57)) (.letI (.not (.v 56)) (.letI (.not (.v 58)) (.letI (.cmp .neq (.v 59) (.v 60)) (.ite (.v 61) (.exit (.fail 180)) (.letI (.add (.v 49) (.c 1)) (.again [.v 62] [])))))))))) (.exit (.call 49 (Go.Sx.L2.cOf).rel [.c (2), .c (64), .c (3)] [11] 4 1 (.letI (.pick (.v 52) (.v 51) (.c 0)) (.letI (.sub (.v 6) (.v 45)) (.letI (.cmp .eql (.v 55) (.v 56)) (.need .neq (.v 57) (.c 0) (.done [] [])))))))))))))))))))))))))) (.letI (.cmp .neq (.v 33) (.c 0)) (.ite (.v 36) (.fail 180) (.letI (.pick (.v 30) (.v 29) (.c 0)) (.letI (.cmp .neq (.v 35) (.v 37)) (.ite (.v 38) (.fail 180) (.loop [.c (0)] [] (.letI (.cmp .lss (.v 39) (.v 6)) (.ite (.v 40) (.letI (.rem (.v 39) (.c 2)) (.call 29 (Go.Sx.L2.cAt).rel [.c (2), .c (64), .v 41, .v 39] [6] 5 0 (.letI (.sub (.v 6) (.v 35)) (.letI (.cmp .lss (.v 39) (.v 47)) (.letI (.not (.v 46)) (.letI (.not (.v 48)) (.letI (.cmp .neq (.v 49) (.v 50)) (.ite (.v 51) (.exit (.fail 180)) (.letI (.add (.v 39) (.c 1)) (.again [.v 52] [])))))))))) (.exit (.call 49 (Go.Sx.L2.cOf).rel [.c (2), .c (64), .c (3)] [6] 4 1 (.letI (.pick (.v 42) (.v 41) (.c 0)) (.letI (.sub (.v 6) (.v 35)) (.letI (.cmp .eql (.v 45) (.v 46)) (.need .neq (.v 47) (.c 0) (.done [] [])))))))))))))))))))))))))))))))))))))))))))))))
theorem CapsChain_tree : (lawSpec L2.f_messuagelaw11_CapsChain [.one (.i .i64), .one (.i .i64), .one .b]).exe Tryz.prog (withS (L2.cfgB Tryz.prog) [L2.cAt, L2.cRoot, L2.cDer, L2.cOf, L2.cBelow, L2.cRevoke, L2.cDrop]) [{ f := L2.f_messuagelaw11_CapsChain, reg := 10, ints := [(9, 1, 7)], lists := [(8, [0], some (-9223372036854775808, 9223372036854775807))] }, { f := L2.f_messuagelaw11_CapsChain, reg := 22, ints := [(14, 1, 7)], lists := [(13, [0], some (-9223372036854775808, 9223372036854775807))] }, { f := L2.f_messuagelaw11_CapsChain, reg := 30, ints := [(15, 0, 7)] }] 20 200 = CapsChain_t := by kernel_rfl
theorem CapsChain_vc (Q : List Int → List (List Int) → Prop) (v0 v1 v2 : Int) : CapsChain_t.dn ⟨Q, []⟩ 3 [v2, v1, v0] 0 [] = ((Go.Sx.L2.yes Go.Sx.L2.f_messuagelaw11_begun).rel.pre [] [] ∧
((Go.Sx.L2.yes Go.Sx.L2.f_messuagelaw11_begun).rel.post [] [] [] [] → ∀ v3 : Int, v3 = (v0).tmod (6 : Int) → ∀ v4 : Int, v4 = v3 + (6 : Int) → ∀ v5 : Int, v5 = (v4).tmod (6 : Int) → ∀ v6 : Int, v6 = (2 : Int) + v5 → ∀ v7 : Int, v7 = (v1).tmod v6 → ∀ v8 : Int, v8 = v7 + v6 → ∀ v9 : Int, v9 = IntKind.wrap .i64 v8 → ∀ v10 : Int, v10 = (v9).tmod v6 → ∀ L0 : List Int, L0 = [(0 : Int), (0 : Int), (0 : Int), (0 : Int), (0 : Int), (0 : Int), (0 : Int), (0 : Int), (0 : Int), (0 : Int), (0 : Int), (0 : Int), (0 : Int), (0 : Int), (0 : Int), (0 : Int), (0 : Int), (0 : Int), (0 : Int), (0 : Int), (0 : Int), (0 : Int), (0 : Int), (0 : Int), (0 : Int), (0 : Int), (0 : Int), (0 : Int), (0 : Int), (0 : Int), (0 : Int), (0 : Int), (0 : Int), (0 : Int), (0 : Int), (0 : Int), (0 : Int), (0 : Int), (0 : Int), (0 : Int), (0 : Int), (0 : Int), (0 : Int), (0 : Int), (0 : Int), (0 : Int), (0 : Int), (0 : Int), (0 : Int), (0 : Int), (0 : Int), (0 : Int), (0 : Int), (0 : Int), (0 : Int), (0 : Int), (0 : Int), (0 : Int), (0 : Int), (0 : Int), (0 : Int), (0 : Int), (0 : Int), (0 : Int)] → (Go.Sx.L2.cRoot).rel.pre [(2 : Int), (64 : Int), (0 : Int), (0 : Int), (3 : Int)] [L0] ∧
(∀ v11 : Int, ∀ L1 : List Int, (Go.Sx.L2.cRoot).rel.post [(2 : Int), (64 : Int), (0 : Int), (0 : Int), (3 : Int)] [L0] [v11] [L1] → ((v11 ≠ (0 : Int)) → False) ∧
((v11 = (0 : Int)) → ∃ (I0 : List Int → List (List Int) → Prop) (μ0 : List Int → List (List Int) → Nat), I0 [(1 : Int)] [L1] ∧
(∀ v13 : Int, ∀ L2 : List Int, I0 [v13] [L2] →
 ((v13 < v6) → ∀ v15 : Int, v15 = v13 - (1 : Int) → ∀ v16 : Int, v16 = (v15).tmod (2 : Int) → ∀ v17 : Int, v17 = (v13).tmod (2 : Int) → (Go.Sx.L2.cDer).rel.pre [(2 : Int), (64 : Int), v16, v15, v17, v13, (3 : Int)] [L2] ∧
(∀ v18 : Int, ∀ L3 : List Int, (Go.Sx.L2.cDer).rel.post [(2 : Int), (64 : Int), v16, v15, v17, v13, (3 : Int)] [L2] [v18] [L3] → ((v18 ≠ (0 : Int)) → False) ∧
((v18 = (0 : Int)) → ∀ v20 : Int, v20 = v13 + (1 : Int) → (I0 [v20] [L3] ∧ μ0 [v20] [L3] < μ0 [v13] [L2])))) ∧
((v6 ≤ v13) → (Go.Sx.L2.cBelow).rel.pre [(2 : Int), (64 : Int), (0 : Int), (0 : Int)] [L2] ∧
(∀ v15 : Int, ∀ v16 : Int, ∀ v17 : Int, ∀ v18 : Int, ∀ L3 : List Int, (Go.Sx.L2.cBelow).rel.post [(2 : Int), (64 : Int), (0 : Int), (0 : Int)] [L2] [v15, v16, v17, v18] [L3] → ∀ v19 : Int, v19 = (if v16 = 0 then (0 : Int) else v15) → ∀ v20 : Int, v20 = v6 - (1 : Int) → ((v19 ≠ v20) → False) ∧
((v19 = v20) → (Go.Sx.L2.cOf).rel.pre [(2 : Int), (64 : Int), (3 : Int)] [L2] ∧
(∀ v22 : Int, ∀ v23 : Int, ∀ v24 : Int, ∀ v25 : Int, ∀ L4 : List Int, (Go.Sx.L2.cOf).rel.post [(2 : Int), (64 : Int), (3 : Int)] [L2] [v22, v23, v24, v25] [L4] → ∀ v26 : Int, v26 = (if v23 = 0 then (0 : Int) else v22) → ((v6 ≠ v26) → False) ∧
((v6 = v26) → ∀ v28 : Int, v28 = (v10).tmod (2 : Int) → (((-9223372036854775808) : Int) ≤ v10) ∧ (v10 ≤ (9223372036854775807 : Int)) ∧ (Go.Sx.L2.cRevoke).rel.pre [(2 : Int), (64 : Int), v28, v10] [L2] ∧
(∀ v29 : Int, ∀ v30 : Int, ∀ v31 : Int, ∀ v32 : Int, ∀ v33 : Int, ∀ L5 : List Int, ∀ L6 : List Int, (Go.Sx.L2.cRevoke).rel.post [(2 : Int), (64 : Int), v28, v10] [L2] [v29, v30, v31, v32, v33] [L5, L6] → ∀ v34 : Int, v34 = v20 - v10 → ∀ v35 : Int, v35 = IntKind.wrap .i64 v34 → (v2 ≠ 0 → ∀ L7 : List Int, L7 = [(0 : Int), (0 : Int), (0 : Int), (0 : Int), (0 : Int), (0 : Int), (0 : Int), (0 : Int), (0 : Int), (0 : Int), (0 : Int), (0 : Int), (0 : Int), (0 : Int), (0 : Int), (0 : Int), (0 : Int), (0 : Int), (0 : Int), (0 : Int), (0 : Int), (0 : Int), (0 : Int), (0 : Int), (0 : Int), (0 : Int), (0 : Int), (0 : Int), (0 : Int), (0 : Int), (0 : Int), (0 : Int), (0 : Int), (0 : Int), (0 : Int), (0 : Int), (0 : Int), (0 : Int), (0 : Int), (0 : Int), (0 : Int), (0 : Int), (0 : Int), (0 : Int), (0 : Int), (0 : Int), (0 : Int), (0 : Int), (0 : Int), (0 : Int), (0 : Int), (0 : Int), (0 : Int), (0 : Int), (0 : Int), (0 : Int), (0 : Int), (0 : Int), (0 : Int), (0 : Int), (0 : Int), (0 : Int), (0 : Int), (0 : Int)] → (Go.Sx.L2.cRoot).rel.pre [(2 : Int), (64 : Int), (0 : Int), (0 : Int), (3 : Int)] [L7] ∧
(∀ v36 : Int, ∀ L8 : List Int, (Go.Sx.L2.cRoot).rel.post [(2 : Int), (64 : Int), (0 : Int), (0 : Int), (3 : Int)] [L7] [v36] [L8] → ∃ (I1 : List Int → List (List Int) → Prop) (μ1 : List Int → List (List Int) → Nat), I1 [(1 : Int)] [L8] ∧
(∀ v37 : Int, ∀ L9 : List Int, I1 [v37] [L9] →
 ((v37 < v6) → ∀ v39 : Int, v39 = v37 - (1 : Int) → ∀ v40 : Int, v40 = (v39).tmod (2 : Int) → ∀ v41 : Int, v41 = (v37).tmod (2 : Int) → (Go.Sx.L2.cDer).rel.pre [(2 : Int), (64 : Int), v40, v39, v41, v37, (3 : Int)] [L9] ∧
(∀ v42 : Int, ∀ L10 : List Int, (Go.Sx.L2.cDer).rel.post [(2 : Int), (64 : Int), v40, v39, v41, v37, (3 : Int)] [L9] [v42] [L10] → ∀ v43 : Int, v43 = v37 + (1 : Int) → (I1 [v43] [L10] ∧ μ1 [v43] [L10] < μ1 [v37] [L9]))) ∧
((v6 ≤ v37) → (((-9223372036854775808) : Int) ≤ v10) ∧ (v10 ≤ (9223372036854775807 : Int)) ∧ (Go.Sx.L2.cDrop).rel.pre [(2 : Int), (64 : Int), v28, v10] [L9] ∧
(∀ v39 : Int, ∀ v40 : Int, ∀ v41 : Int, ∀ v42 : Int, ∀ v43 : Int, ∀ L10 : List Int, ∀ L11 : List Int, (Go.Sx.L2.cDrop).rel.post [(2 : Int), (64 : Int), v28, v10] [L9] [v39, v40, v41, v42, v43] [L10, L11] → ∀ v44 : Int, v44 = v35 + (1 : Int) → ∀ v45 : Int, v45 = IntKind.wrap .i64 v44 → ((v43 ≠ (0 : Int)) → False) ∧
((v43 = (0 : Int)) → ∀ v47 : Int, v47 = (if v40 = 0 then (0 : Int) else v39) → ((v45 ≠ v47) → False) ∧
((v45 = v47) → ∃ (I2 : List Int → List (List Int) → Prop) (μ2 : List Int → List (List Int) → Nat), I2 [(0 : Int)] [] ∧
(∀ v49 : Int, I2 [v49] [] →
 ((v49 < v6) → ∀ v51 : Int, v51 = (v49).tmod (2 : Int) → (Go.Sx.L2.cAt).rel.pre [(2 : Int), (64 : Int), v51, v49] [L11] ∧
(∀ v52 : Int, ∀ v53 : Int, ∀ v54 : Int, ∀ v55 : Int, ∀ v56 : Int, (Go.Sx.L2.cAt).rel.post [(2 : Int), (64 : Int), v51, v49] [L11] [v52, v53, v54, v55, v56] [] → ∀ v57 : Int, v57 = v6 - v45 → ∀ v58 : Int, v58 = b2i (decide (v49 < v57)) → ∀ v59 : Int, v59 = b2i (v56 == 0) → ∀ v60 : Int, v60 = b2i (v58 == 0) → ((v59 ≠ v60) → False) ∧
((v59 = v60) → ∀ v62 : Int, v62 = v49 + (1 : Int) → (I2 [v62] [] ∧ μ2 [v62] [] < μ2 [v49] [])))) ∧
((v6 ≤ v49) → (Go.Sx.L2.cOf).rel.pre [(2 : Int), (64 : Int), (3 : Int)] [L11] ∧
(∀ v51 : Int, ∀ v52 : Int, ∀ v53 : Int, ∀ v54 : Int, ∀ L12 : List Int, (Go.Sx.L2.cOf).rel.post [(2 : Int), (64 : Int), (3 : Int)] [L11] [v51, v52, v53, v54] [L12] → ∀ v55 : Int, v55 = (if v52 = 0 then (0 : Int) else v51) → ∀ v56 : Int, v56 = v6 - v45 → ∀ v57 : Int, v57 = b2i (v55 == v56) → (v57 ≠ (0 : Int)) ∧ Q [] [])))))))))) ∧
(v2 = 0 → ((v33 ≠ (0 : Int)) → False) ∧
((v33 = (0 : Int)) → ∀ v37 : Int, v37 = (if v30 = 0 then (0 : Int) else v29) → ((v35 ≠ v37) → False) ∧
((v35 = v37) → ∃ (I1 : List Int → List (List Int) → Prop) (μ1 : List Int → List (List Int) → Nat), I1 [(0 : Int)] [] ∧
(∀ v39 : Int, I1 [v39] [] →
 ((v39 < v6) → ∀ v41 : Int, v41 = (v39).tmod (2 : Int) → (Go.Sx.L2.cAt).rel.pre [(2 : Int), (64 : Int), v41, v39] [L6] ∧
(∀ v42 : Int, ∀ v43 : Int, ∀ v44 : Int, ∀ v45 : Int, ∀ v46 : Int, (Go.Sx.L2.cAt).rel.post [(2 : Int), (64 : Int), v41, v39] [L6] [v42, v43, v44, v45, v46] [] → ∀ v47 : Int, v47 = v6 - v35 → ∀ v48 : Int, v48 = b2i (decide (v39 < v47)) → ∀ v49 : Int, v49 = b2i (v46 == 0) → ∀ v50 : Int, v50 = b2i (v48 == 0) → ((v49 ≠ v50) → False) ∧
((v49 = v50) → ∀ v52 : Int, v52 = v39 + (1 : Int) → (I1 [v52] [] ∧ μ1 [v52] [] < μ1 [v39] [])))) ∧
((v6 ≤ v39) → (Go.Sx.L2.cOf).rel.pre [(2 : Int), (64 : Int), (3 : Int)] [L6] ∧
(∀ v41 : Int, ∀ v42 : Int, ∀ v43 : Int, ∀ v44 : Int, ∀ L7 : List Int, (Go.Sx.L2.cOf).rel.post [(2 : Int), (64 : Int), (3 : Int)] [L6] [v41, v42, v43, v44] [L7] → ∀ v45 : Int, v45 = (if v42 = 0 then (0 : Int) else v41) → ∀ v46 : Int, v46 = v6 - v35 → ∀ v47 : Int, v47 = b2i (v45 == v46) → (v47 ≠ (0 : Int)) ∧ Q [] []))))))))))))))))) := by kernel_rfl
set_option maxHeartbeats 4000000 in
theorem capsChain_holds0 : (lawSpec L2.f_messuagelaw11_CapsChain [.one (.i .i64), .one (.i .i64), .one .b]).Holds Tryz.prog L2.ro := FSpec.holdsV (cfg := withS (L2.cfgB Tryz.prog) [L2.cAt, L2.cRoot, L2.cDer, L2.cOf, L2.cBelow, L2.cRevoke, L2.cDrop]) [{ f := L2.f_messuagelaw11_CapsChain, reg := 10, ints := [(9, 1, 7)], lists := [(8, [0], some (-9223372036854775808, 9223372036854775807))] }, { f := L2.f_messuagelaw11_CapsChain, reg := 22, ints := [(14, 1, 7)], lists := [(13, [0], some (-9223372036854775808, 9223372036854775807))] }, { f := L2.f_messuagelaw11_CapsChain, reg := 30, ints := [(15, 0, 7)] }] 20 200 (withS_ok cfgB_ok ⟨cAt_holds, cRoot_holds, cDer_holds, cOf_holds, cBelow_holds, cRevoke_holds, cDrop_holds, trivial⟩) mixed (t := CapsChain_t) CapsChain_tree (by
  show ∀ (v0 v1 v2 : Int) , _
  intro v0 v1 v2  hp hr hl
  replace hr : ((-9223372036854775808 : Int) ≤ v0 ∧ v0 ≤ (9223372036854775807 : Int)) ∧ ((-9223372036854775808 : Int) ≤ v1 ∧ v1 ≤ (9223372036854775807 : Int)) ∧ ((0 : Int) ≤ v2 ∧ v2 ≤ (1 : Int)) ∧ True := hr
  replace hp : True := hp
  show CapsChain_t.dn ⟨_, []⟩ 3 [v2, v1, v0] 0 []
  rw [CapsChain_vc]
  show ((L2.yes L2.f_messuagelaw11_begun).rel.pre [] [] ∧ _)
  refine ⟨trivial, fun _ => ?_⟩
  intro v3 e3 v4 e4 v5 e5 v6 e6 v7 e7 v8 e8 v9 e9 v10 e10
  have r3 := tmodR (x := v0) (m := 6) (by omega)
  have r5 := tmodP (x := v4) (m := 6) (by omega) (by omega)
  have r7 := tmodR (x := v1) (m := v6) (by omega)
  have w9 := wrapI v8
  have r10 := tmodP (x := v9) (m := v6) (by omega) (by omega)
  have hn : 2 ≤ v6 ∧ v6 ≤ 7 := by omega
  have ha : 0 ≤ v10 ∧ v10 < v6 := by omega
  clear r3 r5 r7 w9 r10 e3 e4 e5 e6 e7 e8 e9 e10 hr hp hl
  obtain ⟨n, rfl⟩ : ∃ m : Nat, v6 = (m : Int) + 1 := ⟨(v6 - 1).toNat, by omega⟩
  obtain ⟨a, rfl⟩ : ∃ m : Nat, v10 = m := ⟨v10.toNat, by omega⟩
  have F := ch_st (n := n) (a := a) (by omega) (by omega)
  have step : ∀ i : Nat, i < n → ∀ x T', (L2.cDer).rel.post [(2 : Int), 64, ((i : Int) + 1 - 1).tmod 2, (i : Int) + 1 - 1, ((i : Int) + 1).tmod 2, (i : Int) + 1, 3] [chT i] [x] [T'] → x = 0 ∧ T' = chT (i + 1) := by
    intro i hi x T' hD
    rw [show (i : Int) + 1 - 1 = i by omega] at hD
    have hd := cder_post hD
    have hz := ch_der i (by omega)
    rw [hz] at hd
    exact ⟨hd.1, hd.2⟩
  intro L0 e0
  refine ⟨rfl, ?_⟩
  intro e T0 h0
  have h0' := croot_post h0
  have hT0 : T0 = chT 0 := by rw [h0'.2, e0]; rfl
  have he0 : e = 0 := by rw [h0'.1, e0]; decide +kernel
  clear e0 h0 h0'
  refine ⟨fun c => absurd he0 c, fun _ => ?_⟩
  refine ⟨fun xs ys => match xs, ys with | [i], [T] => 1 ≤ i ∧ i ≤ n + 1 ∧ T = chT (i - 1).toNat | _, _ => False, fun xs _ => match xs with | i :: _ => ((n : Int) + 1 - i).toNat | _ => 0, ?_, ?_⟩ <;> dsimp only
  · exact ⟨by omega, by omega, hT0⟩
  · intro i T hI
    obtain ⟨i0, i1, hT⟩ := hI
    obtain ⟨i, rfl⟩ : ∃ m : Nat, i = (m : Int) + 1 := ⟨(i - 1).toNat, by omega⟩
    rw [show ((i : Int) + 1 - 1).toNat = i by omega] at hT
    refine ⟨fun c1 => ?_, fun c1 => ?_⟩
    · intro x1 f1 x2 f2 x3 f3
      refine ⟨rfl, ?_⟩
      intro x T' hD
      rw [hT, f3, f2, f1] at hD
      have hd := step i (by omega) x T' hD
      refine ⟨fun c => absurd hd.1 c, fun _ => ?_⟩
      intro j ej
      refine ⟨⟨by omega, by omega, ?_⟩, by omega⟩
      rw [ej, show ((i : Int) + 1 + 1 - 1).toNat = i + 1 by omega]; exact hd.2
    · have hi : i = n := by omega
      subst hi
      subst hT
      refine ⟨⟨rfl, F.cv⟩, ?_⟩
      intro a2 r2 d2 t2 W2 hS
      have s := cbelow_post hS
      have sl := s.len
      rw [F.below] at sl
      intro u eu w ew
      have hu := vecl s.a0 s.room eu
      refine ⟨fun c => absurd (by omega) c, fun _ => ⟨rfl, ?_⟩⟩
      intro a3 r3 d3 t3 W3 hO
      have o := cof_post hO
      have ol := o.len
      rw [F.of] at ol
      intro p ep
      have hpp := vecl o.a0 o.room ep
      refine ⟨fun c => absurd (by omega) c, fun _ => ?_⟩
      intro q eq
      subst eq
      refine ⟨by omega, by omega, ⟨rfl, F.cv⟩, ?_⟩
      intro a4 r4 d4 t4 err W4 T1 hG
      have g := cgo_post hG
      have gok := g.ok F.look
      have hT1 : T1 = chRev i a := gok.2
      have glen := g.len
      rw [gok.1, F.rev] at glen
      have g4 := g.err
      rw [F.look] at g4
      intro m em k ek
      have wk := wrapI m
      have hk : k = (i : Int) - a := by omega
      clear wk ek
      -- what is left, by either way
      have last : ∀ (T : List Int) (gone left : Nat), (gone : Int) + left = (i : Int) + 1 → (∀ j, j < i + 1 → capOk 2 T ((j : Int).tmod 2) j = decide (j < left)) → ∀ j : Int, 0 ≤ j → j < (i : Int) + 1 → ∀ y, y = j.tmod 2 → ∀ f r pe ps ok : Int, (L2.cAt).rel.post [2, 64, y, j] [T] [f, r, pe, ps, ok] [] → ∀ z, z = (i : Int) + 1 - gone → ∀ b1, b1 = b2i (decide (j < z)) → ∀ b2, b2 = b2i (ok == 0) → ∀ b3, b3 = b2i (b1 == 0) → b2 = b3 := by
        intro T gone left hgl hc j j0 j1 y ey f r pe ps ok hA z ez b1 f1 b2 f2 b3 f3
        obtain ⟨j, rfl⟩ : ∃ n : Nat, j = n := ⟨j.toNat, by omega⟩
        have hA := (cat_post hA).2.2.2.2
        rw [ey, hc j (by omega)] at hA
        rw [f2, f3, f1, hA]
        by_cases hj : j < left
        · rw [decide_eq_true hj, decide_eq_true (by omega)]
        · rw [decide_eq_false hj, decide_eq_false (by omega)]
      refine ⟨fun _ => ?_, fun _ => ?_⟩
      · -- dropped
        intro L7 e7
        refine ⟨rfl, ?_⟩
        intro e' T0' h0
        have hT0' : T0' = chT 0 := by rw [(croot_post h0).2, e7]; rfl
        clear e7 h0
        refine ⟨fun xs ys => match xs, ys with | [j], [T] => 1 ≤ j ∧ j ≤ (i : Int) + 1 ∧ T = chT (j - 1).toNat | _, _ => False, fun xs _ => match xs with | j :: _ => ((i : Int) + 1 - j).toNat | _ => 0, ?_, ?_⟩ <;> dsimp only
        · exact ⟨by omega, by omega, hT0'⟩
        · intro j T hJ
          obtain ⟨j0, j1, hT⟩ := hJ
          obtain ⟨j, rfl⟩ : ∃ m : Nat, j = (m : Int) + 1 := ⟨(j - 1).toNat, by omega⟩
          rw [show ((j : Int) + 1 - 1).toNat = j by omega] at hT
          refine ⟨fun c2 => ?_, fun c2 => ?_⟩
          · intro x1 f1 x2 f2 x3 f3
            refine ⟨rfl, ?_⟩
            intro x T' hD
            rw [hT, f3, f2, f1] at hD
            have hd := step j (by omega) x T' hD
            intro y ey
            refine ⟨⟨by omega, by omega, ?_⟩, by omega⟩
            rw [ey, show ((j : Int) + 1 + 1 - 1).toNat = j + 1 by omega]; exact hd.2
          · have hj : j = i := by omega
            subst hj
            subst hT
            refine ⟨by omega, by omega, ⟨rfl, F.cv⟩, ?_⟩
            intro a5 r5 d5 t5 err2 W5 T2 hG2
            have g' := cgo_post hG2
            have gok' := g'.ok F.look
            have hT2 : T2 = chDrop j a := gok'.2
            have glen' := g'.len
            rw [gok'.1, F.drop] at glen'
            have g4' := g'.err
            rw [F.look] at g4'
            intro x1 f1 x2 f2
            have wx := wrapI x1
            have hx2 : x2 = (j : Int) + 1 - a := by omega
            clear wx f2 f1
            refine ⟨fun c => absurd g4' c, fun _ => ?_⟩
            intro y ey
            have hy := vecl g'.a0 g'.room ey
            refine ⟨fun c => absurd (by omega) c, fun _ => ?_⟩
            refine ⟨fun xs _ => match xs with | [i] => 0 ≤ i | _ => False, fun xs _ => match xs with | i :: _ => ((j : Int) + 1 - i).toNat | _ => 0, ?_, ?_⟩ <;> dsimp only
            · omega
            · intro z hz
              refine ⟨fun c3 => ?_, fun c3 => ?_⟩
              · intro y1 f1
                refine ⟨rfl, ?_⟩
                intro f r pe ps ok hA
                intro z1 ez1 b1 fb1 b2 fb2 b3 fb3
                rw [hT2] at hA
                have L := last (chDrop j a) (j + 1 - a) a (by omega) (fun q hq => (F.caps q hq).2) z hz c3 y1 f1 f r pe ps ok hA z1 (by omega) b1 fb1 b2 fb2 b3 fb3
                refine ⟨fun c => absurd L c, fun _ => ?_⟩
                intro q1 eq1
                omega
              · refine ⟨rfl, ?_⟩
                intro a6 r6 d6 t6 W6 hO6
                rw [hT2] at hO6
                have o6 := cof_post hO6
                have ol6 := o6.len
                rw [F.of2] at ol6
                intro p6 ep6 x6 ex6 z6 ez6
                have hp6 := vecl o6.a0 o6.room ep6
                refine ⟨?_, trivial⟩
                rw [ez6, show p6 = x6 by omega]; simp [b2i]
      · refine ⟨fun c => absurd g4 c, fun _ => ?_⟩
        intro y ey
        have hy := vecl g.a0 g.room ey
        refine ⟨fun c => absurd (by omega) c, fun _ => ?_⟩
        refine ⟨fun xs _ => match xs with | [j] => 0 ≤ j | _ => False, fun xs _ => match xs with | j :: _ => ((i : Int) + 1 - j).toNat | _ => 0, ?_, ?_⟩ <;> dsimp only
        · omega
        · intro z hz
          refine ⟨fun c3 => ?_, fun c3 => ?_⟩
          · intro y1 f1
            refine ⟨rfl, ?_⟩
            intro f r pe ps ok hA
            intro z1 ez1 b1 fb1 b2 fb2 b3 fb3
            rw [hT1] at hA
            have L := last (chRev i a) (i - a) (a + 1) (by omega) (fun q hq => (F.caps q hq).1) z hz c3 y1 f1 f r pe ps ok hA z1 (by omega) b1 fb1 b2 fb2 b3 fb3
            refine ⟨fun c => absurd L c, fun _ => ?_⟩
            intro q1 eq1
            omega
          · refine ⟨rfl, ?_⟩
            intro a6 r6 d6 t6 W6 hO6
            rw [hT1] at hO6
            have o6 := cof_post hO6
            have ol6 := o6.len
            rw [F.of1] at ol6
            intro p6 ep6 x6 ex6 z6 ez6
            have hp6 := vecl o6.a0 o6.room ep6
            refine ⟨?_, trivial⟩
            rw [ez6, show p6 = x6 by omega]; simp [b2i])
theorem capsChain_holds : ((lawSpec L2.f_messuagelaw11_CapsChain [.one (.i .i64), .one (.i .i64), .one .b]).withPre fun _ => True).Holds Tryz.prog L2.ro := holds_withPre _ capsChain_holds0

theorem capsChain_calls {H : Type} {enc : TypeId × Value → H} {W : World} {base : Nat} {args : Array Value} {ds : List (DataW H)} {p : List MemPlace} (hval : ∀ (j : Nat) t v, Tryz.f11.params[j]? = some t → args[j]? = some v → Value.okWide Tryz.prog W .any base t v)
    (hA : DataW.TrodAll enc Tryz.prog W 0 (fun _ => true) true Tryz.f11.params.toList args.toList ds p) (hL : laidMetH Tryz.prog laid1 W) : Calls Tryz.prog 11 args W fun e W' => e = .returned (.bool true) ∧ Go.Sx.Frame ⟨W, [], L2.ro⟩ W' := by
  rw [Tryz.params11] at hA hval
  obtain ⟨v0, v1, v2, d0, d1, d2, p0, p1, p2, rfl, rfl, rfl, h0, h1, h2⟩ := trodAll_three hA
  obtain ⟨n0, q0⟩ := par_int (base := 0) und3 (hval 0 3 v0 rfl rfl) h0
  obtain ⟨n1, q1⟩ := par_int (base := 0) und3 (hval 1 3 v1 rfl rfl) h1
  obtain ⟨n2, q2⟩ := par_bool (base := 0) und4 (hval 2 4 v2 rfl rfl) h2
  exact law_calls (capsChain_holds) Tryz.func11 (show Tryz.f11.body = some _ from rfl) (by kernel_rfl) (.cons q0 (.cons q1 (.cons q2 .none))) trivial (ro_of_laid hL)
set_option maxHeartbeats 1000000 in
theorem capsChain_lifted (os : Os) (started : os.Started) (H : Type) (enc : TypeId × Value → H) :
    ReturnsInHanded {} Tryz.checked os 11 .any (fun w args => (Rows.capsChainSpec.pre enc Tryz.prog Tryz.f11 [] false w args ∧ laidMetH Tryz.prog laid1 w) ∧ sizedMet enc Tryz.prog Tryz.f11 (OpenSpec.ofChange Rows.capsChainSpec) false w args)
      (Rows.capsChainSpec.post enc Tryz.prog Tryz.f11 false true false false) := by
  refine returnsInHanded_of_change_and (C := Tryz.checked) (X := fun w _ => laidMetH Tryz.prog laid1 w) (fun _ _ _ hh h => h.of_heap hh) Tryz.own started (by kernel_rfl) Tryz.func11
    (ChangeSpec.witness_at (enc := enc) (C := Tryz.checked) (os := os) (X := fun w _ => laidMetH Tryz.prog laid1 w) false (laidWorld os) #[.int .i64 0, .int .i64 0, .bool false] 8 rfl (by kernel_rfl) (by kernel_rfl) (by kernel_rfl) (by kernel_rfl) (by kernel_rfl) (laidWorld_met os _)) ?_
  intro W base args ds gs before hval0 hW _ _ hL _
  have hval : ∀ (j : Nat) t v, Tryz.f11.params[j]? = some t → args[j]? = some v → Value.okWide Tryz.prog W .any base t v := hval0
  have hW' := hW
  obtain ⟨p, q, hA0, hV0, rfl, hfz, hnd⟩ := hW
  have hcall := capsChain_calls (enc := enc) hval hA0 hL
  refine Calls.mono hcall ?_
  rintro e W' ⟨rfl, hfr⟩
  exact ⟨_, rfl, post_kept Tryz.laidOut (by kernel_rfl) rfl rfl und4 hW' hfr (by
    have hg : gs = [] := by cases gs with | nil => rfl | cons g r => exact absurd hV0 (by intro h; cases h)
    subst hg
    have hA1 : DataW.TrodAll enc Tryz.prog W 0 (fun _ => true) true Tryz.f11.params.toList args.toList ds p := hA0
    rw [Tryz.params11] at hA1
    obtain ⟨v0, v1, v2, d0, d1, d2, p0, p1, p2, ea, rfl, ec, h0, h1, h2⟩ := trodAll_three hA1
    rfl)⟩

theorem capsChain_row : Rows.CapsChainSaid :=
  OpenClaim.holds_of_wide 11 Tryz.f11 rfl rfl rfl rfl rfl rfl rfl ⟨rfl, rfl, rfl, rfl, rfl⟩ rfl rfl rfl rfl rfl (by kernel_rfl) Tryz.func11 (restFacts.2 _ _ _ _ _ Tryz.mayEnter Tryz.liftsFinal Tryz.make (by kernel_rfl))
    (of_decide_eq_true (by kernel_rfl)) (by unfold Func.isWrapper; rw [if_neg (of_decide_eq_false (by kernel_rfl))]; exact ⟨rfl, rfl⟩)
    (fun os started H enc _ => capsChain_lifted os started H enc)
theorem capsChain_card : Rows.CapsChainCardSaid :=
  Claim7.holds_tied_plain_at .later [] [.handle] true (true, "2b6aa8c52f26a36866b589049fd1d65802bdae42632cc16d24d227b9428605b6") true
    capsChain_row (fun _ h => by cases h) (by kernel_rfl) (fun _ h => by cases h) capsChain_row_tie rfl ⟨rfl, rfl⟩ Tryz.mainIs rfl
    (fun f fn hf hfn => by
      obtain rfl : f = 11 := Option.some.inj ((show Tryz.prog.funcNamed "messuage/messuagelaw11.CapsChain" = some 11 by kernel_rfl).symm.trans hf) |>.symm
      obtain rfl : fn = Tryz.f11 := (Option.some.inj (Tryz.func11.symm.trans hfn)).symm
      exact ⟨by kernel_rfl, fun j t ht => by
        rw [Tryz.params11] at ht
        rcases j with _ | _ | _ | j
        · obtain rfl : 3 = t := by simpa using ht
          exact (show Tryz.prog.wantsStandIn 3 = false by kernel_rfl)
        · obtain rfl : 3 = t := by simpa using ht
          exact (show Tryz.prog.wantsStandIn 3 = false by kernel_rfl)
        · obtain rfl : 4 = t := by simpa using ht
          exact (show Tryz.prog.wantsStandIn 4 = false by kernel_rfl)
        · simp at ht⟩)
    (by kernel_rfl)
#print axioms capsChain_card
end Go.Proofs.YtegeplgckfpleaaGreatDoor
