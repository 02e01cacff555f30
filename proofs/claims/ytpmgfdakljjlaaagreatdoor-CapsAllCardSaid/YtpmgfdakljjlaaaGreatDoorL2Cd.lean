/- Contract: a capability and what is below it go. -/
import Derived.Test.YtpmgfdakljjlaaaGreatDoorL2Ca
import Derived.Test.YtpmgfdakljjlaaaGreatDoorL2Ce
set_option linter.unusedVariables false
set_option linter.constructorNameAsVariable false
set_option linter.unusedSimpArgs false
open Go Go.Sx
namespace Go.Proofs.YtpmgfdakljjlaaaGreatDoor
set_option maxRecDepth 100000
theorem cd_ok : (withS (L2.cfg Tryz.prog) [L2.cLook, L2.cUnder, L2.cEmp]).Ok Tryz.prog := withS_ok cfg_ok ⟨cLook_holds, cUnder_holds, cEmp_holds, trivial⟩
noncomputable def cDrop_t : Tree := .call 56 (Go.Sx.L2.cLook).rel [.v 0, .v 1, .v 2, .v 3] [0] 1 0 (.letI (.cmp .neq (.v 4) (.c 0)) (.ite (.v 5) (.letL (.lit []) (.done [.c (0), .c (0), .c (0), .c (0), .v 4] [1, 0])) (.letL (.lit []) (.loop [.c (0), .c (0), .c (0), .c (0), .c (0)] [1] (.letI (.cmp .lss (.v 6) (.v 0)) (.ite (.v 11) (.need .lss (.v 6) (.v 0) (.letI (.mul (.v 6) (.c 32)) (.need .lss (.v 12) (.v 1) (.letI (.get 0 (.v 12)) (.letI (.add (.v 12) (.c 1)) (.need .lss (.v 14) (.v 1) (.letI (.get 0 (.v 14)) (.letI (.add (.v 12) (.c 2)) (.need .lss (.v 16) (.v 1) (.letI (.get 0 (.v 16)) (.letI (.add (.v 12) (.c 3)) (.need .lss (.v 18) (.v 1) (.letI (.get 0 (.v 18)) (.letI (.add (.v 12) (.c 4)) (.need .lss (.v 20) (.v 1) (.letI (.get 0 (.v 20)) (.letI (.add (.v 12) (.c 5)) (.need .lss (.v 22) (.v 1) (.letI (.get 0 (.v 22)) (.letI (.add (.v 12) (.c 6)) (.need .lss (.v 24) (.v 1) (.letI (.get 0 (.v 24)) (.letI (.add (.v 12) (.c 7)) (.need .lss (.v 26) (.v 1) (.letI (.get 0 (.v 26)) (.letI (.add (.v 12) (.c 8)) (.need .lss (.v 28) (.v 1) (.letI (.get 0 (.v 28)) (.letI (.add (.v 12) (.c 9)) (.need .lss (.v 30) (.v 1) (.letI (.get 0 (.v 30)) (.letI (.add (.v 12) (.c 10)) (.need .lss (.v 32) (.v 1) (.letI (.get 0 (.v 32)) (.letI (.add (.v 12) (.c 11)) (.need .lss (.v 34) (.v 1) (.letI (.get 0 (.v 34)) (.letI (.add (.v 12) (.c 12)) (.need .lss (.v 36) (.v 1) (.letI (.get 0 (.v 36)) (.letI (.add (.v 12) (.c 13)) (.need .lss (.v 38) (.v 1) (.letI (.get 0 (.v 38)) (.letI (.add (.v 12) (.c 14)) (.need .lss (.v 40) (.v 1) (.letI (.get 0 (.v 40)) (.letI (.add (.v 12) (.c 15)) (.need .lss (.v 42) (.v 1) (.letI (.get 0 (.v 42)) (.letI (.add (.v 12) (.c 16)) (.need .lss (.v 44) (.v 1) (.letI (.get 0 (.v 44)) (.letI (.add (.v 12) (.c 17)) (.need .lss (.v 46) (.v 1) (.letI (.get 0 (.v 46)) (.letI (.add (.v 12) (.c 18)) (.need .lss (.v 48) (.v 1) (.letI (.get 0 (.v 48)) (.letI (.add (.v 12) (.c 19)) (.need .lss (.v 50) (.v 1) (.letI (.get 0 (.v 50)) (.letI (.add (.v 12) (.c 20)) (.need .lss (.v 52) (.v 1) (.letI (.get 0 (.v 52)) (.letI (.add (.v 12) (.c 21)) (.need .lss (.v 54) (.v 1) (.letI (.get 0 (.v 54)) (.letI (.add (.v 12) (.c 22)) (.need .lss (.v 56) (.v 1) (.letI (.get 0 (.v 56)) (.letI (.add (.v 12) (.c 23)) (.need .lss (.v 58) (.v 1) (.letI (.get 0 (.v 58)) (.letI (.add (.v 12) (.c 24)) (.need .lss (.v 60) (.v 1) (.letI (.get 0 (.v 60)) (.letI (.add (.v 12) (.c 25)) (.need .lss (.v 62) (.v 1) (.letI (.get 0 (.v 62)) (.letI (.add (.v 12) (.c 26)) (.need .lss (.v 64) (.v 1) (.letI (.get 0 (.v 64)) (.letI (.add (.v 12) (.c 27)) (.need .lss (.v 66) (.v 1) (.letI (.get 0 (.v 66)) (.letI (.add (.v 12) (.c 28)) (.need .lss (.v 68) (.v 1) (.letI (.get 0 (.v 68)) (.letI (.add (.v 12) (.c 29)) (.need .lss (.v 70) (.v 1) (.letI (.get 0 (.v 70)) (.letI (.add (.v 12) (.c 30)) (.need .lss (.v 72) (.v 1) (.letI (.get 0 (.v 72)) (.letI (.add (.v 12) (.c 31)) (.need .lss (.v 74) (.v 1) (.letI (.get 0 (.v 74)) (.loop [.c (0), .v 7, .v 8, .v 9, .v 10] [2] (.letI (.cmp .lss (.v 76) (.c 8)) (.ite (.v 81) (.letI (.mul (.v 76) (.c 4)) (.letI (.add (.v 82) (.c 4)) (.letL (.lit [.v 13, .v 15, .v 17, .v 19, .v 21, .v 23, .v 25, .v 27, .v 29, .v 31, .v 33, .v 35, .v 37, .v 39, .v 41, .v 43, .v 45, .v 47, .v 49, .v 51, .v 53, .v 55, .v 57, .v 59, .v 61, .v 63, .v 65, .v 67, .v 69, .v 71, .v 73, .v 75]) (.letI (.get 4 (.v 82)) (.letI (.add (.v 82) (.c 1)) (.letI (.get 4 (.v 85)) (.letI (.add (.v 82) (.c 2)) (.letI (.get 4 (.v 87)) (.letI (.add (.v 82) (.c 3)) (.letI (.get 4 (.v 89)) (.letI (.cmp .neq (.v 86) (.c 0)) (.ite (.v 91) (.letI (.cmp .eql (.v 2) (.v 6)) (.letI (.cmp .eql (.v 3) (.v 76)) (.letI (.pick (.v 93) (.c 1) (.c 0)) (.letI (.pick (.v 92) (.v 94) (.c 0)) (.ite (.v 95) (.letL (.lit [.v 6, .v 76]) (.letI (.add (.v 77) (.c 1)) (.need .leq (.v 96) (.c 1000000) (.need .leq (.v 77) (.v 78) (.letI (.mul (.v 77) (.c 2)) (.need .leq (.v 97) (.v 79) (.letI (.mul (.v 78) (.c 2)) (.need .eql (.v 98) (.v 80) (.letL (.take 3 (.v 97)) (.letL (.app 6 5) (.any (.v 96) (.c 9223372036854775807) (.letI (.mul (.v 96) (.c 2)) (.letI (.mul (.v 99) (.c 2)) (.letI (.add (.v 76) (.c 1)) (.need .leq (.v 100) (.c 1000000) (.again [.v 102, .v 96, .v 99, .v 100, .v 101] [7])))))))))))))))) (.call 60 (Go.Sx.L2.cUnder).rel [.v 0, .v 1, .v 84, .v 86, .v 88, .v 90, .v 2, .v 3] [0] 1 0 (.ite (.v 96) (.letL (.lit [.v 6, .v 76]) (.letI (.add (.v 77) (.c 1)) (.need .leq (.v 97) (.c 1000000) (.need .leq (.v 77) (.v 78) (.letI (.mul (.v 77) (.c 2)) (.need .leq (.v 98) (.v 79) (.letI (.mul (.v 78) (.c 2)) (.need .eql (.v 99) (.v 80) (.letL (.take 3 (.v 98)) (.letL (.app 6 5) (.any (.v 97) (.c 9223372036854775807) (.letI (.mul (.v 97) (.c 2)) (.letI (.mul (.v 100) (.c 2)) (.letI (.add (.v 76) (.c 1)) (.need .leq (.v 101) (.c 1000000) (.again [.v 103, .v 97, .v 100, .v 101, .v 102] [7])))))))))))))))) (.letI (.add (.v 76) (.c 1)) (.again [.v 97, .v 77, .v 78, .v 79, .v 80] [3]))))))))) (.letI (.add (.v 76) (.c 1)) (.again [.v 92, .v 77, .v 78, .v 79, .v 80] [3])))))))))))))) (.exit (.letI (.add (.v 6) (.c 1)) (.again [.v 82, .v 77, .v 78, .v 79, .v 80] [3]))))))))))))))))))))))))))))))))))))))))))))))))))))))))))))))))))))))))))))))))))))))))))))))))))))))) (.exit (.need .leq (.v 7) (.c 32) (.need .leq (.v 9) (.c 64) (.need .leq (.v 10) (.c 18446744073709551614) (.call 57 (Go.Sx.L2.cEmp).rel [.v 0, .v 1, .v 7, .v 8, .v 9, .v 10] [0, 2] 0 1 (.done [.v 7, .v 8, .v 9, .v 10, .c (0)] [2, 3]))))))))))))
theorem cDrop_tree : (L2.cDrop).exe Tryz.prog (withS (L2.cfg Tryz.prog) [L2.cLook, L2.cUnder, L2.cEmp]) [{ f := L2.f_caps_Tree_all, reg := 5, ints := [(17, 0, 4)], vecs := [(5, some (0, 7))], nils := [(5, [.i .i64], L2.t_caps_Place)], wide := [5] }, { f := L2.f_caps_Tree_all, reg := 8, ints := [(27, 0, 8)], vecs := [(5, some (0, 7))], nils := [(5, [.i .i64], L2.t_caps_Place)], wide := [5] }] 20 200 = cDrop_t := by kernel_rfl
theorem cDrop_vc (Q : List Int → List (List Int) → Prop) (v0 v1 v2 v3 : Int) (L0 : List Int) : cDrop_t.dn ⟨Q, []⟩ 4 [v3, v2, v1, v0] 1 [L0] = ((Go.Sx.L2.cLook).rel.pre [v0, v1, v2, v3] [L0] ∧
(∀ v4 : Int, (Go.Sx.L2.cLook).rel.post [v0, v1, v2, v3] [L0] [v4] [] → ((v4 ≠ (0 : Int)) → ∀ L1 : List Int, L1 = [] → Q [(0 : Int), (0 : Int), (0 : Int), (0 : Int), v4] [L1, L0]) ∧
((v4 = (0 : Int)) → ∀ L1 : List Int, L1 = [] → ∃ (I0 : List Int → List (List Int) → Prop) (μ0 : List Int → List (List Int) → Nat), I0 [(0 : Int), (0 : Int), (0 : Int), (0 : Int), (0 : Int)] [L1] ∧
(∀ v6 : Int, ∀ v7 : Int, ∀ v8 : Int, ∀ v9 : Int, ∀ v10 : Int, ∀ L2 : List Int, I0 [v6, v7, v8, v9, v10] [L2] →
 ((v6 < v0) → (v6 < v0) ∧ ∀ v12 : Int, v12 = v6 * (32 : Int) → (v12 < v1) ∧ ∀ v13 : Int, v13 = (L0).getD (v12).toNat 0 → ∀ v14 : Int, v14 = v12 + (1 : Int) → (v14 < v1) ∧ ∀ v15 : Int, v15 = (L0).getD (v14).toNat 0 → ∀ v16 : Int, v16 = v12 + (2 : Int) → (v16 < v1) ∧ ∀ v17 : Int, v17 = (L0).getD (v16).toNat 0 → ∀ v18 : Int, v18 = v12 + (3 : Int) → (v18 < v1) ∧ ∀ v19 : Int, v19 = (L0).getD (v18).toNat 0 → ∀ v20 : Int, v20 = v12 + (4 : Int) → (v20 < v1) ∧ ∀ v21 : Int, v21 = (L0).getD (v20).toNat 0 → ∀ v22 : Int, v22 = v12 + (5 : Int) → (v22 < v1) ∧ ∀ v23 : Int, v23 = (L0).getD (v22).toNat 0 → ∀ v24 : Int, v24 = v12 + (6 : Int) → (v24 < v1) ∧ ∀ v25 : Int, v25 = (L0).getD (v24).toNat 0 → ∀ v26 : Int, v26 = v12 + (7 : Int) → (v26 < v1) ∧ ∀ v27 : Int, v27 = (L0).getD (v26).toNat 0 → ∀ v28 : Int, v28 = v12 + (8 : Int) → (v28 < v1) ∧ ∀ v29 : Int, v29 = (L0).getD (v28).toNat 0 → ∀ v30 : Int, v30 = v12 + (9 : Int) → (v30 < v1) ∧ ∀ v31 : Int, v31 = (L0).getD (v30).toNat 0 → ∀ v32 : Int, v32 = v12 + (10 : Int) → (v32 < v1) ∧ ∀ v33 : Int, v33 = (L0).getD (v32).toNat 0 → ∀ v34 : Int, v34 = v12 + (11 : Int) → (v34 < v1) ∧ ∀ v35 : Int, v35 = (L0).getD (v34).toNat 0 → ∀ v36 : Int, v36 = v12 + (12 : Int) → (v36 < v1) ∧ ∀ v37 : Int, v37 = (L0).getD (v36).toNat 0 → ∀ v38 : Int, v38 = v12 + (13 : Int) → (v38 < v1) ∧ ∀ v39 : Int, v39 = (L0).getD (v38).toNat 0 → ∀ v40 : Int, v40 = v12 + (14 : Int) → (v40 < v1) ∧ ∀ v41 : Int, v41 = (L0).getD (v40).toNat 0 → ∀ v42 : Int, v42 = v12 + (15 : Int) → (v42 < v1) ∧ ∀ v43 : Int, v43 = (L0).getD (v42).toNat 0 → ∀ v44 : Int, v44 = v12 + (16 : Int) → (v44 < v1) ∧ ∀ v45 : Int, v45 = (L0).getD (v44).toNat 0 → ∀ v46 : Int, v46 = v12 + (17 : Int) → (v46 < v1) ∧ ∀ v47 : Int, v47 = (L0).getD (v46).toNat 0 → ∀ v48 : Int, v48 = v12 + (18 : Int) → (v48 < v1) ∧ ∀ v49 : Int, v49 = (L0).getD (v48).toNat 0 → ∀ v50 : Int, v50 = v12 + (19 : Int) → (v50 < v1) ∧ ∀ v51 : Int, v51 = (L0).getD (v50).toNat 0 → ∀ v52 : Int, v52 = v12 + (20 : Int) → (v52 < v1) ∧ ∀ v53 : Int, v53 = (L0).getD (v52).toNat 0 → ∀ v54 : Int, v54 = v12 + (21 : Int) → (v54 < v1) ∧ ∀ v55 : Int, v55 = (L0).getD (v54).toNat 0 → ∀ v56 : Int, v56 = v12 + (22 : Int) → (v56 < v1) ∧ ∀ v57 : Int, v57 = (L0).getD (v56).toNat 0 → ∀ v58 : Int, v58 = v12 + (23 : Int) → (v58 < v1) ∧ ∀ v59 : Int, v59 = (L0).getD (v58).toNat 0 → ∀ v60 : Int, v60 = v12 + (24 : Int) → (v60 < v1) ∧ ∀ v61 : Int, v61 = (L0).getD (v60).toNat 0 → ∀ v62 : Int, v62 = v12 + (25 : Int) → (v62 < v1) ∧ ∀ v63 : Int, v63 = (L0).getD (v62).toNat 0 → ∀ v64 : Int, v64 = v12 + (26 : Int) → (v64 < v1) ∧ ∀ v65 : Int, v65 = (L0).getD (v64).toNat 0 → ∀ v66 : Int, v66 = v12 + (27 : Int) → (v66 < v1) ∧ ∀ v67 : Int, v67 = (L0).getD (v66).toNat 0 → ∀ v68 : Int, v68 = v12 + (28 : Int) → (v68 < v1) ∧ ∀ v69 : Int, v69 = (L0).getD (v68).toNat 0 → ∀ v70 : Int, v70 = v12 + (29 : Int) → (v70 < v1) ∧ ∀ v71 : Int, v71 = (L0).getD (v70).toNat 0 → ∀ v72 : Int, v72 = v12 + (30 : Int) → (v72 < v1) ∧ ∀ v73 : Int, v73 = (L0).getD (v72).toNat 0 → ∀ v74 : Int, v74 = v12 + (31 : Int) → (v74 < v1) ∧ ∀ v75 : Int, v75 = (L0).getD (v74).toNat 0 → ∃ (I1 : List Int → List (List Int) → Prop) (μ1 : List Int → List (List Int) → Nat), I1 [(0 : Int), v7, v8, v9, v10] [L2] ∧
(∀ v76 : Int, ∀ v77 : Int, ∀ v78 : Int, ∀ v79 : Int, ∀ v80 : Int, ∀ L3 : List Int, I1 [v76, v77, v78, v79, v80] [L3] →
 ((v76 < (8 : Int)) → ∀ v82 : Int, v82 = v76 * (4 : Int) → ∀ v83 : Int, v83 = v82 + (4 : Int) → ∀ L4 : List Int, L4 = [v13, v15, v17, v19, v21, v23, v25, v27, v29, v31, v33, v35, v37, v39, v41, v43, v45, v47, v49, v51, v53, v55, v57, v59, v61, v63, v65, v67, v69, v71, v73, v75] → ∀ v84 : Int, v84 = (L4).getD (v82).toNat 0 → ∀ v85 : Int, v85 = v82 + (1 : Int) → ∀ v86 : Int, v86 = (L4).getD (v85).toNat 0 → ∀ v87 : Int, v87 = v82 + (2 : Int) → ∀ v88 : Int, v88 = (L4).getD (v87).toNat 0 → ∀ v89 : Int, v89 = v82 + (3 : Int) → ∀ v90 : Int, v90 = (L4).getD (v89).toNat 0 → ((v86 ≠ (0 : Int)) → ∀ v92 : Int, v92 = b2i (v2 == v6) → ∀ v93 : Int, v93 = b2i (v3 == v76) → ∀ v94 : Int, v94 = (if v93 = 0 then (0 : Int) else (1 : Int)) → ∀ v95 : Int, v95 = (if v92 = 0 then (0 : Int) else v94) → (v95 ≠ 0 → ∀ L5 : List Int, L5 = [v6, v76] → ∀ v96 : Int, v96 = v77 + (1 : Int) → (v96 ≤ (1000000 : Int)) ∧ (v77 ≤ v78) ∧ ∀ v97 : Int, v97 = v77 * (2 : Int) → (v97 ≤ v79) ∧ ∀ v98 : Int, v98 = v78 * (2 : Int) → (v98 = v80) ∧ ∀ L6 : List Int, L6 = (L3).take (v97).toNat → ∀ L7 : List Int, L7 = L6 ++ L5 → ∀ v99 : Int, v96 ≤ v99 → v99 ≤ (9223372036854775807 : Int) → ∀ v100 : Int, v100 = v96 * (2 : Int) → ∀ v101 : Int, v101 = v99 * (2 : Int) → ∀ v102 : Int, v102 = v76 + (1 : Int) → (v100 ≤ (1000000 : Int)) ∧ (I1 [v102, v96, v99, v100, v101] [L7] ∧ μ1 [v102, v96, v99, v100, v101] [L7] < μ1 [v76, v77, v78, v79, v80] [L3])) ∧
(v95 = 0 → (Go.Sx.L2.cUnder).rel.pre [v0, v1, v84, v86, v88, v90, v2, v3] [L0] ∧
(∀ v96 : Int, (Go.Sx.L2.cUnder).rel.post [v0, v1, v84, v86, v88, v90, v2, v3] [L0] [v96] [] → (v96 ≠ 0 → ∀ L5 : List Int, L5 = [v6, v76] → ∀ v97 : Int, v97 = v77 + (1 : Int) → (v97 ≤ (1000000 : Int)) ∧ (v77 ≤ v78) ∧ ∀ v98 : Int, v98 = v77 * (2 : Int) → (v98 ≤ v79) ∧ ∀ v99 : Int, v99 = v78 * (2 : Int) → (v99 = v80) ∧ ∀ L6 : List Int, L6 = (L3).take (v98).toNat → ∀ L7 : List Int, L7 = L6 ++ L5 → ∀ v100 : Int, v97 ≤ v100 → v100 ≤ (9223372036854775807 : Int) → ∀ v101 : Int, v101 = v97 * (2 : Int) → ∀ v102 : Int, v102 = v100 * (2 : Int) → ∀ v103 : Int, v103 = v76 + (1 : Int) → (v101 ≤ (1000000 : Int)) ∧ (I1 [v103, v97, v100, v101, v102] [L7] ∧ μ1 [v103, v97, v100, v101, v102] [L7] < μ1 [v76, v77, v78, v79, v80] [L3])) ∧
(v96 = 0 → ∀ v97 : Int, v97 = v76 + (1 : Int) → (I1 [v97, v77, v78, v79, v80] [L3] ∧ μ1 [v97, v77, v78, v79, v80] [L3] < μ1 [v76, v77, v78, v79, v80] [L3]))))) ∧
((v86 = (0 : Int)) → ∀ v92 : Int, v92 = v76 + (1 : Int) → (I1 [v92, v77, v78, v79, v80] [L3] ∧ μ1 [v92, v77, v78, v79, v80] [L3] < μ1 [v76, v77, v78, v79, v80] [L3]))) ∧
(((8 : Int) ≤ v76) → ∀ v82 : Int, v82 = v6 + (1 : Int) → (I0 [v82, v77, v78, v79, v80] [L3] ∧ μ0 [v82, v77, v78, v79, v80] [L3] < μ0 [v6, v7, v8, v9, v10] [L2])))) ∧
((v0 ≤ v6) → (v7 ≤ (32 : Int)) ∧ (v9 ≤ (64 : Int)) ∧ (v10 ≤ (18446744073709551614 : Int)) ∧ (Go.Sx.L2.cEmp).rel.pre [v0, v1, v7, v8, v9, v10] [L0, L2] ∧
(∀ L3 : List Int, (Go.Sx.L2.cEmp).rel.post [v0, v1, v7, v8, v9, v10] [L0, L2] [] [L3] → Q [v7, v8, v9, v10, (0 : Int)] [L2, L3])))))) := by kernel_rfl
set_option maxHeartbeats 4000000 in
theorem cDrop_holds : (L2.cDrop).Holds Tryz.prog L2.ro := FSpec.holdsV (cfg := withS (L2.cfg Tryz.prog) [L2.cLook, L2.cUnder, L2.cEmp]) [{ f := L2.f_caps_Tree_all, reg := 5, ints := [(17, 0, 4)], vecs := [(5, some (0, 7))], nils := [(5, [.i .i64], L2.t_caps_Place)], wide := [5] }, { f := L2.f_caps_Tree_all, reg := 8, ints := [(27, 0, 8)], vecs := [(5, some (0, 7))], nils := [(5, [.i .i64], L2.t_caps_Place)], wide := [5] }] 20 200 cd_ok mixed (t := cDrop_t) cDrop_tree (by
  show ∀ (v0 v1 v2 v3 : Int) (L0 : List Int), _
  intro v0 v1 v2 v3 L0 hp hr hl
  replace hr : (((1) : Int) ≤ v0 ∧ v0 ≤ ((4) : Int)) ∧ (((32) : Int) ≤ v1 ∧ v1 ≤ ((128) : Int)) ∧ (((-9223372036854775808) : Int) ≤ v2 ∧ v2 ≤ ((9223372036854775807) : Int)) ∧ (((-9223372036854775808) : Int) ≤ v3 ∧ v3 ≤ ((9223372036854775807) : Int)) ∧ True := hr
  replace hl : (∀ x ∈ L0, (((-9223372036854775808) : Int) ≤ x ∧ x ≤ ((9223372036854775807) : Int))) ∧ True := hl
  show cDrop_t.dn ⟨_, []⟩ 4 [v3, v2, v1, v0] 1 [L0]
  rw [cDrop_vc]
  have hp0 : v1 = v0 * 32 ∧ CV v0 L0 := hp
  obtain ⟨hp1, hcv⟩ := hp0
  have hlen := hcv.len
  refine ⟨hp1, ?_⟩
  intro e he
  have he : e = lookE v0 L0 v2 v3 := by
    have : [e] = [lookE v0 L0 v2 v3] := he.1
    simpa using this
  refine ⟨fun c => ?_, fun ce => ?_⟩
  · intro L1 e1
    show (0 : Int) * 2 = (L1.length : Int) ∧ (0 : Int) ≤ 0 ∧ (0 : Int) = 0 * 2 ∧ (0 : Int) = 0 * 2 ∧ e = lookE v0 L0 v2 v3 ∧ [L1, L0] = (if lookE v0 L0 v2 v3 = 0 then [dropL v0 L0 v2 v3, emptyC L0 (dropL v0 L0 v2 v3)] else [[], L0])
    rw [if_neg (by rw [← he]; exact c)]
    subst e1
    exact ⟨rfl, by omega, rfl, rfl, he, rfl⟩
  intro L1 e1
  refine ⟨fun xs ys => match xs, ys with | [i, a, c, d, s], [W] => 0 ≤ i ∧ i ≤ v0 ∧ W = selC (qDrop L0 v2 v3) i.toNat ∧ a * 2 = (W.length : Int) ∧ a ≤ c ∧ c ≤ 9223372036854775807 ∧ d = a * 2 ∧ s = c * 2 | _, _ => False, fun xs _ => match xs with | i :: _ => (v0 - i).toNat | _ => 0, ?_, ?_⟩ <;> dsimp only
  · subst e1; exact ⟨by omega, by omega, rfl, rfl, by omega, by omega, by omega, by omega⟩
  · intro i a0 c0 d0 s0 W0 hI
    obtain ⟨i0, i4', hW0, ha0, hc0, hm0, hd0, hs0⟩ := hI
    obtain ⟨m, rfl⟩ : ∃ m : Nat, i = m := ⟨i.toNat, by omega⟩
    rw [Int.toNat_natCast] at hW0
    have hsl := selC_len (qDrop L0 v2 v3) m
    rw [← hW0] at hsl
    refine ⟨fun c1 => ?_, fun c1 => ?_⟩
    rotate_left
    · have hm : m = v0.toNat := by omega
      have hW : W0 = dropL v0 L0 v2 v3 := by unfold dropL; rw [← hm]; exact hW0
      refine ⟨by omega, by omega, by omega, ⟨hp1, by show (L0.length : Int) = v1; omega, hd0, by show (W0.length : Int) = d0; omega, hc0, by show PlsOk v0 W0; rw [hW]; exact selC_ok _ (by omega)⟩, ?_⟩
      intro T hT
      have hT : [T] = [emptyC L0 W0] := hT
      show a0 * 2 = (W0.length : Int) ∧ a0 ≤ c0 ∧ d0 = a0 * 2 ∧ s0 = c0 * 2 ∧ (0 : Int) = lookE v0 L0 v2 v3 ∧ [W0, T] = (if lookE v0 L0 v2 v3 = 0 then [dropL v0 L0 v2 v3, emptyC L0 (dropL v0 L0 v2 v3)] else [[], L0])
      rw [if_pos (by rw [← he]; exact ce), ← hW]
      exact ⟨ha0, hc0, hd0, hs0, by omega, by simpa using hT⟩
    clear hl
    refine ⟨c1, ?_⟩
    intro b eb
    refine ⟨by omega, ?_⟩
    intro g0 h0
    intro i1 j1
    refine ⟨by omega, ?_⟩
    intro g1 h1
    intro i2 j2
    refine ⟨by omega, ?_⟩
    intro g2 h2
    intro i3 j3
    refine ⟨by omega, ?_⟩
    intro g3 h3
    intro i4 j4
    refine ⟨by omega, ?_⟩
    intro g4 h4
    intro i5 j5
    refine ⟨by omega, ?_⟩
    intro g5 h5
    intro i6 j6
    refine ⟨by omega, ?_⟩
    intro g6 h6
    intro i7 j7
    refine ⟨by omega, ?_⟩
    intro g7 h7
    intro i8 j8
    refine ⟨by omega, ?_⟩
    intro g8 h8
    intro i9 j9
    refine ⟨by omega, ?_⟩
    intro g9 h9
    intro i10 j10
    refine ⟨by omega, ?_⟩
    intro g10 h10
    intro i11 j11
    refine ⟨by omega, ?_⟩
    intro g11 h11
    intro i12 j12
    refine ⟨by omega, ?_⟩
    intro g12 h12
    intro i13 j13
    refine ⟨by omega, ?_⟩
    intro g13 h13
    intro i14 j14
    refine ⟨by omega, ?_⟩
    intro g14 h14
    intro i15 j15
    refine ⟨by omega, ?_⟩
    intro g15 h15
    intro i16 j16
    refine ⟨by omega, ?_⟩
    intro g16 h16
    intro i17 j17
    refine ⟨by omega, ?_⟩
    intro g17 h17
    intro i18 j18
    refine ⟨by omega, ?_⟩
    intro g18 h18
    intro i19 j19
    refine ⟨by omega, ?_⟩
    intro g19 h19
    intro i20 j20
    refine ⟨by omega, ?_⟩
    intro g20 h20
    intro i21 j21
    refine ⟨by omega, ?_⟩
    intro g21 h21
    intro i22 j22
    refine ⟨by omega, ?_⟩
    intro g22 h22
    intro i23 j23
    refine ⟨by omega, ?_⟩
    intro g23 h23
    intro i24 j24
    refine ⟨by omega, ?_⟩
    intro g24 h24
    intro i25 j25
    refine ⟨by omega, ?_⟩
    intro g25 h25
    intro i26 j26
    refine ⟨by omega, ?_⟩
    intro g26 h26
    intro i27 j27
    refine ⟨by omega, ?_⟩
    intro g27 h27
    intro i28 j28
    refine ⟨by omega, ?_⟩
    intro g28 h28
    intro i29 j29
    refine ⟨by omega, ?_⟩
    intro g29 h29
    intro i30 j30
    refine ⟨by omega, ?_⟩
    intro g30 h30
    intro i31 j31
    refine ⟨by omega, ?_⟩
    intro g31 h31
    have h0' : g0 = L0.getD (b + ((0 : Nat) : Int)).toNat 0 := by rw [show b + ((0 : Nat) : Int) = b by omega]; exact h0
    have hR : [g0, g1, g2, g3, g4, g5, g6, g7, g8, g9, g10, g11, g12, g13, g14, g15, g16, g17, g18, g19, g20, g21, g22, g23, g24, g25, g26, g27, g28, g29, g30, g31] = (List.range 32).map fun (j : Nat) => L0.getD ((m : Int) * 32 + (j : Int)).toNat 0 := by
      rw [← eb, h0', h1, j1, h2, j2, h3, j3, h4, j4, h5, j5, h6, j6, h7, j7, h8, j8, h9, j9, h10, j10, h11, j11, h12, j12, h13, j13, h14, j14, h15, j15, h16, j16, h17, j17, h18, j18, h19, j19, h20, j20, h21, j21, h22, j22, h23, j23, h24, j24, h25, j25, h26, j26, h27, j27, h28, j28, h29, j29, h30, j30, h31, j31]; rfl
    clear h0 h1 j1 h2 j2 h3 j3 h4 j4 h5 j5 h6 j6 h7 j7 h8 j8 h9 j9 h10 j10 h11 j11 h12 j12 h13 j13 h14 j14 h15 j15 h16 j16 h17 j17 h18 j18 h19 j19 h20 j20 h21 j21 h22 j22 h23 j23 h24 j24 h25 j25 h26 j26 h27 j27 h28 j28 h29 j29 h30 j30 h31 j31
    refine ⟨fun xs ys => match xs, ys with | [k, a, c, d, s], [W] => 0 ≤ k ∧ k ≤ 8 ∧ W = selC (qDrop L0 v2 v3) m ++ rowC (qDrop L0 v2 v3) m k.toNat ∧ a * 2 = (W.length : Int) ∧ a ≤ c ∧ c ≤ 9223372036854775807 ∧ d = a * 2 ∧ s = c * 2 | _, _ => False, fun xs _ => match xs with | k :: _ => (8 - k).toNat | _ => 0, ?_, ?_⟩ <;> dsimp only
    · exact ⟨by omega, by omega, by rw [hW0]; simp [rowC], ha0, hc0, hm0, hd0, hs0⟩
    · intro k a c d s W hJ
      obtain ⟨k0, k8, hW, ha, hc, hmm, hd, hs⟩ := hJ
      obtain ⟨k, rfl⟩ : ∃ n : Nat, k = n := ⟨k.toNat, by omega⟩
      rw [Int.toNat_natCast] at hW
      have hrl := rowC_len (qDrop L0 v2 v3) m k
      have hWl : W.length = W0.length + (rowC (qDrop L0 v2 v3) m k).length := by rw [hW, List.length_append, ← hW0]
      refine ⟨fun c2 => ?_, fun c2 => ?_⟩
      rotate_left
      · intro i' ei'
        have hk : k = 8 := by omega
        subst hk
        refine ⟨⟨by omega, by omega, ?_, ha, hc, hmm, hd, hs⟩, by omega⟩
        rw [ei', show ((m : Int) + 1).toNat = m + 1 by omega, selC_succ]; exact hW
      intro p ep p4 ep4 R eR x0 ex0 p1 ep1 x1 ex1 p2 ep2 x2 ex2 p3 ep3 x3 ex3
      rw [hR] at eR
      have y0 : x0 = cG L0 m k 0 := by rw [ex0, ep]; have := rows_cG eR (k := k) (i := 0) (by omega) (by omega); rw [show ((k : Int) * 4 + ((0 : Nat) : Int)) = (k : Int) * 4 by omega] at this; exact this
      have y1 : x1 = cG L0 m k 1 := by rw [ex1, ep1, ep]; exact rows_cG eR (k := k) (i := 1) (by omega) (by omega)
      have y2 : x2 = cG L0 m k 2 := by rw [ex2, ep2, ep]; exact rows_cG eR (k := k) (i := 2) (by omega) (by omega)
      have y3 : x3 = cG L0 m k 3 := by rw [ex3, ep3, ep]; exact rows_cG eR (k := k) (i := 3) (by omega) (by omega)
      clear ex0 ex1 ex2 ex3 eR hR
      refine ⟨fun c3 => ?_, fun c3 => ?_⟩
      · intro q1 f1 q2 f2 q3 f3 q4 f4
        have hown : (q4 ≠ 0 → (m : Int) = v2 ∧ (k : Int) = v3) ∧ (q4 = 0 → ¬ ((m : Int) = v2 ∧ (k : Int) = v3)) := by
          rw [f4, f3, f2, f1]
          by_cases h1 : v2 = (m : Int) <;> by_cases h2 : v3 = (k : Int) <;> simp [b2i, h1, h2] <;> omega
        clear f1 f2 f3 f4
        refine ⟨fun c4 => ?_, fun c4 => ⟨?_, ?_⟩⟩
        · have hq : qDrop L0 v2 v3 m k = true := by unfold qDrop; rw [← y1, decide_eq_true c3, decide_eq_true (hown.1 c4)]; rfl
          intro L5 e5 a1 ea1
          refine ⟨by omega, hc, ?_⟩
          intro t et
          refine ⟨by omega, ?_⟩
          intro u eu
          refine ⟨by omega, ?_⟩
          intro L6 e6 L7 e7 c' hc1 hc2 d' ed' s' es' k' ek'
          have hL7 : L7 = W ++ [(m : Int), (k : Int)] := by rw [e7, e6, e5, List.take_of_length_le (by omega)]
          refine ⟨by omega, ⟨by omega, by omega, ?_, ?_, by omega, by omega, by omega, by omega⟩, by omega⟩
          · rw [ek', show ((k : Int) + 1).toNat = k + 1 by omega, rowC_succ, if_pos hq, hL7, hW, List.append_assoc]
          · rw [hL7, List.length_append]; simp only [List.length_cons, List.length_nil]; push_cast; omega
        · refine ⟨⟨hp1, hcv⟩, ?_, ?_⟩
          · show x1 ≠ 0 → 0 ≤ x2 → x2 < v0 ∧ 0 ≤ x3 ∧ x3 < 8
            rw [y1, y2, y3]; exact hcv.par m k (by omega) c1 (by omega) c2
          · show endC L0 33 x1 x2 x3 = true
            rw [y1, y2, y3]; exact hcv.ends m k (by omega) c1 (by omega) c2
        · intro w hw
          have hw : w = b2i (undC L0 v2 v3 33 x1 x2 x3) := by
            have : [w] = [b2i (undC L0 v2 v3 33 x1 x2 x3)] := hw.1
            simpa using this
          have hqq : qDrop L0 v2 v3 m k = undC L0 v2 v3 33 x1 x2 x3 := by unfold qDrop; rw [← y1, ← y2, ← y3, decide_eq_true c3, decide_eq_false (hown.2 c4), Bool.true_and, Bool.false_or]
          refine ⟨fun c5 => ?_, fun c5 => ?_⟩
          · have hq : qDrop L0 v2 v3 m k = true := by
              rw [hqq]
              cases hu : undC L0 v2 v3 33 x1 x2 x3 with
              | true => rfl
              | false => rw [hu] at hw; exact absurd hw c5
            intro L5 e5 a1 ea1
            refine ⟨by omega, hc, ?_⟩
            intro t et
            refine ⟨by omega, ?_⟩
            intro u eu
            refine ⟨by omega, ?_⟩
            intro L6 e6 L7 e7 c' hc1 hc2 d' ed' s' es' k' ek'
            have hL7 : L7 = W ++ [(m : Int), (k : Int)] := by rw [e7, e6, e5, List.take_of_length_le (by omega)]
            refine ⟨by omega, ⟨by omega, by omega, ?_, ?_, by omega, by omega, by omega, by omega⟩, by omega⟩
            · rw [ek', show ((k : Int) + 1).toNat = k + 1 by omega, rowC_succ, if_pos hq, hL7, hW, List.append_assoc]
            · rw [hL7, List.length_append]; simp only [List.length_cons, List.length_nil]; push_cast; omega
          · have hq : qDrop L0 v2 v3 m k = false := by
              rw [hqq]
              cases hu : undC L0 v2 v3 33 x1 x2 x3 with
              | false => rfl
              | true => rw [hu, c5] at hw; cases hw
            intro k' ek'
            refine ⟨⟨by omega, by omega, ?_, ha, hc, hmm, hd, hs⟩, by omega⟩
            rw [ek', show ((k : Int) + 1).toNat = k + 1 by omega, rowC_succ, if_neg (by rw [hq]; exact Bool.false_ne_true)]; exact hW
      · have hq : qDrop L0 v2 v3 m k = false := by unfold qDrop; rw [← y1, decide_eq_false (fun h => h c3), Bool.false_and]
        intro k' ek'
        refine ⟨⟨by omega, by omega, ?_, ha, hc, hmm, hd, hs⟩, by omega⟩
        rw [ek', show ((k : Int) + 1).toNat = k + 1 by omega, rowC_succ, if_neg (by rw [hq]; exact Bool.false_ne_true)]; exact hW)
end Go.Proofs.YtpmgfdakljjlaaaGreatDoor
