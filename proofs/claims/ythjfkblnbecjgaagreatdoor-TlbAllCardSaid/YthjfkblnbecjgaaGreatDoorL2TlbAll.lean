/- The statement messuagelaw2.TlbAll of the seat: for every input the law returns true; the condition: errors.errorType is as the program lays it. -/
import Derived.Test.YthjfkblnbecjgaaGreatDoorL2Bx
import Derived.Test.YthjfkblnbecjgaaGreatDoorL2Rb
import Derived.Test.YthjfkblnbecjgaaGreatDoorPuX
set_option linter.unusedVariables false
set_option linter.unusedSimpArgs false
open Go Go.Sx
namespace Go.Proofs.YthjfkblnbecjgaaGreatDoor
open Go.ChangeShapes Go.WideShapes Go.RowKit
set_option maxRecDepth 100000

noncomputable def TlbAll_t : Tree := .call 25 (Go.Sx.L2.yes Go.Sx.L2.f_messuagelaw2_begun).rel [] [] 0 0 (.call 60 (Go.Sx.L2.bNew).rel [] [] 0 1 (.call 86 (Go.Sx.L2.rNew).rel [] [] 0 1 (.loop [.c (0)] [1, 2] (.letI (.cmp .lss (.v 3) (.v 0)) (.ite (.v 4) (.letI (.cmp .lss (.v 3) (.c 60)) (.ite (.v 5) (.need .lss (.v 3) (.v 0) (.letI (.mul (.v 3) (.c 7)) (.need .lss (.v 6) (.v 2) (.letI (.get 0 (.v 6)) (.letI (.add (.v 6) (.c 1)) (.need .lss (.v 8) (.v 2) (.letI (.get 0 (.v 8)) (.letI (.add (.v 6) (.c 2)) (.need .lss (.v 10) (.v 2) (.letI (.get 0 (.v 10)) (.letI (.add (.v 6) (.c 3)) (.need .lss (.v 12) (.v 2) (.letI (.get 0 (.v 12)) (.letI (.add (.v 6) (.c 4)) (.need .lss (.v 14) (.v 2) (.letI (.get 0 (.v 14)) (.letI (.add (.v 6) (.c 5)) (.need .lss (.v 16) (.v 2) (.letI (.get 0 (.v 16)) (.letI (.add (.v 6) (.c 6)) (.need .lss (.v 18) (.v 2) (.letI (.get 0 (.v 18)) (.letI (.cmp .eql (.v 7) (.c 0)) (.ite (.v 20) (.call 85 (Go.Sx.L2.bFind).rel [.v 9, .v 11] [3] 5 0 (.call 87 (Go.Sx.L2.rFind).rel [.v 9, .v 11] [4] 5 0 (.letI (.cmp .eql (.v 21) (.v 26)) (.letI (.cmp .eql (.v 22) (.v 27)) (.letI (.cmp .eql (.v 23) (.v 28)) (.letI (.cmp .eql (.v 24) (.v 29)) (.letI (.pick (.v 34) (.c 1) (.c 0)) (.letI (.pick (.v 33) (.v 35) (.c 0)) (.letI (.pick (.v 32) (.v 36) (.c 0)) (.letI (.pick (.v 31) (.v 37) (.c 0)) (.ite (.v 38) (.letI (.not (.v 25)) (.letI (.not (.v 30)) (.letI (.cmp .eql (.v 39) (.v 40)) (.call 62 (Go.Sx.L2.bLines).rel [] [3] 2 1 (.letI (.not (.v 41)) (.ite (.v 44) (.exit (.fail 180)) (.loop [.c (0)] [] (.letI (.cmp .lss (.v 45) (.c 8)) (.ite (.v 46) (.letI (.mul (.v 45) (.c 4)) (.letI (.get 5 (.v 47)) (.letI (.add (.v 47) (.c 1)) (.letI (.get 5 (.v 49)) (.letI (.add (.v 47) (.c 2)) (.letI (.get 5 (.v 51)) (.letI (.add (.v 47) (.c 3)) (.letI (.get 5 (.v 53)) (.letI (.get 4 (.v 47)) (.letI (.get 4 (.v 49)) (.letI (.get 4 (.v 51)) (.letI (.get 4 (.v 53)) (.letI (.cmp .eql (.v 48) (.v 55)) (.letI (.cmp .eql (.v 50) (.v 56)) (.letI (.cmp .eql (.v 52) (.v 57)) (.letI (.cmp .eql (.v 54) (.v 58)) (.letI (.pick (.v 62) (.c 1) (.c 0)) (.letI (.pick (.v 61) (.v 63) (.c 0)) (.letI (.pick (.v 60) (.v 64) (.c 0)) (.letI (.pick (.v 59) (.v 65) (.c 0)) (.letI (.not (.v 66)) (.ite (.v 67) (.exit (.exit (.fail 180))) (.letI (.add (.v 45) (.c 1)) (.again [.v 68] [])))))))))))))))))))))))) (.exit (.letI (.add (.v 3) (.c 1)) (.again [.v 47] [3, 4])))))))))))) (.call 62 (Go.Sx.L2.bLines).rel [] [3] 2 1 (.exit (.fail 180)))))))))))))) (.letI (.cmp .eql (.v 7) (.c 1)) (.ite (.v 21) (.call 61 (Go.Sx.L2.bFill).rel [.v 9, .v 11, .v 13, .v 15] [3] 1 1 (.call 88 (Go.Sx.L2.rFill).rel [.v 9, .v 11, .v 13, .v 15] [4] 1 1 (.letI (.not (.v 22)) (.letI (.not (.v 23)) (.letI (.cmp .eql (.v 24) (.v 25)) (.call 62 (Go.Sx.L2.bLines).rel [] [5] 2 1 (.letI (.not (.v 26)) (.ite (.v 29) (.exit (.fail 180)) (.loop [.c (0)] [] (.letI (.cmp .lss (.v 30) (.c 8)) (.ite (.v 31) (.letI (.mul (.v 30) (.c 4)) (.letI (.get 7 (.v 32)) (.letI (.add (.v 32) (.c 1)) (.letI (.get 7 (.v 34)) (.letI (.add (.v 32) (.c 2)) (.letI (.get 7 (.v 36)) (.letI (.add (.v 32) (.c 3)) (.letI (.get 7 (.v 38)) (.letI (.get 6 (.v 32)) (.letI (.get 6 (.v 34)) (.letI (.get 6 (.v 36)) (.letI (.get 6 (.v 38)) (.letI (.cmp .eql (.v 33) (.v 40)) (.letI (.cmp .eql (.v 35) (.v 41)) (.letI (.cmp .eql (.v 37) (.v 42)) (.letI (.cmp .eql (.v 39) (.v 43)) (.letI (.pick (.v 47) (.c 1) (.c 0)) (.letI (.pick (.v 46) (.v 48) (.c 0)) (.letI (.pick (.v 45) (.v 49) (.c 0)) (.letI (.pick (.v 44) (.v 50) (.c 0)) (.letI (.not (.v 51)) (.ite (.v 52) (.exit (.exit (.fail 180))) (.letI (.add (.v 30) (.c 1)) (.again [.v 53] [])))))))))))))))))))))))) (.exit (.letI (.add (.v 3) (.c 1)) (.again [.v 32] [5, 6])))))))))))))) (.letI (.cmp .eql (.v 7) (.c 2)) (.ite (.v 22) (.call 89 (Go.Sx.L2.bEvict).rel [.v 17, .v 19] [3] 1 1 (.call 90 (Go.Sx.L2.rEvict).rel [.v 17, .v 19] [4] 1 1 (.letI (.not (.v 23)) (.letI (.not (.v 24)) (.letI (.cmp .eql (.v 25) (.v 26)) (.call 62 (Go.Sx.L2.bLines).rel [] [5] 2 1 (.letI (.not (.v 27)) (.ite (.v 30) (.exit (.fail 180)) (.loop [.c (0)] [] (.letI (.cmp .lss (.v 31) (.c 8)) (.ite (.v 32) (.letI (.mul (.v 31) (.c 4)) (.letI (.get 7 (.v 33)) (.letI (.add (.v 33) (.c 1)) (.letI (.get 7 (.v 35)) (.letI (.add (.v 33) (.c 2)) (.letI (.get 7 (.v 37)) (.letI (.add (.v 33) (.c 3)) (.letI (.get 7 (.v 39)) (.letI (.get 6 (.v 33)) (.letI (.get 6 (.v 35)) (.letI (.get 6 (.v 37)) (.letI (.get 6 (.v 39)) (.letI (.cmp .eql (.v 34) (.v 41)) (.letI (.cmp .eql (.v 36) (.v 42)) (.letI (.cmp .eql (.v 38) (.v 43)) (.letI (.cmp .eql (.v 40) (.v 44)) (.letI (.pick (.v 48) (.c 1) (.c 0)) (.letI (.pick (.v 47) (.v 49) (.c 0)) (.letI (.pick (.v 46) (.v 50) (.c 0)) (.letI (.pick (.v 45) (.v 51) (.c 0)) (.letI (.not (.v 52)) (.ite (.v 53) (.exit (.exit (.fail 180))) (.letI (.add (.v 31) (.c 1)) (.again [.v 54] [])))))))))))))))))))))))) (.exit (.letI (.add (.v 3) (.c 1)) (.again [.v 33] [5, 6])))))))))))))) (.letI (.cmp .eql (.v 7) (.c 3)) (.ite (.v 23) (.call 83 (Go.Sx.L2.bFlush).rel [.v 9, .v 11] [3] 1 1 (.call 91 (Go.Sx.L2.rFlush).rel [.v 9, .v 11] [4] 1 1 (.letI (.not (.v 24)) (.letI (.not (.v 25)) (.letI (.cmp .eql (.v 26) (.v 27)) (.call 62 (Go.Sx.L2.bLines).rel [] [5] 2 1 (.letI (.not (.v 28)) (.ite (.v 31) (.exit (.fail 180)) (.loop [.c (0)] [] (.letI (.cmp .lss (.v 32) (.c 8)) (.ite (.v 33) (.letI (.mul (.v 32) (.c 4)) (.letI (.get 7 (.v 34)) (.letI (.add (.v 34) (.c 1)) (.letI (.get 7 (.v 36)) (.letI (.add (.v 34) (.c 2)) (.letI (.get 7 (.v 38)) (.letI (.add (.v 34) (.c 3)) (.letI (.get 7 (.v 40)) (.letI (.get 6 (.v 34)) (.letI (.get 6 (.v 36)) (.letI (.get 6 (.v 38)) (.letI (.get 6 (.v 40)) (.letI (.cmp .eql (.v 35) (.v 42)) (.letI (.cmp .eql (.v 37) (.v 43)) (.letI (.cmp .eql (.v 39) (.v 44)) (.letI (.cmp .eql (.v 41) (.v 45)) (.letI (.pick (.v 49) (.c 1) (.c 0)) (.letI (.pick (.v 48) (.v 50) (.c 0)) (.letI (.pick (.v 47) (.v 51) (.c 0)) (.letI (.pick (.v 46) (.v 52) (.c 0)) (.letI (.not (.v 53)) (.ite (.v 54) (.exit (.exit (.fail 180))) (.letI (.add (.v 32) (.c 1)) (.again [.v 55] [])))))))))))))))))))))))) (.exit (.letI (.add (.v 3) (.c 1)) (.again [.v 34] [5, 6])))))))))))))) (.letI (.cmp .eql (.v 7) (.c 4)) (.ite (.v 24) (.call 84 (Go.Sx.L2.bFlushFrame).rel [.v 13] [3] 1 1 (.call 92 (Go.Sx.L2.rFlushFrame).rel [.v 13] [4] 1 1 (.letI (.cmp .eql (.v 25) (.v 26)) (.call 62 (Go.Sx.L2.bLines).rel [] [5] 2 1 (.letI (.not (.v 27)) (.ite (.v 30) (.exit (.fail 180)) (.loop [.c (0)] [] (.letI (.cmp .lss (.v 31) (.c 8)) (.ite (.v 32) (.letI (.mul (.v 31) (.c 4)) (.letI (.get 7 (.v 33)) (.letI (.add (.v 33) (.c 1)) (.letI (.get 7 (.v 35)) (.letI (.add (.v 33) (.c 2)) (.letI (.get 7 (.v 37)) (.letI (.add (.v 33) (.c 3)) (.letI (.get 7 (.v 39)) (.letI (.get 6 (.v 33)) (.letI (.get 6 (.v 35)) (.letI (.get 6 (.v 37)) (.letI (.get 6 (.v 39)) (.letI (.cmp .eql (.v 34) (.v 41)) (.letI (.cmp .eql (.v 36) (.v 42)) (.letI (.cmp .eql (.v 38) (.v 43)) (.letI (.cmp .eql (.v 40) (.v 44)) (.letI (.pick (.v 48) (.c 1) (.c 0)) (.letI (.pick (.v 47) (.v 49) (.c 0)) (.letI (.pick (.v 46) (.v 50) (.c 0)) (.letI (.pick (.v 45) (.v 51) (.c 0)) (.letI (.not (.v 52)) (.ite (.v 53) (.exit (.exit (.fail 180))) (.letI (.add (.v 31) (.c 1)) (.again [.v 54] [])))))))))))))))))))))))) (.exit (.letI (.add (.v 3) (.c 1)) (.again [.v 33] [5, 6])))))))))))) (.call 93 (Go.Sx.L2.bClear).rel [] [3] 0 1 (.letL (.set 4 (.c 0) (.c (-1))) (.letL (.set 6 (.c 1) (.c 0)) (.letL (.set 7 (.c 2) (.c 0)) (.letL (.set 8 (.c 3) (.c 0)) (.letL (.set 9 (.c 4) (.c (-1))) (.letL (.set 10 (.c 5) (.c 0)) (.letL (.set 11 (.c 6) (.c 0)) (.letL (.set 12 (.c 7) (.c 0)) (.letL (.set 13 (.c 8) (.c (-1))) (.letL (.set 14 (.c 9) (.c 0)) (.letL (.set 15 (.c 10) (.c 0)) (.letL (.set 16 (.c 11) (.c 0)) (.letL (.set 17 (.c 12) (.c (-1))) (.letL (.set 18 (.c 13) (.c 0)) (.letL (.set 19 (.c 14) (.c 0)) (.letL (.set 20 (.c 15) (.c 0)) (.letL (.set 21 (.c 16) (.c (-1))) (.letL (.set 22 (.c 17) (.c 0)) (.letL (.set 23 (.c 18) (.c 0)) (.letL (.set 24 (.c 19) (.c 0)) (.letL (.set 25 (.c 20) (.c (-1))) (.letL (.set 26 (.c 21) (.c 0)) (.letL (.set 27 (.c 22) (.c 0)) (.letL (.set 28 (.c 23) (.c 0)) (.letL (.set 29 (.c 24) (.c (-1))) (.letL (.set 30 (.c 25) (.c 0)) (.letL (.set 31 (.c 26) (.c 0)) (.letL (.set 32 (.c 27) (.c 0)) (.letL (.set 33 (.c 28) (.c (-1))) (.letL (.set 34 (.c 29) (.c 0)) (.letL (.set 35 (.c 30) (.c 0)) (.letL (.set 36 (.c 31) (.c 0)) (.call 62 (Go.Sx.L2.bLines).rel [] [5] 2 1 (.loop [.c (0)] [] (.letI (.cmp .lss (.v 27) (.c 8)) (.ite (.v 28) (.letI (.mul (.v 27) (.c 4)) (.letI (.get 38 (.v 29)) (.letI (.add (.v 29) (.c 1)) (.letI (.get 38 (.v 31)) (.letI (.add (.v 29) (.c 2)) (.letI (.get 38 (.v 33)) (.letI (.add (.v 29) (.c 3)) (.letI (.get 38 (.v 35)) (.letI (.get 37 (.v 29)) (.letI (.get 37 (.v 31)) (.letI (.get 37 (.v 33)) (.letI (.get 37 (.v 35)) (.letI (.cmp .eql (.v 30) (.v 37)) (.letI (.cmp .eql (.v 32) (.v 38)) (.letI (.cmp .eql (.v 34) (.v 39)) (.letI (.cmp .eql (.v 36) (.v 40)) (.letI (.pick (.v 44) (.c 1) (.c 0)) (.letI (.pick (.v 43) (.v 45) (.c 0)) (.letI (.pick (.v 42) (.v 46) (.c 0)) (.letI (.pick (.v 41) (.v 47) (.c 0)) (.letI (.not (.v 48)) (.ite (.v 49) (.exit (.exit (.fail 180))) (.letI (.add (.v 27) (.c 1)) (.again [.v 50] [])))))))))))))))))))))))) (.exit (.letI (.add (.v 3) (.c 1)) (.again [.v 29] [5, 37])))))))))))))))))))))))))))))))))))))))))))))))))))))))))))))))))))))))) (.exit (.done [] [])))) (.exit (.done [] [])))))))
theorem TlbAll_tree : (lawSpec 23 [.slc L2.ks7]).exe Tryz.prog (withS (L2.cfg2 Tryz.prog) [L2.bNew, L2.bClear, L2.bFind, L2.bFill, L2.bFlush, L2.bEvict, L2.bLines, L2.bFlushFrame, L2.rNew, L2.rFind0, L2.rFind, L2.rFill, L2.rFlush, L2.rEvict, L2.rFlushFrame]) [{ f := 23, reg := 8, ints := [(6, 0, 60)], lists := [(4, [], some (-9223372036854775808, 9223372036854775807)), (5, [], some (-9223372036854775808, 9223372036854775807))] }, { f := 23, reg := 35, ints := [(152, 0, 8)] }] 20 200 = TlbAll_t := by kernel_rfl
theorem TlbAll_vc (Q : List Int → List (List Int) → Prop) (v0 v1 v2 : Int) (L0 : List Int) : TlbAll_t.dn ⟨Q, []⟩ 3 [v2, v1, v0] 1 [L0] = ((Go.Sx.L2.yes Go.Sx.L2.f_messuagelaw2_begun).rel.pre [] [] ∧
((Go.Sx.L2.yes Go.Sx.L2.f_messuagelaw2_begun).rel.post [] [] [] [] → (Go.Sx.L2.bNew).rel.pre [] [] ∧
(∀ L1 : List Int, (Go.Sx.L2.bNew).rel.post [] [] [] [L1] → (Go.Sx.L2.rNew).rel.pre [] [] ∧
(∀ L2 : List Int, (Go.Sx.L2.rNew).rel.post [] [] [] [L2] → ∃ (I0 : List Int → List (List Int) → Prop) (μ0 : List Int → List (List Int) → Nat), I0 [(0 : Int)] [L1, L2] ∧
(∀ v3 : Int, ∀ L3 : List Int, ∀ L4 : List Int, I0 [v3] [L3, L4] →
 ((v3 < v0) → ((v3 < (60 : Int)) → (v3 < v0) ∧ ∀ v6 : Int, v6 = v3 * (7 : Int) → (v6 < v2) ∧ ∀ v7 : Int, v7 = (L0).getD (v6).toNat 0 → ∀ v8 : Int, v8 = v6 + (1 : Int) → (v8 < v2) ∧ ∀ v9 : Int, v9 = (L0).getD (v8).toNat 0 → ∀ v10 : Int, v10 = v6 + (2 : Int) → (v10 < v2) ∧ ∀ v11 : Int, v11 = (L0).getD (v10).toNat 0 → ∀ v12 : Int, v12 = v6 + (3 : Int) → (v12 < v2) ∧ ∀ v13 : Int, v13 = (L0).getD (v12).toNat 0 → ∀ v14 : Int, v14 = v6 + (4 : Int) → (v14 < v2) ∧ ∀ v15 : Int, v15 = (L0).getD (v14).toNat 0 → ∀ v16 : Int, v16 = v6 + (5 : Int) → (v16 < v2) ∧ ∀ v17 : Int, v17 = (L0).getD (v16).toNat 0 → ∀ v18 : Int, v18 = v6 + (6 : Int) → (v18 < v2) ∧ ∀ v19 : Int, v19 = (L0).getD (v18).toNat 0 → ((v7 = (0 : Int)) → (Go.Sx.L2.bFind).rel.pre [v9, v11] [L3] ∧
(∀ v21 : Int, ∀ v22 : Int, ∀ v23 : Int, ∀ v24 : Int, ∀ v25 : Int, (Go.Sx.L2.bFind).rel.post [v9, v11] [L3] [v21, v22, v23, v24, v25] [] → (Go.Sx.L2.rFind).rel.pre [v9, v11] [L4] ∧
(∀ v26 : Int, ∀ v27 : Int, ∀ v28 : Int, ∀ v29 : Int, ∀ v30 : Int, (Go.Sx.L2.rFind).rel.post [v9, v11] [L4] [v26, v27, v28, v29, v30] [] → ∀ v31 : Int, v31 = b2i (v21 == v26) → ∀ v32 : Int, v32 = b2i (v22 == v27) → ∀ v33 : Int, v33 = b2i (v23 == v28) → ∀ v34 : Int, v34 = b2i (v24 == v29) → ∀ v35 : Int, v35 = (if v34 = 0 then (0 : Int) else (1 : Int)) → ∀ v36 : Int, v36 = (if v33 = 0 then (0 : Int) else v35) → ∀ v37 : Int, v37 = (if v32 = 0 then (0 : Int) else v36) → ∀ v38 : Int, v38 = (if v31 = 0 then (0 : Int) else v37) → (v38 ≠ 0 → ∀ v39 : Int, v39 = b2i (v25 == 0) → ∀ v40 : Int, v40 = b2i (v30 == 0) → ∀ v41 : Int, v41 = b2i (v39 == v40) → (Go.Sx.L2.bLines).rel.pre [] [L3] ∧
(∀ v42 : Int, ∀ v43 : Int, ∀ L5 : List Int, (Go.Sx.L2.bLines).rel.post [] [L3] [v42, v43] [L5] → ∀ v44 : Int, v44 = b2i (v41 == 0) → (v44 ≠ 0 → False) ∧
(v44 = 0 → ∃ (I1 : List Int → List (List Int) → Prop) (μ1 : List Int → List (List Int) → Nat), I1 [(0 : Int)] [] ∧
(∀ v45 : Int, I1 [v45] [] →
 ((v45 < (8 : Int)) → ∀ v47 : Int, v47 = v45 * (4 : Int) → ∀ v48 : Int, v48 = (L5).getD (v47).toNat 0 → ∀ v49 : Int, v49 = v47 + (1 : Int) → ∀ v50 : Int, v50 = (L5).getD (v49).toNat 0 → ∀ v51 : Int, v51 = v47 + (2 : Int) → ∀ v52 : Int, v52 = (L5).getD (v51).toNat 0 → ∀ v53 : Int, v53 = v47 + (3 : Int) → ∀ v54 : Int, v54 = (L5).getD (v53).toNat 0 → ∀ v55 : Int, v55 = (L4).getD (v47).toNat 0 → ∀ v56 : Int, v56 = (L4).getD (v49).toNat 0 → ∀ v57 : Int, v57 = (L4).getD (v51).toNat 0 → ∀ v58 : Int, v58 = (L4).getD (v53).toNat 0 → ∀ v59 : Int, v59 = b2i (v48 == v55) → ∀ v60 : Int, v60 = b2i (v50 == v56) → ∀ v61 : Int, v61 = b2i (v52 == v57) → ∀ v62 : Int, v62 = b2i (v54 == v58) → ∀ v63 : Int, v63 = (if v62 = 0 then (0 : Int) else (1 : Int)) → ∀ v64 : Int, v64 = (if v61 = 0 then (0 : Int) else v63) → ∀ v65 : Int, v65 = (if v60 = 0 then (0 : Int) else v64) → ∀ v66 : Int, v66 = (if v59 = 0 then (0 : Int) else v65) → ∀ v67 : Int, v67 = b2i (v66 == 0) → (v67 ≠ 0 → False) ∧
(v67 = 0 → ∀ v68 : Int, v68 = v45 + (1 : Int) → (I1 [v68] [] ∧ μ1 [v68] [] < μ1 [v45] []))) ∧
(((8 : Int) ≤ v45) → ∀ v47 : Int, v47 = v3 + (1 : Int) → (I0 [v47] [L3, L4] ∧ μ0 [v47] [L3, L4] < μ0 [v3] [L3, L4])))))) ∧
(v38 = 0 → (Go.Sx.L2.bLines).rel.pre [] [L3] ∧
(∀ v39 : Int, ∀ v40 : Int, ∀ L5 : List Int, (Go.Sx.L2.bLines).rel.post [] [L3] [v39, v40] [L5] → False))))) ∧
((v7 ≠ (0 : Int)) → ((v7 = (1 : Int)) → (Go.Sx.L2.bFill).rel.pre [v9, v11, v13, v15] [L3] ∧
(∀ v22 : Int, ∀ L5 : List Int, (Go.Sx.L2.bFill).rel.post [v9, v11, v13, v15] [L3] [v22] [L5] → (Go.Sx.L2.rFill).rel.pre [v9, v11, v13, v15] [L4] ∧
(∀ v23 : Int, ∀ L6 : List Int, (Go.Sx.L2.rFill).rel.post [v9, v11, v13, v15] [L4] [v23] [L6] → ∀ v24 : Int, v24 = b2i (v22 == 0) → ∀ v25 : Int, v25 = b2i (v23 == 0) → ∀ v26 : Int, v26 = b2i (v24 == v25) → (Go.Sx.L2.bLines).rel.pre [] [L5] ∧
(∀ v27 : Int, ∀ v28 : Int, ∀ L7 : List Int, (Go.Sx.L2.bLines).rel.post [] [L5] [v27, v28] [L7] → ∀ v29 : Int, v29 = b2i (v26 == 0) → (v29 ≠ 0 → False) ∧
(v29 = 0 → ∃ (I1 : List Int → List (List Int) → Prop) (μ1 : List Int → List (List Int) → Nat), I1 [(0 : Int)] [] ∧
(∀ v30 : Int, I1 [v30] [] →
 ((v30 < (8 : Int)) → ∀ v32 : Int, v32 = v30 * (4 : Int) → ∀ v33 : Int, v33 = (L7).getD (v32).toNat 0 → ∀ v34 : Int, v34 = v32 + (1 : Int) → ∀ v35 : Int, v35 = (L7).getD (v34).toNat 0 → ∀ v36 : Int, v36 = v32 + (2 : Int) → ∀ v37 : Int, v37 = (L7).getD (v36).toNat 0 → ∀ v38 : Int, v38 = v32 + (3 : Int) → ∀ v39 : Int, v39 = (L7).getD (v38).toNat 0 → ∀ v40 : Int, v40 = (L6).getD (v32).toNat 0 → ∀ v41 : Int, v41 = (L6).getD (v34).toNat 0 → ∀ v42 : Int, v42 = (L6).getD (v36).toNat 0 → ∀ v43 : Int, v43 = (L6).getD (v38).toNat 0 → ∀ v44 : Int, v44 = b2i (v33 == v40) → ∀ v45 : Int, v45 = b2i (v35 == v41) → ∀ v46 : Int, v46 = b2i (v37 == v42) → ∀ v47 : Int, v47 = b2i (v39 == v43) → ∀ v48 : Int, v48 = (if v47 = 0 then (0 : Int) else (1 : Int)) → ∀ v49 : Int, v49 = (if v46 = 0 then (0 : Int) else v48) → ∀ v50 : Int, v50 = (if v45 = 0 then (0 : Int) else v49) → ∀ v51 : Int, v51 = (if v44 = 0 then (0 : Int) else v50) → ∀ v52 : Int, v52 = b2i (v51 == 0) → (v52 ≠ 0 → False) ∧
(v52 = 0 → ∀ v53 : Int, v53 = v30 + (1 : Int) → (I1 [v53] [] ∧ μ1 [v53] [] < μ1 [v30] []))) ∧
(((8 : Int) ≤ v30) → ∀ v32 : Int, v32 = v3 + (1 : Int) → (I0 [v32] [L5, L6] ∧ μ0 [v32] [L5, L6] < μ0 [v3] [L3, L4])))))))) ∧
((v7 ≠ (1 : Int)) → ((v7 = (2 : Int)) → (Go.Sx.L2.bEvict).rel.pre [v17, v19] [L3] ∧
(∀ v23 : Int, ∀ L5 : List Int, (Go.Sx.L2.bEvict).rel.post [v17, v19] [L3] [v23] [L5] → (Go.Sx.L2.rEvict).rel.pre [v17, v19] [L4] ∧
(∀ v24 : Int, ∀ L6 : List Int, (Go.Sx.L2.rEvict).rel.post [v17, v19] [L4] [v24] [L6] → ∀ v25 : Int, v25 = b2i (v23 == 0) → ∀ v26 : Int, v26 = b2i (v24 == 0) → ∀ v27 : Int, v27 = b2i (v25 == v26) → (Go.Sx.L2.bLines).rel.pre [] [L5] ∧
(∀ v28 : Int, ∀ v29 : Int, ∀ L7 : List Int, (Go.Sx.L2.bLines).rel.post [] [L5] [v28, v29] [L7] → ∀ v30 : Int, v30 = b2i (v27 == 0) → (v30 ≠ 0 → False) ∧
(v30 = 0 → ∃ (I1 : List Int → List (List Int) → Prop) (μ1 : List Int → List (List Int) → Nat), I1 [(0 : Int)] [] ∧
(∀ v31 : Int, I1 [v31] [] →
 ((v31 < (8 : Int)) → ∀ v33 : Int, v33 = v31 * (4 : Int) → ∀ v34 : Int, v34 = (L7).getD (v33).toNat 0 → ∀ v35 : Int, v35 = v33 + (1 : Int) → ∀ v36 : Int, v36 = (L7).getD (v35).toNat 0 → ∀ v37 : Int, v37 = v33 + (2 : Int) → ∀ v38 : Int, v38 = (L7).getD (v37).toNat 0 → ∀ v39 : Int, v39 = v33 + (3 : Int) → ∀ v40 : Int, v40 = (L7).getD (v39).toNat 0 → ∀ v41 : Int, v41 = (L6).getD (v33).toNat 0 → ∀ v42 : Int, v42 = (L6).getD (v35).toNat 0 → ∀ v43 : Int, v43 = (L6).getD (v37).toNat 0 → ∀ v44 : Int, v44 = (L6).getD (v39).toNat 0 → ∀ v45 : Int, v45 = b2i (v34 == v41) → ∀ v46 : Int, v46 = b2i (v36 == v42) → ∀ v47 : Int, v47 = b2i (v38 == v43) → ∀ v48 : Int, v48 = b2i (v40 == v44) → ∀ v49 : Int, v49 = (if v48 = 0 then (0 : Int) else (1 : Int)) → ∀ v50 : Int, v50 = (if v47 = 0 then (0 : Int) else v49) → ∀ v51 : Int, v51 = (if v46 = 0 then (0 : Int) else v50) → ∀ v52 : Int, v52 = (if v45 = 0 then (0 : Int) else v51) → ∀ v53 : Int, v53 = b2i (v52 == 0) → (v53 ≠ 0 → False) ∧
(v53 = 0 → ∀ v54 : Int, v54 = v31 + (1 : Int) → (I1 [v54] [] ∧ μ1 [v54] [] < μ1 [v31] []))) ∧
(((8 : Int) ≤ v31) → ∀ v33 : Int, v33 = v3 + (1 : Int) → (I0 [v33] [L5, L6] ∧ μ0 [v33] [L5, L6] < μ0 [v3] [L3, L4])))))))) ∧
((v7 ≠ (2 : Int)) → ((v7 = (3 : Int)) → (Go.Sx.L2.bFlush).rel.pre [v9, v11] [L3] ∧
(∀ v24 : Int, ∀ L5 : List Int, (Go.Sx.L2.bFlush).rel.post [v9, v11] [L3] [v24] [L5] → (Go.Sx.L2.rFlush).rel.pre [v9, v11] [L4] ∧
(∀ v25 : Int, ∀ L6 : List Int, (Go.Sx.L2.rFlush).rel.post [v9, v11] [L4] [v25] [L6] → ∀ v26 : Int, v26 = b2i (v24 == 0) → ∀ v27 : Int, v27 = b2i (v25 == 0) → ∀ v28 : Int, v28 = b2i (v26 == v27) → (Go.Sx.L2.bLines).rel.pre [] [L5] ∧
(∀ v29 : Int, ∀ v30 : Int, ∀ L7 : List Int, (Go.Sx.L2.bLines).rel.post [] [L5] [v29, v30] [L7] → ∀ v31 : Int, v31 = b2i (v28 == 0) → (v31 ≠ 0 → False) ∧
(v31 = 0 → ∃ (I1 : List Int → List (List Int) → Prop) (μ1 : List Int → List (List Int) → Nat), I1 [(0 : Int)] [] ∧
(∀ v32 : Int, I1 [v32] [] →
 ((v32 < (8 : Int)) → ∀ v34 : Int, v34 = v32 * (4 : Int) → ∀ v35 : Int, v35 = (L7).getD (v34).toNat 0 → ∀ v36 : Int, v36 = v34 + (1 : Int) → ∀ v37 : Int, v37 = (L7).getD (v36).toNat 0 → ∀ v38 : Int, v38 = v34 + (2 : Int) → ∀ v39 : Int, v39 = (L7).getD (v38).toNat 0 → ∀ v40 : Int, v40 = v34 + (3 : Int) → ∀ v41 : Int, v41 = (L7).getD (v40).toNat 0 → ∀ v42 : Int, v42 = (L6).getD (v34).toNat 0 → ∀ v43 : Int, v43 = (L6).getD (v36).toNat 0 → ∀ v44 : Int, v44 = (L6).getD (v38).toNat 0 → ∀ v45 : Int, v45 = (L6).getD (v40).toNat 0 → ∀ v46 : Int, v46 = b2i (v35 == v42) → ∀ v47 : Int, v47 = b2i (v37 == v43) → ∀ v48 : Int, v48 = b2i (v39 == v44) → ∀ v49 : Int, v49 = b2i (v41 == v45) → ∀ v50 : Int, v50 = (if v49 = 0 then (0 : Int) else (1 : Int)) → ∀ v51 : Int, v51 = (if v48 = 0 then (0 : Int) else v50) → ∀ v52 : Int, v52 = (if v47 = 0 then (0 : Int) else v51) → ∀ v53 : Int, v53 = (if v46 = 0 then (0 : Int) else v52) → ∀ v54 : Int, v54 = b2i (v53 == 0) → (v54 ≠ 0 → False) ∧
(v54 = 0 → ∀ v55 : Int, v55 = v32 + (1 : Int) → (I1 [v55] [] ∧ μ1 [v55] [] < μ1 [v32] []))) ∧
(((8 : Int) ≤ v32) → ∀ v34 : Int, v34 = v3 + (1 : Int) → (I0 [v34] [L5, L6] ∧ μ0 [v34] [L5, L6] < μ0 [v3] [L3, L4])))))))) ∧
((v7 ≠ (3 : Int)) → ((v7 = (4 : Int)) → (Go.Sx.L2.bFlushFrame).rel.pre [v13] [L3] ∧
(∀ v25 : Int, ∀ L5 : List Int, (Go.Sx.L2.bFlushFrame).rel.post [v13] [L3] [v25] [L5] → (Go.Sx.L2.rFlushFrame).rel.pre [v13] [L4] ∧
(∀ v26 : Int, ∀ L6 : List Int, (Go.Sx.L2.rFlushFrame).rel.post [v13] [L4] [v26] [L6] → ∀ v27 : Int, v27 = b2i (v25 == v26) → (Go.Sx.L2.bLines).rel.pre [] [L5] ∧
(∀ v28 : Int, ∀ v29 : Int, ∀ L7 : List Int, (Go.Sx.L2.bLines).rel.post [] [L5] [v28, v29] [L7] → ∀ v30 : Int, v30 = b2i (v27 == 0) → (v30 ≠ 0 → False) ∧
(v30 = 0 → ∃ (I1 : List Int → List (List Int) → Prop) (μ1 : List Int → List (List Int) → Nat), I1 [(0 : Int)] [] ∧
(∀ v31 : Int, I1 [v31] [] →
 ((v31 < (8 : Int)) → ∀ v33 : Int, v33 = v31 * (4 : Int) → ∀ v34 : Int, v34 = (L7).getD (v33).toNat 0 → ∀ v35 : Int, v35 = v33 + (1 : Int) → ∀ v36 : Int, v36 = (L7).getD (v35).toNat 0 → ∀ v37 : Int, v37 = v33 + (2 : Int) → ∀ v38 : Int, v38 = (L7).getD (v37).toNat 0 → ∀ v39 : Int, v39 = v33 + (3 : Int) → ∀ v40 : Int, v40 = (L7).getD (v39).toNat 0 → ∀ v41 : Int, v41 = (L6).getD (v33).toNat 0 → ∀ v42 : Int, v42 = (L6).getD (v35).toNat 0 → ∀ v43 : Int, v43 = (L6).getD (v37).toNat 0 → ∀ v44 : Int, v44 = (L6).getD (v39).toNat 0 → ∀ v45 : Int, v45 = b2i (v34 == v41) → ∀ v46 : Int, v46 = b2i (v36 == v42) → ∀ v47 : Int, v47 = b2i (v38 == v43) → ∀ v48 : Int, v48 = b2i (v40 == v44) → ∀ v49 : Int, v49 = (if v48 = 0 then (0 : Int) else (1 : Int)) → ∀ v50 : Int, v50 = (if v47 = 0 then (0 : Int) else v49) → ∀ v51 : Int, v51 = (if v46 = 0 then (0 : Int) else v50) → ∀ v52 : Int, v52 = (if v45 = 0 then (0 : Int) else v51) → ∀ v53 : Int, v53 = b2i (v52 == 0) → (v53 ≠ 0 → False) ∧
(v53 = 0 → ∀ v54 : Int, v54 = v31 + (1 : Int) → (I1 [v54] [] ∧ μ1 [v54] [] < μ1 [v31] []))) ∧
(((8 : Int) ≤ v31) → ∀ v33 : Int, v33 = v3 + (1 : Int) → (I0 [v33] [L5, L6] ∧ μ0 [v33] [L5, L6] < μ0 [v3] [L3, L4])))))))) ∧
((v7 ≠ (4 : Int)) → (Go.Sx.L2.bClear).rel.pre [] [L3] ∧
(∀ L5 : List Int, (Go.Sx.L2.bClear).rel.post [] [L3] [] [L5] → ∀ L6 : List Int, L6 = (L4).set ((0 : Int)).toNat ((-1) : Int) → ∀ L7 : List Int, L7 = (L6).set ((1 : Int)).toNat (0 : Int) → ∀ L8 : List Int, L8 = (L7).set ((2 : Int)).toNat (0 : Int) → ∀ L9 : List Int, L9 = (L8).set ((3 : Int)).toNat (0 : Int) → ∀ L10 : List Int, L10 = (L9).set ((4 : Int)).toNat ((-1) : Int) → ∀ L11 : List Int, L11 = (L10).set ((5 : Int)).toNat (0 : Int) → ∀ L12 : List Int, L12 = (L11).set ((6 : Int)).toNat (0 : Int) → ∀ L13 : List Int, L13 = (L12).set ((7 : Int)).toNat (0 : Int) → ∀ L14 : List Int, L14 = (L13).set ((8 : Int)).toNat ((-1) : Int) → ∀ L15 : List Int, L15 = (L14).set ((9 : Int)).toNat (0 : Int) → ∀ L16 : List Int, L16 = (L15).set ((10 : Int)).toNat (0 : Int) → ∀ L17 : List Int, L17 = (L16).set ((11 : Int)).toNat (0 : Int) → ∀ L18 : List Int, L18 = (L17).set ((12 : Int)).toNat ((-1) : Int) → ∀ L19 : List Int, L19 = (L18).set ((13 : Int)).toNat (0 : Int) → ∀ L20 : List Int, L20 = (L19).set ((14 : Int)).toNat (0 : Int) → ∀ L21 : List Int, L21 = (L20).set ((15 : Int)).toNat (0 : Int) → ∀ L22 : List Int, L22 = (L21).set ((16 : Int)).toNat ((-1) : Int) → ∀ L23 : List Int, L23 = (L22).set ((17 : Int)).toNat (0 : Int) → ∀ L24 : List Int, L24 = (L23).set ((18 : Int)).toNat (0 : Int) → ∀ L25 : List Int, L25 = (L24).set ((19 : Int)).toNat (0 : Int) → ∀ L26 : List Int, L26 = (L25).set ((20 : Int)).toNat ((-1) : Int) → ∀ L27 : List Int, L27 = (L26).set ((21 : Int)).toNat (0 : Int) → ∀ L28 : List Int, L28 = (L27).set ((22 : Int)).toNat (0 : Int) → ∀ L29 : List Int, L29 = (L28).set ((23 : Int)).toNat (0 : Int) → ∀ L30 : List Int, L30 = (L29).set ((24 : Int)).toNat ((-1) : Int) → ∀ L31 : List Int, L31 = (L30).set ((25 : Int)).toNat (0 : Int) → ∀ L32 : List Int, L32 = (L31).set ((26 : Int)).toNat (0 : Int) → ∀ L33 : List Int, L33 = (L32).set ((27 : Int)).toNat (0 : Int) → ∀ L34 : List Int, L34 = (L33).set ((28 : Int)).toNat ((-1) : Int) → ∀ L35 : List Int, L35 = (L34).set ((29 : Int)).toNat (0 : Int) → ∀ L36 : List Int, L36 = (L35).set ((30 : Int)).toNat (0 : Int) → ∀ L37 : List Int, L37 = (L36).set ((31 : Int)).toNat (0 : Int) → (Go.Sx.L2.bLines).rel.pre [] [L5] ∧
(∀ v25 : Int, ∀ v26 : Int, ∀ L38 : List Int, (Go.Sx.L2.bLines).rel.post [] [L5] [v25, v26] [L38] → ∃ (I1 : List Int → List (List Int) → Prop) (μ1 : List Int → List (List Int) → Nat), I1 [(0 : Int)] [] ∧
(∀ v27 : Int, I1 [v27] [] →
 ((v27 < (8 : Int)) → ∀ v29 : Int, v29 = v27 * (4 : Int) → ∀ v30 : Int, v30 = (L38).getD (v29).toNat 0 → ∀ v31 : Int, v31 = v29 + (1 : Int) → ∀ v32 : Int, v32 = (L38).getD (v31).toNat 0 → ∀ v33 : Int, v33 = v29 + (2 : Int) → ∀ v34 : Int, v34 = (L38).getD (v33).toNat 0 → ∀ v35 : Int, v35 = v29 + (3 : Int) → ∀ v36 : Int, v36 = (L38).getD (v35).toNat 0 → ∀ v37 : Int, v37 = (L37).getD (v29).toNat 0 → ∀ v38 : Int, v38 = (L37).getD (v31).toNat 0 → ∀ v39 : Int, v39 = (L37).getD (v33).toNat 0 → ∀ v40 : Int, v40 = (L37).getD (v35).toNat 0 → ∀ v41 : Int, v41 = b2i (v30 == v37) → ∀ v42 : Int, v42 = b2i (v32 == v38) → ∀ v43 : Int, v43 = b2i (v34 == v39) → ∀ v44 : Int, v44 = b2i (v36 == v40) → ∀ v45 : Int, v45 = (if v44 = 0 then (0 : Int) else (1 : Int)) → ∀ v46 : Int, v46 = (if v43 = 0 then (0 : Int) else v45) → ∀ v47 : Int, v47 = (if v42 = 0 then (0 : Int) else v46) → ∀ v48 : Int, v48 = (if v41 = 0 then (0 : Int) else v47) → ∀ v49 : Int, v49 = b2i (v48 == 0) → (v49 ≠ 0 → False) ∧
(v49 = 0 → ∀ v50 : Int, v50 = v27 + (1 : Int) → (I1 [v50] [] ∧ μ1 [v50] [] < μ1 [v27] []))) ∧
(((8 : Int) ≤ v27) → ∀ v29 : Int, v29 = v3 + (1 : Int) → (I0 [v29] [L5, L37] ∧ μ0 [v29] [L5, L37] < μ0 [v3] [L3, L4]))))))))))) ∧
(((60 : Int) ≤ v3) → Q [] [])) ∧
((v0 ≤ v3) → Q [] [])))))) := by kernel_rfl
set_option maxHeartbeats 4000000 in
theorem tlbAll_holds0 : (lawSpec 23 [.slc L2.ks7]).Holds Tryz.prog L2.ro := FSpec.holdsV (cfg := withS (L2.cfg2 Tryz.prog) [L2.bNew, L2.bClear, L2.bFind, L2.bFill, L2.bFlush, L2.bEvict, L2.bLines, L2.bFlushFrame, L2.rNew, L2.rFind0, L2.rFind, L2.rFill, L2.rFlush, L2.rEvict, L2.rFlushFrame]) [{ f := 23, reg := 8, ints := [(6, 0, 60)], lists := [(4, [], some (-9223372036854775808, 9223372036854775807)), (5, [], some (-9223372036854775808, 9223372036854775807))] }, { f := 23, reg := 35, ints := [(152, 0, 8)] }] 20 200 (withS_ok cfg2_ok ⟨bNew_holds, bClear_holds, bFind_holds, bFill_holds, bFlush_holds, bEvict_holds, bLines_holds, bFlushFrame_holds, rNew_holds, rFind0_holds, rFind_holds, rFill_holds, rFlush_holds, rEvict_holds, rFlushFrame_holds, trivial⟩) mixed (t := TlbAll_t) TlbAll_tree (by
  show ∀ (v0 v1 v2 : Int) (L0 : List Int), _
  intro v0 v1 v2 L0 hp hr hl
  replace hr : ((0 : Int) ≤ v0 ∧ v0 ≤ (9223372036854775807 : Int)) ∧ ((0 : Int) ≤ v1 ∧ v1 ≤ (9223372036854775807 : Int)) ∧ ((0 : Int) ≤ v2 ∧ v2 ≤ (9223372036854775807 : Int) * ((7 : Nat) : Int)) ∧ True := hr
  replace hp : (True ∧ ((0 : Int) ≤ v0 ∧ v0 ≤ v1 ∧ (L0.length : Int) = v0 * ((7 : Nat) : Int) ∧ ((7 : Nat) ≠ 1 → v2 = v0 * ((7 : Nat) : Int)) ∧ ∀ j, j < L0.length → ((oneKind L2.ks7).getD (j % (oneKind L2.ks7).length) (.i .i64)).lo ≤ L0.getD j 0 ∧ L0.getD j 0 ≤ ((oneKind L2.ks7).getD (j % (oneKind L2.ks7).length) (.i .i64)).hi)) := hp
  show TlbAll_t.dn ⟨_, []⟩ 3 [v2, v1, v0] 1 [L0]
  rw [TlbAll_vc]
  show ((L2.yes L2.f_messuagelaw2_begun).rel.pre [] [] ∧ _)
  refine ⟨trivial, fun _ => ?_⟩
  refine ⟨trivial, fun T0 hT0 => ?_⟩
  have hT0 : T0 = clearB (List.replicate 41 0) := by
    have : [T0] = [clearB (List.replicate 41 (0 : Int))] := hT0.2
    simpa using this
  refine ⟨trivial, fun M0 hM0 => ?_⟩
  have hM0 : M0 = [-1, 0, 0, 0, -1, 0, 0, 0, -1, 0, 0, 0, -1, 0, 0, 0, -1, 0, 0, 0, -1, 0, 0, 0, -1, 0, 0, 0, -1, 0, 0, 0, 0, 0, 0, 0, 0, 0, 0, 0, 0] := by
    have := hM0.2
    simpa using this
  refine ⟨fun xs ys => match xs, ys with | [i], [L, M] => 0 ≤ i ∧ TB L M | _, _ => False, fun xs _ => match xs with | i :: _ => (60 - i).toNat | _ => 0, ?_, ?_⟩ <;> dsimp only
  · rw [hT0, hM0]; exact ⟨by omega, TB.start⟩
  · intro i L M hI
    obtain ⟨i0, hT⟩ := hI
    refine ⟨fun c1 => ⟨fun c2 => ?_, fun c2 => trivial⟩, fun c1 => trivial⟩
    have hv2 : v2 = v0 * 7 := by have := hp.2.2.2.2.1 (by decide); omega
    clear hp hr hl hT0 hM0
    refine ⟨c1, fun j0 ej0 => ⟨by omega, fun kind _ j1 ej1 => ⟨by omega, fun e _ j2 ej2 => ⟨by omega, fun p _ j3 ej3 => ⟨by omega, fun fr _ j4 ej4 => ⟨by omega, fun ri _ j5 ej5 => ⟨by omega, fun se _ j6 ej6 => ⟨by omega, fun wa _ => ?_⟩⟩⟩⟩⟩⟩⟩⟩
    refine ⟨fun k0 => ?_, fun k0 => ⟨fun k1 => ?_, fun k1 => ⟨fun k2 => ?_, fun k2 => ⟨fun k3 => ?_, fun k3 => ⟨fun k4 => ?_, fun k4 => ?_⟩⟩⟩⟩⟩
    ·
      refine ⟨trivial, fun x0 x1 x2 x3 xa hx => ?_⟩
      have hx : [x0, x1, x2, x3, xa] = [findB L e p 0, findB L e p 1, findB L e p 2, findB L e p 3, b2i (decide (atB L e p ≠ -1))] := hx
      refine ⟨trivial, fun y0 y1 y2 y3 ya hy => ?_⟩
      have hy : [y0, y1, y2, y3, ya] = [findR M e p 0, findR M e p 1, findR M e p 2, findR M e p 3, b2i (decide (rfB M e p 8 ≠ -1))] := hy
      have f0 := hT.r.find hT.w e p 0 (by omega) (by omega)
      have f1 := hT.r.find hT.w e p 1 (by omega) (by omega)
      have f2 := hT.r.find hT.w e p 2 (by omega) (by omega)
      have f3 := hT.r.find hT.w e p 3 (by omega) (by omega)
      simp only [List.cons.injEq, and_true] at hx hy
      have b0 : x0 = y0 := by rw [hx.1, hy.1, f0.1]
      have b1 : x1 = y1 := by rw [hx.2.1, hy.2.1, f1.1]
      have b2 : x2 = y2 := by rw [hx.2.2.1, hy.2.2.1, f2.1]
      have b3 : x3 = y3 := by rw [hx.2.2.2.1, hy.2.2.2.1, f3.1]
      have ba : xa = ya := by
        rw [hx.2.2.2.2, hy.2.2.2.2]
        congr 1
        exact decide_eq_decide.2 f0.2
      clear hx hy f0 f1 f2 f3
      intro s0 t0 s1 t1 s2 t2 s3 t3 z0 w0 z1 w1 z2 w2 z3 w3
      have hz3 : z3 = 1 := by rw [w3, w2, w1, w0, t0, t1, t2, t3, b0, b1, b2, b3]; simp [b2i]
      refine ⟨fun _ => ?_, fun c => absurd c (by omega)⟩
      intro x' ex' y' ey' o eo
      have ho : o = 1 := by rw [eo, ex', ey', ba]; simp [b2i]
      refine ⟨trivial, fun lc lr Lw hw => ?_⟩
      have hw : Lw = linesB L := by
        have : [Lw] = [linesB L] := hw
        simpa using this
      intro z ez
      have hz : z = 0 := by rw [ez, ho]; rfl
      refine ⟨fun c => absurd hz c, fun _ => ?_⟩
      refine ⟨fun xs _ => match xs with | [k] => 0 ≤ k | _ => False, fun xs _ => match xs with | k :: _ => (8 - k).toNat | _ => 0, ?_, ?_⟩ <;> dsimp only
      · omega
      · intro k hk
        obtain ⟨n, rfl⟩ : ∃ n : Nat, k = n := ⟨k.toNat, by omega⟩
        refine ⟨fun c3 => ?_, fun c3 => ?_⟩
        · have hn : n < 8 := by omega
          intro u1 q1 w0 p0 u2 q2 w1 p1 u3 q3 w2 p2 u4 q4 w3 p3 m0 r0 m1 r1 m2 r2 m3 r3 s0 t0 s1 t1 s2 t2 s3 t3 z0 y0 z1 y1 z2 y2 z3 y3 g hg
          have a0 : w0 = m0 := by
            rw [p0, r0, q1, hw, show ((n : Int) * 4).toNat = n * 4 + 0 by omega, hT.line hn (by omega)]
            unfold gI; congr 1
          have a1 : w1 = m1 := by
            rw [p1, r1, q2, q1, hw, show ((n : Int) * 4 + 1).toNat = n * 4 + 1 by omega, hT.line hn (by omega)]
            unfold gI; congr 1
          have a2 : w2 = m2 := by
            rw [p2, r2, q3, q1, hw, show ((n : Int) * 4 + 2).toNat = n * 4 + 2 by omega, hT.line hn (by omega)]
            unfold gI; congr 1
          have a3 : w3 = m3 := by
            rw [p3, r3, q4, q1, hw, show ((n : Int) * 4 + 3).toNat = n * 4 + 3 by omega, hT.line hn (by omega)]
            unfold gI; congr 1
          have hg0 : g = 0 := by
            rw [hg, y3, y2, y1, y0, t0, t1, t2, t3, a0, a1, a2, a3]; simp [b2i]
          exact ⟨fun c => absurd hg0 c, fun _ k' ek => ⟨by omega, by omega⟩⟩
        · intro i' ei
          exact ⟨⟨by omega, hT⟩, by omega⟩
    ·
      refine ⟨trivial, fun x La hx => ?_⟩
      have hx : [x] = [b2i (lineOk e p fr ri)] ∧ [La] = [fillB L e p fr ri] := hx
      have hx1 : x = b2i (lineOk e p fr ri) := by simpa using hx.1
      have hx2 : La = fillB L e p fr ri := by simpa using hx.2
      refine ⟨trivial, fun y Ma hy => ?_⟩
      have hy : [y] = [b2i (lineOk e p fr ri)] ∧ [Ma] = [fillR M e p fr ri] := hy
      have hy1 : y = b2i (lineOk e p fr ri) := by simpa using hy.1
      have hy2 : Ma = fillR M e p fr ri := by simpa using hy.2
      have hxy : x = y := by
        rw [hx1, hy1]
        
      have hT2 : TB La Ma := by rw [hx2, hy2]; exact hT.fill e p fr ri
      clear hx hy hx1 hx2 hy1 hy2
      intro x' ex' y' ey' o eo
      have ho : o = 1 := by rw [eo, ex', ey', hxy]; simp [b2i]
      refine ⟨trivial, fun lc lr Lw hw => ?_⟩
      have hw : Lw = linesB La := by
        have : [Lw] = [linesB La] := hw
        simpa using this
      intro z ez
      have hz : z = 0 := by rw [ez, ho]; rfl
      refine ⟨fun c => absurd hz c, fun _ => ?_⟩
      refine ⟨fun xs _ => match xs with | [k] => 0 ≤ k | _ => False, fun xs _ => match xs with | k :: _ => (8 - k).toNat | _ => 0, ?_, ?_⟩ <;> dsimp only
      · omega
      · intro k hk
        obtain ⟨n, rfl⟩ : ∃ n : Nat, k = n := ⟨k.toNat, by omega⟩
        refine ⟨fun c3 => ?_, fun c3 => ?_⟩
        · have hn : n < 8 := by omega
          intro u1 q1 w0 p0 u2 q2 w1 p1 u3 q3 w2 p2 u4 q4 w3 p3 m0 r0 m1 r1 m2 r2 m3 r3 s0 t0 s1 t1 s2 t2 s3 t3 z0 y0 z1 y1 z2 y2 z3 y3 g hg
          have a0 : w0 = m0 := by
            rw [p0, r0, q1, hw, show ((n : Int) * 4).toNat = n * 4 + 0 by omega, hT2.line hn (by omega)]
            unfold gI; congr 1
          have a1 : w1 = m1 := by
            rw [p1, r1, q2, q1, hw, show ((n : Int) * 4 + 1).toNat = n * 4 + 1 by omega, hT2.line hn (by omega)]
            unfold gI; congr 1
          have a2 : w2 = m2 := by
            rw [p2, r2, q3, q1, hw, show ((n : Int) * 4 + 2).toNat = n * 4 + 2 by omega, hT2.line hn (by omega)]
            unfold gI; congr 1
          have a3 : w3 = m3 := by
            rw [p3, r3, q4, q1, hw, show ((n : Int) * 4 + 3).toNat = n * 4 + 3 by omega, hT2.line hn (by omega)]
            unfold gI; congr 1
          have hg0 : g = 0 := by
            rw [hg, y3, y2, y1, y0, t0, t1, t2, t3, a0, a1, a2, a3]; simp [b2i]
          exact ⟨fun c => absurd hg0 c, fun _ k' ek => ⟨by omega, by omega⟩⟩
        · intro i' ei
          exact ⟨⟨by omega, hT2⟩, by omega⟩
    ·
      refine ⟨trivial, fun x La hx => ?_⟩
      have hx : [x] = [b2i (evictOk L se wa)] ∧ [La] = [evictB L se wa] := hx
      have hx1 : x = b2i (evictOk L se wa) := by simpa using hx.1
      have hx2 : La = evictB L se wa := by simpa using hx.2
      refine ⟨trivial, fun y Ma hy => ?_⟩
      have hy : [y] = [b2i (evictROk M se wa)] ∧ [Ma] = [evictR M se wa] := hy
      have hy1 : y = b2i (evictROk M se wa) := by simpa using hy.1
      have hy2 : Ma = evictR M se wa := by simpa using hy.2
      have hxy : x = y := by
        rw [hx1, hy1]
        rw [(hT.r.evict hT.w hT.n se wa).1]
      have hT2 : TB La Ma := by rw [hx2, hy2]; exact hT.evict se wa
      clear hx hy hx1 hx2 hy1 hy2
      intro x' ex' y' ey' o eo
      have ho : o = 1 := by rw [eo, ex', ey', hxy]; simp [b2i]
      refine ⟨trivial, fun lc lr Lw hw => ?_⟩
      have hw : Lw = linesB La := by
        have : [Lw] = [linesB La] := hw
        simpa using this
      intro z ez
      have hz : z = 0 := by rw [ez, ho]; rfl
      refine ⟨fun c => absurd hz c, fun _ => ?_⟩
      refine ⟨fun xs _ => match xs with | [k] => 0 ≤ k | _ => False, fun xs _ => match xs with | k :: _ => (8 - k).toNat | _ => 0, ?_, ?_⟩ <;> dsimp only
      · omega
      · intro k hk
        obtain ⟨n, rfl⟩ : ∃ n : Nat, k = n := ⟨k.toNat, by omega⟩
        refine ⟨fun c3 => ?_, fun c3 => ?_⟩
        · have hn : n < 8 := by omega
          intro u1 q1 w0 p0 u2 q2 w1 p1 u3 q3 w2 p2 u4 q4 w3 p3 m0 r0 m1 r1 m2 r2 m3 r3 s0 t0 s1 t1 s2 t2 s3 t3 z0 y0 z1 y1 z2 y2 z3 y3 g hg
          have a0 : w0 = m0 := by
            rw [p0, r0, q1, hw, show ((n : Int) * 4).toNat = n * 4 + 0 by omega, hT2.line hn (by omega)]
            unfold gI; congr 1
          have a1 : w1 = m1 := by
            rw [p1, r1, q2, q1, hw, show ((n : Int) * 4 + 1).toNat = n * 4 + 1 by omega, hT2.line hn (by omega)]
            unfold gI; congr 1
          have a2 : w2 = m2 := by
            rw [p2, r2, q3, q1, hw, show ((n : Int) * 4 + 2).toNat = n * 4 + 2 by omega, hT2.line hn (by omega)]
            unfold gI; congr 1
          have a3 : w3 = m3 := by
            rw [p3, r3, q4, q1, hw, show ((n : Int) * 4 + 3).toNat = n * 4 + 3 by omega, hT2.line hn (by omega)]
            unfold gI; congr 1
          have hg0 : g = 0 := by
            rw [hg, y3, y2, y1, y0, t0, t1, t2, t3, a0, a1, a2, a3]; simp [b2i]
          exact ⟨fun c => absurd hg0 c, fun _ k' ek => ⟨by omega, by omega⟩⟩
        · intro i' ei
          exact ⟨⟨by omega, hT2⟩, by omega⟩
    ·
      refine ⟨trivial, fun x La hx => ?_⟩
      have hx : [x] = [b2i (decide (atB L e p ≠ -1))] ∧ [La] = [flushB L e p] := hx
      have hx1 : x = b2i (decide (atB L e p ≠ -1)) := by simpa using hx.1
      have hx2 : La = flushB L e p := by simpa using hx.2
      refine ⟨trivial, fun y Ma hy => ?_⟩
      have hy : [y] = [b2i (decide (rfB M e p 8 ≠ -1))] ∧ [Ma] = [flushR M e p] := hy
      have hy1 : y = b2i (decide (rfB M e p 8 ≠ -1)) := by simpa using hy.1
      have hy2 : Ma = flushR M e p := by simpa using hy.2
      have hxy : x = y := by
        rw [hx1, hy1]
        congr 1; exact decide_eq_decide.2 (hT.r.find hT.w e p 0 (by omega) (by omega)).2
      have hT2 : TB La Ma := by rw [hx2, hy2]; exact hT.flush e p
      clear hx hy hx1 hx2 hy1 hy2
      intro x' ex' y' ey' o eo
      have ho : o = 1 := by rw [eo, ex', ey', hxy]; simp [b2i]
      refine ⟨trivial, fun lc lr Lw hw => ?_⟩
      have hw : Lw = linesB La := by
        have : [Lw] = [linesB La] := hw
        simpa using this
      intro z ez
      have hz : z = 0 := by rw [ez, ho]; rfl
      refine ⟨fun c => absurd hz c, fun _ => ?_⟩
      refine ⟨fun xs _ => match xs with | [k] => 0 ≤ k | _ => False, fun xs _ => match xs with | k :: _ => (8 - k).toNat | _ => 0, ?_, ?_⟩ <;> dsimp only
      · omega
      · intro k hk
        obtain ⟨n, rfl⟩ : ∃ n : Nat, k = n := ⟨k.toNat, by omega⟩
        refine ⟨fun c3 => ?_, fun c3 => ?_⟩
        · have hn : n < 8 := by omega
          intro u1 q1 w0 p0 u2 q2 w1 p1 u3 q3 w2 p2 u4 q4 w3 p3 m0 r0 m1 r1 m2 r2 m3 r3 s0 t0 s1 t1 s2 t2 s3 t3 z0 y0 z1 y1 z2 y2 z3 y3 g hg
          have a0 : w0 = m0 := by
            rw [p0, r0, q1, hw, show ((n : Int) * 4).toNat = n * 4 + 0 by omega, hT2.line hn (by omega)]
            unfold gI; congr 1
          have a1 : w1 = m1 := by
            rw [p1, r1, q2, q1, hw, show ((n : Int) * 4 + 1).toNat = n * 4 + 1 by omega, hT2.line hn (by omega)]
            unfold gI; congr 1
          have a2 : w2 = m2 := by
            rw [p2, r2, q3, q1, hw, show ((n : Int) * 4 + 2).toNat = n * 4 + 2 by omega, hT2.line hn (by omega)]
            unfold gI; congr 1
          have a3 : w3 = m3 := by
            rw [p3, r3, q4, q1, hw, show ((n : Int) * 4 + 3).toNat = n * 4 + 3 by omega, hT2.line hn (by omega)]
            unfold gI; congr 1
          have hg0 : g = 0 := by
            rw [hg, y3, y2, y1, y0, t0, t1, t2, t3, a0, a1, a2, a3]; simp [b2i]
          exact ⟨fun c => absurd hg0 c, fun _ k' ek => ⟨by omega, by omega⟩⟩
        · intro i' ei
          exact ⟨⟨by omega, hT2⟩, by omega⟩
    ·
      refine ⟨trivial, fun x La hx => ?_⟩
      have hx : [x] = [(ffB L fr 8).2] ∧ [La] = [(ffB L fr 8).1] := hx
      have hx1 : x = (ffB L fr 8).2 := by simpa using hx.1
      have hx2 : La = (ffB L fr 8).1 := by simpa using hx.2
      refine ⟨trivial, fun y Ma hy => ?_⟩
      have hy : [y] = [(ffR M fr 8).2] ∧ [Ma] = [(ffR M fr 8).1] := hy
      have hy1 : y = (ffR M fr 8).2 := by simpa using hy.1
      have hy2 : Ma = (ffR M fr 8).1 := by simpa using hy.2
      have hxy : x = y := by
        rw [hx1, hy1]
        exact (hT.ff fr).2
      have hT2 : TB La Ma := by rw [hx2, hy2]; exact (hT.ff fr).1
      clear hx hy hx1 hx2 hy1 hy2
      intro o eo
      have ho : o = 1 := by rw [eo, hxy]; simp [b2i]
      refine ⟨trivial, fun lc lr Lw hw => ?_⟩
      have hw : Lw = linesB La := by
        have : [Lw] = [linesB La] := hw
        simpa using this
      intro z ez
      have hz : z = 0 := by rw [ez, ho]; rfl
      refine ⟨fun c => absurd hz c, fun _ => ?_⟩
      refine ⟨fun xs _ => match xs with | [k] => 0 ≤ k | _ => False, fun xs _ => match xs with | k :: _ => (8 - k).toNat | _ => 0, ?_, ?_⟩ <;> dsimp only
      · omega
      · intro k hk
        obtain ⟨n, rfl⟩ : ∃ n : Nat, k = n := ⟨k.toNat, by omega⟩
        refine ⟨fun c3 => ?_, fun c3 => ?_⟩
        · have hn : n < 8 := by omega
          intro u1 q1 w0 p0 u2 q2 w1 p1 u3 q3 w2 p2 u4 q4 w3 p3 m0 r0 m1 r1 m2 r2 m3 r3 s0 t0 s1 t1 s2 t2 s3 t3 z0 y0 z1 y1 z2 y2 z3 y3 g hg
          have a0 : w0 = m0 := by
            rw [p0, r0, q1, hw, show ((n : Int) * 4).toNat = n * 4 + 0 by omega, hT2.line hn (by omega)]
            unfold gI; congr 1
          have a1 : w1 = m1 := by
            rw [p1, r1, q2, q1, hw, show ((n : Int) * 4 + 1).toNat = n * 4 + 1 by omega, hT2.line hn (by omega)]
            unfold gI; congr 1
          have a2 : w2 = m2 := by
            rw [p2, r2, q3, q1, hw, show ((n : Int) * 4 + 2).toNat = n * 4 + 2 by omega, hT2.line hn (by omega)]
            unfold gI; congr 1
          have a3 : w3 = m3 := by
            rw [p3, r3, q4, q1, hw, show ((n : Int) * 4 + 3).toNat = n * 4 + 3 by omega, hT2.line hn (by omega)]
            unfold gI; congr 1
          have hg0 : g = 0 := by
            rw [hg, y3, y2, y1, y0, t0, t1, t2, t3, a0, a1, a2, a3]; simp [b2i]
          exact ⟨fun c => absurd hg0 c, fun _ k' ek => ⟨by omega, by omega⟩⟩
        · intro i' ei
          exact ⟨⟨by omega, hT2⟩, by omega⟩
    ·
      refine ⟨trivial, fun La hx => ?_⟩
      have hx2 : La = clearB L := by
        have : [La] = [clearB L] := hx.2
        simpa using this
      have hT2 := hT.clear
      rw [← hx2] at hT2
      intro N0 eN0 N1 eN1 N2 eN2 N3 eN3 N4 eN4 N5 eN5 N6 eN6 N7 eN7 N8 eN8 N9 eN9 N10 eN10 N11 eN11 N12 eN12 N13 eN13 N14 eN14 N15 eN15 N16 eN16 N17 eN17 N18 eN18 N19 eN19 N20 eN20 N21 eN21 N22 eN22 N23 eN23 N24 eN24 N25 eN25 N26 eN26 N27 eN27 N28 eN28 N29 eN29 N30 eN30 N31 eN31
      have hN : N31 = noneR (noneR (noneR (noneR (noneR (noneR (noneR (noneR M 0) 1) 2) 3) 4) 5) 6) 7 := by
        rw [eN31, eN30, eN29, eN28, eN27, eN26, eN25, eN24, eN23, eN22, eN21, eN20, eN19, eN18, eN17, eN16, eN15, eN14, eN13, eN12, eN11, eN10, eN9, eN8, eN7, eN6, eN5, eN4, eN3, eN2, eN1, eN0]; rfl
      rw [← hN] at hT2
      clear hN eN31 eN30 eN29 eN28 eN27 eN26 eN25 eN24 eN23 eN22 eN21 eN20 eN19 eN18 eN17 eN16 eN15 eN14 eN13 eN12 eN11 eN10 eN9 eN8 eN7 eN6 eN5 eN4 eN3 eN2 eN1 eN0
      refine ⟨trivial, fun lc lr Lw hw => ?_⟩
      have hw : Lw = linesB La := by
        have : [Lw] = [linesB La] := hw
        simpa using this
      refine ⟨fun xs _ => match xs with | [k] => 0 ≤ k | _ => False, fun xs _ => match xs with | k :: _ => (8 - k).toNat | _ => 0, ?_, ?_⟩ <;> dsimp only
      · omega
      · intro k hk
        obtain ⟨n, rfl⟩ : ∃ n : Nat, k = n := ⟨k.toNat, by omega⟩
        refine ⟨fun c3 => ?_, fun c3 => ?_⟩
        · have hn : n < 8 := by omega
          intro u1 q1 w0 p0 u2 q2 w1 p1 u3 q3 w2 p2 u4 q4 w3 p3 m0 r0 m1 r1 m2 r2 m3 r3 s0 t0 s1 t1 s2 t2 s3 t3 z0 y0 z1 y1 z2 y2 z3 y3 g hg
          have a0 : w0 = m0 := by
            rw [p0, r0, q1, hw, show ((n : Int) * 4).toNat = n * 4 + 0 by omega, hT2.line hn (by omega)]
            unfold gI; congr 1
          have a1 : w1 = m1 := by
            rw [p1, r1, q2, q1, hw, show ((n : Int) * 4 + 1).toNat = n * 4 + 1 by omega, hT2.line hn (by omega)]
            unfold gI; congr 1
          have a2 : w2 = m2 := by
            rw [p2, r2, q3, q1, hw, show ((n : Int) * 4 + 2).toNat = n * 4 + 2 by omega, hT2.line hn (by omega)]
            unfold gI; congr 1
          have a3 : w3 = m3 := by
            rw [p3, r3, q4, q1, hw, show ((n : Int) * 4 + 3).toNat = n * 4 + 3 by omega, hT2.line hn (by omega)]
            unfold gI; congr 1
          have hg0 : g = 0 := by
            rw [hg, y3, y2, y1, y0, t0, t1, t2, t3, a0, a1, a2, a3]; simp [b2i]
          exact ⟨fun c => absurd hg0 c, fun _ k' ek => ⟨by omega, by omega⟩⟩
        · intro i' ei
          exact ⟨⟨by omega, hT2⟩, by omega⟩)
theorem tlbAll_holds : ((lawSpec 23 [.slc L2.ks7]).withPre fun _ => True).Holds Tryz.prog L2.ro := holds_withPre _ tlbAll_holds0

noncomputable def TlbAll_n_t : Tree := .call 25 (Go.Sx.L2.yes Go.Sx.L2.f_messuagelaw2_begun).rel [] [] 0 0 (.call 60 (Go.Sx.L2.bNew).rel [] [] 0 1 (.call 86 (Go.Sx.L2.rNew).rel [] [] 0 1 (.loop [.c (0)] [0, 1] (.exit (.done [] [])))))
theorem TlbAll_n_tree : (lawSpec 23 [.nil]).exe Tryz.prog (withS (L2.cfg2 Tryz.prog) [L2.bNew, L2.bClear, L2.bFind, L2.bFill, L2.bFlush, L2.bEvict, L2.bLines, L2.bFlushFrame, L2.rNew, L2.rFind0, L2.rFind, L2.rFill, L2.rFlush, L2.rEvict, L2.rFlushFrame]) [{ f := 23, reg := 8, ints := [(6, 0, 60)], lists := [(4, [], some (-9223372036854775808, 9223372036854775807)), (5, [], some (-9223372036854775808, 9223372036854775807))] }, { f := 23, reg := 35, ints := [(152, 0, 8)] }] 20 200 = TlbAll_n_t := by kernel_rfl
theorem TlbAll_n_vc (Q : List Int → List (List Int) → Prop) : TlbAll_n_t.dn ⟨Q, []⟩ 0 [] 0 [] = ((Go.Sx.L2.yes Go.Sx.L2.f_messuagelaw2_begun).rel.pre [] [] ∧
((Go.Sx.L2.yes Go.Sx.L2.f_messuagelaw2_begun).rel.post [] [] [] [] → (Go.Sx.L2.bNew).rel.pre [] [] ∧
(∀ L0 : List Int, (Go.Sx.L2.bNew).rel.post [] [] [] [L0] → (Go.Sx.L2.rNew).rel.pre [] [] ∧
(∀ L1 : List Int, (Go.Sx.L2.rNew).rel.post [] [] [] [L1] → ∃ (I0 : List Int → List (List Int) → Prop) (μ0 : List Int → List (List Int) → Nat), I0 [(0 : Int)] [L0, L1] ∧
(∀ v0 : Int, ∀ L2 : List Int, ∀ L3 : List Int, I0 [v0] [L2, L3] →
 Q [] []))))) := by kernel_rfl
set_option maxHeartbeats 4000000 in
theorem tlbAll_holds_n0 : (lawSpec 23 [.nil]).Holds Tryz.prog L2.ro := FSpec.holdsV (cfg := withS (L2.cfg2 Tryz.prog) [L2.bNew, L2.bClear, L2.bFind, L2.bFill, L2.bFlush, L2.bEvict, L2.bLines, L2.bFlushFrame, L2.rNew, L2.rFind0, L2.rFind, L2.rFill, L2.rFlush, L2.rEvict, L2.rFlushFrame]) [{ f := 23, reg := 8, ints := [(6, 0, 60)], lists := [(4, [], some (-9223372036854775808, 9223372036854775807)), (5, [], some (-9223372036854775808, 9223372036854775807))] }, { f := 23, reg := 35, ints := [(152, 0, 8)] }] 20 200 (withS_ok cfg2_ok ⟨bNew_holds, bClear_holds, bFind_holds, bFill_holds, bFlush_holds, bEvict_holds, bLines_holds, bFlushFrame_holds, rNew_holds, rFind0_holds, rFind_holds, rFill_holds, rFlush_holds, rEvict_holds, rFlushFrame_holds, trivial⟩) mixed (t := TlbAll_n_t) TlbAll_n_tree (by
  show _ → _
  intro   hp hr hl
  replace hr : True := hr
  replace hp : True := hp
  show TlbAll_n_t.dn ⟨_, []⟩ 0 [] 0 []
  rw [TlbAll_n_vc]
  show ((L2.yes L2.f_messuagelaw2_begun).rel.pre [] [] ∧ _)
  refine ⟨trivial, fun _ => ?_⟩
  exact ⟨trivial, fun _ _ => ⟨trivial, fun _ _ => ⟨fun _ _ => True, fun _ _ => 0, trivial, fun _ _ _ _ => trivial⟩⟩⟩)
theorem tlbAll_holds_n : ((lawSpec 23 [.nil]).withPre fun _ => True).Holds Tryz.prog L2.ro := holds_withPre _ tlbAll_holds_n0

theorem tlbAll_calls {H : Type} {enc : TypeId × Value → H} {W : World} {base : Nat} {args : Array Value} {ds : List (DataW H)} {p : List MemPlace} (hval : ∀ (j : Nat) t v, Tryz.f23.params[j]? = some t → args[j]? = some v → Value.okWide Tryz.prog W .any base t v)
    (hA : DataW.TrodAll enc Tryz.prog W 0 (fun _ => true) true Tryz.f23.params.toList args.toList ds p) (hL : laidMetH Tryz.prog laid1 W) : Calls Tryz.prog 23 args W fun e W' => e = .returned (.bool true) ∧ Go.Sx.Frame ⟨W, [], L2.ro⟩ W' := by
  rw [Tryz.params23] at hA hval
  obtain ⟨v0, d0, rfl, rfl, h0⟩ := trodAll_one hA
  rcases par_flats (base := 0) (f := 9) und108 flat112 cells112 (by decide) (hval 0 108 v0 rfl rfl) h0 with q0 | ⟨e0, q0⟩
  · exact law_calls (tlbAll_holds_n) Tryz.func23 (show Tryz.f23.body = some _ from rfl) (by kernel_rfl) (.cons q0 .none) trivial (ro_of_laid hL)
  · exact law_calls (tlbAll_holds) Tryz.func23 (show Tryz.f23.body = some _ from rfl) (by kernel_rfl) (.cons q0 .none) trivial (ro_of_laid hL)
set_option maxHeartbeats 1000000 in
theorem tlbAll_lifted (os : Os) (started : os.Started) (H : Type) (enc : TypeId × Value → H) :
    ReturnsInHanded {} Tryz.checked os 23 .any (fun w args => (Rows.tlbAllSpec.pre enc Tryz.prog Tryz.f23 [] false w args ∧ laidMetH Tryz.prog laid1 w) ∧ sizedMet enc Tryz.prog Tryz.f23 (OpenSpec.ofChange Rows.tlbAllSpec) false w args)
      (Rows.tlbAllSpec.post enc Tryz.prog Tryz.f23 false true false false) := by
  refine returnsInHanded_of_change_and (C := Tryz.checked) (X := fun w _ => laidMetH Tryz.prog laid1 w) (fun _ _ _ hh h => h.of_heap hh) Tryz.own started (by kernel_rfl) Tryz.func23
    (ChangeSpec.witness_at (enc := enc) (C := Tryz.checked) (os := os) (X := fun w _ => laidMetH Tryz.prog laid1 w) false (laidWorld os) #[.slice none 0 0] 8 rfl (by kernel_rfl) (by kernel_rfl) (by kernel_rfl) (by kernel_rfl) (by kernel_rfl) (laidWorld_met os _)) ?_
  intro W base args ds gs before hval0 hW _ _ hL _
  have hval : ∀ (j : Nat) t v, Tryz.f23.params[j]? = some t → args[j]? = some v → Value.okWide Tryz.prog W .any base t v := hval0
  have hW' := hW
  obtain ⟨p, q, hA0, hV0, rfl, hfz, hnd⟩ := hW
  have hcall := tlbAll_calls (enc := enc) hval hA0 hL
  refine Calls.mono hcall ?_
  rintro e W' ⟨rfl, hfr⟩
  exact ⟨_, rfl, post_kept Tryz.laidOut (by kernel_rfl) rfl rfl und4 hW' hfr (by
    have hg : gs = [] := by cases gs with | nil => rfl | cons g r => exact absurd hV0 (by intro h; cases h)
    subst hg
    have hA1 : DataW.TrodAll enc Tryz.prog W 0 (fun _ => true) true Tryz.f23.params.toList args.toList ds p := hA0
    rw [Tryz.params23] at hA1
    obtain ⟨v0, d0, ea, rfl, h0⟩ := trodAll_one hA1
    rfl)⟩

theorem tlbAll_row : Rows.TlbAllSaid :=
  OpenClaim.holds_of_wide 23 Tryz.f23 rfl rfl rfl rfl rfl rfl rfl ⟨rfl, rfl, rfl, rfl, rfl⟩ rfl rfl rfl rfl rfl (by kernel_rfl) Tryz.func23 (restFacts.2 _ _ _ _ _ Tryz.mayEnter Tryz.liftsFinal Tryz.make (by kernel_rfl))
    (of_decide_eq_true (by kernel_rfl)) (by unfold Func.isWrapper; rw [if_neg (of_decide_eq_false (by kernel_rfl))]; exact ⟨rfl, rfl⟩)
    (fun os started H enc _ => tlbAll_lifted os started H enc)
theorem tlbAll_card : Rows.TlbAllCardSaid :=
  Claim7.holds_tied_plain_at .later [] [.handle] true (true, "8c0441bbc8609432f713c1c89f5af20e6af72254f1482b9eed96a33066278ab6") true
    tlbAll_row (fun _ h => by cases h) (by kernel_rfl) (fun _ h => by cases h) tlbAll_row_tie rfl ⟨rfl, rfl⟩ Tryz.mainIs rfl
    (fun f fn hf hfn => by
      obtain rfl : f = 23 := Option.some.inj ((show Tryz.prog.funcNamed "messuage/messuagelaw2.TlbAll" = some 23 by kernel_rfl).symm.trans hf) |>.symm
      obtain rfl : fn = Tryz.f23 := (Option.some.inj (Tryz.func23.symm.trans hfn)).symm
      exact ⟨by kernel_rfl, fun j t ht => by
        rw [Tryz.params23] at ht
        rcases j with _ | j
        · obtain rfl : 108 = t := by simpa using ht
          exact (show Tryz.prog.wantsStandIn 108 = false by kernel_rfl)
        · simp at ht⟩)
    (by kernel_rfl)
#print axioms tlbAll_card
end Go.Proofs.YthjfkblnbecjgaaGreatDoor
