/- The statement messuagelaw2.TableBy of the seat: for every input the law returns true; the condition: errors.errorType is as the program lays it. -/
import Derived.Test.YthjfkblnbecjgaaGreatDoorL2Tt
set_option linter.unusedVariables false
set_option linter.unusedSimpArgs false
open Go Go.Sx
namespace Go.Proofs.YthjfkblnbecjgaaGreatDoor
open Go.ChangeShapes Go.WideShapes Go.RowKit
set_option maxRecDepth 100000

noncomputable def TableBy_t : Tree := .call 25 (Go.Sx.L2.yes L2.f_messuagelaw2_begun).rel [] [] 0 0 (.call 28 (Go.Sx.L2.tNew).rel [] [] 0 1 (.letL (.lit []) (.letL (.lit []) (.letL (.lit []) (.letL (.lit []) (.letL (.lit []) (.letL (.lit []) (.letL (.lit []) (.letL (.lit []) (.loop [.c (0), .c (0), .c (0), .c (0), .c (0), .c (0), .c (0), .c (0), .c (0), .c (0), .c (0), .c (0), .c (0), .c (0), .c (0), .c (0), .c (0)] [1, 2, 3, 4, 5, 6, 7, 8, 9] (.letI (.cmp .lss (.v 2) (.v 0)) (.ite (.v 19) (.letI (.cmp .lss (.v 2) (.c 8)) (.ite (.v 20) (.need .lss (.v 2) (.v 0) (.need .lss (.v 2) (.v 0) (.letI (.get 0 (.v 2)) (.letI (.rem (.v 21) (.c 8)) (.letI (.add (.v 22) (.c 8)) (.letI (.rem (.v 23) (.c 8)) (.letI (.rem (.v 2) (.c 3)) (.letI (.add (.c 1) (.v 25)) (.call 29 (Go.Sx.L2.tInsert).rel [.v 2, .v 2, .v 24, .v 26] [10] 1 1 (.letI (.cmp .neq (.v 27) (.c 0)) (.ite (.v 28) (.exit (.fail 180)) (.letI (.cmp .eql (.v 24) (.c 0)) (.ite (.v 29) (.letL (.lit [.v 2]) (.letI (.add (.v 3) (.c 1)) (.need .leq (.v 30) (.c 1000000) (.need .leq (.v 3) (.v 4) (.letL (.app 11 20) (.any (.v 30) (.c 9223372036854775807) (.letI (.add (.v 2) (.c 1)) (.again [.v 32, .v 30, .v 31, .v 5, .v 6, .v 7, .v 8, .v 9, .v 10, .v 11, .v 12, .v 13, .v 14, .v 15, .v 16, .v 17, .v 18] [19, 21, 12, 13, 14, 15, 16, 17, 18])))))))) (.letI (.cmp .eql (.v 24) (.c 1)) (.ite (.v 30) (.letL (.lit [.v 2]) (.letI (.add (.v 5) (.c 1)) (.need .leq (.v 31) (.c 1000000) (.need .leq (.v 5) (.v 6) (.letL (.app 12 20) (.any (.v 31) (.c 9223372036854775807) (.letI (.add (.v 2) (.c 1)) (.again [.v 33, .v 3, .v 4, .v 31, .v 32, .v 7, .v 8, .v 9, .v 10, .v 11, .v 12, .v 13, .v 14, .v 15, .v 16, .v 17, .v 18] [19, 11, 21, 13, 14, 15, 16, 17, 18])))))))) (.letI (.cmp .eql (.v 24) (.c 2)) (.ite (.v 31) (.letL (.lit [.v 2]) (.letI (.add (.v 7) (.c 1)) (.need .leq (.v 32) (.c 1000000) (.need .leq (.v 7) (.v 8) (.letL (.app 13 20) (.any (.v 32) (.c 9223372036854775807) (.letI (.add (.v 2) (.c 1)) (.again [.v 34, .v 3, .v 4, .v 5, .v 6, .v 32, .v 33, .v 9, .v 10, .v 11, .v 12, .v 13, .v 14, .v 15, .v 16, .v 17, .v 18] [19, 11, 12, 21, 14, 15, 16, 17, 18])))))))) (.letI (.cmp .eql (.v 24) (.c 3)) (.ite (.v 32) (.letL (.lit [.v 2]) (.letI (.add (.v 9) (.c 1)) (.need .leq (.v 33) (.c 1000000) (.need .leq (.v 9) (.v 10) (.letL (.app 14 20) (.any (.v 33) (.c 9223372036854775807) (.letI (.add (.v 2) (.c 1)) (.again [.v 35, .v 3, .v 4, .v 5, .v 6, .v 7, .v 8, .v 33, .v 34, .v 11, .v 12, .v 13, .v 14, .v 15, .v 16, .v 17, .v 18] [19, 11, 12, 13, 21, 15, 16, 17, 18])))))))) (.letI (.cmp .eql (.v 24) (.c 4)) (.ite (.v 33) (.letL (.lit [.v 2]) (.letI (.add (.v 11) (.c 1)) (.need .leq (.v 34) (.c 1000000) (.need .leq (.v 11) (.v 12) (.letL (.app 15 20) (.any (.v 34) (.c 9223372036854775807) (.letI (.add (.v 2) (.c 1)) (.again [.v 36, .v 3, .v 4, .v 5, .v 6, .v 7, .v 8, .v 9, .v 10, .v 34, .v 35, .v 13, .v 14, .v 15, .v 16, .v 17, .v 18] [19, 11, 12, 13, 14, 21, 16, 17, 18])))))))) (.letI (.cmp .eql (.v 24) (.c 5)) (.ite (.v 34) (.letL (.lit [.v 2]) (.letI (.add (.v 13) (.c 1)) (.need .leq (.v 35) (.c 1000000) (.need .leq (.v 13) (.v 14) (.letL (.app 16 20) (.any (.v 35) (.c 9223372036854775807) (.letI (.add (.v 2) (.c 1)) (.again [.v 37, .v 3, .v 4, .v 5, .v 6, .v 7, .v 8, .v 9, .v 10, .v 11, .v 12, .v 35, .v 36, .v 15, .v 16, .v 17, .v 18] [19, 11, 12, 13, 14, 15, 21, 17, 18])))))))) (.letI (.cmp .eql (.v 24) (.c 6)) (.ite (.v 35) (.letL (.lit [.v 2]) (.letI (.add (.v 15) (.c 1)) (.need .leq (.v 36) (.c 1000000) (.need .leq (.v 15) (.v 16) (.letL (.app 17 20) (.any (.v 36) (.c 9223372036854775807) (.letI (.add (.v 2) (.c 1)) (.again [.v 38, .v 3, .v 4, .v 5, .v 6, .v 7, .v 8, .v 9, .v 10, .v 11, .v 12, .v 13, .v 14, .v 36, .v 37, .v 17, .v 18] [19, 11, 12, 13, 14, 15, 16, 21, 18])))))))) (.letL (.lit [.v 2]) (.letI (.add (.v 17) (.c 1)) (.need .leq (.v 36) (.c 1000000) (.need .leq (.v 17) (.v 18) (.letL (.app 18 20) (.any (.v 36) (.c 9223372036854775807) (.letI (.add (.v 2) (.c 1)) (.again [.v 38, .v 3, .v 4, .v 5, .v 6, .v 7, .v 8, .v 9, .v 10, .v 11, .v 12, .v 13, .v 14, .v 15, .v 16, .v 36, .v 37] [19, 11, 12, 13, 14, 15, 16, 17, 21]))))))))))))))))))))))))))))))))) (.exit (.call 30 (Go.Sx.L2.tBy).rel [.c (0)] [10] 2 1 (.letI (.cmp .neq (.v 3) (.v 21)) (.ite (.v 23) (.fail 180) (.loop [.c (0)] [] (.letI (.cmp .lss (.v 24) (.v 21)) (.ite (.v 25) (.need .lss (.v 24) (.v 21) (.need .lss (.v 24) (.v 21) (.letI (.get 19 (.v 24)) (.need .lss (.v 24) (.v 3) (.need .lss (.v 24) (.v 3) (.letI (.get 11 (.v 24)) (.letI (.cmp .neq (.v 26) (.v 27)) (.ite (.v 28) (.exit (.fail 180)) (.letI (.add (.v 24) (.c 1)) (.again [.v 29] [])))))))))) (.exit (.call 30 (Go.Sx.L2.tBy).rel [.c (1)] [10] 2 1 (.letI (.cmp .neq (.v 5) (.v 26)) (.ite (.v 28) (.fail 180) (.loop [.c (0)] [] (.letI (.cmp .lss (.v 29) (.v 26)) (.ite (.v 30) (.need .lss (.v 29) (.v 26) (.need .lss (.v 29) (.v 26) (.letI (.get 20 (.v 29)) (.need .lss (.v 29) (.v 5) (.need .lss (.v 29) (.v 5) (.letI (.get 12 (.v 29)) (.letI (.cmp .neq (.v 31) (.v 32)) (.ite (.v 33) (.exit (.fail 180)) (.letI (.add (.v 29) (.c 1)) (.again [.v 34] [])))))))))) (.exit (.call 30 (Go.Sx.L2.tBy).rel [.c (2)] [10] 2 1 (.letI (.cmp .neq (.v 7) (.v 31)) (.ite (.v 33) (.fail 180) (.loop [.c (0)] [] (.letI (.cmp .lss (.v 34) (.v 31)) (.ite (.v 35) (.need .lss (.v 34) (.v 31) (.need .lss (.v 34) (.v 31) (.letI (.get 21 (.v 34)) (.need .lss (.v 34) (.v 7) (.need .lss (.v 34) (.v 7) (.letI (.get 13 (.v 34)) (.letI (.cmp .neq (.v 36) (.v 37)) (.ite (.v 38) (.exit (.fail 180)) (.letI (.add (.v 34) (.c 1)) (.again [.v 39] [])))))))))) (.exit (.call 30 (Go.Sx.L2.tBy).rel [.c (3)] [10] 2 1 (.letI (.cmp .neq (.v 9) (.v 36)) (.ite (.v 38) (.fail 180) (.loop [.c (0)] [] (.letI (.cmp .lss (.v 39) (.v 36)) (.ite (.v 40) (.need .lss (.v 39) (.v 36) (.need .lss (.v 39) (.v 36) (.letI (.get 22 (.v 39)) (.need .lss (.v 39) (.v 9) (.need .lss (.v 39) (.v 9) (.letI (.get 14 (.v 39)) (.letI (.cmp .neq (.v 41) (.v 42)) (.ite (.v 43) (.exit (.fail 180)) (.letI (.add (.v 39) (.c 1)) (.again [.v 44] [])))))))))) (.exit (.call 30 (Go.Sx.L2.tBy).rel [.c (4)] [10] 2 1 (.letI (.cmp .neq (.v 11) (.v 41)) (.ite (.v 43) (.fail 180) (.loop [.c (0)] [] (.letI (.cmp .lss (.v 44) (.v 41)) (.ite (.v 45) (.need .lss (.v 44) (.v 41) (.need .lss (.v 44) (.v 41) (.letI (.get 23 (.v 44)) (.need .lss (.v 44) (.v 11) (.need .lss (.v 44) (.v 11) (.letI (.get 15 (.v 44)) (.letI (.cmp .neq (.v 46) (.v 47)) (.ite (.v 48) (.exit (.fail 180)) (.letI (.add (.v 44) (.c 1)) (.again [.v 49] [])))))))))) (.exit (.call 30 (Go.Sx.L2.tBy).rel [.c (5)] [10] 2 1 (.letI (.cmp .neq (.v 13) (.v 46)) (.ite (.v 48) (.fail 180) (.loop [.c (0)] [] (.letI (.cmp .lss (.v 49) (.v 46)) (.ite (.v 50) (.need .lss (.v 49) (.v 46) (.need .lss (.v 49) (.v 46) (.letI (.get 24 (.v 49)) (.need .lss (.v 49) (.v 13) (.need .lss (.v 49) (.v 13) (.letI (.get 16 (.v 49)) (.letI (.cmp .neq (.v 51) (.v 52)) (.ite (.v 53) (.exit (.fail 180)) (.letI (.add (.v 49) (.c 1)) (.again [.v 54] [])))))))))) (.exit (.call 30 (Go.Sx.L2.tBy).rel [.c (6)] [10] 2 1 (.letI (.cmp .neq (.v 15) (.v 51)) (.ite (.v 53) (.fail 180) (.loop [.c (0)] [] (.letI (.cmp .lss (.v 54) (.v 51)) (.ite (.v 55) (.need .lss (.v 54) (.v 51) (.need .lss (.v 54) (.v 51) (.letI (.get 25 (.v 54)) (.need .lss (.v 54) (.v 15) (.need .lss (.v 54) (.v 15) (.letI (.get 17 (.v 54)) (.letI (.cmp .neq (.v 56) (.v 57)) (.ite (.v 58) (.exit (.fail 180)) (.letI (.add (.v 54) (.c 1)) (.again [.v 59] [])))))))))) (.exit (.call 30 (Go.Sx.L2.tBy).rel [.c (7)] [10] 2 1 (.letI (.cmp .neq (.v 17) (.v 56)) (.ite (.v 58) (.fail 180) (.loop [.c (0)] [] (.letI (.cmp .lss (.v 59) (.v 56)) (.ite (.v 60) (.need .lss (.v 59) (.v 56) (.need .lss (.v 59) (.v 56) (.letI (.get 26 (.v 59)) (.need .lss (.v 59) (.v 17) (.need .lss (.v 59) (.v 17) (.letI (.get 18 (.v 59)) (.letI (.cmp .neq (.v 61) (.v 62)) (.ite (.v 63) (.exit (.fail 180)) (.letI (.add (.v 59) (.c 1)) (.again [.v 64] [])))))))))) (.exit (.call 30 (Go.Sx.L2.tBy).rel [.c (-1)] [10] 2 1 (.letI (.cmp .eql (.v 61) (.c 0)) (.ite (.v 63) (.call 30 (Go.Sx.L2.tBy).rel [.c (8)] [10] 2 1 (.letI (.cmp .eql (.v 64) (.c 0)) (.need .neq (.v 66) (.c 0) (.done [] [])))) (.fail 180))))))))))))))))))))))))))))))))))))))))))))))))))))))))))))))) (.exit (.call 30 (Go.Sx.L2.tBy).rel [.c (0)] [10] 2 1 (.letI (.cmp .neq (.v 3) (.v 20)) (.ite (.v 22) (.fail 180) (.loop [.c (0)] [] (.letI (.cmp .lss (.v 23) (.v 20)) (.ite (.v 24) (.need .lss (.v 23) (.v 20) (.need .lss (.v 23) (.v 20) (.letI (.get 19 (.v 23)) (.need .lss (.v 23) (.v 3) (.need .lss (.v 23) (.v 3) (.letI (.get 11 (.v 23)) (.letI (.cmp .neq (.v 25) (.v 26)) (.ite (.v 27) (.exit (.fail 180)) (.letI (.add (.v 23) (.c 1)) (.again [.v 28] [])))))))))) (.exit (.call 30 (Go.Sx.L2.tBy).rel [.c (1)] [10] 2 1 (.letI (.cmp .neq (.v 5) (.v 25)) (.ite (.v 27) (.fail 180) (.loop [.c (0)] [] (.letI (.cmp .lss (.v 28) (.v 25)) (.ite (.v 29) (.need .lss (.v 28) (.v 25) (.need .lss (.v 28) (.v 25) (.letI (.get 20 (.v 28)) (.need .lss (.v 28) (.v 5) (.need .lss (.v 28) (.v 5) (.letI (.get 12 (.v 28)) (.letI (.cmp .neq (.v 30) (.v 31)) (.ite (.v 32) (.exit (.fail 180)) (.letI (.add (.v 28) (.c 1)) (.again [.v 33] [])))))))))) (.exit (.call 30 (Go.Sx.L2.tBy).rel [.c (2)] [10] 2 1 (.letI (.cmp .neq (.v 7) (.v 30)) (.ite (.v 32) (.fail 180) (.loop [.c (0)] [] (.letI (.cmp .lss (.v 33) (.v 30)) (.ite (.v 34) (.need .lss (.v 33) (.v 30) (.need .lss (.v 33) (.v 30) (.letI (.get 21 (.v 33)) (.need .lss (.v 33) (.v 7) (.need .lss (.v 33) (.v 7) (.letI (.get 13 (.v 33)) (.letI (.cmp .neq (.v 35) (.v 36)) (.ite (.v 37) (.exit (.fail 180)) (.letI (.add (.v 33) (.c 1)) (.again [.v 38] [])))))))))) (.exit (.call 30 (Go.Sx.L2.tBy).rel [.c (3)] [10] 2 1 (.letI (.cmp .neq (.v 9) (.v 35)) (.ite (.v 37) (.fail 180) (.loop [.c (0)] [] (.letI (.cmp .lss (.v 38) (.v 35)) (.ite (.v 39) (.need .lss (.v 38) (.v 35) (.need .lss (.v 38) (.v 35) (.letI (.get 22 (.v 38)) (.need .lss (.v 38) (.v 9) (.need .lss (.v 38) (.v 9) (.letI (.get 14 (.v 38)) (.letI (.cmp .neq (.v 40) (.v 41)) (.ite (.v 42) (.exit (.fail 180)) (.letI (.add (.v 38) (.c 1)) (.again [.v 43] [])))))))))) (.exit (.call 30 (Go.Sx.L2.tBy).rel [.c (4)] [10] 2 1 (.letI (.cmp .neq (.v 11) (.v 40)) (.ite (.v 42) (.fail 180) (.loop [.c (0)] [] (.letI (.cmp .lss (.v 43) (.v 40)) (.ite (.v 44) (.need .lss (.v 43) (.v 40) (.need .lss (.v 43) (.v 40) (.letI (.get 23 (.v 43)) (.need .lss (.v 43) (.v 11) (.need .lss (.v 43) (.v 11) (.letI (.get 15 (.v 43)) (.letI (.cmp .neq (.v 45) (.v 46)) (.ite (.v 47) (.exit (.fail 180)) (.letI (.add (.v 43) (.c 1)) (.again [.v 48] [])))))))))) (.exit (.call 30 (Go.Sx.L2.tBy).rel [.c (5)] [10] 2 1 (.letI (.cmp .neq (.v 13) (.v 45)) (.ite (.v 47) (.fail 180) (.loop [.c (0)] [] (.letI (.cmp .lss (.v 48) (.v 45)) (.ite (.v 49) (.need .lss (.v 48) (.v 45) (.need .lss (.v 48) (.v 45) (.letI (.get 24 (.v 48)) (.need .lss (.v 48) (.v 13) (.need .lss (.v 48) (.v 13) (.letI (.get 16 (.v 48)) (.letI (.cmp .neq (.v 50) (.v 51)) (.ite (.v 52) (.exit (.fail 180)) (.letI (.add (.v 48) (.c 1)) (.again [.v 53] [])))))))))) (.exit (.call 30 (Go.Sx.L2.tBy).rel [.c (6)] [10] 2 1 (.letI (.cmp .neq (.v 15) (.v 50)) (.ite (.v 52) (.fail 180) (.loop [.c (0)] [] (.letI (.cmp .lss (.v 53) (.v 50)) (.ite (.v 54) (.need .lss (.v 53) (.v 50) (.need .lss (.v 53) (.v 50) (.letI (.get 25 (.v 53)) (.need .lss (.v 53) (.v 15) (.need .lss (.v 53) (.v 15) (.letI (.get 17 (.v 53)) (.letI (.cmp .neq (.v 55) (.v 56)) (.ite (.v 57) (.exit (.fail 180)) (.letI (.add (.v 53) (.c 1)) (.again [.v 58] [])))))))))) (.exit (.call 30 (Go.Sx.L2.tBy).rel [.c (7)] [10] 2 1 (.letI (.cmp .neq (.v 17) (.v 55)) (.ite (.v 57) (.fail 180) (.loop [.c (0)] [] (.letI (.cmp .lss (.v 58) (.v 55)) (.ite (.v 59) (.need .lss (.v 58) (.v 55) (.need .lss (.v 58) (.v 55) (.letI (.get 26 (.v 58)) (.need .lss (.v 58) (.v 17) (.need .lss (.v 58) (.v 17) (.letI (.get 18 (.v 58)) (.letI (.cmp .neq (.v 60) (.v 61)) (.ite (.v 62) (.exit (.fail 180)) (.letI (.add (.v 58) (.c 1)) (.again [.v 63] [])))))))))) (.exit (.call 30 (Go.Sx.L2.tBy).rel [.c (-1)] [10] 2 1 (.letI (.cmp .eql (.v 60) (.c 0)) (.ite (.v 62) (.call 30 (Go.Sx.L2.tBy).rel [.c (8)] [10] 2 1 (.letI (.cmp .eql (.v 63) (.c 0)) (.need .neq (.v 65) (.c 0) (.done [] [])))) (.fail 180)))))))))))))))))))))))))))))))))))))))))))))))))))))))))))))))))))))))))
theorem TableBy_tree : (lawSpec 5 [.slc [.i .i64]]).exe Tryz.prog (withS (L2.cfg2 Tryz.prog) [L2.put_ 52, L2.put_ 77, L2.tNew, L2.tInsert, L2.tRemove, L2.tProtect, L2.tAt, L2.tWords, L2.tBy]) [{ f := 5, reg := 7, ints := [(6, 0, 8)], lists := [(4, [], some (-9223372036854775808, 9223372036854775807))], cvecs := [(5, [], 0, none), (5, [], 1, none), (5, [], 2, none), (5, [], 3, none), (5, [], 4, none), (5, [], 5, none), (5, [], 6, none), (5, [], 7, none)], cnils := [(5, [], 0, [.i .i64], 3), (5, [], 1, [.i .i64], 3), (5, [], 2, [.i .i64], 3), (5, [], 3, [.i .i64], 3), (5, [], 4, [.i .i64], 3), (5, [], 5, [.i .i64], 3), (5, [], 6, [.i .i64], 3), (5, [], 7, [.i .i64], 3)] }, { f := 5, reg := 20, ints := [(65, 0, 1000000)] }] 20 200 = TableBy_t := by kernel_rfl
theorem TableBy_vc (Q : List Int → List (List Int) → Prop) (v0 v1 : Int) (L0 : List Int) : TableBy_t.dn ⟨Q, []⟩ 2 [v1, v0] 1 [L0] = ((Go.Sx.L2.yes L2.f_messuagelaw2_begun).rel.pre [] [] ∧
((Go.Sx.L2.yes L2.f_messuagelaw2_begun).rel.post [] [] [] [] → (Go.Sx.L2.tNew).rel.pre [] [] ∧
(∀ L1 : List Int, (Go.Sx.L2.tNew).rel.post [] [] [] [L1] → ∀ L2 : List Int, L2 = [] → ∀ L3 : List Int, L3 = [] → ∀ L4 : List Int, L4 = [] → ∀ L5 : List Int, L5 = [] → ∀ L6 : List Int, L6 = [] → ∀ L7 : List Int, L7 = [] → ∀ L8 : List Int, L8 = [] → ∀ L9 : List Int, L9 = [] → ∃ (I0 : List Int → List (List Int) → Prop) (μ0 : List Int → List (List Int) → Nat), I0 [(0 : Int), (0 : Int), (0 : Int), (0 : Int), (0 : Int), (0 : Int), (0 : Int), (0 : Int), (0 : Int), (0 : Int), (0 : Int), (0 : Int), (0 : Int), (0 : Int), (0 : Int), (0 : Int), (0 : Int)] [L1, L2, L3, L4, L5, L6, L7, L8, L9] ∧
(∀ v2 : Int, ∀ v3 : Int, ∀ v4 : Int, ∀ v5 : Int, ∀ v6 : Int, ∀ v7 : Int, ∀ v8 : Int, ∀ v9 : Int, ∀ v10 : Int, ∀ v11 : Int, ∀ v12 : Int, ∀ v13 : Int, ∀ v14 : Int, ∀ v15 : Int, ∀ v16 : Int, ∀ v17 : Int, ∀ v18 : Int, ∀ L10 : List Int, ∀ L11 : List Int, ∀ L12 : List Int, ∀ L13 : List Int, ∀ L14 : List Int, ∀ L15 : List Int, ∀ L16 : List Int, ∀ L17 : List Int, ∀ L18 : List Int, I0 [v2, v3, v4, v5, v6, v7, v8, v9, v10, v11, v12, v13, v14, v15, v16, v17, v18] [L10, L11, L12, L13, L14, L15, L16, L17, L18] →
 ((v2 < v0) → ((v2 < (8 : Int)) → (v2 < v0) ∧ (v2 < v0) ∧ ∀ v21 : Int, v21 = (L0).getD (v2).toNat 0 → ∀ v22 : Int, v22 = (v21).tmod (8 : Int) → ∀ v23 : Int, v23 = v22 + (8 : Int) → ∀ v24 : Int, v24 = (v23).tmod (8 : Int) → ∀ v25 : Int, v25 = (v2).tmod (3 : Int) → ∀ v26 : Int, v26 = (1 : Int) + v25 → (Go.Sx.L2.tInsert).rel.pre [v2, v2, v24, v26] [L10] ∧
(∀ v27 : Int, ∀ L19 : List Int, (Go.Sx.L2.tInsert).rel.post [v2, v2, v24, v26] [L10] [v27] [L19] → ((v27 ≠ (0 : Int)) → False) ∧
((v27 = (0 : Int)) → ((v24 = (0 : Int)) → ∀ L20 : List Int, L20 = [v2] → ∀ v30 : Int, v30 = v3 + (1 : Int) → (v30 ≤ (1000000 : Int)) ∧ (v3 ≤ v4) ∧ ∀ L21 : List Int, L21 = L11 ++ L20 → ∀ v31 : Int, v30 ≤ v31 → v31 ≤ (9223372036854775807 : Int) → ∀ v32 : Int, v32 = v2 + (1 : Int) → (I0 [v32, v30, v31, v5, v6, v7, v8, v9, v10, v11, v12, v13, v14, v15, v16, v17, v18] [L19, L21, L12, L13, L14, L15, L16, L17, L18] ∧ μ0 [v32, v30, v31, v5, v6, v7, v8, v9, v10, v11, v12, v13, v14, v15, v16, v17, v18] [L19, L21, L12, L13, L14, L15, L16, L17, L18] < μ0 [v2, v3, v4, v5, v6, v7, v8, v9, v10, v11, v12, v13, v14, v15, v16, v17, v18] [L10, L11, L12, L13, L14, L15, L16, L17, L18])) ∧
((v24 ≠ (0 : Int)) → ((v24 = (1 : Int)) → ∀ L20 : List Int, L20 = [v2] → ∀ v31 : Int, v31 = v5 + (1 : Int) → (v31 ≤ (1000000 : Int)) ∧ (v5 ≤ v6) ∧ ∀ L21 : List Int, L21 = L12 ++ L20 → ∀ v32 : Int, v31 ≤ v32 → v32 ≤ (9223372036854775807 : Int) → ∀ v33 : Int, v33 = v2 + (1 : Int) → (I0 [v33, v3, v4, v31, v32, v7, v8, v9, v10, v11, v12, v13, v14, v15, v16, v17, v18] [L19, L11, L21, L13, L14, L15, L16, L17, L18] ∧ μ0 [v33, v3, v4, v31, v32, v7, v8, v9, v10, v11, v12, v13, v14, v15, v16, v17, v18] [L19, L11, L21, L13, L14, L15, L16, L17, L18] < μ0 [v2, v3, v4, v5, v6, v7, v8, v9, v10, v11, v12, v13, v14, v15, v16, v17, v18] [L10, L11, L12, L13, L14, L15, L16, L17, L18])) ∧
((v24 ≠ (1 : Int)) → ((v24 = (2 : Int)) → ∀ L20 : List Int, L20 = [v2] → ∀ v32 : Int, v32 = v7 + (1 : Int) → (v32 ≤ (1000000 : Int)) ∧ (v7 ≤ v8) ∧ ∀ L21 : List Int, L21 = L13 ++ L20 → ∀ v33 : Int, v32 ≤ v33 → v33 ≤ (9223372036854775807 : Int) → ∀ v34 : Int, v34 = v2 + (1 : Int) → (I0 [v34, v3, v4, v5, v6, v32, v33, v9, v10, v11, v12, v13, v14, v15, v16, v17, v18] [L19, L11, L12, L21, L14, L15, L16, L17, L18] ∧ μ0 [v34, v3, v4, v5, v6, v32, v33, v9, v10, v11, v12, v13, v14, v15, v16, v17, v18] [L19, L11, L12, L21, L14, L15, L16, L17, L18] < μ0 [v2, v3, v4, v5, v6, v7, v8, v9, v10, v11, v12, v13, v14, v15, v16, v17, v18] [L10, L11, L12, L13, L14, L15, L16, L17, L18])) ∧
((v24 ≠ (2 : Int)) → ((v24 = (3 : Int)) → ∀ L20 : List Int, L20 = [v2] → ∀ v33 : Int, v33 = v9 + (1 : Int) → (v33 ≤ (1000000 : Int)) ∧ (v9 ≤ v10) ∧ ∀ L21 : List Int, L21 = L14 ++ L20 → ∀ v34 : Int, v33 ≤ v34 → v34 ≤ (9223372036854775807 : Int) → ∀ v35 : Int, v35 = v2 + (1 : Int) → (I0 [v35, v3, v4, v5, v6, v7, v8, v33, v34, v11, v12, v13, v14, v15, v16, v17, v18] [L19, L11, L12, L13, L21, L15, L16, L17, L18] ∧ μ0 [v35, v3, v4, v5, v6, v7, v8, v33, v34, v11, v12, v13, v14, v15, v16, v17, v18] [L19, L11, L12, L13, L21, L15, L16, L17, L18] < μ0 [v2, v3, v4, v5, v6, v7, v8, v9, v10, v11, v12, v13, v14, v15, v16, v17, v18] [L10, L11, L12, L13, L14, L15, L16, L17, L18])) ∧
((v24 ≠ (3 : Int)) → ((v24 = (4 : Int)) → ∀ L20 : List Int, L20 = [v2] → ∀ v34 : Int, v34 = v11 + (1 : Int) → (v34 ≤ (1000000 : Int)) ∧ (v11 ≤ v12) ∧ ∀ L21 : List Int, L21 = L15 ++ L20 → ∀ v35 : Int, v34 ≤ v35 → v35 ≤ (9223372036854775807 : Int) → ∀ v36 : Int, v36 = v2 + (1 : Int) → (I0 [v36, v3, v4, v5, v6, v7, v8, v9, v10, v34, v35, v13, v14, v15, v16, v17, v18] [L19, L11, L12, L13, L14, L21, L16, L17, L18] ∧ μ0 [v36, v3, v4, v5, v6, v7, v8, v9, v10, v34, v35, v13, v14, v15, v16, v17, v18] [L19, L11, L12, L13, L14, L21, L16, L17, L18] < μ0 [v2, v3, v4, v5, v6, v7, v8, v9, v10, v11, v12, v13, v14, v15, v16, v17, v18] [L10, L11, L12, L13, L14, L15, L16, L17, L18])) ∧
((v24 ≠ (4 : Int)) → ((v24 = (5 : Int)) → ∀ L20 : List Int, L20 = [v2] → ∀ v35 : Int, v35 = v13 + (1 : Int) → (v35 ≤ (1000000 : Int)) ∧ (v13 ≤ v14) ∧ ∀ L21 : List Int, L21 = L16 ++ L20 → ∀ v36 : Int, v35 ≤ v36 → v36 ≤ (9223372036854775807 : Int) → ∀ v37 : Int, v37 = v2 + (1 : Int) → (I0 [v37, v3, v4, v5, v6, v7, v8, v9, v10, v11, v12, v35, v36, v15, v16, v17, v18] [L19, L11, L12, L13, L14, L15, L21, L17, L18] ∧ μ0 [v37, v3, v4, v5, v6, v7, v8, v9, v10, v11, v12, v35, v36, v15, v16, v17, v18] [L19, L11, L12, L13, L14, L15, L21, L17, L18] < μ0 [v2, v3, v4, v5, v6, v7, v8, v9, v10, v11, v12, v13, v14, v15, v16, v17, v18] [L10, L11, L12, L13, L14, L15, L16, L17, L18])) ∧
((v24 ≠ (5 : Int)) → ((v24 = (6 : Int)) → ∀ L20 : List Int, L20 = [v2] → ∀ v36 : Int, v36 = v15 + (1 : Int) → (v36 ≤ (1000000 : Int)) ∧ (v15 ≤ v16) ∧ ∀ L21 : List Int, L21 = L17 ++ L20 → ∀ v37 : Int, v36 ≤ v37 → v37 ≤ (9223372036854775807 : Int) → ∀ v38 : Int, v38 = v2 + (1 : Int) → (I0 [v38, v3, v4, v5, v6, v7, v8, v9, v10, v11, v12, v13, v14, v36, v37, v17, v18] [L19, L11, L12, L13, L14, L15, L16, L21, L18] ∧ μ0 [v38, v3, v4, v5, v6, v7, v8, v9, v10, v11, v12, v13, v14, v36, v37, v17, v18] [L19, L11, L12, L13, L14, L15, L16, L21, L18] < μ0 [v2, v3, v4, v5, v6, v7, v8, v9, v10, v11, v12, v13, v14, v15, v16, v17, v18] [L10, L11, L12, L13, L14, L15, L16, L17, L18])) ∧
((v24 ≠ (6 : Int)) → ∀ L20 : List Int, L20 = [v2] → ∀ v36 : Int, v36 = v17 + (1 : Int) → (v36 ≤ (1000000 : Int)) ∧ (v17 ≤ v18) ∧ ∀ L21 : List Int, L21 = L18 ++ L20 → ∀ v37 : Int, v36 ≤ v37 → v37 ≤ (9223372036854775807 : Int) → ∀ v38 : Int, v38 = v2 + (1 : Int) → (I0 [v38, v3, v4, v5, v6, v7, v8, v9, v10, v11, v12, v13, v14, v15, v16, v36, v37] [L19, L11, L12, L13, L14, L15, L16, L17, L21] ∧ μ0 [v38, v3, v4, v5, v6, v7, v8, v9, v10, v11, v12, v13, v14, v15, v16, v36, v37] [L19, L11, L12, L13, L14, L15, L16, L17, L21] < μ0 [v2, v3, v4, v5, v6, v7, v8, v9, v10, v11, v12, v13, v14, v15, v16, v17, v18] [L10, L11, L12, L13, L14, L15, L16, L17, L18]))))))))))) ∧
(((8 : Int) ≤ v2) → (Go.Sx.L2.tBy).rel.pre [(0 : Int)] [L10] ∧
(∀ v21 : Int, ∀ v22 : Int, ∀ L19 : List Int, (Go.Sx.L2.tBy).rel.post [(0 : Int)] [L10] [v21, v22] [L19] → ((v3 ≠ v21) → False) ∧
((v3 = v21) → ∃ (I1 : List Int → List (List Int) → Prop) (μ1 : List Int → List (List Int) → Nat), I1 [(0 : Int)] [] ∧
(∀ v24 : Int, I1 [v24] [] →
 ((v24 < v21) → (v24 < v21) ∧ (v24 < v21) ∧ ∀ v26 : Int, v26 = (L19).getD (v24).toNat 0 → (v24 < v3) ∧ (v24 < v3) ∧ ∀ v27 : Int, v27 = (L11).getD (v24).toNat 0 → ((v26 ≠ v27) → False) ∧
((v26 = v27) → ∀ v29 : Int, v29 = v24 + (1 : Int) → (I1 [v29] [] ∧ μ1 [v29] [] < μ1 [v24] []))) ∧
((v21 ≤ v24) → (Go.Sx.L2.tBy).rel.pre [(1 : Int)] [L10] ∧
(∀ v26 : Int, ∀ v27 : Int, ∀ L20 : List Int, (Go.Sx.L2.tBy).rel.post [(1 : Int)] [L10] [v26, v27] [L20] → ((v5 ≠ v26) → False) ∧
((v5 = v26) → ∃ (I2 : List Int → List (List Int) → Prop) (μ2 : List Int → List (List Int) → Nat), I2 [(0 : Int)] [] ∧
(∀ v29 : Int, I2 [v29] [] →
 ((v29 < v26) → (v29 < v26) ∧ (v29 < v26) ∧ ∀ v31 : Int, v31 = (L20).getD (v29).toNat 0 → (v29 < v5) ∧ (v29 < v5) ∧ ∀ v32 : Int, v32 = (L12).getD (v29).toNat 0 → ((v31 ≠ v32) → False) ∧
((v31 = v32) → ∀ v34 : Int, v34 = v29 + (1 : Int) → (I2 [v34] [] ∧ μ2 [v34] [] < μ2 [v29] []))) ∧
((v26 ≤ v29) → (Go.Sx.L2.tBy).rel.pre [(2 : Int)] [L10] ∧
(∀ v31 : Int, ∀ v32 : Int, ∀ L21 : List Int, (Go.Sx.L2.tBy).rel.post [(2 : Int)] [L10] [v31, v32] [L21] → ((v7 ≠ v31) → False) ∧
((v7 = v31) → ∃ (I3 : List Int → List (List Int) → Prop) (μ3 : List Int → List (List Int) → Nat), I3 [(0 : Int)] [] ∧
(∀ v34 : Int, I3 [v34] [] →
 ((v34 < v31) → (v34 < v31) ∧ (v34 < v31) ∧ ∀ v36 : Int, v36 = (L21).getD (v34).toNat 0 → (v34 < v7) ∧ (v34 < v7) ∧ ∀ v37 : Int, v37 = (L13).getD (v34).toNat 0 → ((v36 ≠ v37) → False) ∧
((v36 = v37) → ∀ v39 : Int, v39 = v34 + (1 : Int) → (I3 [v39] [] ∧ μ3 [v39] [] < μ3 [v34] []))) ∧
((v31 ≤ v34) → (Go.Sx.L2.tBy).rel.pre [(3 : Int)] [L10] ∧
(∀ v36 : Int, ∀ v37 : Int, ∀ L22 : List Int, (Go.Sx.L2.tBy).rel.post [(3 : Int)] [L10] [v36, v37] [L22] → ((v9 ≠ v36) → False) ∧
((v9 = v36) → ∃ (I4 : List Int → List (List Int) → Prop) (μ4 : List Int → List (List Int) → Nat), I4 [(0 : Int)] [] ∧
(∀ v39 : Int, I4 [v39] [] →
 ((v39 < v36) → (v39 < v36) ∧ (v39 < v36) ∧ ∀ v41 : Int, v41 = (L22).getD (v39).toNat 0 → (v39 < v9) ∧ (v39 < v9) ∧ ∀ v42 : Int, v42 = (L14).getD (v39).toNat 0 → ((v41 ≠ v42) → False) ∧
((v41 = v42) → ∀ v44 : Int, v44 = v39 + (1 : Int) → (I4 [v44] [] ∧ μ4 [v44] [] < μ4 [v39] []))) ∧
((v36 ≤ v39) → (Go.Sx.L2.tBy).rel.pre [(4 : Int)] [L10] ∧
(∀ v41 : Int, ∀ v42 : Int, ∀ L23 : List Int, (Go.Sx.L2.tBy).rel.post [(4 : Int)] [L10] [v41, v42] [L23] → ((v11 ≠ v41) → False) ∧
((v11 = v41) → ∃ (I5 : List Int → List (List Int) → Prop) (μ5 : List Int → List (List Int) → Nat), I5 [(0 : Int)] [] ∧
(∀ v44 : Int, I5 [v44] [] →
 ((v44 < v41) → (v44 < v41) ∧ (v44 < v41) ∧ ∀ v46 : Int, v46 = (L23).getD (v44).toNat 0 → (v44 < v11) ∧ (v44 < v11) ∧ ∀ v47 : Int, v47 = (L15).getD (v44).toNat 0 → ((v46 ≠ v47) → False) ∧
((v46 = v47) → ∀ v49 : Int, v49 = v44 + (1 : Int) → (I5 [v49] [] ∧ μ5 [v49] [] < μ5 [v44] []))) ∧
((v41 ≤ v44) → (Go.Sx.L2.tBy).rel.pre [(5 : Int)] [L10] ∧
(∀ v46 : Int, ∀ v47 : Int, ∀ L24 : List Int, (Go.Sx.L2.tBy).rel.post [(5 : Int)] [L10] [v46, v47] [L24] → ((v13 ≠ v46) → False) ∧
((v13 = v46) → ∃ (I6 : List Int → List (List Int) → Prop) (μ6 : List Int → List (List Int) → Nat), I6 [(0 : Int)] [] ∧
(∀ v49 : Int, I6 [v49] [] →
 ((v49 < v46) → (v49 < v46) ∧ (v49 < v46) ∧ ∀ v51 : Int, v51 = (L24).getD (v49).toNat 0 → (v49 < v13) ∧ (v49 < v13) ∧ ∀ v52 : Int, v52 = (L16).getD (v49).toNat 0 → ((v51 ≠ v52) → False) ∧
((v51 = v52) → ∀ v54 : Int, v54 = v49 + (1 : Int) → (I6 [v54] [] ∧ μ6 [v54] [] < μ6 [v49] []))) ∧
((v46 ≤ v49) → (Go.Sx.L2.tBy).rel.pre [(6 : Int)] [L10] ∧
(∀ v51 : Int, ∀ v52 : Int, ∀ L25 : List Int, (Go.Sx.L2.tBy).rel.post [(6 : Int)] [L10] [v51, v52] [L25] → ((v15 ≠ v51) → False) ∧
((v15 = v51) → ∃ (I7 : List Int → List (List Int) → Prop) (μ7 : List Int → List (List Int) → Nat), I7 [(0 : Int)] [] ∧
(∀ v54 : Int, I7 [v54] [] →
 ((v54 < v51) → (v54 < v51) ∧ (v54 < v51) ∧ ∀ v56 : Int, v56 = (L25).getD (v54).toNat 0 → (v54 < v15) ∧ (v54 < v15) ∧ ∀ v57 : Int, v57 = (L17).getD (v54).toNat 0 → ((v56 ≠ v57) → False) ∧
((v56 = v57) → ∀ v59 : Int, v59 = v54 + (1 : Int) → (I7 [v59] [] ∧ μ7 [v59] [] < μ7 [v54] []))) ∧
((v51 ≤ v54) → (Go.Sx.L2.tBy).rel.pre [(7 : Int)] [L10] ∧
(∀ v56 : Int, ∀ v57 : Int, ∀ L26 : List Int, (Go.Sx.L2.tBy).rel.post [(7 : Int)] [L10] [v56, v57] [L26] → ((v17 ≠ v56) → False) ∧
((v17 = v56) → ∃ (I8 : List Int → List (List Int) → Prop) (μ8 : List Int → List (List Int) → Nat), I8 [(0 : Int)] [] ∧
(∀ v59 : Int, I8 [v59] [] →
 ((v59 < v56) → (v59 < v56) ∧ (v59 < v56) ∧ ∀ v61 : Int, v61 = (L26).getD (v59).toNat 0 → (v59 < v17) ∧ (v59 < v17) ∧ ∀ v62 : Int, v62 = (L18).getD (v59).toNat 0 → ((v61 ≠ v62) → False) ∧
((v61 = v62) → ∀ v64 : Int, v64 = v59 + (1 : Int) → (I8 [v64] [] ∧ μ8 [v64] [] < μ8 [v59] []))) ∧
((v56 ≤ v59) → (Go.Sx.L2.tBy).rel.pre [((-1) : Int)] [L10] ∧
(∀ v61 : Int, ∀ v62 : Int, ∀ L27 : List Int, (Go.Sx.L2.tBy).rel.post [((-1) : Int)] [L10] [v61, v62] [L27] → ((v61 = (0 : Int)) → (Go.Sx.L2.tBy).rel.pre [(8 : Int)] [L10] ∧
(∀ v64 : Int, ∀ v65 : Int, ∀ L28 : List Int, (Go.Sx.L2.tBy).rel.post [(8 : Int)] [L10] [v64, v65] [L28] → ∀ v66 : Int, v66 = b2i (v64 == (0 : Int)) → (v66 ≠ (0 : Int)) ∧ Q [] [])) ∧
((v61 ≠ (0 : Int)) → False)))))))))))))))))))))))))))))))))))) ∧
((v0 ≤ v2) → (Go.Sx.L2.tBy).rel.pre [(0 : Int)] [L10] ∧
(∀ v20 : Int, ∀ v21 : Int, ∀ L19 : List Int, (Go.Sx.L2.tBy).rel.post [(0 : Int)] [L10] [v20, v21] [L19] → ((v3 ≠ v20) → False) ∧
((v3 = v20) → ∃ (I1 : List Int → List (List Int) → Prop) (μ1 : List Int → List (List Int) → Nat), I1 [(0 : Int)] [] ∧
(∀ v23 : Int, I1 [v23] [] →
 ((v23 < v20) → (v23 < v20) ∧ (v23 < v20) ∧ ∀ v25 : Int, v25 = (L19).getD (v23).toNat 0 → (v23 < v3) ∧ (v23 < v3) ∧ ∀ v26 : Int, v26 = (L11).getD (v23).toNat 0 → ((v25 ≠ v26) → False) ∧
((v25 = v26) → ∀ v28 : Int, v28 = v23 + (1 : Int) → (I1 [v28] [] ∧ μ1 [v28] [] < μ1 [v23] []))) ∧
((v20 ≤ v23) → (Go.Sx.L2.tBy).rel.pre [(1 : Int)] [L10] ∧
(∀ v25 : Int, ∀ v26 : Int, ∀ L20 : List Int, (Go.Sx.L2.tBy).rel.post [(1 : Int)] [L10] [v25, v26] [L20] → ((v5 ≠ v25) → False) ∧
((v5 = v25) → ∃ (I2 : List Int → List (List Int) → Prop) (μ2 : List Int → List (List Int) → Nat), I2 [(0 : Int)] [] ∧
(∀ v28 : Int, I2 [v28] [] →
 ((v28 < v25) → (v28 < v25) ∧ (v28 < v25) ∧ ∀ v30 : Int, v30 = (L20).getD (v28).toNat 0 → (v28 < v5) ∧ (v28 < v5) ∧ ∀ v31 : Int, v31 = (L12).getD (v28).toNat 0 → ((v30 ≠ v31) → False) ∧
((v30 = v31) → ∀ v33 : Int, v33 = v28 + (1 : Int) → (I2 [v33] [] ∧ μ2 [v33] [] < μ2 [v28] []))) ∧
((v25 ≤ v28) → (Go.Sx.L2.tBy).rel.pre [(2 : Int)] [L10] ∧
(∀ v30 : Int, ∀ v31 : Int, ∀ L21 : List Int, (Go.Sx.L2.tBy).rel.post [(2 : Int)] [L10] [v30, v31] [L21] → ((v7 ≠ v30) → False) ∧
((v7 = v30) → ∃ (I3 : List Int → List (List Int) → Prop) (μ3 : List Int → List (List Int) → Nat), I3 [(0 : Int)] [] ∧
(∀ v33 : Int, I3 [v33] [] →
 ((v33 < v30) → (v33 < v30) ∧ (v33 < v30) ∧ ∀ v35 : Int, v35 = (L21).getD (v33).toNat 0 → (v33 < v7) ∧ (v33 < v7) ∧ ∀ v36 : Int, v36 = (L13).getD (v33).toNat 0 → ((v35 ≠ v36) → False) ∧
((v35 = v36) → ∀ v38 : Int, v38 = v33 + (1 : Int) → (I3 [v38] [] ∧ μ3 [v38] [] < μ3 [v33] []))) ∧
((v30 ≤ v33) → (Go.Sx.L2.tBy).rel.pre [(3 : Int)] [L10] ∧
(∀ v35 : Int, ∀ v36 : Int, ∀ L22 : List Int, (Go.Sx.L2.tBy).rel.post [(3 : Int)] [L10] [v35, v36] [L22] → ((v9 ≠ v35) → False) ∧
((v9 = v35) → ∃ (I4 : List Int → List (List Int) → Prop) (μ4 : List Int → List (List Int) → Nat), I4 [(0 : Int)] [] ∧
(∀ v38 : Int, I4 [v38] [] →
 ((v38 < v35) → (v38 < v35) ∧ (v38 < v35) ∧ ∀ v40 : Int, v40 = (L22).getD (v38).toNat 0 → (v38 < v9) ∧ (v38 < v9) ∧ ∀ v41 : Int, v41 = (L14).getD (v38).toNat 0 → ((v40 ≠ v41) → False) ∧
((v40 = v41) → ∀ v43 : Int, v43 = v38 + (1 : Int) → (I4 [v43] [] ∧ μ4 [v43] [] < μ4 [v38] []))) ∧
((v35 ≤ v38) → (Go.Sx.L2.tBy).rel.pre [(4 : Int)] [L10] ∧
(∀ v40 : Int, ∀ v41 : Int, ∀ L23 : List Int, (Go.Sx.L2.tBy).rel.post [(4 : Int)] [L10] [v40, v41] [L23] → ((v11 ≠ v40) → False) ∧
((v11 = v40) → ∃ (I5 : List Int → List (List Int) → Prop) (μ5 : List Int → List (List Int) → Nat), I5 [(0 : Int)] [] ∧
(∀ v43 : Int, I5 [v43] [] →
 ((v43 < v40) → (v43 < v40) ∧ (v43 < v40) ∧ ∀ v45 : Int, v45 = (L23).getD (v43).toNat 0 → (v43 < v11) ∧ (v43 < v11) ∧ ∀ v46 : Int, v46 = (L15).getD (v43).toNat 0 → ((v45 ≠ v46) → False) ∧
((v45 = v46) → ∀ v48 : Int, v48 = v43 + (1 : Int) → (I5 [v48] [] ∧ μ5 [v48] [] < μ5 [v43] []))) ∧
((v40 ≤ v43) → (Go.Sx.L2.tBy).rel.pre [(5 : Int)] [L10] ∧
(∀ v45 : Int, ∀ v46 : Int, ∀ L24 : List Int, (Go.Sx.L2.tBy).rel.post [(5 : Int)] [L10] [v45, v46] [L24] → ((v13 ≠ v45) → False) ∧
((v13 = v45) → ∃ (I6 : List Int → List (List Int) → Prop) (μ6 : List Int → List (List Int) → Nat), I6 [(0 : Int)] [] ∧
(∀ v48 : Int, I6 [v48] [] →
 ((v48 < v45) → (v48 < v45) ∧ (v48 < v45) ∧ ∀ v50 : Int, v50 = (L24).getD (v48).toNat 0 → (v48 < v13) ∧ (v48 < v13) ∧ ∀ v51 : Int, v51 = (L16).getD (v48).toNat 0 → ((v50 ≠ v51) → False) ∧
((v50 = v51) → ∀ v53 : Int, v53 = v48 + (1 : Int) → (I6 [v53] [] ∧ μ6 [v53] [] < μ6 [v48] []))) ∧
((v45 ≤ v48) → (Go.Sx.L2.tBy).rel.pre [(6 : Int)] [L10] ∧
(∀ v50 : Int, ∀ v51 : Int, ∀ L25 : List Int, (Go.Sx.L2.tBy).rel.post [(6 : Int)] [L10] [v50, v51] [L25] → ((v15 ≠ v50) → False) ∧
((v15 = v50) → ∃ (I7 : List Int → List (List Int) → Prop) (μ7 : List Int → List (List Int) → Nat), I7 [(0 : Int)] [] ∧
(∀ v53 : Int, I7 [v53] [] →
 ((v53 < v50) → (v53 < v50) ∧ (v53 < v50) ∧ ∀ v55 : Int, v55 = (L25).getD (v53).toNat 0 → (v53 < v15) ∧ (v53 < v15) ∧ ∀ v56 : Int, v56 = (L17).getD (v53).toNat 0 → ((v55 ≠ v56) → False) ∧
((v55 = v56) → ∀ v58 : Int, v58 = v53 + (1 : Int) → (I7 [v58] [] ∧ μ7 [v58] [] < μ7 [v53] []))) ∧
((v50 ≤ v53) → (Go.Sx.L2.tBy).rel.pre [(7 : Int)] [L10] ∧
(∀ v55 : Int, ∀ v56 : Int, ∀ L26 : List Int, (Go.Sx.L2.tBy).rel.post [(7 : Int)] [L10] [v55, v56] [L26] → ((v17 ≠ v55) → False) ∧
((v17 = v55) → ∃ (I8 : List Int → List (List Int) → Prop) (μ8 : List Int → List (List Int) → Nat), I8 [(0 : Int)] [] ∧
(∀ v58 : Int, I8 [v58] [] →
 ((v58 < v55) → (v58 < v55) ∧ (v58 < v55) ∧ ∀ v60 : Int, v60 = (L26).getD (v58).toNat 0 → (v58 < v17) ∧ (v58 < v17) ∧ ∀ v61 : Int, v61 = (L18).getD (v58).toNat 0 → ((v60 ≠ v61) → False) ∧
((v60 = v61) → ∀ v63 : Int, v63 = v58 + (1 : Int) → (I8 [v63] [] ∧ μ8 [v63] [] < μ8 [v58] []))) ∧
((v55 ≤ v58) → (Go.Sx.L2.tBy).rel.pre [((-1) : Int)] [L10] ∧
(∀ v60 : Int, ∀ v61 : Int, ∀ L27 : List Int, (Go.Sx.L2.tBy).rel.post [((-1) : Int)] [L10] [v60, v61] [L27] → ((v60 = (0 : Int)) → (Go.Sx.L2.tBy).rel.pre [(8 : Int)] [L10] ∧
(∀ v63 : Int, ∀ v64 : Int, ∀ L28 : List Int, (Go.Sx.L2.tBy).rel.post [(8 : Int)] [L10] [v63, v64] [L28] → ∀ v65 : Int, v65 = b2i (v63 == (0 : Int)) → (v65 ≠ (0 : Int)) ∧ Q [] [])) ∧
((v60 ≠ (0 : Int)) → False))))))))))))))))))))))))))))))))))))))) := by kernel_rfl
set_option maxHeartbeats 4000000 in
theorem tableBy_holds0 : (lawSpec 5 [.slc [.i .i64]]).Holds Tryz.prog L2.ro := FSpec.holdsV (cfg := withS (L2.cfg2 Tryz.prog) [L2.put_ 52, L2.put_ 77, L2.tNew, L2.tInsert, L2.tRemove, L2.tProtect, L2.tAt, L2.tWords, L2.tBy]) [{ f := 5, reg := 7, ints := [(6, 0, 8)], lists := [(4, [], some (-9223372036854775808, 9223372036854775807))], cvecs := [(5, [], 0, none), (5, [], 1, none), (5, [], 2, none), (5, [], 3, none), (5, [], 4, none), (5, [], 5, none), (5, [], 6, none), (5, [], 7, none)], cnils := [(5, [], 0, [.i .i64], 3), (5, [], 1, [.i .i64], 3), (5, [], 2, [.i .i64], 3), (5, [], 3, [.i .i64], 3), (5, [], 4, [.i .i64], 3), (5, [], 5, [.i .i64], 3), (5, [], 6, [.i .i64], 3), (5, [], 7, [.i .i64], 3)] }, { f := 5, reg := 20, ints := [(65, 0, 1000000)] }] 20 200 (withS_ok cfg2_ok ⟨pPut_holds, rPte_holds, tNew_holds, tInsert_holds, tRemove_holds, tProtect_holds, tAt_holds, tWords_holds, tBy_holds, trivial⟩) mixed (t := TableBy_t) TableBy_tree (by
  show ∀ (v0 v1 : Int) (L0 : List Int), _
  intro v0 v1 L0 hp hr hl
  replace hr : ((0 : Int) ≤ v0 ∧ v0 ≤ (9223372036854775807 : Int)) ∧ ((0 : Int) ≤ v1 ∧ v1 ≤ (9223372036854775807 : Int)) ∧ True := hr
  replace hp : (True ∧ ((0 : Int) ≤ v0 ∧ v0 ≤ v1 ∧ (L0.length : Int) = v0 * ((1 : Nat) : Int) ∧ ((1 : Nat) ≠ 1 → [v0, v1].getD 2 0 = v0 * ((1 : Nat) : Int)) ∧ ∀ j, j < L0.length → ((oneKind [.i .i64]).getD (j % (oneKind [.i .i64]).length) (.i .i64)).lo ≤ L0.getD j 0 ∧ L0.getD j 0 ≤ ((oneKind [.i .i64]).getD (j % (oneKind [.i .i64]).length) (.i .i64)).hi)) := hp
  show TableBy_t.dn ⟨_, []⟩ 2 [v1, v0] 1 [L0]
  rw [TableBy_vc]
  show ((L2.yes L2.f_messuagelaw2_begun).rel.pre [] [] ∧ _)
  refine ⟨trivial, fun _ => ?_⟩
  refine ⟨trivial, fun T0 hT0 => ?_⟩
  have hT0 : T0 = List.replicate 24 0 := by
    have : [T0] = [List.replicate 24 (0 : Int)] := hT0.2
    simpa using this
  intro E0 eE0 E1 eE1 E2 eE2 E3 eE3 E4 eE4 E5 eE5 E6 eE6 E7 eE7
  refine ⟨fun xs ys => match xs, ys with | [i, n0, c0, n1, c1, n2, c2, n3, c3, n4, c4, n5, c5, n6, c6, n7, c7], [T, W0, W1, W2, W3, W4, W5, W6, W7] => TabSt T i ∧ BySt T i 0 n0 c0 W0 ∧ BySt T i 1 n1 c1 W1 ∧ BySt T i 2 n2 c2 W2 ∧ BySt T i 3 n3 c3 W3 ∧ BySt T i 4 n4 c4 W4 ∧ BySt T i 5 n5 c5 W5 ∧ BySt T i 6 n6 c6 W6 ∧ BySt T i 7 n7 c7 W7 | _, _ => False, fun xs _ => match xs with | i :: _ => (8 - i).toNat | _ => 0, ?_, ?_⟩ <;> dsimp only
  · subst hT0 eE0 eE1 eE2 eE3 eE4 eE5 eE6 eE7
    exact ⟨TabSt.start, ⟨rfl, rfl, by omega⟩, ⟨rfl, rfl, by omega⟩, ⟨rfl, rfl, by omega⟩, ⟨rfl, rfl, by omega⟩, ⟨rfl, rfl, by omega⟩, ⟨rfl, rfl, by omega⟩, ⟨rfl, rfl, by omega⟩, ⟨rfl, rfl, by omega⟩⟩
  · intro i n0 c0 n1 c1 n2 c2 n3 c3 n4 c4 n5 c5 n6 c6 n7 c7 T W0 W1 W2 W3 W4 W5 W6 W7 hI
    obtain ⟨hT, b0, b1, b2, b3, b4, b5, b6, b7⟩ := hI
    refine ⟨fun c1 => ⟨fun ci => ⟨c1, c1, ?_⟩, fun c2 => ?_⟩, fun c1 => ?_⟩
    ·
      intro x21 e21 x22 e22 x23 e23 s es x25 e25 r er
      have hs := modN x21 8 (by omega)
      rw [← e22, ← e23, ← es] at hs
      have hr : 1 ≤ r ∧ r ≤ 3 := by
        have := hT.i0
        have e := Int.tmod_eq_emod_of_nonneg (b := 3) hT.i0
        rw [e25, e] at er
        omega
      have hfree : tG T i 2 = 0 := by
        have := hT.free i.toNat (by have := hT.i0; omega) (by have := hT.i0; omega)
        rwa [show ((i.toNat : Nat) : Int) = i by have := hT.i0; omega] at this
      have hin := ins_ok (f := i) (s := s) (r := r) (by rw [pteOk_iff]; have := hT.i0; omega) (by omega) hT.i0 ci hfree
      refine ⟨trivial, fun e T' hpost => ?_⟩
      have hpost : [e] = [insE T i i s r] ∧ [T'] = [insL T i i s r] := hpost
      rw [hin.1, hin.2] at hpost
      have he : e = 0 := by simpa using hpost.1
      have hT' : T' = tSet3 T i i s r := by simpa using hpost.2
      subst hT'
      have hT2 := hT.step (f := i) (s := s) (r := r) ci hs.1 hs.2
      refine ⟨fun c => absurd he c, fun _ => ?_⟩
      have t0 := BySt.step (f := i) (s := s) (r := r) hT ci (by omega) b0
      have t1 := BySt.step (f := i) (s := s) (r := r) hT ci (by omega) b1
      have t2 := BySt.step (f := i) (s := s) (r := r) hT ci (by omega) b2
      have t3 := BySt.step (f := i) (s := s) (r := r) hT ci (by omega) b3
      have t4 := BySt.step (f := i) (s := s) (r := r) hT ci (by omega) b4
      have t5 := BySt.step (f := i) (s := s) (r := r) hT ci (by omega) b5
      have t6 := BySt.step (f := i) (s := s) (r := r) hT ci (by omega) b6
      have t7 := BySt.step (f := i) (s := s) (r := r) hT ci (by omega) b7
      refine ⟨?_, fun hj0 => ?_⟩
      · intro hj L2 eL n' en
        refine ⟨by have := b0.small hT; omega, by exact b0.cap, ?_⟩
        intro L3 eL3 c' hc hc' i' ei'
        subst eL eL3 en ei'
        exact ⟨⟨hT2, (t0.2 hj _ hc), (t1.1 (by omega)), (t2.1 (by omega)), (t3.1 (by omega)), (t4.1 (by omega)), (t5.1 (by omega)), (t6.1 (by omega)), (t7.1 (by omega))⟩, by omega⟩
      refine ⟨?_, fun hj1 => ?_⟩
      · intro hj L2 eL n' en
        refine ⟨by have := b1.small hT; omega, by exact b1.cap, ?_⟩
        intro L3 eL3 c' hc hc' i' ei'
        subst eL eL3 en ei'
        exact ⟨⟨hT2, (t0.1 (by omega)), (t1.2 hj _ hc), (t2.1 (by omega)), (t3.1 (by omega)), (t4.1 (by omega)), (t5.1 (by omega)), (t6.1 (by omega)), (t7.1 (by omega))⟩, by omega⟩
      refine ⟨?_, fun hj2 => ?_⟩
      · intro hj L2 eL n' en
        refine ⟨by have := b2.small hT; omega, by exact b2.cap, ?_⟩
        intro L3 eL3 c' hc hc' i' ei'
        subst eL eL3 en ei'
        exact ⟨⟨hT2, (t0.1 (by omega)), (t1.1 (by omega)), (t2.2 hj _ hc), (t3.1 (by omega)), (t4.1 (by omega)), (t5.1 (by omega)), (t6.1 (by omega)), (t7.1 (by omega))⟩, by omega⟩
      refine ⟨?_, fun hj3 => ?_⟩
      · intro hj L2 eL n' en
        refine ⟨by have := b3.small hT; omega, by exact b3.cap, ?_⟩
        intro L3 eL3 c' hc hc' i' ei'
        subst eL eL3 en ei'
        exact ⟨⟨hT2, (t0.1 (by omega)), (t1.1 (by omega)), (t2.1 (by omega)), (t3.2 hj _ hc), (t4.1 (by omega)), (t5.1 (by omega)), (t6.1 (by omega)), (t7.1 (by omega))⟩, by omega⟩
      refine ⟨?_, fun hj4 => ?_⟩
      · intro hj L2 eL n' en
        refine ⟨by have := b4.small hT; omega, by exact b4.cap, ?_⟩
        intro L3 eL3 c' hc hc' i' ei'
        subst eL eL3 en ei'
        exact ⟨⟨hT2, (t0.1 (by omega)), (t1.1 (by omega)), (t2.1 (by omega)), (t3.1 (by omega)), (t4.2 hj _ hc), (t5.1 (by omega)), (t6.1 (by omega)), (t7.1 (by omega))⟩, by omega⟩
      refine ⟨?_, fun hj5 => ?_⟩
      · intro hj L2 eL n' en
        refine ⟨by have := b5.small hT; omega, by exact b5.cap, ?_⟩
        intro L3 eL3 c' hc hc' i' ei'
        subst eL eL3 en ei'
        exact ⟨⟨hT2, (t0.1 (by omega)), (t1.1 (by omega)), (t2.1 (by omega)), (t3.1 (by omega)), (t4.1 (by omega)), (t5.2 hj _ hc), (t6.1 (by omega)), (t7.1 (by omega))⟩, by omega⟩
      refine ⟨?_, fun hj6 => ?_⟩
      · intro hj L2 eL n' en
        refine ⟨by have := b6.small hT; omega, by exact b6.cap, ?_⟩
        intro L3 eL3 c' hc hc' i' ei'
        subst eL eL3 en ei'
        exact ⟨⟨hT2, (t0.1 (by omega)), (t1.1 (by omega)), (t2.1 (by omega)), (t3.1 (by omega)), (t4.1 (by omega)), (t5.1 (by omega)), (t6.2 hj _ hc), (t7.1 (by omega))⟩, by omega⟩
      have hj : s = 7 := by omega
      intro L2 eL n' en
      refine ⟨by have := b7.small hT; omega, by exact b7.cap, ?_⟩
      intro L3 eL3 c' hc hc' i' ei'
      subst eL eL3 en ei'
      exact ⟨⟨hT2, (t0.1 (by omega)), (t1.1 (by omega)), (t2.1 (by omega)), (t3.1 (by omega)), (t4.1 (by omega)), (t5.1 (by omega)), (t6.1 (by omega)), (t7.2 hj _ hc)⟩, by omega⟩
    ·
      refine ⟨trivial, fun a b Lb hpost => ?_⟩
      have hpost : a = ((byUp T 0 8).length : Int) ∧ a ≤ b ∧ [Lb] = [byUp T 0 8] := hpost
      obtain ⟨pa, pb, pl⟩ := hpost
      have pl : Lb = byUp T 0 8 := by simpa using pl
      have hw := b0.fin hT
      have hn := b0.cnt
      rw [hw, ← pa] at hn
      refine ⟨fun c => absurd hn c, fun _ => ?_⟩
      refine ⟨fun xs _ => match xs with | [i] => 0 ≤ i | _ => False, fun xs _ => match xs with | i :: _ => (a - i).toNat | _ => 0, ?_, ?_⟩ <;> dsimp only
      · omega
      · intro k hk
        refine ⟨fun c3 => ⟨c3, c3, fun x ex => ⟨by omega, by omega, fun y ey => ⟨fun c4 => c4 (by rw [ex, ey, pl, hw]), fun _ z ez => ⟨by omega, by omega⟩⟩⟩⟩, fun c3 => ?_⟩
        clear pa pb pl hw hn hk
        refine ⟨trivial, fun a b Lb hpost => ?_⟩
        have hpost : a = ((byUp T 1 8).length : Int) ∧ a ≤ b ∧ [Lb] = [byUp T 1 8] := hpost
        obtain ⟨pa, pb, pl⟩ := hpost
        have pl : Lb = byUp T 1 8 := by simpa using pl
        have hw := b1.fin hT
        have hn := b1.cnt
        rw [hw, ← pa] at hn
        refine ⟨fun c => absurd hn c, fun _ => ?_⟩
        refine ⟨fun xs _ => match xs with | [i] => 0 ≤ i | _ => False, fun xs _ => match xs with | i :: _ => (a - i).toNat | _ => 0, ?_, ?_⟩ <;> dsimp only
        · omega
        · intro k hk
          refine ⟨fun c3 => ⟨c3, c3, fun x ex => ⟨by omega, by omega, fun y ey => ⟨fun c4 => c4 (by rw [ex, ey, pl, hw]), fun _ z ez => ⟨by omega, by omega⟩⟩⟩⟩, fun c3 => ?_⟩
          clear pa pb pl hw hn hk
          refine ⟨trivial, fun a b Lb hpost => ?_⟩
          have hpost : a = ((byUp T 2 8).length : Int) ∧ a ≤ b ∧ [Lb] = [byUp T 2 8] := hpost
          obtain ⟨pa, pb, pl⟩ := hpost
          have pl : Lb = byUp T 2 8 := by simpa using pl
          have hw := b2.fin hT
          have hn := b2.cnt
          rw [hw, ← pa] at hn
          refine ⟨fun c => absurd hn c, fun _ => ?_⟩
          refine ⟨fun xs _ => match xs with | [i] => 0 ≤ i | _ => False, fun xs _ => match xs with | i :: _ => (a - i).toNat | _ => 0, ?_, ?_⟩ <;> dsimp only
          · omega
          · intro k hk
            refine ⟨fun c3 => ⟨c3, c3, fun x ex => ⟨by omega, by omega, fun y ey => ⟨fun c4 => c4 (by rw [ex, ey, pl, hw]), fun _ z ez => ⟨by omega, by omega⟩⟩⟩⟩, fun c3 => ?_⟩
            clear pa pb pl hw hn hk
            refine ⟨trivial, fun a b Lb hpost => ?_⟩
            have hpost : a = ((byUp T 3 8).length : Int) ∧ a ≤ b ∧ [Lb] = [byUp T 3 8] := hpost
            obtain ⟨pa, pb, pl⟩ := hpost
            have pl : Lb = byUp T 3 8 := by simpa using pl
            have hw := b3.fin hT
            have hn := b3.cnt
            rw [hw, ← pa] at hn
            refine ⟨fun c => absurd hn c, fun _ => ?_⟩
            refine ⟨fun xs _ => match xs with | [i] => 0 ≤ i | _ => False, fun xs _ => match xs with | i :: _ => (a - i).toNat | _ => 0, ?_, ?_⟩ <;> dsimp only
            · omega
            · intro k hk
              refine ⟨fun c3 => ⟨c3, c3, fun x ex => ⟨by omega, by omega, fun y ey => ⟨fun c4 => c4 (by rw [ex, ey, pl, hw]), fun _ z ez => ⟨by omega, by omega⟩⟩⟩⟩, fun c3 => ?_⟩
              clear pa pb pl hw hn hk
              refine ⟨trivial, fun a b Lb hpost => ?_⟩
              have hpost : a = ((byUp T 4 8).length : Int) ∧ a ≤ b ∧ [Lb] = [byUp T 4 8] := hpost
              obtain ⟨pa, pb, pl⟩ := hpost
              have pl : Lb = byUp T 4 8 := by simpa using pl
              have hw := b4.fin hT
              have hn := b4.cnt
              rw [hw, ← pa] at hn
              refine ⟨fun c => absurd hn c, fun _ => ?_⟩
              refine ⟨fun xs _ => match xs with | [i] => 0 ≤ i | _ => False, fun xs _ => match xs with | i :: _ => (a - i).toNat | _ => 0, ?_, ?_⟩ <;> dsimp only
              · omega
              · intro k hk
                refine ⟨fun c3 => ⟨c3, c3, fun x ex => ⟨by omega, by omega, fun y ey => ⟨fun c4 => c4 (by rw [ex, ey, pl, hw]), fun _ z ez => ⟨by omega, by omega⟩⟩⟩⟩, fun c3 => ?_⟩
                clear pa pb pl hw hn hk
                refine ⟨trivial, fun a b Lb hpost => ?_⟩
                have hpost : a = ((byUp T 5 8).length : Int) ∧ a ≤ b ∧ [Lb] = [byUp T 5 8] := hpost
                obtain ⟨pa, pb, pl⟩ := hpost
                have pl : Lb = byUp T 5 8 := by simpa using pl
                have hw := b5.fin hT
                have hn := b5.cnt
                rw [hw, ← pa] at hn
                refine ⟨fun c => absurd hn c, fun _ => ?_⟩
                refine ⟨fun xs _ => match xs with | [i] => 0 ≤ i | _ => False, fun xs _ => match xs with | i :: _ => (a - i).toNat | _ => 0, ?_, ?_⟩ <;> dsimp only
                · omega
                · intro k hk
                  refine ⟨fun c3 => ⟨c3, c3, fun x ex => ⟨by omega, by omega, fun y ey => ⟨fun c4 => c4 (by rw [ex, ey, pl, hw]), fun _ z ez => ⟨by omega, by omega⟩⟩⟩⟩, fun c3 => ?_⟩
                  clear pa pb pl hw hn hk
                  refine ⟨trivial, fun a b Lb hpost => ?_⟩
                  have hpost : a = ((byUp T 6 8).length : Int) ∧ a ≤ b ∧ [Lb] = [byUp T 6 8] := hpost
                  obtain ⟨pa, pb, pl⟩ := hpost
                  have pl : Lb = byUp T 6 8 := by simpa using pl
                  have hw := b6.fin hT
                  have hn := b6.cnt
                  rw [hw, ← pa] at hn
                  refine ⟨fun c => absurd hn c, fun _ => ?_⟩
                  refine ⟨fun xs _ => match xs with | [i] => 0 ≤ i | _ => False, fun xs _ => match xs with | i :: _ => (a - i).toNat | _ => 0, ?_, ?_⟩ <;> dsimp only
                  · omega
                  · intro k hk
                    refine ⟨fun c3 => ⟨c3, c3, fun x ex => ⟨by omega, by omega, fun y ey => ⟨fun c4 => c4 (by rw [ex, ey, pl, hw]), fun _ z ez => ⟨by omega, by omega⟩⟩⟩⟩, fun c3 => ?_⟩
                    clear pa pb pl hw hn hk
                    refine ⟨trivial, fun a b Lb hpost => ?_⟩
                    have hpost : a = ((byUp T 7 8).length : Int) ∧ a ≤ b ∧ [Lb] = [byUp T 7 8] := hpost
                    obtain ⟨pa, pb, pl⟩ := hpost
                    have pl : Lb = byUp T 7 8 := by simpa using pl
                    have hw := b7.fin hT
                    have hn := b7.cnt
                    rw [hw, ← pa] at hn
                    refine ⟨fun c => absurd hn c, fun _ => ?_⟩
                    refine ⟨fun xs _ => match xs with | [i] => 0 ≤ i | _ => False, fun xs _ => match xs with | i :: _ => (a - i).toNat | _ => 0, ?_, ?_⟩ <;> dsimp only
                    · omega
                    · intro k hk
                      refine ⟨fun c3 => ⟨c3, c3, fun x ex => ⟨by omega, by omega, fun y ey => ⟨fun c4 => c4 (by rw [ex, ey, pl, hw]), fun _ z ez => ⟨by omega, by omega⟩⟩⟩⟩, fun c3 => ?_⟩
                      clear pa pb pl hw hn hk
                      refine ⟨trivial, fun a b Lb hpost => ?_⟩
                      have pa : a = ((byUp T (-1) 8).length : Int) := hpost.1
                      rw [byUp_none hT (.inl (by omega))] at pa
                      refine ⟨fun _ => ⟨trivial, fun a' b' Lb' hpost' x ex => ?_⟩, fun c => absurd pa c⟩
                      have pa' : a' = ((byUp T 8 8).length : Int) := hpost'.1
                      rw [byUp_none hT (.inr (by omega))] at pa'
                      exact ⟨by rw [ex, pa']; decide, trivial⟩
    ·
      refine ⟨trivial, fun a b Lb hpost => ?_⟩
      have hpost : a = ((byUp T 0 8).length : Int) ∧ a ≤ b ∧ [Lb] = [byUp T 0 8] := hpost
      obtain ⟨pa, pb, pl⟩ := hpost
      have pl : Lb = byUp T 0 8 := by simpa using pl
      have hw := b0.fin hT
      have hn := b0.cnt
      rw [hw, ← pa] at hn
      refine ⟨fun c => absurd hn c, fun _ => ?_⟩
      refine ⟨fun xs _ => match xs with | [i] => 0 ≤ i | _ => False, fun xs _ => match xs with | i :: _ => (a - i).toNat | _ => 0, ?_, ?_⟩ <;> dsimp only
      · omega
      · intro k hk
        refine ⟨fun c3 => ⟨c3, c3, fun x ex => ⟨by omega, by omega, fun y ey => ⟨fun c4 => c4 (by rw [ex, ey, pl, hw]), fun _ z ez => ⟨by omega, by omega⟩⟩⟩⟩, fun c3 => ?_⟩
        clear pa pb pl hw hn hk
        refine ⟨trivial, fun a b Lb hpost => ?_⟩
        have hpost : a = ((byUp T 1 8).length : Int) ∧ a ≤ b ∧ [Lb] = [byUp T 1 8] := hpost
        obtain ⟨pa, pb, pl⟩ := hpost
        have pl : Lb = byUp T 1 8 := by simpa using pl
        have hw := b1.fin hT
        have hn := b1.cnt
        rw [hw, ← pa] at hn
        refine ⟨fun c => absurd hn c, fun _ => ?_⟩
        refine ⟨fun xs _ => match xs with | [i] => 0 ≤ i | _ => False, fun xs _ => match xs with | i :: _ => (a - i).toNat | _ => 0, ?_, ?_⟩ <;> dsimp only
        · omega
        · intro k hk
          refine ⟨fun c3 => ⟨c3, c3, fun x ex => ⟨by omega, by omega, fun y ey => ⟨fun c4 => c4 (by rw [ex, ey, pl, hw]), fun _ z ez => ⟨by omega, by omega⟩⟩⟩⟩, fun c3 => ?_⟩
          clear pa pb pl hw hn hk
          refine ⟨trivial, fun a b Lb hpost => ?_⟩
          have hpost : a = ((byUp T 2 8).length : Int) ∧ a ≤ b ∧ [Lb] = [byUp T 2 8] := hpost
          obtain ⟨pa, pb, pl⟩ := hpost
          have pl : Lb = byUp T 2 8 := by simpa using pl
          have hw := b2.fin hT
          have hn := b2.cnt
          rw [hw, ← pa] at hn
          refine ⟨fun c => absurd hn c, fun _ => ?_⟩
          refine ⟨fun xs _ => match xs with | [i] => 0 ≤ i | _ => False, fun xs _ => match xs with | i :: _ => (a - i).toNat | _ => 0, ?_, ?_⟩ <;> dsimp only
          · omega
          · intro k hk
            refine ⟨fun c3 => ⟨c3, c3, fun x ex => ⟨by omega, by omega, fun y ey => ⟨fun c4 => c4 (by rw [ex, ey, pl, hw]), fun _ z ez => ⟨by omega, by omega⟩⟩⟩⟩, fun c3 => ?_⟩
            clear pa pb pl hw hn hk
            refine ⟨trivial, fun a b Lb hpost => ?_⟩
            have hpost : a = ((byUp T 3 8).length : Int) ∧ a ≤ b ∧ [Lb] = [byUp T 3 8] := hpost
            obtain ⟨pa, pb, pl⟩ := hpost
            have pl : Lb = byUp T 3 8 := by simpa using pl
            have hw := b3.fin hT
            have hn := b3.cnt
            rw [hw, ← pa] at hn
            refine ⟨fun c => absurd hn c, fun _ => ?_⟩
            refine ⟨fun xs _ => match xs with | [i] => 0 ≤ i | _ => False, fun xs _ => match xs with | i :: _ => (a - i).toNat | _ => 0, ?_, ?_⟩ <;> dsimp only
            · omega
            · intro k hk
              refine ⟨fun c3 => ⟨c3, c3, fun x ex => ⟨by omega, by omega, fun y ey => ⟨fun c4 => c4 (by rw [ex, ey, pl, hw]), fun _ z ez => ⟨by omega, by omega⟩⟩⟩⟩, fun c3 => ?_⟩
              clear pa pb pl hw hn hk
              refine ⟨trivial, fun a b Lb hpost => ?_⟩
              have hpost : a = ((byUp T 4 8).length : Int) ∧ a ≤ b ∧ [Lb] = [byUp T 4 8] := hpost
              obtain ⟨pa, pb, pl⟩ := hpost
              have pl : Lb = byUp T 4 8 := by simpa using pl
              have hw := b4.fin hT
              have hn := b4.cnt
              rw [hw, ← pa] at hn
              refine ⟨fun c => absurd hn c, fun _ => ?_⟩
              refine ⟨fun xs _ => match xs with | [i] => 0 ≤ i | _ => False, fun xs _ => match xs with | i :: _ => (a - i).toNat | _ => 0, ?_, ?_⟩ <;> dsimp only
              · omega
              · intro k hk
                refine ⟨fun c3 => ⟨c3, c3, fun x ex => ⟨by omega, by omega, fun y ey => ⟨fun c4 => c4 (by rw [ex, ey, pl, hw]), fun _ z ez => ⟨by omega, by omega⟩⟩⟩⟩, fun c3 => ?_⟩
                clear pa pb pl hw hn hk
                refine ⟨trivial, fun a b Lb hpost => ?_⟩
                have hpost : a = ((byUp T 5 8).length : Int) ∧ a ≤ b ∧ [Lb] = [byUp T 5 8] := hpost
                obtain ⟨pa, pb, pl⟩ := hpost
                have pl : Lb = byUp T 5 8 := by simpa using pl
                have hw := b5.fin hT
                have hn := b5.cnt
                rw [hw, ← pa] at hn
                refine ⟨fun c => absurd hn c, fun _ => ?_⟩
                refine ⟨fun xs _ => match xs with | [i] => 0 ≤ i | _ => False, fun xs _ => match xs with | i :: _ => (a - i).toNat | _ => 0, ?_, ?_⟩ <;> dsimp only
                · omega
                · intro k hk
                  refine ⟨fun c3 => ⟨c3, c3, fun x ex => ⟨by omega, by omega, fun y ey => ⟨fun c4 => c4 (by rw [ex, ey, pl, hw]), fun _ z ez => ⟨by omega, by omega⟩⟩⟩⟩, fun c3 => ?_⟩
                  clear pa pb pl hw hn hk
                  refine ⟨trivial, fun a b Lb hpost => ?_⟩
                  have hpost : a = ((byUp T 6 8).length : Int) ∧ a ≤ b ∧ [Lb] = [byUp T 6 8] := hpost
                  obtain ⟨pa, pb, pl⟩ := hpost
                  have pl : Lb = byUp T 6 8 := by simpa using pl
                  have hw := b6.fin hT
                  have hn := b6.cnt
                  rw [hw, ← pa] at hn
                  refine ⟨fun c => absurd hn c, fun _ => ?_⟩
                  refine ⟨fun xs _ => match xs with | [i] => 0 ≤ i | _ => False, fun xs _ => match xs with | i :: _ => (a - i).toNat | _ => 0, ?_, ?_⟩ <;> dsimp only
                  · omega
                  · intro k hk
                    refine ⟨fun c3 => ⟨c3, c3, fun x ex => ⟨by omega, by omega, fun y ey => ⟨fun c4 => c4 (by rw [ex, ey, pl, hw]), fun _ z ez => ⟨by omega, by omega⟩⟩⟩⟩, fun c3 => ?_⟩
                    clear pa pb pl hw hn hk
                    refine ⟨trivial, fun a b Lb hpost => ?_⟩
                    have hpost : a = ((byUp T 7 8).length : Int) ∧ a ≤ b ∧ [Lb] = [byUp T 7 8] := hpost
                    obtain ⟨pa, pb, pl⟩ := hpost
                    have pl : Lb = byUp T 7 8 := by simpa using pl
                    have hw := b7.fin hT
                    have hn := b7.cnt
                    rw [hw, ← pa] at hn
                    refine ⟨fun c => absurd hn c, fun _ => ?_⟩
                    refine ⟨fun xs _ => match xs with | [i] => 0 ≤ i | _ => False, fun xs _ => match xs with | i :: _ => (a - i).toNat | _ => 0, ?_, ?_⟩ <;> dsimp only
                    · omega
                    · intro k hk
                      refine ⟨fun c3 => ⟨c3, c3, fun x ex => ⟨by omega, by omega, fun y ey => ⟨fun c4 => c4 (by rw [ex, ey, pl, hw]), fun _ z ez => ⟨by omega, by omega⟩⟩⟩⟩, fun c3 => ?_⟩
                      clear pa pb pl hw hn hk
                      refine ⟨trivial, fun a b Lb hpost => ?_⟩
                      have pa : a = ((byUp T (-1) 8).length : Int) := hpost.1
                      rw [byUp_none hT (.inl (by omega))] at pa
                      refine ⟨fun _ => ⟨trivial, fun a' b' Lb' hpost' x ex => ?_⟩, fun c => absurd pa c⟩
                      have pa' : a' = ((byUp T 8 8).length : Int) := hpost'.1
                      rw [byUp_none hT (.inr (by omega))] at pa'
                      exact ⟨by rw [ex, pa']; decide, trivial⟩)
theorem tableBy_holds : ((lawSpec 5 [.slc [.i .i64]]).withPre fun _ => True).Holds Tryz.prog L2.ro := holds_withPre _ tableBy_holds0

noncomputable def TableBy_n_t : Tree := .call 25 (Go.Sx.L2.yes L2.f_messuagelaw2_begun).rel [] [] 0 0 (.call 28 (Go.Sx.L2.tNew).rel [] [] 0 1 (.letL (.lit []) (.letL (.lit []) (.letL (.lit []) (.letL (.lit []) (.letL (.lit []) (.letL (.lit []) (.letL (.lit []) (.letL (.lit []) (.loop [.c (0), .c (0), .c (0), .c (0), .c (0), .c (0), .c (0), .c (0), .c (0), .c (0), .c (0), .c (0), .c (0), .c (0), .c (0), .c (0), .c (0)] [0, 1, 2, 3, 4, 5, 6, 7, 8] (.exit (.call 30 (Go.Sx.L2.tBy).rel [.c (0)] [9] 2 1 (.letI (.cmp .neq (.v 1) (.v 17)) (.ite (.v 19) (.fail 180) (.loop [.c (0)] [] (.letI (.cmp .lss (.v 20) (.v 17)) (.ite (.v 21) (.need .lss (.v 20) (.v 17) (.need .lss (.v 20) (.v 17) (.letI (.get 18 (.v 20)) (.need .lss (.v 20) (.v 1) (.need .lss (.v 20) (.v 1) (.letI (.get 10 (.v 20)) (.letI (.cmp .neq (.v 22) (.v 23)) (.ite (.v 24) (.exit (.fail 180)) (.letI (.add (.v 20) (.c 1)) (.again [.v 25] [])))))))))) (.exit (.call 30 (Go.Sx.L2.tBy).rel [.c (1)] [9] 2 1 (.letI (.cmp .neq (.v 3) (.v 22)) (.ite (.v 24) (.fail 180) (.loop [.c (0)] [] (.letI (.cmp .lss (.v 25) (.v 22)) (.ite (.v 26) (.need .lss (.v 25) (.v 22) (.need .lss (.v 25) (.v 22) (.letI (.get 19 (.v 25)) (.need .lss (.v 25) (.v 3) (.need .lss (.v 25) (.v 3) (.letI (.get 11 (.v 25)) (.letI (.cmp .neq (.v 27) (.v 28)) (.ite (.v 29) (.exit (.fail 180)) (.letI (.add (.v 25) (.c 1)) (.again [.v 30] [])))))))))) (.exit (.call 30 (Go.Sx.L2.tBy).rel [.c (2)] [9] 2 1 (.letI (.cmp .neq (.v 5) (.v 27)) (.ite (.v 29) (.fail 180) (.loop [.c (0)] [] (.letI (.cmp .lss (.v 30) (.v 27)) (.ite (.v 31) (.need .lss (.v 30) (.v 27) (.need .lss (.v 30) (.v 27) (.letI (.get 20 (.v 30)) (.need .lss (.v 30) (.v 5) (.need .lss (.v 30) (.v 5) (.letI (.get 12 (.v 30)) (.letI (.cmp .neq (.v 32) (.v 33)) (.ite (.v 34) (.exit (.fail 180)) (.letI (.add (.v 30) (.c 1)) (.again [.v 35] [])))))))))) (.exit (.call 30 (Go.Sx.L2.tBy).rel [.c (3)] [9] 2 1 (.letI (.cmp .neq (.v 7) (.v 32)) (.ite (.v 34) (.fail 180) (.loop [.c (0)] [] (.letI (.cmp .lss (.v 35) (.v 32)) (.ite (.v 36) (.need .lss (.v 35) (.v 32) (.need .lss (.v 35) (.v 32) (.letI (.get 21 (.v 35)) (.need .lss (.v 35) (.v 7) (.need .lss (.v 35) (.v 7) (.letI (.get 13 (.v 35)) (.letI (.cmp .neq (.v 37) (.v 38)) (.ite (.v 39) (.exit (.fail 180)) (.letI (.add (.v 35) (.c 1)) (.again [.v 40] [])))))))))) (.exit (.call 30 (Go.Sx.L2.tBy).rel [.c (4)] [9] 2 1 (.letI (.cmp .neq (.v 9) (.v 37)) (.ite (.v 39) (.fail 180) (.loop [.c (0)] [] (.letI (.cmp .lss (.v 40) (.v 37)) (.ite (.v 41) (.need .lss (.v 40) (.v 37) (.need .lss (.v 40) (.v 37) (.letI (.get 22 (.v 40)) (.need .lss (.v 40) (.v 9) (.need .lss (.v 40) (.v 9) (.letI (.get 14 (.v 40)) (.letI (.cmp .neq (.v 42) (.v 43)) (.ite (.v 44) (.exit (.fail 180)) (.letI (.add (.v 40) (.c 1)) (.again [.v 45] [])))))))))) (.exit (.call 30 (Go.Sx.L2.tBy).rel [.c (5)] [9] 2 1 (.letI (.cmp .neq (.v 11) (.v 42)) (.ite (.v 44) (.fail 180) (.loop [.c (0)] [] (.letI (.cmp .lss (.v 45) (.v 42)) (.ite (.v 46) (.need .lss (.v 45) (.v 42) (.need .lss (.v 45) (.v 42) (.letI (.get 23 (.v 45)) (.need .lss (.v 45) (.v 11) (.need .lss (.v 45) (.v 11) (.letI (.get 15 (.v 45)) (.letI (.cmp .neq (.v 47) (.v 48)) (.ite (.v 49) (.exit (.fail 180)) (.letI (.add (.v 45) (.c 1)) (.again [.v 50] [])))))))))) (.exit (.call 30 (Go.Sx.L2.tBy).rel [.c (6)] [9] 2 1 (.letI (.cmp .neq (.v 13) (.v 47)) (.ite (.v 49) (.fail 180) (.loop [.c (0)] [] (.letI (.cmp .lss (.v 50) (.v 47)) (.ite (.v 51) (.need .lss (.v 50) (.v 47) (.need .lss (.v 50) (.v 47) (.letI (.get 24 (.v 50)) (.need .lss (.v 50) (.v 13) (.need .lss (.v 50) (.v 13) (.letI (.get 16 (.v 50)) (.letI (.cmp .neq (.v 52) (.v 53)) (.ite (.v 54) (.exit (.fail 180)) (.letI (.add (.v 50) (.c 1)) (.again [.v 55] [])))))))))) (.exit (.call 30 (Go.Sx.L2.tBy).rel [.c (7)] [9] 2 1 (.letI (.cmp .neq (.v 15) (.v 52)) (.ite (.v 54) (.fail 180) (.loop [.c (0)] [] (.letI (.cmp .lss (.v 55) (.v 52)) (.ite (.v 56) (.need .lss (.v 55) (.v 52) (.need .lss (.v 55) (.v 52) (.letI (.get 25 (.v 55)) (.need .lss (.v 55) (.v 15) (.need .lss (.v 55) (.v 15) (.letI (.get 17 (.v 55)) (.letI (.cmp .neq (.v 57) (.v 58)) (.ite (.v 59) (.exit (.fail 180)) (.letI (.add (.v 55) (.c 1)) (.again [.v 60] [])))))))))) (.exit (.call 30 (Go.Sx.L2.tBy).rel [.c (-1)] [9] 2 1 (.letI (.cmp .eql (.v 57) (.c 0)) (.ite (.v 59) (.call 30 (Go.Sx.L2.tBy).rel [.c (8)] [9] 2 1 (.letI (.cmp .eql (.v 60) (.c 0)) (.need .neq (.v 62) (.c 0) (.done [] [])))) (.fail 180)))))))))))))))))))))))))))))))))))))))))))))))))))))))))))))))))))))))
theorem TableBy_n_tree : (lawSpec 5 [.nil]).exe Tryz.prog (withS (L2.cfg2 Tryz.prog) [L2.put_ 52, L2.put_ 77, L2.tNew, L2.tInsert, L2.tRemove, L2.tProtect, L2.tAt, L2.tWords, L2.tBy]) [{ f := 5, reg := 7, ints := [(6, 0, 8)], lists := [(4, [], some (-9223372036854775808, 9223372036854775807))], cvecs := [(5, [], 0, none), (5, [], 1, none), (5, [], 2, none), (5, [], 3, none), (5, [], 4, none), (5, [], 5, none), (5, [], 6, none), (5, [], 7, none)], cnils := [(5, [], 0, [.i .i64], 3), (5, [], 1, [.i .i64], 3), (5, [], 2, [.i .i64], 3), (5, [], 3, [.i .i64], 3), (5, [], 4, [.i .i64], 3), (5, [], 5, [.i .i64], 3), (5, [], 6, [.i .i64], 3), (5, [], 7, [.i .i64], 3)] }, { f := 5, reg := 20, ints := [(65, 0, 1000000)] }] 20 200 = TableBy_n_t := by kernel_rfl
theorem TableBy_n_vc (Q : List Int → List (List Int) → Prop) : TableBy_n_t.dn ⟨Q, []⟩ 0 [] 0 [] = ((Go.Sx.L2.yes L2.f_messuagelaw2_begun).rel.pre [] [] ∧
((Go.Sx.L2.yes L2.f_messuagelaw2_begun).rel.post [] [] [] [] → (Go.Sx.L2.tNew).rel.pre [] [] ∧
(∀ L0 : List Int, (Go.Sx.L2.tNew).rel.post [] [] [] [L0] → ∀ L1 : List Int, L1 = [] → ∀ L2 : List Int, L2 = [] → ∀ L3 : List Int, L3 = [] → ∀ L4 : List Int, L4 = [] → ∀ L5 : List Int, L5 = [] → ∀ L6 : List Int, L6 = [] → ∀ L7 : List Int, L7 = [] → ∀ L8 : List Int, L8 = [] → ∃ (I0 : List Int → List (List Int) → Prop) (μ0 : List Int → List (List Int) → Nat), I0 [(0 : Int), (0 : Int), (0 : Int), (0 : Int), (0 : Int), (0 : Int), (0 : Int), (0 : Int), (0 : Int), (0 : Int), (0 : Int), (0 : Int), (0 : Int), (0 : Int), (0 : Int), (0 : Int), (0 : Int)] [L0, L1, L2, L3, L4, L5, L6, L7, L8] ∧
(∀ v0 : Int, ∀ v1 : Int, ∀ v2 : Int, ∀ v3 : Int, ∀ v4 : Int, ∀ v5 : Int, ∀ v6 : Int, ∀ v7 : Int, ∀ v8 : Int, ∀ v9 : Int, ∀ v10 : Int, ∀ v11 : Int, ∀ v12 : Int, ∀ v13 : Int, ∀ v14 : Int, ∀ v15 : Int, ∀ v16 : Int, ∀ L9 : List Int, ∀ L10 : List Int, ∀ L11 : List Int, ∀ L12 : List Int, ∀ L13 : List Int, ∀ L14 : List Int, ∀ L15 : List Int, ∀ L16 : List Int, ∀ L17 : List Int, I0 [v0, v1, v2, v3, v4, v5, v6, v7, v8, v9, v10, v11, v12, v13, v14, v15, v16] [L9, L10, L11, L12, L13, L14, L15, L16, L17] →
 (Go.Sx.L2.tBy).rel.pre [(0 : Int)] [L9] ∧
(∀ v17 : Int, ∀ v18 : Int, ∀ L18 : List Int, (Go.Sx.L2.tBy).rel.post [(0 : Int)] [L9] [v17, v18] [L18] → ((v1 ≠ v17) → False) ∧
((v1 = v17) → ∃ (I1 : List Int → List (List Int) → Prop) (μ1 : List Int → List (List Int) → Nat), I1 [(0 : Int)] [] ∧
(∀ v20 : Int, I1 [v20] [] →
 ((v20 < v17) → (v20 < v17) ∧ (v20 < v17) ∧ ∀ v22 : Int, v22 = (L18).getD (v20).toNat 0 → (v20 < v1) ∧ (v20 < v1) ∧ ∀ v23 : Int, v23 = (L10).getD (v20).toNat 0 → ((v22 ≠ v23) → False) ∧
((v22 = v23) → ∀ v25 : Int, v25 = v20 + (1 : Int) → (I1 [v25] [] ∧ μ1 [v25] [] < μ1 [v20] []))) ∧
((v17 ≤ v20) → (Go.Sx.L2.tBy).rel.pre [(1 : Int)] [L9] ∧
(∀ v22 : Int, ∀ v23 : Int, ∀ L19 : List Int, (Go.Sx.L2.tBy).rel.post [(1 : Int)] [L9] [v22, v23] [L19] → ((v3 ≠ v22) → False) ∧
((v3 = v22) → ∃ (I2 : List Int → List (List Int) → Prop) (μ2 : List Int → List (List Int) → Nat), I2 [(0 : Int)] [] ∧
(∀ v25 : Int, I2 [v25] [] →
 ((v25 < v22) → (v25 < v22) ∧ (v25 < v22) ∧ ∀ v27 : Int, v27 = (L19).getD (v25).toNat 0 → (v25 < v3) ∧ (v25 < v3) ∧ ∀ v28 : Int, v28 = (L11).getD (v25).toNat 0 → ((v27 ≠ v28) → False) ∧
((v27 = v28) → ∀ v30 : Int, v30 = v25 + (1 : Int) → (I2 [v30] [] ∧ μ2 [v30] [] < μ2 [v25] []))) ∧
((v22 ≤ v25) → (Go.Sx.L2.tBy).rel.pre [(2 : Int)] [L9] ∧
(∀ v27 : Int, ∀ v28 : Int, ∀ L20 : List Int, (Go.Sx.L2.tBy).rel.post [(2 : Int)] [L9] [v27, v28] [L20] → ((v5 ≠ v27) → False) ∧
((v5 = v27) → ∃ (I3 : List Int → List (List Int) → Prop) (μ3 : List Int → List (List Int) → Nat), I3 [(0 : Int)] [] ∧
(∀ v30 : Int, I3 [v30] [] →
 ((v30 < v27) → (v30 < v27) ∧ (v30 < v27) ∧ ∀ v32 : Int, v32 = (L20).getD (v30).toNat 0 → (v30 < v5) ∧ (v30 < v5) ∧ ∀ v33 : Int, v33 = (L12).getD (v30).toNat 0 → ((v32 ≠ v33) → False) ∧
((v32 = v33) → ∀ v35 : Int, v35 = v30 + (1 : Int) → (I3 [v35] [] ∧ μ3 [v35] [] < μ3 [v30] []))) ∧
((v27 ≤ v30) → (Go.Sx.L2.tBy).rel.pre [(3 : Int)] [L9] ∧
(∀ v32 : Int, ∀ v33 : Int, ∀ L21 : List Int, (Go.Sx.L2.tBy).rel.post [(3 : Int)] [L9] [v32, v33] [L21] → ((v7 ≠ v32) → False) ∧
((v7 = v32) → ∃ (I4 : List Int → List (List Int) → Prop) (μ4 : List Int → List (List Int) → Nat), I4 [(0 : Int)] [] ∧
(∀ v35 : Int, I4 [v35] [] →
 ((v35 < v32) → (v35 < v32) ∧ (v35 < v32) ∧ ∀ v37 : Int, v37 = (L21).getD (v35).toNat 0 → (v35 < v7) ∧ (v35 < v7) ∧ ∀ v38 : Int, v38 = (L13).getD (v35).toNat 0 → ((v37 ≠ v38) → False) ∧
((v37 = v38) → ∀ v40 : Int, v40 = v35 + (1 : Int) → (I4 [v40] [] ∧ μ4 [v40] [] < μ4 [v35] []))) ∧
((v32 ≤ v35) → (Go.Sx.L2.tBy).rel.pre [(4 : Int)] [L9] ∧
(∀ v37 : Int, ∀ v38 : Int, ∀ L22 : List Int, (Go.Sx.L2.tBy).rel.post [(4 : Int)] [L9] [v37, v38] [L22] → ((v9 ≠ v37) → False) ∧
((v9 = v37) → ∃ (I5 : List Int → List (List Int) → Prop) (μ5 : List Int → List (List Int) → Nat), I5 [(0 : Int)] [] ∧
(∀ v40 : Int, I5 [v40] [] →
 ((v40 < v37) → (v40 < v37) ∧ (v40 < v37) ∧ ∀ v42 : Int, v42 = (L22).getD (v40).toNat 0 → (v40 < v9) ∧ (v40 < v9) ∧ ∀ v43 : Int, v43 = (L14).getD (v40).toNat 0 → ((v42 ≠ v43) → False) ∧
((v42 = v43) → ∀ v45 : Int, v45 = v40 + (1 : Int) → (I5 [v45] [] ∧ μ5 [v45] [] < μ5 [v40] []))) ∧
((v37 ≤ v40) → (Go.Sx.L2.tBy).rel.pre [(5 : Int)] [L9] ∧
(∀ v42 : Int, ∀ v43 : Int, ∀ L23 : List Int, (Go.Sx.L2.tBy).rel.post [(5 : Int)] [L9] [v42, v43] [L23] → ((v11 ≠ v42) → False) ∧
((v11 = v42) → ∃ (I6 : List Int → List (List Int) → Prop) (μ6 : List Int → List (List Int) → Nat), I6 [(0 : Int)] [] ∧
(∀ v45 : Int, I6 [v45] [] →
 ((v45 < v42) → (v45 < v42) ∧ (v45 < v42) ∧ ∀ v47 : Int, v47 = (L23).getD (v45).toNat 0 → (v45 < v11) ∧ (v45 < v11) ∧ ∀ v48 : Int, v48 = (L15).getD (v45).toNat 0 → ((v47 ≠ v48) → False) ∧
((v47 = v48) → ∀ v50 : Int, v50 = v45 + (1 : Int) → (I6 [v50] [] ∧ μ6 [v50] [] < μ6 [v45] []))) ∧
((v42 ≤ v45) → (Go.Sx.L2.tBy).rel.pre [(6 : Int)] [L9] ∧
(∀ v47 : Int, ∀ v48 : Int, ∀ L24 : List Int, (Go.Sx.L2.tBy).rel.post [(6 : Int)] [L9] [v47, v48] [L24] → ((v13 ≠ v47) → False) ∧
((v13 = v47) → ∃ (I7 : List Int → List (List Int) → Prop) (μ7 : List Int → List (List Int) → Nat), I7 [(0 : Int)] [] ∧
(∀ v50 : Int, I7 [v50] [] →
 ((v50 < v47) → (v50 < v47) ∧ (v50 < v47) ∧ ∀ v52 : Int, v52 = (L24).getD (v50).toNat 0 → (v50 < v13) ∧ (v50 < v13) ∧ ∀ v53 : Int, v53 = (L16).getD (v50).toNat 0 → ((v52 ≠ v53) → False) ∧
((v52 = v53) → ∀ v55 : Int, v55 = v50 + (1 : Int) → (I7 [v55] [] ∧ μ7 [v55] [] < μ7 [v50] []))) ∧
((v47 ≤ v50) → (Go.Sx.L2.tBy).rel.pre [(7 : Int)] [L9] ∧
(∀ v52 : Int, ∀ v53 : Int, ∀ L25 : List Int, (Go.Sx.L2.tBy).rel.post [(7 : Int)] [L9] [v52, v53] [L25] → ((v15 ≠ v52) → False) ∧
((v15 = v52) → ∃ (I8 : List Int → List (List Int) → Prop) (μ8 : List Int → List (List Int) → Nat), I8 [(0 : Int)] [] ∧
(∀ v55 : Int, I8 [v55] [] →
 ((v55 < v52) → (v55 < v52) ∧ (v55 < v52) ∧ ∀ v57 : Int, v57 = (L25).getD (v55).toNat 0 → (v55 < v15) ∧ (v55 < v15) ∧ ∀ v58 : Int, v58 = (L17).getD (v55).toNat 0 → ((v57 ≠ v58) → False) ∧
((v57 = v58) → ∀ v60 : Int, v60 = v55 + (1 : Int) → (I8 [v60] [] ∧ μ8 [v60] [] < μ8 [v55] []))) ∧
((v52 ≤ v55) → (Go.Sx.L2.tBy).rel.pre [((-1) : Int)] [L9] ∧
(∀ v57 : Int, ∀ v58 : Int, ∀ L26 : List Int, (Go.Sx.L2.tBy).rel.post [((-1) : Int)] [L9] [v57, v58] [L26] → ((v57 = (0 : Int)) → (Go.Sx.L2.tBy).rel.pre [(8 : Int)] [L9] ∧
(∀ v60 : Int, ∀ v61 : Int, ∀ L27 : List Int, (Go.Sx.L2.tBy).rel.post [(8 : Int)] [L9] [v60, v61] [L27] → ∀ v62 : Int, v62 = b2i (v60 == (0 : Int)) → (v62 ≠ (0 : Int)) ∧ Q [] [])) ∧
((v57 ≠ (0 : Int)) → False)))))))))))))))))))))))))))))))))))))) := by kernel_rfl
set_option maxHeartbeats 4000000 in
theorem tableBy_holds_n0 : (lawSpec 5 [.nil]).Holds Tryz.prog L2.ro := FSpec.holdsV (cfg := withS (L2.cfg2 Tryz.prog) [L2.put_ 52, L2.put_ 77, L2.tNew, L2.tInsert, L2.tRemove, L2.tProtect, L2.tAt, L2.tWords, L2.tBy]) [{ f := 5, reg := 7, ints := [(6, 0, 8)], lists := [(4, [], some (-9223372036854775808, 9223372036854775807))], cvecs := [(5, [], 0, none), (5, [], 1, none), (5, [], 2, none), (5, [], 3, none), (5, [], 4, none), (5, [], 5, none), (5, [], 6, none), (5, [], 7, none)], cnils := [(5, [], 0, [.i .i64], 3), (5, [], 1, [.i .i64], 3), (5, [], 2, [.i .i64], 3), (5, [], 3, [.i .i64], 3), (5, [], 4, [.i .i64], 3), (5, [], 5, [.i .i64], 3), (5, [], 6, [.i .i64], 3), (5, [], 7, [.i .i64], 3)] }, { f := 5, reg := 20, ints := [(65, 0, 1000000)] }] 20 200 (withS_ok cfg2_ok ⟨pPut_holds, rPte_holds, tNew_holds, tInsert_holds, tRemove_holds, tProtect_holds, tAt_holds, tWords_holds, tBy_holds, trivial⟩) mixed (t := TableBy_n_t) TableBy_n_tree (by
  show _ → _
  intro   hp hr hl
  replace hr : True := hr
  replace hp : True := hp
  show TableBy_n_t.dn ⟨_, []⟩ 0 [] 0 []
  rw [TableBy_n_vc]
  show ((L2.yes L2.f_messuagelaw2_begun).rel.pre [] [] ∧ _)
  refine ⟨trivial, fun _ => ?_⟩
  refine ⟨trivial, fun T0 hT0 => ?_⟩
  have hT0 : T0 = List.replicate 24 0 := by
    have : [T0] = [List.replicate 24 (0 : Int)] := hT0.2
    simpa using this
  intro E0 eE0 E1 eE1 E2 eE2 E3 eE3 E4 eE4 E5 eE5 E6 eE6 E7 eE7
  refine ⟨fun xs ys => match xs, ys with | [i, n0, c0, n1, c1, n2, c2, n3, c3, n4, c4, n5, c5, n6, c6, n7, c7], [T, W0, W1, W2, W3, W4, W5, W6, W7] => TabSt T i ∧ BySt T i 0 n0 c0 W0 ∧ BySt T i 1 n1 c1 W1 ∧ BySt T i 2 n2 c2 W2 ∧ BySt T i 3 n3 c3 W3 ∧ BySt T i 4 n4 c4 W4 ∧ BySt T i 5 n5 c5 W5 ∧ BySt T i 6 n6 c6 W6 ∧ BySt T i 7 n7 c7 W7 | _, _ => False, fun xs _ => match xs with | i :: _ => (8 - i).toNat | _ => 0, ?_, ?_⟩ <;> dsimp only
  · subst hT0 eE0 eE1 eE2 eE3 eE4 eE5 eE6 eE7
    exact ⟨TabSt.start, ⟨rfl, rfl, by omega⟩, ⟨rfl, rfl, by omega⟩, ⟨rfl, rfl, by omega⟩, ⟨rfl, rfl, by omega⟩, ⟨rfl, rfl, by omega⟩, ⟨rfl, rfl, by omega⟩, ⟨rfl, rfl, by omega⟩, ⟨rfl, rfl, by omega⟩⟩
  · intro i n0 c0 n1 c1 n2 c2 n3 c3 n4 c4 n5 c5 n6 c6 n7 c7 T W0 W1 W2 W3 W4 W5 W6 W7 hI
    obtain ⟨hT, b0, b1, b2, b3, b4, b5, b6, b7⟩ := hI
    refine ⟨trivial, fun a b Lb hpost => ?_⟩
    have hpost : a = ((byUp T 0 8).length : Int) ∧ a ≤ b ∧ [Lb] = [byUp T 0 8] := hpost
    obtain ⟨pa, pb, pl⟩ := hpost
    have pl : Lb = byUp T 0 8 := by simpa using pl
    have hw := b0.fin hT
    have hn := b0.cnt
    rw [hw, ← pa] at hn
    refine ⟨fun c => absurd hn c, fun _ => ?_⟩
    refine ⟨fun xs _ => match xs with | [i] => 0 ≤ i | _ => False, fun xs _ => match xs with | i :: _ => (a - i).toNat | _ => 0, ?_, ?_⟩ <;> dsimp only
    · omega
    · intro k hk
      refine ⟨fun c3 => ⟨c3, c3, fun x ex => ⟨by omega, by omega, fun y ey => ⟨fun c4 => c4 (by rw [ex, ey, pl, hw]), fun _ z ez => ⟨by omega, by omega⟩⟩⟩⟩, fun c3 => ?_⟩
      clear pa pb pl hw hn hk
      refine ⟨trivial, fun a b Lb hpost => ?_⟩
      have hpost : a = ((byUp T 1 8).length : Int) ∧ a ≤ b ∧ [Lb] = [byUp T 1 8] := hpost
      obtain ⟨pa, pb, pl⟩ := hpost
      have pl : Lb = byUp T 1 8 := by simpa using pl
      have hw := b1.fin hT
      have hn := b1.cnt
      rw [hw, ← pa] at hn
      refine ⟨fun c => absurd hn c, fun _ => ?_⟩
      refine ⟨fun xs _ => match xs with | [i] => 0 ≤ i | _ => False, fun xs _ => match xs with | i :: _ => (a - i).toNat | _ => 0, ?_, ?_⟩ <;> dsimp only
      · omega
      · intro k hk
        refine ⟨fun c3 => ⟨c3, c3, fun x ex => ⟨by omega, by omega, fun y ey => ⟨fun c4 => c4 (by rw [ex, ey, pl, hw]), fun _ z ez => ⟨by omega, by omega⟩⟩⟩⟩, fun c3 => ?_⟩
        clear pa pb pl hw hn hk
        refine ⟨trivial, fun a b Lb hpost => ?_⟩
        have hpost : a = ((byUp T 2 8).length : Int) ∧ a ≤ b ∧ [Lb] = [byUp T 2 8] := hpost
        obtain ⟨pa, pb, pl⟩ := hpost
        have pl : Lb = byUp T 2 8 := by simpa using pl
        have hw := b2.fin hT
        have hn := b2.cnt
        rw [hw, ← pa] at hn
        refine ⟨fun c => absurd hn c, fun _ => ?_⟩
        refine ⟨fun xs _ => match xs with | [i] => 0 ≤ i | _ => False, fun xs _ => match xs with | i :: _ => (a - i).toNat | _ => 0, ?_, ?_⟩ <;> dsimp only
        · omega
        · intro k hk
          refine ⟨fun c3 => ⟨c3, c3, fun x ex => ⟨by omega, by omega, fun y ey => ⟨fun c4 => c4 (by rw [ex, ey, pl, hw]), fun _ z ez => ⟨by omega, by omega⟩⟩⟩⟩, fun c3 => ?_⟩
          clear pa pb pl hw hn hk
          refine ⟨trivial, fun a b Lb hpost => ?_⟩
          have hpost : a = ((byUp T 3 8).length : Int) ∧ a ≤ b ∧ [Lb] = [byUp T 3 8] := hpost
          obtain ⟨pa, pb, pl⟩ := hpost
          have pl : Lb = byUp T 3 8 := by simpa using pl
          have hw := b3.fin hT
          have hn := b3.cnt
          rw [hw, ← pa] at hn
          refine ⟨fun c => absurd hn c, fun _ => ?_⟩
          refine ⟨fun xs _ => match xs with | [i] => 0 ≤ i | _ => False, fun xs _ => match xs with | i :: _ => (a - i).toNat | _ => 0, ?_, ?_⟩ <;> dsimp only
          · omega
          · intro k hk
            refine ⟨fun c3 => ⟨c3, c3, fun x ex => ⟨by omega, by omega, fun y ey => ⟨fun c4 => c4 (by rw [ex, ey, pl, hw]), fun _ z ez => ⟨by omega, by omega⟩⟩⟩⟩, fun c3 => ?_⟩
            clear pa pb pl hw hn hk
            refine ⟨trivial, fun a b Lb hpost => ?_⟩
            have hpost : a = ((byUp T 4 8).length : Int) ∧ a ≤ b ∧ [Lb] = [byUp T 4 8] := hpost
            obtain ⟨pa, pb, pl⟩ := hpost
            have pl : Lb = byUp T 4 8 := by simpa using pl
            have hw := b4.fin hT
            have hn := b4.cnt
            rw [hw, ← pa] at hn
            refine ⟨fun c => absurd hn c, fun _ => ?_⟩
            refine ⟨fun xs _ => match xs with | [i] => 0 ≤ i | _ => False, fun xs _ => match xs with | i :: _ => (a - i).toNat | _ => 0, ?_, ?_⟩ <;> dsimp only
            · omega
            · intro k hk
              refine ⟨fun c3 => ⟨c3, c3, fun x ex => ⟨by omega, by omega, fun y ey => ⟨fun c4 => c4 (by rw [ex, ey, pl, hw]), fun _ z ez => ⟨by omega, by omega⟩⟩⟩⟩, fun c3 => ?_⟩
              clear pa pb pl hw hn hk
              refine ⟨trivial, fun a b Lb hpost => ?_⟩
              have hpost : a = ((byUp T 5 8).length : Int) ∧ a ≤ b ∧ [Lb] = [byUp T 5 8] := hpost
              obtain ⟨pa, pb, pl⟩ := hpost
              have pl : Lb = byUp T 5 8 := by simpa using pl
              have hw := b5.fin hT
              have hn := b5.cnt
              rw [hw, ← pa] at hn
              refine ⟨fun c => absurd hn c, fun _ => ?_⟩
              refine ⟨fun xs _ => match xs with | [i] => 0 ≤ i | _ => False, fun xs _ => match xs with | i :: _ => (a - i).toNat | _ => 0, ?_, ?_⟩ <;> dsimp only
              · omega
              · intro k hk
                refine ⟨fun c3 => ⟨c3, c3, fun x ex => ⟨by omega, by omega, fun y ey => ⟨fun c4 => c4 (by rw [ex, ey, pl, hw]), fun _ z ez => ⟨by omega, by omega⟩⟩⟩⟩, fun c3 => ?_⟩
                clear pa pb pl hw hn hk
                refine ⟨trivial, fun a b Lb hpost => ?_⟩
                have hpost : a = ((byUp T 6 8).length : Int) ∧ a ≤ b ∧ [Lb] = [byUp T 6 8] := hpost
                obtain ⟨pa, pb, pl⟩ := hpost
                have pl : Lb = byUp T 6 8 := by simpa using pl
                have hw := b6.fin hT
                have hn := b6.cnt
                rw [hw, ← pa] at hn
                refine ⟨fun c => absurd hn c, fun _ => ?_⟩
                refine ⟨fun xs _ => match xs with | [i] => 0 ≤ i | _ => False, fun xs _ => match xs with | i :: _ => (a - i).toNat | _ => 0, ?_, ?_⟩ <;> dsimp only
                · omega
                · intro k hk
                  refine ⟨fun c3 => ⟨c3, c3, fun x ex => ⟨by omega, by omega, fun y ey => ⟨fun c4 => c4 (by rw [ex, ey, pl, hw]), fun _ z ez => ⟨by omega, by omega⟩⟩⟩⟩, fun c3 => ?_⟩
                  clear pa pb pl hw hn hk
                  refine ⟨trivial, fun a b Lb hpost => ?_⟩
                  have hpost : a = ((byUp T 7 8).length : Int) ∧ a ≤ b ∧ [Lb] = [byUp T 7 8] := hpost
                  obtain ⟨pa, pb, pl⟩ := hpost
                  have pl : Lb = byUp T 7 8 := by simpa using pl
                  have hw := b7.fin hT
                  have hn := b7.cnt
                  rw [hw, ← pa] at hn
                  refine ⟨fun c => absurd hn c, fun _ => ?_⟩
                  refine ⟨fun xs _ => match xs with | [i] => 0 ≤ i | _ => False, fun xs _ => match xs with | i :: _ => (a - i).toNat | _ => 0, ?_, ?_⟩ <;> dsimp only
                  · omega
                  · intro k hk
                    refine ⟨fun c3 => ⟨c3, c3, fun x ex => ⟨by omega, by omega, fun y ey => ⟨fun c4 => c4 (by rw [ex, ey, pl, hw]), fun _ z ez => ⟨by omega, by omega⟩⟩⟩⟩, fun c3 => ?_⟩
                    clear pa pb pl hw hn hk
                    refine ⟨trivial, fun a b Lb hpost => ?_⟩
                    have pa : a = ((byUp T (-1) 8).length : Int) := hpost.1
                    rw [byUp_none hT (.inl (by omega))] at pa
                    refine ⟨fun _ => ⟨trivial, fun a' b' Lb' hpost' x ex => ?_⟩, fun c => absurd pa c⟩
                    have pa' : a' = ((byUp T 8 8).length : Int) := hpost'.1
                    rw [byUp_none hT (.inr (by omega))] at pa'
                    exact ⟨by rw [ex, pa']; decide, trivial⟩)
theorem tableBy_holds_n : ((lawSpec 5 [.nil]).withPre fun _ => True).Holds Tryz.prog L2.ro := holds_withPre _ tableBy_holds_n0

theorem tableBy_calls {H : Type} {enc : TypeId × Value → H} {W : World} {base : Nat} {args : Array Value} {ds : List (DataW H)} {p : List MemPlace} (hval : ∀ (j : Nat) t v, Tryz.f5.params[j]? = some t → args[j]? = some v → Value.okWide Tryz.prog W .any base t v)
    (hA : DataW.TrodAll enc Tryz.prog W 0 (fun _ => true) true Tryz.f5.params.toList args.toList ds p) (hL : laidMetH Tryz.prog laid1 W) : Calls Tryz.prog 5 args W fun e W' => e = .returned (.bool true) ∧ Go.Sx.Frame ⟨W, [], L2.ro⟩ W' := by
  rw [Tryz.params5] at hA hval
  obtain ⟨v0, d0, rfl, rfl, h0⟩ := trodAll_one hA
  rcases par_flats (base := 0) (f := 9) und23 flat3 cells3 (by decide) (hval 0 23 v0 rfl rfl) h0 with q0 | ⟨e0, q0⟩
  · exact law_calls (tableBy_holds_n) Tryz.func5 (show Tryz.f5.body = some _ from rfl) (by kernel_rfl) (.cons q0 .none) trivial (ro_of_laid hL)
  · exact law_calls (tableBy_holds) Tryz.func5 (show Tryz.f5.body = some _ from rfl) (by kernel_rfl) (.cons q0 .none) trivial (ro_of_laid hL)
set_option maxHeartbeats 1000000 in
theorem tableBy_lifted (os : Os) (started : os.Started) (H : Type) (enc : TypeId × Value → H) :
    ReturnsInHanded {} Tryz.checked os 5 .any (fun w args => (Rows.tableBySpec.pre enc Tryz.prog Tryz.f5 [] false w args ∧ laidMetH Tryz.prog laid1 w) ∧ sizedMet enc Tryz.prog Tryz.f5 (OpenSpec.ofChange Rows.tableBySpec) false w args)
      (Rows.tableBySpec.post enc Tryz.prog Tryz.f5 false true false false) := by
  refine returnsInHanded_of_change_and (C := Tryz.checked) (X := fun w _ => laidMetH Tryz.prog laid1 w) (fun _ _ _ hh h => h.of_heap hh) Tryz.own started (by kernel_rfl) Tryz.func5
    (ChangeSpec.witness_at (enc := enc) (C := Tryz.checked) (os := os) (X := fun w _ => laidMetH Tryz.prog laid1 w) false (laidWorld os) #[.slice none 0 0] 8 rfl (by kernel_rfl) (by kernel_rfl) (by kernel_rfl) (by kernel_rfl) (by kernel_rfl) (laidWorld_met os _)) ?_
  intro W base args ds gs before hval0 hW _ _ hL _
  have hval : ∀ (j : Nat) t v, Tryz.f5.params[j]? = some t → args[j]? = some v → Value.okWide Tryz.prog W .any base t v := hval0
  have hW' := hW
  obtain ⟨p, q, hA0, hV0, rfl, hfz, hnd⟩ := hW
  have hcall := tableBy_calls (enc := enc) hval hA0 hL
  refine Calls.mono hcall ?_
  rintro e W' ⟨rfl, hfr⟩
  exact ⟨_, rfl, post_kept Tryz.laidOut (by kernel_rfl) rfl rfl und4 hW' hfr (by
    have hg : gs = [] := by cases gs with | nil => rfl | cons g r => exact absurd hV0 (by intro h; cases h)
    subst hg
    have hA1 : DataW.TrodAll enc Tryz.prog W 0 (fun _ => true) true Tryz.f5.params.toList args.toList ds p := hA0
    rw [Tryz.params5] at hA1
    obtain ⟨v0, d0, ea, rfl, h0⟩ := trodAll_one hA1
    rfl)⟩

theorem tableBy_row : Rows.TableBySaid :=
  OpenClaim.holds_of_wide 5 Tryz.f5 rfl rfl rfl rfl rfl rfl rfl ⟨rfl, rfl, rfl, rfl, rfl⟩ rfl rfl rfl rfl rfl (by kernel_rfl) Tryz.func5 (restFacts.2 _ _ _ _ _ Tryz.mayEnter Tryz.liftsFinal Tryz.make (by kernel_rfl))
    (of_decide_eq_true (by kernel_rfl)) (by unfold Func.isWrapper; rw [if_neg (of_decide_eq_false (by kernel_rfl))]; exact ⟨rfl, rfl⟩)
    (fun os started H enc _ => tableBy_lifted os started H enc)
theorem tableBy_card : Rows.TableByCardSaid :=
  Claim7.holds_tied_plain_at .later [] [.handle] true (true, "8c0441bbc8609432f713c1c89f5af20e6af72254f1482b9eed96a33066278ab6") true
    tableBy_row (fun _ h => by cases h) (by kernel_rfl) (fun _ h => by cases h) tableBy_row_tie rfl ⟨rfl, rfl⟩ Tryz.mainIs rfl
    (fun f fn hf hfn => by
      obtain rfl : f = 5 := Option.some.inj ((show Tryz.prog.funcNamed "messuage/messuagelaw2.TableBy" = some 5 by kernel_rfl).symm.trans hf) |>.symm
      obtain rfl : fn = Tryz.f5 := (Option.some.inj (Tryz.func5.symm.trans hfn)).symm
      exact ⟨by kernel_rfl, fun j t ht => by
        rw [Tryz.params5] at ht
        rcases j with _ | j
        · obtain rfl : 23 = t := by simpa using ht
          exact (show Tryz.prog.wantsStandIn 23 = false by kernel_rfl)
        · simp at ht⟩)
    (by kernel_rfl)
#print axioms tableBy_card
end Go.Proofs.YthjfkblnbecjgaaGreatDoor
