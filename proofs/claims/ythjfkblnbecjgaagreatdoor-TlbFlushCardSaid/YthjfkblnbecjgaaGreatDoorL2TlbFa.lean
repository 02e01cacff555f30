/- TlbFlush: the law at a slice of numbers: tree, meaning, contract. -/
import Derived.Test.YthjfkblnbecjgaaGreatDoorL2Bx
import Derived.Test.YthjfkblnbecjgaaGreatDoorL2Rb
import Derived.Test.YthjfkblnbecjgaaGreatDoorPuW
set_option linter.unusedVariables false
set_option linter.unusedSimpArgs false
open Go Go.Sx
namespace Go.Proofs.YthjfkblnbecjgaaGreatDoor
open Go.ChangeShapes Go.WideShapes Go.RowKit
set_option maxRecDepth 100000


noncomputable def TlbFlush_t : Tree := .call 25 (Go.Sx.L2.yes Go.Sx.L2.f_messuagelaw2_begun).rel [] [] 0 0 (.call 60 (Go.Sx.L2.bNew).rel [] [] 0 1 (.loop [.c (0)] [1] (.letI (.cmp .lss (.v 6) (.v 0)) (.ite (.v 7) (.letI (.cmp .lss (.v 6) (.c 12)) (.ite (.v 8) (.need .lss (.v 6) (.v 0) (.letI (.mul (.v 6) (.c 4)) (.need .lss (.v 9) (.v 2) (.letI (.get 0 (.v 9)) (.letI (.add (.v 9) (.c 1)) (.need .lss (.v 11) (.v 2) (.letI (.get 0 (.v 11)) (.letI (.add (.v 9) (.c 2)) (.need .lss (.v 13) (.v 2) (.letI (.get 0 (.v 13)) (.letI (.add (.v 9) (.c 3)) (.need .lss (.v 15) (.v 2) (.letI (.get 0 (.v 15)) (.call 61 (Go.Sx.L2.bFill).rel [.v 10, .v 12, .v 14, .v 16] [2] 1 1 (.letI (.add (.v 6) (.c 1)) (.again [.v 18] [3])))))))))))))))) (.exit (.call 62 (Go.Sx.L2.bLines).rel [] [2] 2 1 (.call 83 (Go.Sx.L2.bFlush).rel [.v 3, .v 4] [2] 1 1 (.call 84 (Go.Sx.L2.bFlushFrame).rel [.v 5] [4] 1 1 (.loop [.c (0), .c (0), .c (0)] [] (.letI (.cmp .lss (.v 13) (.c 8)) (.ite (.v 16) (.letI (.mul (.v 13) (.c 4)) (.letI (.get 3 (.v 17)) (.letI (.add (.v 17) (.c 1)) (.letI (.get 3 (.v 19)) (.letI (.add (.v 17) (.c 2)) (.letI (.get 3 (.v 21)) (.letI (.add (.v 17) (.c 3)) (.letI (.get 3 (.v 23)) (.call 85 (Go.Sx.L2.bFind).rel [.v 18, .v 20] [5] 5 0 (.letI (.cmp .eql (.v 3) (.v 18)) (.ite (.v 30) (.letI (.cmp .eql (.v 4) (.v 20)) (.ite (.v 15) (.letI (.cmp .leq (.c 0) (.v 18)) (.ite (.v 32) (.letI (.not (.v 31)) (.ite (.v 33) (.letI (.cmp .eql (.v 5) (.v 22)) (.ite (.v 34) (.letI (.add (.v 14) (.c 1)) (.letI (.not (.v 29)) (.letI (.cmp .neq (.v 36) (.c 1)) (.ite (.v 37) (.exit (.fail 180)) (.ite (.v 29) (.letI (.cmp .eql (.v 18) (.v 25)) (.letI (.cmp .eql (.v 20) (.v 26)) (.letI (.cmp .eql (.v 22) (.v 27)) (.letI (.cmp .eql (.v 24) (.v 28)) (.letI (.pick (.v 41) (.c 1) (.c 0)) (.letI (.pick (.v 40) (.v 42) (.c 0)) (.letI (.pick (.v 39) (.v 43) (.c 0)) (.letI (.pick (.v 38) (.v 44) (.c 0)) (.letI (.not (.v 45)) (.ite (.v 46) (.exit (.fail 180)) (.letI (.add (.v 13) (.c 1)) (.need .leq (.v 35) (.c 8) (.again [.v 47, .v 35, .c (1)] []))))))))))))) (.letI (.add (.v 13) (.c 1)) (.need .leq (.v 35) (.c 8) (.again [.v 38, .v 35, .c (1)] [])))))))) (.letI (.not (.v 29)) (.letI (.cmp .neq (.v 35) (.c 0)) (.ite (.v 36) (.exit (.fail 180)) (.ite (.v 29) (.letI (.cmp .eql (.v 18) (.v 25)) (.letI (.cmp .eql (.v 20) (.v 26)) (.letI (.cmp .eql (.v 22) (.v 27)) (.letI (.cmp .eql (.v 24) (.v 28)) (.letI (.pick (.v 40) (.c 1) (.c 0)) (.letI (.pick (.v 39) (.v 41) (.c 0)) (.letI (.pick (.v 38) (.v 42) (.c 0)) (.letI (.pick (.v 37) (.v 43) (.c 0)) (.letI (.not (.v 44)) (.ite (.v 45) (.exit (.fail 180)) (.letI (.add (.v 13) (.c 1)) (.again [.v 46, .v 14, .c (1)] [])))))))))))) (.letI (.add (.v 13) (.c 1)) (.again [.v 37, .v 14, .c (1)] [])))))))) (.letI (.not (.v 29)) (.letI (.cmp .neq (.v 34) (.c 1)) (.ite (.v 35) (.exit (.fail 180)) (.ite (.v 29) (.letI (.cmp .eql (.v 18) (.v 25)) (.letI (.cmp .eql (.v 20) (.v 26)) (.letI (.cmp .eql (.v 22) (.v 27)) (.letI (.cmp .eql (.v 24) (.v 28)) (.letI (.pick (.v 39) (.c 1) (.c 0)) (.letI (.pick (.v 38) (.v 40) (.c 0)) (.letI (.pick (.v 37) (.v 41) (.c 0)) (.letI (.pick (.v 36) (.v 42) (.c 0)) (.letI (.not (.v 43)) (.ite (.v 44) (.exit (.fail 180)) (.letI (.add (.v 13) (.c 1)) (.again [.v 45, .v 14, .c (1)] [])))))))))))) (.letI (.add (.v 13) (.c 1)) (.again [.v 36, .v 14, .c (1)] [])))))))) (.ite (.v 29) (.letI (.add (.v 13) (.c 1)) (.again [.v 33, .v 14, .c (1)] [])) (.letI (.add (.v 13) (.c 1)) (.again [.v 33, .v 14, .c (1)] []))))) (.letI (.cmp .leq (.c 0) (.v 18)) (.ite (.v 32) (.letI (.not (.v 31)) (.ite (.v 33) (.letI (.cmp .eql (.v 5) (.v 22)) (.ite (.v 34) (.letI (.add (.v 14) (.c 1)) (.letI (.not (.v 29)) (.letI (.cmp .neq (.v 36) (.c 1)) (.ite (.v 37) (.exit (.fail 180)) (.ite (.v 29) (.letI (.cmp .eql (.v 18) (.v 25)) (.letI (.cmp .eql (.v 20) (.v 26)) (.letI (.cmp .eql (.v 22) (.v 27)) (.letI (.cmp .eql (.v 24) (.v 28)) (.letI (.pick (.v 41) (.c 1) (.c 0)) (.letI (.pick (.v 40) (.v 42) (.c 0)) (.letI (.pick (.v 39) (.v 43) (.c 0)) (.letI (.pick (.v 38) (.v 44) (.c 0)) (.letI (.not (.v 45)) (.ite (.v 46) (.exit (.fail 180)) (.letI (.add (.v 13) (.c 1)) (.need .leq (.v 35) (.c 8) (.again [.v 47, .v 35, .v 31] []))))))))))))) (.letI (.add (.v 13) (.c 1)) (.need .leq (.v 35) (.c 8) (.again [.v 38, .v 35, .v 31] [])))))))) (.letI (.not (.v 29)) (.letI (.cmp .neq (.v 35) (.c 0)) (.ite (.v 36) (.exit (.fail 180)) (.ite (.v 29) (.letI (.cmp .eql (.v 18) (.v 25)) (.letI (.cmp .eql (.v 20) (.v 26)) (.letI (.cmp .eql (.v 22) (.v 27)) (.letI (.cmp .eql (.v 24) (.v 28)) (.letI (.pick (.v 40) (.c 1) (.c 0)) (.letI (.pick (.v 39) (.v 41) (.c 0)) (.letI (.pick (.v 38) (.v 42) (.c 0)) (.letI (.pick (.v 37) (.v 43) (.c 0)) (.letI (.not (.v 44)) (.ite (.v 45) (.exit (.fail 180)) (.letI (.add (.v 13) (.c 1)) (.again [.v 46, .v 14, .v 31] [])))))))))))) (.letI (.add (.v 13) (.c 1)) (.again [.v 37, .v 14, .v 31] [])))))))) (.letI (.not (.v 29)) (.letI (.cmp .neq (.v 34) (.c 1)) (.ite (.v 35) (.exit (.fail 180)) (.ite (.v 29) (.letI (.cmp .eql (.v 18) (.v 25)) (.letI (.cmp .eql (.v 20) (.v 26)) (.letI (.cmp .eql (.v 22) (.v 27)) (.letI (.cmp .eql (.v 24) (.v 28)) (.letI (.pick (.v 39) (.c 1) (.c 0)) (.letI (.pick (.v 38) (.v 40) (.c 0)) (.letI (.pick (.v 37) (.v 41) (.c 0)) (.letI (.pick (.v 36) (.v 42) (.c 0)) (.letI (.not (.v 43)) (.ite (.v 44) (.exit (.fail 180)) (.letI (.add (.v 13) (.c 1)) (.again [.v 45, .v 14, .v 31] [])))))))))))) (.letI (.add (.v 13) (.c 1)) (.again [.v 36, .v 14, .v 31] [])))))))) (.ite (.v 29) (.letI (.add (.v 13) (.c 1)) (.again [.v 33, .v 14, .c (0)] [])) (.letI (.add (.v 13) (.c 1)) (.again [.v 33, .v 14, .c (0)] []))))))) (.ite (.v 15) (.letI (.cmp .leq (.c 0) (.v 18)) (.ite (.v 31) (.letI (.cmp .eql (.v 5) (.v 22)) (.ite (.v 32) (.letI (.add (.v 14) (.c 1)) (.letI (.not (.v 29)) (.letI (.cmp .neq (.v 34) (.c 1)) (.ite (.v 35) (.exit (.fail 180)) (.ite (.v 29) (.letI (.cmp .eql (.v 18) (.v 25)) (.letI (.cmp .eql (.v 20) (.v 26)) (.letI (.cmp .eql (.v 22) (.v 27)) (.letI (.cmp .eql (.v 24) (.v 28)) (.letI (.pick (.v 39) (.c 1) (.c 0)) (.letI (.pick (.v 38) (.v 40) (.c 0)) (.letI (.pick (.v 37) (.v 41) (.c 0)) (.letI (.pick (.v 36) (.v 42) (.c 0)) (.letI (.not (.v 43)) (.ite (.v 44) (.exit (.fail 180)) (.letI (.add (.v 13) (.c 1)) (.need .leq (.v 33) (.c 8) (.again [.v 45, .v 33, .c (1)] []))))))))))))) (.letI (.add (.v 13) (.c 1)) (.need .leq (.v 33) (.c 8) (.again [.v 36, .v 33, .c (1)] [])))))))) (.letI (.not (.v 29)) (.letI (.cmp .neq (.v 33) (.c 0)) (.ite (.v 34) (.exit (.fail 180)) (.ite (.v 29) (.letI (.cmp .eql (.v 18) (.v 25)) (.letI (.cmp .eql (.v 20) (.v 26)) (.letI (.cmp .eql (.v 22) (.v 27)) (.letI (.cmp .eql (.v 24) (.v 28)) (.letI (.pick (.v 38) (.c 1) (.c 0)) (.letI (.pick (.v 37) (.v 39) (.c 0)) (.letI (.pick (.v 36) (.v 40) (.c 0)) (.letI (.pick (.v 35) (.v 41) (.c 0)) (.letI (.not (.v 42)) (.ite (.v 43) (.exit (.fail 180)) (.letI (.add (.v 13) (.c 1)) (.again [.v 44, .v 14, .c (1)] [])))))))))))) (.letI (.add (.v 13) (.c 1)) (.again [.v 35, .v 14, .c (1)] [])))))))) (.ite (.v 29) (.letI (.add (.v 13) (.c 1)) (.again [.v 32, .v 14, .c (1)] [])) (.letI (.add (.v 13) (.c 1)) (.again [.v 32, .v 14, .c (1)] []))))) (.letI (.cmp .leq (.c 0) (.v 18)) (.ite (.v 31) (.letI (.cmp .eql (.v 5) (.v 22)) (.ite (.v 32) (.letI (.add (.v 14) (.c 1)) (.letI (.not (.v 29)) (.letI (.cmp .neq (.v 34) (.c 1)) (.ite (.v 35) (.exit (.fail 180)) (.ite (.v 29) (.letI (.cmp .eql (.v 18) (.v 25)) (.letI (.cmp .eql (.v 20) (.v 26)) (.letI (.cmp .eql (.v 22) (.v 27)) (.letI (.cmp .eql (.v 24) (.v 28)) (.letI (.pick (.v 39) (.c 1) (.c 0)) (.letI (.pick (.v 38) (.v 40) (.c 0)) (.letI (.pick (.v 37) (.v 41) (.c 0)) (.letI (.pick (.v 36) (.v 42) (.c 0)) (.letI (.not (.v 43)) (.ite (.v 44) (.exit (.fail 180)) (.letI (.add (.v 13) (.c 1)) (.need .leq (.v 33) (.c 8) (.again [.v 45, .v 33, .c (0)] []))))))))))))) (.letI (.add (.v 13) (.c 1)) (.need .leq (.v 33) (.c 8) (.again [.v 36, .v 33, .c (0)] [])))))))) (.letI (.not (.v 29)) (.letI (.cmp .neq (.v 33) (.c 0)) (.ite (.v 34) (.exit (.fail 180)) (.ite (.v 29) (.letI (.cmp .eql (.v 18) (.v 25)) (.letI (.cmp .eql (.v 20) (.v 26)) (.letI (.cmp .eql (.v 22) (.v 27)) (.letI (.cmp .eql (.v 24) (.v 28)) (.letI (.pick (.v 38) (.c 1) (.c 0)) (.letI (.pick (.v 37) (.v 39) (.c 0)) (.letI (.pick (.v 36) (.v 40) (.c 0)) (.letI (.pick (.v 35) (.v 41) (.c 0)) (.letI (.not (.v 42)) (.ite (.v 43) (.exit (.fail 180)) (.letI (.add (.v 13) (.c 1)) (.again [.v 44, .v 14, .c (0)] [])))))))))))) (.letI (.add (.v 13) (.c 1)) (.again [.v 35, .v 14, .c (0)] [])))))))) (.ite (.v 29) (.letI (.add (.v 13) (.c 1)) (.again [.v 32, .v 14, .c (0)] [])) (.letI (.add (.v 13) (.c 1)) (.again [.v 32, .v 14, .c (0)] []))))))))))))))))) (.exit (.letI (.not (.v 11)) (.letI (.not (.v 15)) (.letI (.cmp .eql (.v 17) (.v 18)) (.ite (.v 19) (.letI (.cmp .eql (.v 12) (.v 14)) (.need .neq (.v 20) (.c 0) (.done [] []))) (.fail 180))))))))))))))) (.exit (.call 62 (Go.Sx.L2.bLines).rel [] [2] 2 1 (.call 83 (Go.Sx.L2.bFlush).rel [.v 3, .v 4] [2] 1 1 (.call 84 (Go.Sx.L2.bFlushFrame).rel [.v 5] [4] 1 1 (.loop [.c (0), .c (0), .c (0)] [] (.letI (.cmp .lss (.v 12) (.c 8)) (.ite (.v 15) (.letI (.mul (.v 12) (.c 4)) (.letI (.get 3 (.v 16)) (.letI (.add (.v 16) (.c 1)) (.letI (.get 3 (.v 18)) (.letI (.add (.v 16) (.c 2)) (.letI (.get 3 (.v 20)) (.letI (.add (.v 16) (.c 3)) (.letI (.get 3 (.v 22)) (.call 85 (Go.Sx.L2.bFind).rel [.v 17, .v 19] [5] 5 0 (.letI (.cmp .eql (.v 3) (.v 17)) (.ite (.v 29) (.letI (.cmp .eql (.v 4) (.v 19)) (.ite (.v 14) (.letI (.cmp .leq (.c 0) (.v 17)) (.ite (.v 31) (.letI (.not (.v 30)) (.ite (.v 32) (.letI (.cmp .eql (.v 5) (.v 21)) (.ite (.v 33) (.letI (.add (.v 13) (.c 1)) (.letI (.not (.v 28)) (.letI (.cmp .neq (.v 35) (.c 1)) (.ite (.v 36) (.exit (.fail 180)) (.ite (.v 28) (.letI (.cmp .eql (.v 17) (.v 24)) (.letI (.cmp .eql (.v 19) (.v 25)) (.letI (.cmp .eql (.v 21) (.v 26)) (.letI (.cmp .eql (.v 23) (.v 27)) (.letI (.pick (.v 40) (.c 1) (.c 0)) (.letI (.pick (.v 39) (.v 41) (.c 0)) (.letI (.pick (.v 38) (.v 42) (.c 0)) (.letI (.pick (.v 37) (.v 43) (.c 0)) (.letI (.not (.v 44)) (.ite (.v 45) (.exit (.fail 180)) (.letI (.add (.v 12) (.c 1)) (.need .leq (.v 34) (.c 8) (.again [.v 46, .v 34, .c (1)] []))))))))))))) (.letI (.add (.v 12) (.c 1)) (.need .leq (.v 34) (.c 8) (.again [.v 37, .v 34, .c (1)] [])))))))) (.letI (.not (.v 28)) (.letI (.cmp .neq (.v 34) (.c 0)) (.ite (.v 35) (.exit (.fail 180)) (.ite (.v 28) (.letI (.cmp .eql (.v 17) (.v 24)) (.letI (.cmp .eql (.v 19) (.v 25)) (.letI (.cmp .eql (.v 21) (.v 26)) (.letI (.cmp .eql (.v 23) (.v 27)) (.letI (.pick (.v 39) (.c 1) (.c 0)) (.letI (.pick (.v 38) (.v 40) (.c 0)) (.letI (.pick (.v 37) (.v 41) (.c 0)) (.letI (.pick (.v 36) (.v 42) (.c 0)) (.letI (.not (.v 43)) (.ite (.v 44) (.exit (.fail 180)) (.letI (.add (.v 12) (.c 1)) (.again [.v 45, .v 13, .c (1)] [])))))))))))) (.letI (.add (.v 12) (.c 1)) (.again [.v 36, .v 13, .c (1)] [])))))))) (.letI (.not (.v 28)) (.letI (.cmp .neq (.v 33) (.c 1)) (.ite (.v 34) (.exit (.fail 180)) (.ite (.v 28) (.letI (.cmp .eql (.v 17) (.v 24)) (.letI (.cmp .eql (.v 19) (.v 25)) (.letI (.cmp .eql (.v 21) (.v 26)) (.letI (.cmp .eql (.v 23) (.v 27)) (.letI (.pick (.v 38) (.c 1) (.c 0)) (.letI (.pick (.v 37) (.v 39) (.c 0)) (.letI (.pick (.v 36) (.v 40) (.c 0)) (.letI (.pick (.v 35) (.v 41) (.c 0)) (.letI (.not (.v 42)) (.ite (.v 43) (.exit (.fail 180)) (.letI (.add (.v 12) (.c 1)) (.again [.v 44, .v 13, .c (1)] [])))))))))))) (.letI (.add (.v 12) (.c 1)) (.again [.v 35, .v 13, .c (1)] [])))))))) (.ite (.v 28) (.letI (.add (.v 12) (.c 1)) (.again [.v 32, .v 13, .c (1)] [])) (.letI (.add (.v 12) (.c 1)) (.again [.v 32, .v 13, .c (1)] []))))) (.letI (.cmp .leq (.c 0) (.v 17)) (.ite (.v 31) (.letI (.not (.v 30)) (.ite (.v 32) (.letI (.cmp .eql (.v 5) (.v 21)) (.ite (.v 33) (.letI (.add (.v 13) (.c 1)) (.letI (.not (.v 28)) (.letI (.cmp .neq (.v 35) (.c 1)) (.ite (.v 36) (.exit (.fail 180)) (.ite (.v 28) (.letI (.cmp .eql (.v 17) (.v 24)) (.letI (.cmp .eql (.v 19) (.v 25)) (.letI (.cmp .eql (.v 21) (.v 26)) (.letI (.cmp .eql (.v 23) (.v 27)) (.letI (.pick (.v 40) (.c 1) (.c 0)) (.letI (.pick (.v 39) (.v 41) (.c 0)) (.letI (.pick (.v 38) (.v 42) (.c 0)) (.letI (.pick (.v 37) (.v 43) (.c 0)) (.letI (.not (.v 44)) (.ite (.v 45) (.exit (.fail 180)) (.letI (.add (.v 12) (.c 1)) (.need .leq (.v 34) (.c 8) (.again [.v 46, .v 34, .v 30] []))))))))))))) (.letI (.add (.v 12) (.c 1)) (.need .leq (.v 34) (.c 8) (.again [.v 37, .v 34, .v 30] [])))))))) (.letI (.not (.v 28)) (.letI (.cmp .neq (.v 34) (.c 0)) (.ite (.v 35) (.exit (.fail 180)) (.ite (.v 28) (.letI (.cmp .eql (.v 17) (.v 24)) (.letI (.cmp .eql (.v 19) (.v 25)) (.letI (.cmp .eql (.v 21) (.v 26)) (.letI (.cmp .eql (.v 23) (.v 27)) (.letI (.pick (.v 39) (.c 1) (.c 0)) (.letI (.pick (.v 38) (.v 40) (.c 0)) (.letI (.pick (.v 37) (.v 41) (.c 0)) (.letI (.pick (.v 36) (.v 42) (.c 0)) (.letI (.not (.v 43)) (.ite (.v 44) (.exit (.fail 180)) (.letI (.add (.v 12) (.c 1)) (.again [.v 45, .v 13, .v 30] [])))))))))))) (.letI (.add (.v 12) (.c 1)) (.again [.v 36, .v 13, .v 30] [])))))))) (.letI (.not (.v 28)) (.letI (.cmp .neq (.v 33) (.c 1)) (.ite (.v 34) (.exit (.fail 180)) (.ite (.v 28) (.letI (.cmp .eql (.v 17) (.v 24)) (.letI (.cmp .eql (.v 19) (.v 25)) (.letI (.cmp .eql (.v 21) (.v 26)) (.letI (.cmp .eql (.v 23) (.v 27)) (.letI (.pick (.v 38) (.c 1) (.c 0)) (.letI (.pick (.v 37) (.v 39) (.c 0)) (.letI (.pick (.v 36) (.v 40) (.c 0)) (.letI (.pick (.v 35) (.v 41) (.c 0)) (.letI (.not (.v 42)) (.ite (.v 43) (.exit (.fail 180)) (.letI (.add (.v 12) (.c 1)) (.again [.v 44, .v 13, .v 30] [])))))))))))) (.letI (.add (.v 12) (.c 1)) (.again [.v 35, .v 13, .v 30] [])))))))) (.ite (.v 28) (.letI (.add (.v 12) (.c 1)) (.again [.v 32, .v 13, .c (0)] [])) (.letI (.add (.v 12) (.c 1)) (.again [.v 32, .v 13, .c (0)] []))))))) (.ite (.v 14) (.letI (.cmp .leq (.c 0) (.v 17)) (.ite (.v 30) (.letI (.cmp .eql (.v 5) (.v 21)) (.ite (.v 31) (.letI (.add (.v 13) (.c 1)) (.letI (.not (.v 28)) (.letI (.cmp .neq (.v 33) (.c 1)) (.ite (.v 34) (.exit (.fail 180)) (.ite (.v 28) (.letI (.cmp .eql (.v 17) (.v 24)) (.letI (.cmp .eql (.v 19) (.v 25)) (.letI (.cmp .eql (.v 21) (.v 26)) (.letI (.cmp .eql (.v 23) (.v 27)) (.letI (.pick (.v 38) (.c 1) (.c 0)) (.letI (.pick (.v 37) (.v 39) (.c 0)) (.letI (.pick (.v 36) (.v 40) (.c 0)) (.letI (.pick (.v 35) (.v 41) (.c 0)) (.letI (.not (.v 42)) (.ite (.v 43) (.exit (.fail 180)) (.letI (.add (.v 12) (.c 1)) (.need .leq (.v 32) (.c 8) (.again [.v 44, .v 32, .c (1)] []))))))))))))) (.letI (.add (.v 12) (.c 1)) (.need .leq (.v 32) (.c 8) (.again [.v 35, .v 32, .c (1)] [])))))))) (.letI (.not (.v 28)) (.letI (.cmp .neq (.v 32) (.c 0)) (.ite (.v 33) (.exit (.fail 180)) (.ite (.v 28) (.letI (.cmp .eql (.v 17) (.v 24)) (.letI (.cmp .eql (.v 19) (.v 25)) (.letI (.cmp .eql (.v 21) (.v 26)) (.letI (.cmp .eql (.v 23) (.v 27)) (.letI (.pick (.v 37) (.c 1) (.c 0)) (.letI (.pick (.v 36) (.v 38) (.c 0)) (.letI (.pick (.v 35) (.v 39) (.c 0)) (.letI (.pick (.v 34) (.v 40) (.c 0)) (.letI (.not (.v 41)) (.ite (.v 42) (.exit (.fail 180)) (.letI (.add (.v 12) (.c 1)) (.again [.v 43, .v 13, .c (1)] [])))))))))))) (.letI (.add (.v 12) (.c 1)) (.again [.v 34, .v 13, .c (1)] [])))))))) (.ite (.v 28) (.letI (.add (.v 12) (.c 1)) (.again [.v 31, .v 13, .c (1)] [])) (.letI (.add (.v 12) (.c 1)) (.again [.v 31, .v 13, .c (1)] []))))) (.letI (.cmp .leq (.c 0) (.v 17)) (.ite (.v 30) (.letI (.cmp .eql (.v 5) (.v 21)) (.ite (.v 31) (.letI (.add (.v 13) (.c 1)) (.letI (.not (.v 28)) (.letI (.cmp .neq (.v 33) (.c 1)) (.ite (.v 34) (.exit (.fail 180)) (.ite (.v 28) (.letI (.cmp .eql (.v 17) (.v 24)) (.letI (.cmp .eql (.v 19) (.v 25)) (.letI (.cmp .eql (.v 21) (.v 26)) (.letI (.cmp .eql (.v 23) (.v 27)) (.letI (.pick (.v 38) (.c 1) (.c 0)) (.letI (.pick (.v 37) (.v 39) (.c 0)) (.letI (.pick (.v 36) (.v 40) (.c 0)) (.letI (.pick (.v 35) (.v 41) (.c 0)) (.letI (.not (.v 42)) (.ite (.v 43) (.exit (.fail 180)) (.letI (.add (.v 12) (.c 1)) (.need .leq (.v 32) (.c 8) (.again [.v 44, .v 32, .c (0)] []))))))))))))) (.letI (.add (.v 12) (.c 1)) (.need .leq (.v 32) (.c 8) (.again [.v 35, .v 32, .c (0)] [])))))))) (.letI (.not (.v 28)) (.letI (.cmp .neq (.v 32) (.c 0)) (.ite (.v 33) (.exit (.fail 180)) (.ite (.v 28) (.letI (.cmp .eql (.v 17) (.v 24)) (.letI (.cmp .eql (.v 19) (.v 25)) (.letI (.cmp .eql (.v 21) (.v 26)) (.letI (.cmp .eql (.v 23) (.v 27)) (.letI (.pick (.v 37) (.c 1) (.c 0)) (.letI (.pick (.v 36) (.v 38) (.c 0)) (.letI (.pick (.v 35) (.v 39) (.c 0)) (.letI (.pick (.v 34) (.v 40) (.c 0)) (.letI (.not (.v 41)) (.ite (.v 42) (.exit (.fail 180)) (.letI (.add (.v 12) (.c 1)) (.again [.v 43, .v 13, .c (0)] [])))))))))))) (.letI (.add (.v 12) (.c 1)) (.again [.v 34, .v 13, .c (0)] [])))))))) (.ite (.v 28) (.letI (.add (.v 12) (.c 1)) (.again [.v 31, .v 13, .c (0)] [])) (.letI (.add (.v 12) (.c 1)) (.again [.v 31, .v 13, .c (0)] []))))))))))))))))) (.exit (.letI (.not (.v 10)) (.letI (.not (.v 14)) (.letI (.cmp .eql (.v 16) (.v 17)) (.ite (.v 18) (.letI (.cmp .eql (.v 11) (.v 13)) (.need .neq (.v 19) (.c 0) (.done [] []))) (.fail 180)))))))))))))))))
theorem TlbFlush_tree : (lawSpec 22 [.slc L2.ks4, .one (.i .i64), .one (.i .i64), .one (.i .i64)]).exe Tryz.prog (withS (L2.cfg2 Tryz.prog) [L2.bNew, L2.bClear, L2.bFind, L2.bFill, L2.bFlush, L2.bEvict, L2.bLines, L2.bFlushFrame, L2.rNew, L2.rFind0, L2.rFind, L2.rFill, L2.rFlush, L2.rEvict, L2.rFlushFrame]) [{ f := 22, reg := 6, ints := [(11, 0, 12)], lists := [(10, [], some (-9223372036854775808, 9223372036854775807))] }, { f := 22, reg := 15, ints := [(53, 0, 8), (15, 0, 8), (16, 0, 1)] }] 20 200 = TlbFlush_t := by kernel_rfl
theorem TlbFlush_vc (Q : List Int → List (List Int) → Prop) (v0 v1 v2 v3 v4 v5 : Int) (L0 : List Int) : TlbFlush_t.dn ⟨Q, []⟩ 6 [v5, v4, v3, v2, v1, v0] 1 [L0] = ((Go.Sx.L2.yes Go.Sx.L2.f_messuagelaw2_begun).rel.pre [] [] ∧
((Go.Sx.L2.yes Go.Sx.L2.f_messuagelaw2_begun).rel.post [] [] [] [] → (Go.Sx.L2.bNew).rel.pre [] [] ∧
(∀ L1 : List Int, (Go.Sx.L2.bNew).rel.post [] [] [] [L1] → ∃ (I0 : List Int → List (List Int) → Prop) (μ0 : List Int → List (List Int) → Nat), I0 [(0 : Int)] [L1] ∧
(∀ v6 : Int, ∀ L2 : List Int, I0 [v6] [L2] →
 ((v6 < v0) → ((v6 < (12 : Int)) → (v6 < v0) ∧ ∀ v9 : Int, v9 = v6 * (4 : Int) → (v9 < v2) ∧ ∀ v10 : Int, v10 = (L0).getD (v9).toNat 0 → ∀ v11 : Int, v11 = v9 + (1 : Int) → (v11 < v2) ∧ ∀ v12 : Int, v12 = (L0).getD (v11).toNat 0 → ∀ v13 : Int, v13 = v9 + (2 : Int) → (v13 < v2) ∧ ∀ v14 : Int, v14 = (L0).getD (v13).toNat 0 → ∀ v15 : Int, v15 = v9 + (3 : Int) → (v15 < v2) ∧ ∀ v16 : Int, v16 = (L0).getD (v15).toNat 0 → (Go.Sx.L2.bFill).rel.pre [v10, v12, v14, v16] [L2] ∧
(∀ v17 : Int, ∀ L3 : List Int, (Go.Sx.L2.bFill).rel.post [v10, v12, v14, v16] [L2] [v17] [L3] → ∀ v18 : Int, v18 = v6 + (1 : Int) → (I0 [v18] [L3] ∧ μ0 [v18] [L3] < μ0 [v6] [L2]))) ∧
(((12 : Int) ≤ v6) → (Go.Sx.L2.bLines).rel.pre [] [L2] ∧
(∀ v9 : Int, ∀ v10 : Int, ∀ L3 : List Int, (Go.Sx.L2.bLines).rel.post [] [L2] [v9, v10] [L3] → (Go.Sx.L2.bFlush).rel.pre [v3, v4] [L2] ∧
(∀ v11 : Int, ∀ L4 : List Int, (Go.Sx.L2.bFlush).rel.post [v3, v4] [L2] [v11] [L4] → (Go.Sx.L2.bFlushFrame).rel.pre [v5] [L4] ∧
(∀ v12 : Int, ∀ L5 : List Int, (Go.Sx.L2.bFlushFrame).rel.post [v5] [L4] [v12] [L5] → ∃ (I1 : List Int → List (List Int) → Prop) (μ1 : List Int → List (List Int) → Nat), I1 [(0 : Int), (0 : Int), (0 : Int)] [] ∧
(∀ v13 : Int, ∀ v14 : Int, ∀ v15 : Int, I1 [v13, v14, v15] [] →
 ((v13 < (8 : Int)) → ∀ v17 : Int, v17 = v13 * (4 : Int) → ∀ v18 : Int, v18 = (L3).getD (v17).toNat 0 → ∀ v19 : Int, v19 = v17 + (1 : Int) → ∀ v20 : Int, v20 = (L3).getD (v19).toNat 0 → ∀ v21 : Int, v21 = v17 + (2 : Int) → ∀ v22 : Int, v22 = (L3).getD (v21).toNat 0 → ∀ v23 : Int, v23 = v17 + (3 : Int) → ∀ v24 : Int, v24 = (L3).getD (v23).toNat 0 → (Go.Sx.L2.bFind).rel.pre [v18, v20] [L5] ∧
(∀ v25 : Int, ∀ v26 : Int, ∀ v27 : Int, ∀ v28 : Int, ∀ v29 : Int, (Go.Sx.L2.bFind).rel.post [v18, v20] [L5] [v25, v26, v27, v28, v29] [] → ((v3 = v18) → ∀ v31 : Int, v31 = b2i (v4 == v20) → (v15 ≠ 0 → (((0 : Int) ≤ v18) → ∀ v33 : Int, v33 = b2i (v31 == 0) → (v33 ≠ 0 → ((v5 = v22) → ∀ v35 : Int, v35 = v14 + (1 : Int) → ∀ v36 : Int, v36 = b2i (v29 == 0) → ((v36 ≠ (1 : Int)) → False) ∧
((v36 = (1 : Int)) → (v29 ≠ 0 → ∀ v38 : Int, v38 = b2i (v18 == v25) → ∀ v39 : Int, v39 = b2i (v20 == v26) → ∀ v40 : Int, v40 = b2i (v22 == v27) → ∀ v41 : Int, v41 = b2i (v24 == v28) → ∀ v42 : Int, v42 = (if v41 = 0 then (0 : Int) else (1 : Int)) → ∀ v43 : Int, v43 = (if v40 = 0 then (0 : Int) else v42) → ∀ v44 : Int, v44 = (if v39 = 0 then (0 : Int) else v43) → ∀ v45 : Int, v45 = (if v38 = 0 then (0 : Int) else v44) → ∀ v46 : Int, v46 = b2i (v45 == 0) → (v46 ≠ 0 → False) ∧
(v46 = 0 → ∀ v47 : Int, v47 = v13 + (1 : Int) → (v35 ≤ (8 : Int)) ∧ (I1 [v47, v35, (1 : Int)] [] ∧ μ1 [v47, v35, (1 : Int)] [] < μ1 [v13, v14, v15] []))) ∧
(v29 = 0 → ∀ v38 : Int, v38 = v13 + (1 : Int) → (v35 ≤ (8 : Int)) ∧ (I1 [v38, v35, (1 : Int)] [] ∧ μ1 [v38, v35, (1 : Int)] [] < μ1 [v13, v14, v15] [])))) ∧
((v5 ≠ v22) → ∀ v35 : Int, v35 = b2i (v29 == 0) → ((v35 ≠ (0 : Int)) → False) ∧
((v35 = (0 : Int)) → (v29 ≠ 0 → ∀ v37 : Int, v37 = b2i (v18 == v25) → ∀ v38 : Int, v38 = b2i (v20 == v26) → ∀ v39 : Int, v39 = b2i (v22 == v27) → ∀ v40 : Int, v40 = b2i (v24 == v28) → ∀ v41 : Int, v41 = (if v40 = 0 then (0 : Int) else (1 : Int)) → ∀ v42 : Int, v42 = (if v39 = 0 then (0 : Int) else v41) → ∀ v43 : Int, v43 = (if v38 = 0 then (0 : Int) else v42) → ∀ v44 : Int, v44 = (if v37 = 0 then (0 : Int) else v43) → ∀ v45 : Int, v45 = b2i (v44 == 0) → (v45 ≠ 0 → False) ∧
(v45 = 0 → ∀ v46 : Int, v46 = v13 + (1 : Int) → (I1 [v46, v14, (1 : Int)] [] ∧ μ1 [v46, v14, (1 : Int)] [] < μ1 [v13, v14, v15] []))) ∧
(v29 = 0 → ∀ v37 : Int, v37 = v13 + (1 : Int) → (I1 [v37, v14, (1 : Int)] [] ∧ μ1 [v37, v14, (1 : Int)] [] < μ1 [v13, v14, v15] []))))) ∧
(v33 = 0 → ∀ v34 : Int, v34 = b2i (v29 == 0) → ((v34 ≠ (1 : Int)) → False) ∧
((v34 = (1 : Int)) → (v29 ≠ 0 → ∀ v36 : Int, v36 = b2i (v18 == v25) → ∀ v37 : Int, v37 = b2i (v20 == v26) → ∀ v38 : Int, v38 = b2i (v22 == v27) → ∀ v39 : Int, v39 = b2i (v24 == v28) → ∀ v40 : Int, v40 = (if v39 = 0 then (0 : Int) else (1 : Int)) → ∀ v41 : Int, v41 = (if v38 = 0 then (0 : Int) else v40) → ∀ v42 : Int, v42 = (if v37 = 0 then (0 : Int) else v41) → ∀ v43 : Int, v43 = (if v36 = 0 then (0 : Int) else v42) → ∀ v44 : Int, v44 = b2i (v43 == 0) → (v44 ≠ 0 → False) ∧
(v44 = 0 → ∀ v45 : Int, v45 = v13 + (1 : Int) → (I1 [v45, v14, (1 : Int)] [] ∧ μ1 [v45, v14, (1 : Int)] [] < μ1 [v13, v14, v15] []))) ∧
(v29 = 0 → ∀ v36 : Int, v36 = v13 + (1 : Int) → (I1 [v36, v14, (1 : Int)] [] ∧ μ1 [v36, v14, (1 : Int)] [] < μ1 [v13, v14, v15] []))))) ∧
((v18 < (0 : Int)) → (v29 ≠ 0 → ∀ v33 : Int, v33 = v13 + (1 : Int) → (I1 [v33, v14, (1 : Int)] [] ∧ μ1 [v33, v14, (1 : Int)] [] < μ1 [v13, v14, v15] [])) ∧
(v29 = 0 → ∀ v33 : Int, v33 = v13 + (1 : Int) → (I1 [v33, v14, (1 : Int)] [] ∧ μ1 [v33, v14, (1 : Int)] [] < μ1 [v13, v14, v15] [])))) ∧
(v15 = 0 → (((0 : Int) ≤ v18) → ∀ v33 : Int, v33 = b2i (v31 == 0) → (v33 ≠ 0 → ((v5 = v22) → ∀ v35 : Int, v35 = v14 + (1 : Int) → ∀ v36 : Int, v36 = b2i (v29 == 0) → ((v36 ≠ (1 : Int)) → False) ∧
((v36 = (1 : Int)) → (v29 ≠ 0 → ∀ v38 : Int, v38 = b2i (v18 == v25) → ∀ v39 : Int, v39 = b2i (v20 == v26) → ∀ v40 : Int, v40 = b2i (v22 == v27) → ∀ v41 : Int, v41 = b2i (v24 == v28) → ∀ v42 : Int, v42 = (if v41 = 0 then (0 : Int) else (1 : Int)) → ∀ v43 : Int, v43 = (if v40 = 0 then (0 : Int) else v42) → ∀ v44 : Int, v44 = (if v39 = 0 then (0 : Int) else v43) → ∀ v45 : Int, v45 = (if v38 = 0 then (0 : Int) else v44) → ∀ v46 : Int, v46 = b2i (v45 == 0) → (v46 ≠ 0 → False) ∧
(v46 = 0 → ∀ v47 : Int, v47 = v13 + (1 : Int) → (v35 ≤ (8 : Int)) ∧ (I1 [v47, v35, v31] [] ∧ μ1 [v47, v35, v31] [] < μ1 [v13, v14, v15] []))) ∧
(v29 = 0 → ∀ v38 : Int, v38 = v13 + (1 : Int) → (v35 ≤ (8 : Int)) ∧ (I1 [v38, v35, v31] [] ∧ μ1 [v38, v35, v31] [] < μ1 [v13, v14, v15] [])))) ∧
((v5 ≠ v22) → ∀ v35 : Int, v35 = b2i (v29 == 0) → ((v35 ≠ (0 : Int)) → False) ∧
((v35 = (0 : Int)) → (v29 ≠ 0 → ∀ v37 : Int, v37 = b2i (v18 == v25) → ∀ v38 : Int, v38 = b2i (v20 == v26) → ∀ v39 : Int, v39 = b2i (v22 == v27) → ∀ v40 : Int, v40 = b2i (v24 == v28) → ∀ v41 : Int, v41 = (if v40 = 0 then (0 : Int) else (1 : Int)) → ∀ v42 : Int, v42 = (if v39 = 0 then (0 : Int) else v41) → ∀ v43 : Int, v43 = (if v38 = 0 then (0 : Int) else v42) → ∀ v44 : Int, v44 = (if v37 = 0 then (0 : Int) else v43) → ∀ v45 : Int, v45 = b2i (v44 == 0) → (v45 ≠ 0 → False) ∧
(v45 = 0 → ∀ v46 : Int, v46 = v13 + (1 : Int) → (I1 [v46, v14, v31] [] ∧ μ1 [v46, v14, v31] [] < μ1 [v13, v14, v15] []))) ∧
(v29 = 0 → ∀ v37 : Int, v37 = v13 + (1 : Int) → (I1 [v37, v14, v31] [] ∧ μ1 [v37, v14, v31] [] < μ1 [v13, v14, v15] []))))) ∧
(v33 = 0 → ∀ v34 : Int, v34 = b2i (v29 == 0) → ((v34 ≠ (1 : Int)) → False) ∧
((v34 = (1 : Int)) → (v29 ≠ 0 → ∀ v36 : Int, v36 = b2i (v18 == v25) → ∀ v37 : Int, v37 = b2i (v20 == v26) → ∀ v38 : Int, v38 = b2i (v22 == v27) → ∀ v39 : Int, v39 = b2i (v24 == v28) → ∀ v40 : Int, v40 = (if v39 = 0 then (0 : Int) else (1 : Int)) → ∀ v41 : Int, v41 = (if v38 = 0 then (0 : Int) else v40) → ∀ v42 : Int, v42 = (if v37 = 0 then (0 : Int) else v41) → ∀ v43 : Int, v43 = (if v36 = 0 then (0 : Int) else v42) → ∀ v44 : Int, v44 = b2i (v43 == 0) → (v44 ≠ 0 → False) ∧
(v44 = 0 → ∀ v45 : Int, v45 = v13 + (1 : Int) → (I1 [v45, v14, v31] [] ∧ μ1 [v45, v14, v31] [] < μ1 [v13, v14, v15] []))) ∧
(v29 = 0 → ∀ v36 : Int, v36 = v13 + (1 : Int) → (I1 [v36, v14, v31] [] ∧ μ1 [v36, v14, v31] [] < μ1 [v13, v14, v15] []))))) ∧
((v18 < (0 : Int)) → (v29 ≠ 0 → ∀ v33 : Int, v33 = v13 + (1 : Int) → (I1 [v33, v14, (0 : Int)] [] ∧ μ1 [v33, v14, (0 : Int)] [] < μ1 [v13, v14, v15] [])) ∧
(v29 = 0 → ∀ v33 : Int, v33 = v13 + (1 : Int) → (I1 [v33, v14, (0 : Int)] [] ∧ μ1 [v33, v14, (0 : Int)] [] < μ1 [v13, v14, v15] []))))) ∧
((v3 ≠ v18) → (v15 ≠ 0 → (((0 : Int) ≤ v18) → ((v5 = v22) → ∀ v33 : Int, v33 = v14 + (1 : Int) → ∀ v34 : Int, v34 = b2i (v29 == 0) → ((v34 ≠ (1 : Int)) → False) ∧
((v34 = (1 : Int)) → (v29 ≠ 0 → ∀ v36 : Int, v36 = b2i (v18 == v25) → ∀ v37 : Int, v37 = b2i (v20 == v26) → ∀ v38 : Int, v38 = b2i (v22 == v27) → ∀ v39 : Int, v39 = b2i (v24 == v28) → ∀ v40 : Int, v40 = (if v39 = 0 then (0 : Int) else (1 : Int)) → ∀ v41 : Int, v41 = (if v38 = 0 then (0 : Int) else v40) → ∀ v42 : Int, v42 = (if v37 = 0 then (0 : Int) else v41) → ∀ v43 : Int, v43 = (if v36 = 0 then (0 : Int) else v42) → ∀ v44 : Int, v44 = b2i (v43 == 0) → (v44 ≠ 0 → False) ∧
(v44 = 0 → ∀ v45 : Int, v45 = v13 + (1 : Int) → (v33 ≤ (8 : Int)) ∧ (I1 [v45, v33, (1 : Int)] [] ∧ μ1 [v45, v33, (1 : Int)] [] < μ1 [v13, v14, v15] []))) ∧
(v29 = 0 → ∀ v36 : Int, v36 = v13 + (1 : Int) → (v33 ≤ (8 : Int)) ∧ (I1 [v36, v33, (1 : Int)] [] ∧ μ1 [v36, v33, (1 : Int)] [] < μ1 [v13, v14, v15] [])))) ∧
((v5 ≠ v22) → ∀ v33 : Int, v33 = b2i (v29 == 0) → ((v33 ≠ (0 : Int)) → False) ∧
((v33 = (0 : Int)) → (v29 ≠ 0 → ∀ v35 : Int, v35 = b2i (v18 == v25) → ∀ v36 : Int, v36 = b2i (v20 == v26) → ∀ v37 : Int, v37 = b2i (v22 == v27) → ∀ v38 : Int, v38 = b2i (v24 == v28) → ∀ v39 : Int, v39 = (if v38 = 0 then (0 : Int) else (1 : Int)) → ∀ v40 : Int, v40 = (if v37 = 0 then (0 : Int) else v39) → ∀ v41 : Int, v41 = (if v36 = 0 then (0 : Int) else v40) → ∀ v42 : Int, v42 = (if v35 = 0 then (0 : Int) else v41) → ∀ v43 : Int, v43 = b2i (v42 == 0) → (v43 ≠ 0 → False) ∧
(v43 = 0 → ∀ v44 : Int, v44 = v13 + (1 : Int) → (I1 [v44, v14, (1 : Int)] [] ∧ μ1 [v44, v14, (1 : Int)] [] < μ1 [v13, v14, v15] []))) ∧
(v29 = 0 → ∀ v35 : Int, v35 = v13 + (1 : Int) → (I1 [v35, v14, (1 : Int)] [] ∧ μ1 [v35, v14, (1 : Int)] [] < μ1 [v13, v14, v15] []))))) ∧
((v18 < (0 : Int)) → (v29 ≠ 0 → ∀ v32 : Int, v32 = v13 + (1 : Int) → (I1 [v32, v14, (1 : Int)] [] ∧ μ1 [v32, v14, (1 : Int)] [] < μ1 [v13, v14, v15] [])) ∧
(v29 = 0 → ∀ v32 : Int, v32 = v13 + (1 : Int) → (I1 [v32, v14, (1 : Int)] [] ∧ μ1 [v32, v14, (1 : Int)] [] < μ1 [v13, v14, v15] [])))) ∧
(v15 = 0 → (((0 : Int) ≤ v18) → ((v5 = v22) → ∀ v33 : Int, v33 = v14 + (1 : Int) → ∀ v34 : Int, v34 = b2i (v29 == 0) → ((v34 ≠ (1 : Int)) → False) ∧
((v34 = (1 : Int)) → (v29 ≠ 0 → ∀ v36 : Int, v36 = b2i (v18 == v25) → ∀ v37 : Int, v37 = b2i (v20 == v26) → ∀ v38 : Int, v38 = b2i (v22 == v27) → ∀ v39 : Int, v39 = b2i (v24 == v28) → ∀ v40 : Int, v40 = (if v39 = 0 then (0 : Int) else (1 : Int)) → ∀ v41 : Int, v41 = (if v38 = 0 then (0 : Int) else v40) → ∀ v42 : Int, v42 = (if v37 = 0 then (0 : Int) else v41) → ∀ v43 : Int, v43 = (if v36 = 0 then (0 : Int) else v42) → ∀ v44 : Int, v44 = b2i (v43 == 0) → (v44 ≠ 0 → False) ∧
(v44 = 0 → ∀ v45 : Int, v45 = v13 + (1 : Int) → (v33 ≤ (8 : Int)) ∧ (I1 [v45, v33, (0 : Int)] [] ∧ μ1 [v45, v33, (0 : Int)] [] < μ1 [v13, v14, v15] []))) ∧
(v29 = 0 → ∀ v36 : Int, v36 = v13 + (1 : Int) → (v33 ≤ (8 : Int)) ∧ (I1 [v36, v33, (0 : Int)] [] ∧ μ1 [v36, v33, (0 : Int)] [] < μ1 [v13, v14, v15] [])))) ∧
((v5 ≠ v22) → ∀ v33 : Int, v33 = b2i (v29 == 0) → ((v33 ≠ (0 : Int)) → False) ∧
((v33 = (0 : Int)) → (v29 ≠ 0 → ∀ v35 : Int, v35 = b2i (v18 == v25) → ∀ v36 : Int, v36 = b2i (v20 == v26) → ∀ v37 : Int, v37 = b2i (v22 == v27) → ∀ v38 : Int, v38 = b2i (v24 == v28) → ∀ v39 : Int, v39 = (if v38 = 0 then (0 : Int) else (1 : Int)) → ∀ v40 : Int, v40 = (if v37 = 0 then (0 : Int) else v39) → ∀ v41 : Int, v41 = (if v36 = 0 then (0 : Int) else v40) → ∀ v42 : Int, v42 = (if v35 = 0 then (0 : Int) else v41) → ∀ v43 : Int, v43 = b2i (v42 == 0) → (v43 ≠ 0 → False) ∧
(v43 = 0 → ∀ v44 : Int, v44 = v13 + (1 : Int) → (I1 [v44, v14, (0 : Int)] [] ∧ μ1 [v44, v14, (0 : Int)] [] < μ1 [v13, v14, v15] []))) ∧
(v29 = 0 → ∀ v35 : Int, v35 = v13 + (1 : Int) → (I1 [v35, v14, (0 : Int)] [] ∧ μ1 [v35, v14, (0 : Int)] [] < μ1 [v13, v14, v15] []))))) ∧
((v18 < (0 : Int)) → (v29 ≠ 0 → ∀ v32 : Int, v32 = v13 + (1 : Int) → (I1 [v32, v14, (0 : Int)] [] ∧ μ1 [v32, v14, (0 : Int)] [] < μ1 [v13, v14, v15] [])) ∧
(v29 = 0 → ∀ v32 : Int, v32 = v13 + (1 : Int) → (I1 [v32, v14, (0 : Int)] [] ∧ μ1 [v32, v14, (0 : Int)] [] < μ1 [v13, v14, v15] []))))))) ∧
(((8 : Int) ≤ v13) → ∀ v17 : Int, v17 = b2i (v11 == 0) → ∀ v18 : Int, v18 = b2i (v15 == 0) → ((v17 = v18) → ∀ v20 : Int, v20 = b2i (v12 == v14) → (v20 ≠ (0 : Int)) ∧ Q [] []) ∧
((v17 ≠ v18) → False)))))))) ∧
((v0 ≤ v6) → (Go.Sx.L2.bLines).rel.pre [] [L2] ∧
(∀ v8 : Int, ∀ v9 : Int, ∀ L3 : List Int, (Go.Sx.L2.bLines).rel.post [] [L2] [v8, v9] [L3] → (Go.Sx.L2.bFlush).rel.pre [v3, v4] [L2] ∧
(∀ v10 : Int, ∀ L4 : List Int, (Go.Sx.L2.bFlush).rel.post [v3, v4] [L2] [v10] [L4] → (Go.Sx.L2.bFlushFrame).rel.pre [v5] [L4] ∧
(∀ v11 : Int, ∀ L5 : List Int, (Go.Sx.L2.bFlushFrame).rel.post [v5] [L4] [v11] [L5] → ∃ (I1 : List Int → List (List Int) → Prop) (μ1 : List Int → List (List Int) → Nat), I1 [(0 : Int), (0 : Int), (0 : Int)] [] ∧
(∀ v12 : Int, ∀ v13 : Int, ∀ v14 : Int, I1 [v12, v13, v14] [] →
 ((v12 < (8 : Int)) → ∀ v16 : Int, v16 = v12 * (4 : Int) → ∀ v17 : Int, v17 = (L3).getD (v16).toNat 0 → ∀ v18 : Int, v18 = v16 + (1 : Int) → ∀ v19 : Int, v19 = (L3).getD (v18).toNat 0 → ∀ v20 : Int, v20 = v16 + (2 : Int) → ∀ v21 : Int, v21 = (L3).getD (v20).toNat 0 → ∀ v22 : Int, v22 = v16 + (3 : Int) → ∀ v23 : Int, v23 = (L3).getD (v22).toNat 0 → (Go.Sx.L2.bFind).rel.pre [v17, v19] [L5] ∧
(∀ v24 : Int, ∀ v25 : Int, ∀ v26 : Int, ∀ v27 : Int, ∀ v28 : Int, (Go.Sx.L2.bFind).rel.post [v17, v19] [L5] [v24, v25, v26, v27, v28] [] → ((v3 = v17) → ∀ v30 : Int, v30 = b2i (v4 == v19) → (v14 ≠ 0 → (((0 : Int) ≤ v17) → ∀ v32 : Int, v32 = b2i (v30 == 0) → (v32 ≠ 0 → ((v5 = v21) → ∀ v34 : Int, v34 = v13 + (1 : Int) → ∀ v35 : Int, v35 = b2i (v28 == 0) → ((v35 ≠ (1 : Int)) → False) ∧
((v35 = (1 : Int)) → (v28 ≠ 0 → ∀ v37 : Int, v37 = b2i (v17 == v24) → ∀ v38 : Int, v38 = b2i (v19 == v25) → ∀ v39 : Int, v39 = b2i (v21 == v26) → ∀ v40 : Int, v40 = b2i (v23 == v27) → ∀ v41 : Int, v41 = (if v40 = 0 then (0 : Int) else (1 : Int)) → ∀ v42 : Int, v42 = (if v39 = 0 then (0 : Int) else v41) → ∀ v43 : Int, v43 = (if v38 = 0 then (0 : Int) else v42) → ∀ v44 : Int, v44 = (if v37 = 0 then (0 : Int) else v43) → ∀ v45 : Int, v45 = b2i (v44 == 0) → (v45 ≠ 0 → False) ∧
(v45 = 0 → ∀ v46 : Int, v46 = v12 + (1 : Int) → (v34 ≤ (8 : Int)) ∧ (I1 [v46, v34, (1 : Int)] [] ∧ μ1 [v46, v34, (1 : Int)] [] < μ1 [v12, v13, v14] []))) ∧
(v28 = 0 → ∀ v37 : Int, v37 = v12 + (1 : Int) → (v34 ≤ (8 : Int)) ∧ (I1 [v37, v34, (1 : Int)] [] ∧ μ1 [v37, v34, (1 : Int)] [] < μ1 [v12, v13, v14] [])))) ∧
((v5 ≠ v21) → ∀ v34 : Int, v34 = b2i (v28 == 0) → ((v34 ≠ (0 : Int)) → False) ∧
((v34 = (0 : Int)) → (v28 ≠ 0 → ∀ v36 : Int, v36 = b2i (v17 == v24) → ∀ v37 : Int, v37 = b2i (v19 == v25) → ∀ v38 : Int, v38 = b2i (v21 == v26) → ∀ v39 : Int, v39 = b2i (v23 == v27) → ∀ v40 : Int, v40 = (if v39 = 0 then (0 : Int) else (1 : Int)) → ∀ v41 : Int, v41 = (if v38 = 0 then (0 : Int) else v40) → ∀ v42 : Int, v42 = (if v37 = 0 then (0 : Int) else v41) → ∀ v43 : Int, v43 = (if v36 = 0 then (0 : Int) else v42) → ∀ v44 : Int, v44 = b2i (v43 == 0) → (v44 ≠ 0 → False) ∧
(v44 = 0 → ∀ v45 : Int, v45 = v12 + (1 : Int) → (I1 [v45, v13, (1 : Int)] [] ∧ μ1 [v45, v13, (1 : Int)] [] < μ1 [v12, v13, v14] []))) ∧
(v28 = 0 → ∀ v36 : Int, v36 = v12 + (1 : Int) → (I1 [v36, v13, (1 : Int)] [] ∧ μ1 [v36, v13, (1 : Int)] [] < μ1 [v12, v13, v14] []))))) ∧
(v32 = 0 → ∀ v33 : Int, v33 = b2i (v28 == 0) → ((v33 ≠ (1 : Int)) → False) ∧
((v33 = (1 : Int)) → (v28 ≠ 0 → ∀ v35 : Int, v35 = b2i (v17 == v24) → ∀ v36 : Int, v36 = b2i (v19 == v25) → ∀ v37 : Int, v37 = b2i (v21 == v26) → ∀ v38 : Int, v38 = b2i (v23 == v27) → ∀ v39 : Int, v39 = (if v38 = 0 then (0 : Int) else (1 : Int)) → ∀ v40 : Int, v40 = (if v37 = 0 then (0 : Int) else v39) → ∀ v41 : Int, v41 = (if v36 = 0 then (0 : Int) else v40) → ∀ v42 : Int, v42 = (if v35 = 0 then (0 : Int) else v41) → ∀ v43 : Int, v43 = b2i (v42 == 0) → (v43 ≠ 0 → False) ∧
(v43 = 0 → ∀ v44 : Int, v44 = v12 + (1 : Int) → (I1 [v44, v13, (1 : Int)] [] ∧ μ1 [v44, v13, (1 : Int)] [] < μ1 [v12, v13, v14] []))) ∧
(v28 = 0 → ∀ v35 : Int, v35 = v12 + (1 : Int) → (I1 [v35, v13, (1 : Int)] [] ∧ μ1 [v35, v13, (1 : Int)] [] < μ1 [v12, v13, v14] []))))) ∧
((v17 < (0 : Int)) → (v28 ≠ 0 → ∀ v32 : Int, v32 = v12 + (1 : Int) → (I1 [v32, v13, (1 : Int)] [] ∧ μ1 [v32, v13, (1 : Int)] [] < μ1 [v12, v13, v14] [])) ∧
(v28 = 0 → ∀ v32 : Int, v32 = v12 + (1 : Int) → (I1 [v32, v13, (1 : Int)] [] ∧ μ1 [v32, v13, (1 : Int)] [] < μ1 [v12, v13, v14] [])))) ∧
(v14 = 0 → (((0 : Int) ≤ v17) → ∀ v32 : Int, v32 = b2i (v30 == 0) → (v32 ≠ 0 → ((v5 = v21) → ∀ v34 : Int, v34 = v13 + (1 : Int) → ∀ v35 : Int, v35 = b2i (v28 == 0) → ((v35 ≠ (1 : Int)) → False) ∧
((v35 = (1 : Int)) → (v28 ≠ 0 → ∀ v37 : Int, v37 = b2i (v17 == v24) → ∀ v38 : Int, v38 = b2i (v19 == v25) → ∀ v39 : Int, v39 = b2i (v21 == v26) → ∀ v40 : Int, v40 = b2i (v23 == v27) → ∀ v41 : Int, v41 = (if v40 = 0 then (0 : Int) else (1 : Int)) → ∀ v42 : Int, v42 = (if v39 = 0 then (0 : Int) else v41) → ∀ v43 : Int, v43 = (if v38 = 0 then (0 : Int) else v42) → ∀ v44 : Int, v44 = (if v37 = 0 then (0 : Int) else v43) → ∀ v45 : Int, v45 = b2i (v44 == 0) → (v45 ≠ 0 → False) ∧
(v45 = 0 → ∀ v46 : Int, v46 = v12 + (1 : Int) → (v34 ≤ (8 : Int)) ∧ (I1 [v46, v34, v30] [] ∧ μ1 [v46, v34, v30] [] < μ1 [v12, v13, v14] []))) ∧
(v28 = 0 → ∀ v37 : Int, v37 = v12 + (1 : Int) → (v34 ≤ (8 : Int)) ∧ (I1 [v37, v34, v30] [] ∧ μ1 [v37, v34, v30] [] < μ1 [v12, v13, v14] [])))) ∧
((v5 ≠ v21) → ∀ v34 : Int, v34 = b2i (v28 == 0) → ((v34 ≠ (0 : Int)) → False) ∧
((v34 = (0 : Int)) → (v28 ≠ 0 → ∀ v36 : Int, v36 = b2i (v17 == v24) → ∀ v37 : Int, v37 = b2i (v19 == v25) → ∀ v38 : Int, v38 = b2i (v21 == v26) → ∀ v39 : Int, v39 = b2i (v23 == v27) → ∀ v40 : Int, v40 = (if v39 = 0 then (0 : Int) else (1 : Int)) → ∀ v41 : Int, v41 = (if v38 = 0 then (0 : Int) else v40) → ∀ v42 : Int, v42 = (if v37 = 0 then (0 : Int) else v41) → ∀ v43 : Int, v43 = (if v36 = 0 then (0 : Int) else v42) → ∀ v44 : Int, v44 = b2i (v43 == 0) → (v44 ≠ 0 → False) ∧
(v44 = 0 → ∀ v45 : Int, v45 = v12 + (1 : Int) → (I1 [v45, v13, v30] [] ∧ μ1 [v45, v13, v30] [] < μ1 [v12, v13, v14] []))) ∧
(v28 = 0 → ∀ v36 : Int, v36 = v12 + (1 : Int) → (I1 [v36, v13, v30] [] ∧ μ1 [v36, v13, v30] [] < μ1 [v12, v13, v14] []))))) ∧
(v32 = 0 → ∀ v33 : Int, v33 = b2i (v28 == 0) → ((v33 ≠ (1 : Int)) → False) ∧
((v33 = (1 : Int)) → (v28 ≠ 0 → ∀ v35 : Int, v35 = b2i (v17 == v24) → ∀ v36 : Int, v36 = b2i (v19 == v25) → ∀ v37 : Int, v37 = b2i (v21 == v26) → ∀ v38 : Int, v38 = b2i (v23 == v27) → ∀ v39 : Int, v39 = (if v38 = 0 then (0 : Int) else (1 : Int)) → ∀ v40 : Int, v40 = (if v37 = 0 then (0 : Int) else v39) → ∀ v41 : Int, v41 = (if v36 = 0 then (0 : Int) else v40) → ∀ v42 : Int, v42 = (if v35 = 0 then (0 : Int) else v41) → ∀ v43 : Int, v43 = b2i (v42 == 0) → (v43 ≠ 0 → False) ∧
(v43 = 0 → ∀ v44 : Int, v44 = v12 + (1 : Int) → (I1 [v44, v13, v30] [] ∧ μ1 [v44, v13, v30] [] < μ1 [v12, v13, v14] []))) ∧
(v28 = 0 → ∀ v35 : Int, v35 = v12 + (1 : Int) → (I1 [v35, v13, v30] [] ∧ μ1 [v35, v13, v30] [] < μ1 [v12, v13, v14] []))))) ∧
((v17 < (0 : Int)) → (v28 ≠ 0 → ∀ v32 : Int, v32 = v12 + (1 : Int) → (I1 [v32, v13, (0 : Int)] [] ∧ μ1 [v32, v13, (0 : Int)] [] < μ1 [v12, v13, v14] [])) ∧
(v28 = 0 → ∀ v32 : Int, v32 = v12 + (1 : Int) → (I1 [v32, v13, (0 : Int)] [] ∧ μ1 [v32, v13, (0 : Int)] [] < μ1 [v12, v13, v14] []))))) ∧
((v3 ≠ v17) → (v14 ≠ 0 → (((0 : Int) ≤ v17) → ((v5 = v21) → ∀ v32 : Int, v32 = v13 + (1 : Int) → ∀ v33 : Int, v33 = b2i (v28 == 0) → ((v33 ≠ (1 : Int)) → False) ∧
((v33 = (1 : Int)) → (v28 ≠ 0 → ∀ v35 : Int, v35 = b2i (v17 == v24) → ∀ v36 : Int, v36 = b2i (v19 == v25) → ∀ v37 : Int, v37 = b2i (v21 == v26) → ∀ v38 : Int, v38 = b2i (v23 == v27) → ∀ v39 : Int, v39 = (if v38 = 0 then (0 : Int) else (1 : Int)) → ∀ v40 : Int, v40 = (if v37 = 0 then (0 : Int) else v39) → ∀ v41 : Int, v41 = (if v36 = 0 then (0 : Int) else v40) → ∀ v42 : Int, v42 = (if v35 = 0 then (0 : Int) else v41) → ∀ v43 : Int, v43 = b2i (v42 == 0) → (v43 ≠ 0 → False) ∧
(v43 = 0 → ∀ v44 : Int, v44 = v12 + (1 : Int) → (v32 ≤ (8 : Int)) ∧ (I1 [v44, v32, (1 : Int)] [] ∧ μ1 [v44, v32, (1 : Int)] [] < μ1 [v12, v13, v14] []))) ∧
(v28 = 0 → ∀ v35 : Int, v35 = v12 + (1 : Int) → (v32 ≤ (8 : Int)) ∧ (I1 [v35, v32, (1 : Int)] [] ∧ μ1 [v35, v32, (1 : Int)] [] < μ1 [v12, v13, v14] [])))) ∧
((v5 ≠ v21) → ∀ v32 : Int, v32 = b2i (v28 == 0) → ((v32 ≠ (0 : Int)) → False) ∧
((v32 = (0 : Int)) → (v28 ≠ 0 → ∀ v34 : Int, v34 = b2i (v17 == v24) → ∀ v35 : Int, v35 = b2i (v19 == v25) → ∀ v36 : Int, v36 = b2i (v21 == v26) → ∀ v37 : Int, v37 = b2i (v23 == v27) → ∀ v38 : Int, v38 = (if v37 = 0 then (0 : Int) else (1 : Int)) → ∀ v39 : Int, v39 = (if v36 = 0 then (0 : Int) else v38) → ∀ v40 : Int, v40 = (if v35 = 0 then (0 : Int) else v39) → ∀ v41 : Int, v41 = (if v34 = 0 then (0 : Int) else v40) → ∀ v42 : Int, v42 = b2i (v41 == 0) → (v42 ≠ 0 → False) ∧
(v42 = 0 → ∀ v43 : Int, v43 = v12 + (1 : Int) → (I1 [v43, v13, (1 : Int)] [] ∧ μ1 [v43, v13, (1 : Int)] [] < μ1 [v12, v13, v14] []))) ∧
(v28 = 0 → ∀ v34 : Int, v34 = v12 + (1 : Int) → (I1 [v34, v13, (1 : Int)] [] ∧ μ1 [v34, v13, (1 : Int)] [] < μ1 [v12, v13, v14] []))))) ∧
((v17 < (0 : Int)) → (v28 ≠ 0 → ∀ v31 : Int, v31 = v12 + (1 : Int) → (I1 [v31, v13, (1 : Int)] [] ∧ μ1 [v31, v13, (1 : Int)] [] < μ1 [v12, v13, v14] [])) ∧
(v28 = 0 → ∀ v31 : Int, v31 = v12 + (1 : Int) → (I1 [v31, v13, (1 : Int)] [] ∧ μ1 [v31, v13, (1 : Int)] [] < μ1 [v12, v13, v14] [])))) ∧
(v14 = 0 → (((0 : Int) ≤ v17) → ((v5 = v21) → ∀ v32 : Int, v32 = v13 + (1 : Int) → ∀ v33 : Int, v33 = b2i (v28 == 0) → ((v33 ≠ (1 : Int)) → False) ∧
((v33 = (1 : Int)) → (v28 ≠ 0 → ∀ v35 : Int, v35 = b2i (v17 == v24) → ∀ v36 : Int, v36 = b2i (v19 == v25) → ∀ v37 : Int, v37 = b2i (v21 == v26) → ∀ v38 : Int, v38 = b2i (v23 == v27) → ∀ v39 : Int, v39 = (if v38 = 0 then (0 : Int) else (1 : Int)) → ∀ v40 : Int, v40 = (if v37 = 0 then (0 : Int) else v39) → ∀ v41 : Int, v41 = (if v36 = 0 then (0 : Int) else v40) → ∀ v42 : Int, v42 = (if v35 = 0 then (0 : Int) else v41) → ∀ v43 : Int, v43 = b2i (v42 == 0) → (v43 ≠ 0 → False) ∧
(v43 = 0 → ∀ v44 : Int, v44 = v12 + (1 : Int) → (v32 ≤ (8 : Int)) ∧ (I1 [v44, v32, (0 : Int)] [] ∧ μ1 [v44, v32, (0 : Int)] [] < μ1 [v12, v13, v14] []))) ∧
(v28 = 0 → ∀ v35 : Int, v35 = v12 + (1 : Int) → (v32 ≤ (8 : Int)) ∧ (I1 [v35, v32, (0 : Int)] [] ∧ μ1 [v35, v32, (0 : Int)] [] < μ1 [v12, v13, v14] [])))) ∧
((v5 ≠ v21) → ∀ v32 : Int, v32 = b2i (v28 == 0) → ((v32 ≠ (0 : Int)) → False) ∧
((v32 = (0 : Int)) → (v28 ≠ 0 → ∀ v34 : Int, v34 = b2i (v17 == v24) → ∀ v35 : Int, v35 = b2i (v19 == v25) → ∀ v36 : Int, v36 = b2i (v21 == v26) → ∀ v37 : Int, v37 = b2i (v23 == v27) → ∀ v38 : Int, v38 = (if v37 = 0 then (0 : Int) else (1 : Int)) → ∀ v39 : Int, v39 = (if v36 = 0 then (0 : Int) else v38) → ∀ v40 : Int, v40 = (if v35 = 0 then (0 : Int) else v39) → ∀ v41 : Int, v41 = (if v34 = 0 then (0 : Int) else v40) → ∀ v42 : Int, v42 = b2i (v41 == 0) → (v42 ≠ 0 → False) ∧
(v42 = 0 → ∀ v43 : Int, v43 = v12 + (1 : Int) → (I1 [v43, v13, (0 : Int)] [] ∧ μ1 [v43, v13, (0 : Int)] [] < μ1 [v12, v13, v14] []))) ∧
(v28 = 0 → ∀ v34 : Int, v34 = v12 + (1 : Int) → (I1 [v34, v13, (0 : Int)] [] ∧ μ1 [v34, v13, (0 : Int)] [] < μ1 [v12, v13, v14] []))))) ∧
((v17 < (0 : Int)) → (v28 ≠ 0 → ∀ v31 : Int, v31 = v12 + (1 : Int) → (I1 [v31, v13, (0 : Int)] [] ∧ μ1 [v31, v13, (0 : Int)] [] < μ1 [v12, v13, v14] [])) ∧
(v28 = 0 → ∀ v31 : Int, v31 = v12 + (1 : Int) → (I1 [v31, v13, (0 : Int)] [] ∧ μ1 [v31, v13, (0 : Int)] [] < μ1 [v12, v13, v14] []))))))) ∧
(((8 : Int) ≤ v12) → ∀ v16 : Int, v16 = b2i (v10 == 0) → ∀ v17 : Int, v17 = b2i (v14 == 0) → ((v16 = v17) → ∀ v19 : Int, v19 = b2i (v11 == v13) → (v19 ≠ (0 : Int)) ∧ Q [] []) ∧
((v16 ≠ v17) → False))))))))))) := by kernel_rfl
set_option maxHeartbeats 4000000 in
theorem tlbFlush_holds0 : (lawSpec 22 [.slc L2.ks4, .one (.i .i64), .one (.i .i64), .one (.i .i64)]).Holds Tryz.prog L2.ro := FSpec.holdsV (cfg := withS (L2.cfg2 Tryz.prog) [L2.bNew, L2.bClear, L2.bFind, L2.bFill, L2.bFlush, L2.bEvict, L2.bLines, L2.bFlushFrame, L2.rNew, L2.rFind0, L2.rFind, L2.rFill, L2.rFlush, L2.rEvict, L2.rFlushFrame]) [{ f := 22, reg := 6, ints := [(11, 0, 12)], lists := [(10, [], some (-9223372036854775808, 9223372036854775807))] }, { f := 22, reg := 15, ints := [(53, 0, 8), (15, 0, 8), (16, 0, 1)] }] 20 200 (withS_ok cfg2_ok ⟨bNew_holds, bClear_holds, bFind_holds, bFill_holds, bFlush_holds, bEvict_holds, bLines_holds, bFlushFrame_holds, rNew_holds, rFind0_holds, rFind_holds, rFill_holds, rFlush_holds, rEvict_holds, rFlushFrame_holds, trivial⟩) mixed (t := TlbFlush_t) TlbFlush_tree (by
  show ∀ (v0 v1 v2 v3 v4 v5 : Int) (L0 : List Int), _
  intro v0 v1 v2 v3 v4 v5 L0 hp hr hl
  replace hr : ((0 : Int) ≤ v0 ∧ v0 ≤ (9223372036854775807 : Int)) ∧ ((0 : Int) ≤ v1 ∧ v1 ≤ (9223372036854775807 : Int)) ∧ ((0 : Int) ≤ v2 ∧ v2 ≤ (9223372036854775807 : Int) * ((4 : Nat) : Int)) ∧ ((-9223372036854775808 : Int) ≤ v3 ∧ v3 ≤ (9223372036854775807 : Int)) ∧ ((-9223372036854775808 : Int) ≤ v4 ∧ v4 ≤ (9223372036854775807 : Int)) ∧ ((-9223372036854775808 : Int) ≤ v5 ∧ v5 ≤ (9223372036854775807 : Int)) ∧ True := hr
  replace hp : (True ∧ ((0 : Int) ≤ v0 ∧ v0 ≤ v1 ∧ (L0.length : Int) = v0 * ((4 : Nat) : Int) ∧ ((4 : Nat) ≠ 1 → v2 = v0 * ((4 : Nat) : Int)) ∧ ∀ j, j < L0.length → ((oneKind L2.ks4).getD (j % (oneKind L2.ks4).length) (.i .i64)).lo ≤ L0.getD j 0 ∧ L0.getD j 0 ≤ ((oneKind L2.ks4).getD (j % (oneKind L2.ks4).length) (.i .i64)).hi)) := hp
  show TlbFlush_t.dn ⟨_, []⟩ 6 [v5, v4, v3, v2, v1, v0] 1 [L0]
  rw [TlbFlush_vc]
  show ((L2.yes L2.f_messuagelaw2_begun).rel.pre [] [] ∧ _)
  refine ⟨trivial, fun _ => ?_⟩
  refine ⟨trivial, fun T0 hT0 => ?_⟩
  have hT0 : T0 = clearB (List.replicate 41 0) := by
    have : [T0] = [clearB (List.replicate 41 (0 : Int))] := hT0.2
    simpa using this
  refine ⟨fun xs ys => match xs, ys with | [i], [L] => 0 ≤ i ∧ WB L | _, _ => False, fun xs _ => match xs with | i :: _ => (12 - i).toNat | _ => 0, ?_, ?_⟩ <;> dsimp only
  · rw [hT0]; exact ⟨by omega, WB.start⟩
  · intro i L hI
    obtain ⟨i0, hW⟩ := hI
    refine ⟨fun c1 => ⟨fun c2 => ?_, fun c2 => ?_⟩, fun c1 => ?_⟩
    · have hv2 : v2 = v0 * 4 := by have := hp.2.2.2.2.1 (by decide); omega
      clear hp hr hl hT0
      simp only [fnSpec_post, fnSpec_pre, true_and, List.cons.injEq, and_true, List.getD_cons_zero, List.getD_cons_succ, and_imp, forall_eq, b2i_zero, b2i_eq, ne_eq, Bool.not_eq_false, Bool.not_eq_true', Bool.not_eq_false', decide_eq_true_eq, decide_eq_false_iff_not, Int.not_lt, Int.not_le]
      repeat' first | refine And.intro ?_ ?_ | intro _
      all_goals first | omega | skip
      all_goals (subst_vars; exact hW.fill _ _ _ _)
    ·
      refine ⟨trivial, fun lc lr Lw hw => ?_⟩
      have hw : Lw = linesB L := by
        have : [Lw] = [linesB L] := hw
        simpa using this
      refine ⟨trivial, fun okf La hf => ?_⟩
      have hf : [okf] = [b2i (decide (atB L v3 v4 ≠ -1))] ∧ [La] = [flushB L v3 v4] := hf
      have hok : okf = b2i (decide (atB L v3 v4 ≠ -1)) := by simpa using hf.1
      have hLa : La = flushB L v3 v4 := by simpa using hf.2
      refine ⟨trivial, fun nf Lb hn => ?_⟩
      have hn : [nf] = [(ffB La v5 8).2] ∧ [Lb] = [(ffB La v5 8).1] := hn
      have hnf : nf = (ffB La v5 8).2 := by simpa using hn.1
      have hLb : Lb = (ffB La v5 8).1 := by simpa using hn.2
      have hWa : WB La := by rw [hLa]; exact hW.flush _ _
      have hff := hWa.ff v5 8 (Nat.le_refl 8)
      rw [← hnf, ← hLb] at hff
      -- what the first flush leaves of a place
      have hcell : ∀ i c : Int, 0 ≤ i → i < 8 → 0 ≤ c → c < 4 → 0 ≤ gI L (5 * i) → gI La (5 * i + c) = if gI L (5 * i) = v3 ∧ gI L (5 * i + 1) = v4 then (if c = 0 then -1 else 0) else gI L (5 * i + c) := by
        intro i c i0 i8 c0 c4 hv
        rw [hLa]
        unfold flushB
        by_cases ha : atB L v3 v4 = -1
        · rw [if_pos ha, if_neg]
          rintro ⟨c1, c2⟩
          have := hW.at_of i0 i8 (by omega) c1 c2
          omega
        · rw [if_neg ha]
          obtain ⟨j, j0, j8, hj, _, g1, g2, _⟩ := hW.at_some ha
          rw [hj, gI_emptyB hW.len (by omega) (by omega) (by omega)]
          by_cases hij : i = j
          · subst hij
            rw [if_pos (c := gI L (5 * i) = v3 ∧ _) ⟨g1, g2⟩]
            by_cases h0 : c = 0
            · rw [if_pos (by omega), if_pos h0]
            · rw [if_neg (by omega), if_pos (by omega), if_neg h0]
          · rw [if_neg (by omega), if_neg (by omega), if_neg]
            rintro ⟨c1, c2⟩
            exact hij (hW.uniq i j i0 i8 j0 j8 hv (by omega) (by omega))
      have hinv : ∀ i : Int, 0 ≤ i → i < 8 → gI L (5 * i) < 0 → gI La (5 * i) < 0 := by
        intro i i0 i8 hv
        rw [hLa]
        unfold flushB
        split
        · exact hv
        · rename_i ha
          obtain ⟨j, j0, j8, hj, e0, g1, g2, _⟩ := hW.at_some ha
          rw [hj, gI_emptyB hW.len (by omega) (by omega) (by omega)]
          rw [if_neg (by intro c; have : i = j := by omega
                         subst this; omega), if_neg (by omega)]
          exact hv
      refine ⟨fun xs _ => match xs with | [i, m, t] => 0 ≤ i ∧ i ≤ 8 ∧ 0 ≤ m ∧ m ≤ i ∧ m = cntB La v5 i.toNat ∧ (t = 0 ∨ t = 1) ∧ (t = 1 → atB L v3 v4 ≠ -1) ∧ (t = 0 → NoHit L v3 v4 i) | _ => False, fun xs _ => match xs with | i :: _ => (8 - i).toNat | _ => 0, ?_, ?_⟩ <;> dsimp only
      · exact ⟨by omega, by omega, by omega, by omega, rfl, .inl rfl, fun c => by omega, fun _ => ⟨fun j h1 h2 => by omega⟩⟩
      · intro i m t hI2
        obtain ⟨i0', i8', m0, m8, hm, ht, ht1, ht0⟩ := hI2
        obtain ⟨k, rfl⟩ : ∃ k : Nat, i = k := ⟨i.toNat, by omega⟩
        rw [Int.toNat_natCast] at hm
        have hk1 : ((k : Int) + 1).toNat = k + 1 := by omega
        refine ⟨fun c3 => ?_, fun c3 => ?_⟩
        · have hk : k < 8 := by omega
          intro x1 f1 E fE x2 f2 Pg fP x3 f3 F fF x4 f4 R fR
          have gE : E = gI L (5 * k) := by
            rw [fE, f1, hw, show ((k : Int) * 4).toNat = k * 4 + 0 by omega, linesB_at hk (by omega), Int.mul_comm]; simp
          have gP : Pg = gI L (5 * k + 1) := by
            rw [fP, f2, f1, hw, show ((k : Int) * 4 + 1).toNat = k * 4 + 1 by omega, linesB_at hk (by omega), Int.mul_comm]; simp
          have gF : F = gI L (5 * k + 2) := by
            rw [fF, f3, f1, hw, show ((k : Int) * 4 + 2).toNat = k * 4 + 2 by omega, linesB_at hk (by omega), Int.mul_comm]; simp
          have gR : R = gI L (5 * k + 3) := by
            rw [fR, f4, f1, hw, show ((k : Int) * 4 + 3).toNat = k * 4 + 3 by omega, linesB_at hk (by omega), Int.mul_comm]; simp
          clear fE fP fF fR f1 f2 f3 f4
          refine ⟨trivial, fun a0 a1 a2 a3 th ha => ?_⟩
          have ha : [a0, a1, a2, a3, th] = [findB Lb E Pg 0, findB Lb E Pg 1, findB Lb E Pg 2, findB Lb E Pg 3, b2i (decide (atB Lb E Pg ≠ -1))] := ha
          simp only [List.cons.injEq, and_true] at ha
          obtain ⟨h0, h1, h2, h3, hth⟩ := ha
          -- the place in what is left
          have hA : 0 ≤ E → (th = 1 ∧ ¬ (E = v3 ∧ Pg = v4) ∧ F ≠ v5 ∧ a0 = E ∧ a1 = Pg ∧ a2 = F ∧ a3 = R) ∨ (th = 0 ∧ ((E = v3 ∧ Pg = v4) ∨ F = v5)) := by
            intro hE
            have q0 := hcell k 0 (by omega) (by omega) (by omega) (by omega) (by omega)
            have q1 := hcell k 1 (by omega) (by omega) (by omega) (by omega) (by omega)
            have q2 := hcell k 2 (by omega) (by omega) (by omega) (by omega) (by omega)
            have q3 := hcell k 3 (by omega) (by omega) (by omega) (by omega) (by omega)
            have r0 := hff.cell k 0 (by omega) (by omega) (by omega) (by omega)
            have r1 := hff.cell k 1 (by omega) (by omega) (by omega) (by omega)
            have r2 := hff.cell k 2 (by omega) (by omega) (by omega) (by omega)
            have r3 := hff.cell k 3 (by omega) (by omega) (by omega) (by omega)
            rw [← gE, ← gP] at q0 q1 q2 q3
            rw [← gF] at q2
            rw [← gR] at q3
            rw [Int.add_zero] at q0 r0
            have hkk : (k : Int) < ((8 : Nat) : Int) := by omega
            -- whoever is found there is this one
            have only : atB Lb E Pg ≠ -1 → atB Lb E Pg = 5 * (k : Int) ∧ gI Lb (5 * k) = E := by
              intro hne
              obtain ⟨j, j0, j8, hj, _, g1, g2, _⟩ := hff.wb.at_some hne
              have s0 := hff.cell j 0 j0 j8 (by omega) (by omega)
              have s1 := hff.cell j 1 j0 j8 (by omega) (by omega)
              rw [Int.add_zero] at s0
              have hv : 0 ≤ gI L (5 * j) := by
                cases Decidable.em (0 ≤ gI L (5 * j)) with
                | inl h => exact h
                | inr h =>
                  have := hinv j j0 j8 (by omega)
                  rw [if_neg (by omega)] at s0
                  omega
              have t0 := hcell j 0 j0 j8 (by omega) (by omega) hv
              have t1 := hcell j 1 j0 j8 (by omega) (by omega) hv
              rw [Int.add_zero] at t0
              have hnf : ¬ (j < ((8 : Nat) : Int) ∧ 0 ≤ gI La (5 * j) ∧ gI La (5 * j + 2) = v5) := by
                intro c; rw [if_pos c] at s0; simp at s0; omega
              rw [if_neg hnf] at s0 s1
              have hng : ¬ (gI L (5 * j) = v3 ∧ gI L (5 * j + 1) = v4) := by
                intro c; rw [if_pos c] at t0; simp at t0; omega
              rw [if_neg hng] at t0 t1
              have := hW.uniq j k j0 j8 (by omega) (by omega) hv (by omega) (by omega)
              subst this
              exact ⟨hj, g1⟩
            by_cases hg : E = v3 ∧ Pg = v4
            · right
              refine ⟨?_, .inl hg⟩
              rw [if_pos hg] at q0
              simp at q0
              rw [if_neg (by omega)] at r0
              have : atB Lb E Pg = -1 := by
                cases Decidable.em (atB Lb E Pg = -1) with
                | inl h => exact h
                | inr h => have := (only h).2; omega
              rw [hth, this]; rfl
            · rw [if_neg hg] at q0 q1 q2 q3
              rw [← gE] at q0
              by_cases hfr : F = v5
              · right
                refine ⟨?_, .inr hfr⟩
                rw [if_pos ⟨hkk, by omega, by omega⟩] at r0
                simp at r0
                have : atB Lb E Pg = -1 := by
                  cases Decidable.em (atB Lb E Pg = -1) with
                  | inl h => exact h
                  | inr h => have := (only h).2; omega
                rw [hth, this]; rfl
              · left
                rw [if_neg (by omega)] at r0 r1 r2 r3
                have hat : atB Lb E Pg = 5 * (k : Int) := hff.wb.at_of (by omega) (by omega) hE (by omega) (by omega)
                refine ⟨?_, hg, hfr, ?_, ?_, ?_, ?_⟩
                · rw [hth, hat]; simp [b2i]; omega
                · rw [h0]; unfold findB; rw [hat, if_neg (by omega), Int.add_zero]; omega
                · rw [h1]; unfold findB; rw [hat, if_neg (by omega)]; omega
                · rw [h2]; unfold findB; rw [hat, if_neg (by omega)]; omega
                · rw [h3]; unfold findB; rw [hat, if_neg (by omega)]; omega
          have hth01 : th = 0 ∨ th = 1 := by rw [hth]; cases decide (atB Lb E Pg ≠ -1) <;> simp [b2i]
          have hB : cntB La v5 (k + 1) = cntB La v5 k + (if 0 ≤ E ∧ ¬ (E = v3 ∧ Pg = v4) ∧ F = v5 then 1 else 0) := by
            simp only [cntB]
            congr 1
            by_cases hE : 0 ≤ E
            · have q0 := hcell k 0 (by omega) (by omega) (by omega) (by omega) (by omega)
              have q2 := hcell k 2 (by omega) (by omega) (by omega) (by omega) (by omega)
              rw [Int.add_zero] at q0
              rw [← gE, ← gP] at q0 q2
              by_cases hg : E = v3 ∧ Pg = v4
              · rw [if_pos hg] at q0
                simp at q0
                rw [if_neg (by omega), if_neg (fun c => c.2.1 hg)]
              · rw [if_neg hg] at q0 q2
                rw [← gF] at q2
                by_cases hfr : F = v5
                · rw [if_pos ⟨by omega, by omega⟩, if_pos ⟨hE, hg, hfr⟩]
                · rw [if_neg (by omega), if_neg (fun c => hfr c.2.2)]
            · have := hinv k (by omega) (by omega) (by omega)
              rw [if_neg (by omega), if_neg (fun c => hE c.1)]
          have hC : 0 ≤ E → E = v3 → Pg = v4 → atB L v3 v4 ≠ -1 := by
            intro hE c1 c2
            have := hW.at_of (i := k) (by omega) (by omega) (by omega) (by omega) (by omega) (e := v3) (p := v4)
            omega
          have hD : NoHit L v3 v4 k → ¬ (0 ≤ E ∧ E = v3 ∧ Pg = v4) → NoHit L v3 v4 (k + 1) := by
            intro hno hc
            refine ⟨fun j j0 j1 c => ?_⟩
            by_cases hj : j = k
            · subst hj; exact hc ⟨by omega, by omega, by omega⟩
            · exact hno.no j j0 (by omega) c
          rw [← hm] at hB
          clear hcell hinv hff hn hf hw hWa h0 h1 h2 h3 hth hLa hLb hnf hok
          simp only [forall_eq, hk1, hB, b2i, beq_iff_eq]
          repeat' first | refine And.intro ?_ ?_ | intro _
          all_goals first | omega | grind
        · have hk : k = 8 := by omega
          subst hk
          have hhit : okf = t := by
            rw [hok]
            rcases ht with ht | ht
            · have hno := ht0 ht
              have : atB L v3 v4 = -1 := by
                cases Decidable.em (atB L v3 v4 = -1) with
                | inl h => exact h
                | inr h =>
                  obtain ⟨j, j0, j8, hj, e0, g1, g2, _⟩ := hW.at_some h
                  exact absurd ⟨by omega, g1, g2⟩ (hno.no j j0 j8)
              rw [this, ht]; rfl
            · have := ht1 ht
              rw [ht]; simp [b2i, this]
          have hcnt : nf = m := by rw [hff.cnt, hm]
          subst hhit hcnt
          simp only [forall_eq]
          repeat' first | refine And.intro ?_ ?_ | intro _
          all_goals first | trivial | omega | simp_all [b2i]
    ·
      refine ⟨trivial, fun lc lr Lw hw => ?_⟩
      have hw : Lw = linesB L := by
        have : [Lw] = [linesB L] := hw
        simpa using this
      refine ⟨trivial, fun okf La hf => ?_⟩
      have hf : [okf] = [b2i (decide (atB L v3 v4 ≠ -1))] ∧ [La] = [flushB L v3 v4] := hf
      have hok : okf = b2i (decide (atB L v3 v4 ≠ -1)) := by simpa using hf.1
      have hLa : La = flushB L v3 v4 := by simpa using hf.2
      refine ⟨trivial, fun nf Lb hn => ?_⟩
      have hn : [nf] = [(ffB La v5 8).2] ∧ [Lb] = [(ffB La v5 8).1] := hn
      have hnf : nf = (ffB La v5 8).2 := by simpa using hn.1
      have hLb : Lb = (ffB La v5 8).1 := by simpa using hn.2
      have hWa : WB La := by rw [hLa]; exact hW.flush _ _
      have hff := hWa.ff v5 8 (Nat.le_refl 8)
      rw [← hnf, ← hLb] at hff
      -- what the first flush leaves of a place
      have hcell : ∀ i c : Int, 0 ≤ i → i < 8 → 0 ≤ c → c < 4 → 0 ≤ gI L (5 * i) → gI La (5 * i + c) = if gI L (5 * i) = v3 ∧ gI L (5 * i + 1) = v4 then (if c = 0 then -1 else 0) else gI L (5 * i + c) := by
        intro i c i0 i8 c0 c4 hv
        rw [hLa]
        unfold flushB
        by_cases ha : atB L v3 v4 = -1
        · rw [if_pos ha, if_neg]
          rintro ⟨c1, c2⟩
          have := hW.at_of i0 i8 (by omega) c1 c2
          omega
        · rw [if_neg ha]
          obtain ⟨j, j0, j8, hj, _, g1, g2, _⟩ := hW.at_some ha
          rw [hj, gI_emptyB hW.len (by omega) (by omega) (by omega)]
          by_cases hij : i = j
          · subst hij
            rw [if_pos (c := gI L (5 * i) = v3 ∧ _) ⟨g1, g2⟩]
            by_cases h0 : c = 0
            · rw [if_pos (by omega), if_pos h0]
            · rw [if_neg (by omega), if_pos (by omega), if_neg h0]
          · rw [if_neg (by omega), if_neg (by omega), if_neg]
            rintro ⟨c1, c2⟩
            exact hij (hW.uniq i j i0 i8 j0 j8 hv (by omega) (by omega))
      have hinv : ∀ i : Int, 0 ≤ i → i < 8 → gI L (5 * i) < 0 → gI La (5 * i) < 0 := by
        intro i i0 i8 hv
        rw [hLa]
        unfold flushB
        split
        · exact hv
        · rename_i ha
          obtain ⟨j, j0, j8, hj, e0, g1, g2, _⟩ := hW.at_some ha
          rw [hj, gI_emptyB hW.len (by omega) (by omega) (by omega)]
          rw [if_neg (by intro c; have : i = j := by omega
                         subst this; omega), if_neg (by omega)]
          exact hv
      refine ⟨fun xs _ => match xs with | [i, m, t] => 0 ≤ i ∧ i ≤ 8 ∧ 0 ≤ m ∧ m ≤ i ∧ m = cntB La v5 i.toNat ∧ (t = 0 ∨ t = 1) ∧ (t = 1 → atB L v3 v4 ≠ -1) ∧ (t = 0 → NoHit L v3 v4 i) | _ => False, fun xs _ => match xs with | i :: _ => (8 - i).toNat | _ => 0, ?_, ?_⟩ <;> dsimp only
      · exact ⟨by omega, by omega, by omega, by omega, rfl, .inl rfl, fun c => by omega, fun _ => ⟨fun j h1 h2 => by omega⟩⟩
      · intro i m t hI2
        obtain ⟨i0', i8', m0, m8, hm, ht, ht1, ht0⟩ := hI2
        obtain ⟨k, rfl⟩ : ∃ k : Nat, i = k := ⟨i.toNat, by omega⟩
        rw [Int.toNat_natCast] at hm
        have hk1 : ((k : Int) + 1).toNat = k + 1 := by omega
        refine ⟨fun c3 => ?_, fun c3 => ?_⟩
        · have hk : k < 8 := by omega
          intro x1 f1 E fE x2 f2 Pg fP x3 f3 F fF x4 f4 R fR
          have gE : E = gI L (5 * k) := by
            rw [fE, f1, hw, show ((k : Int) * 4).toNat = k * 4 + 0 by omega, linesB_at hk (by omega), Int.mul_comm]; simp
          have gP : Pg = gI L (5 * k + 1) := by
            rw [fP, f2, f1, hw, show ((k : Int) * 4 + 1).toNat = k * 4 + 1 by omega, linesB_at hk (by omega), Int.mul_comm]; simp
          have gF : F = gI L (5 * k + 2) := by
            rw [fF, f3, f1, hw, show ((k : Int) * 4 + 2).toNat = k * 4 + 2 by omega, linesB_at hk (by omega), Int.mul_comm]; simp
          have gR : R = gI L (5 * k + 3) := by
            rw [fR, f4, f1, hw, show ((k : Int) * 4 + 3).toNat = k * 4 + 3 by omega, linesB_at hk (by omega), Int.mul_comm]; simp
          clear fE fP fF fR f1 f2 f3 f4
          refine ⟨trivial, fun a0 a1 a2 a3 th ha => ?_⟩
          have ha : [a0, a1, a2, a3, th] = [findB Lb E Pg 0, findB Lb E Pg 1, findB Lb E Pg 2, findB Lb E Pg 3, b2i (decide (atB Lb E Pg ≠ -1))] := ha
          simp only [List.cons.injEq, and_true] at ha
          obtain ⟨h0, h1, h2, h3, hth⟩ := ha
          -- the place in what is left
          have hA : 0 ≤ E → (th = 1 ∧ ¬ (E = v3 ∧ Pg = v4) ∧ F ≠ v5 ∧ a0 = E ∧ a1 = Pg ∧ a2 = F ∧ a3 = R) ∨ (th = 0 ∧ ((E = v3 ∧ Pg = v4) ∨ F = v5)) := by
            intro hE
            have q0 := hcell k 0 (by omega) (by omega) (by omega) (by omega) (by omega)
            have q1 := hcell k 1 (by omega) (by omega) (by omega) (by omega) (by omega)
            have q2 := hcell k 2 (by omega) (by omega) (by omega) (by omega) (by omega)
            have q3 := hcell k 3 (by omega) (by omega) (by omega) (by omega) (by omega)
            have r0 := hff.cell k 0 (by omega) (by omega) (by omega) (by omega)
            have r1 := hff.cell k 1 (by omega) (by omega) (by omega) (by omega)
            have r2 := hff.cell k 2 (by omega) (by omega) (by omega) (by omega)
            have r3 := hff.cell k 3 (by omega) (by omega) (by omega) (by omega)
            rw [← gE, ← gP] at q0 q1 q2 q3
            rw [← gF] at q2
            rw [← gR] at q3
            rw [Int.add_zero] at q0 r0
            have hkk : (k : Int) < ((8 : Nat) : Int) := by omega
            -- whoever is found there is this one
            have only : atB Lb E Pg ≠ -1 → atB Lb E Pg = 5 * (k : Int) ∧ gI Lb (5 * k) = E := by
              intro hne
              obtain ⟨j, j0, j8, hj, _, g1, g2, _⟩ := hff.wb.at_some hne
              have s0 := hff.cell j 0 j0 j8 (by omega) (by omega)
              have s1 := hff.cell j 1 j0 j8 (by omega) (by omega)
              rw [Int.add_zero] at s0
              have hv : 0 ≤ gI L (5 * j) := by
                cases Decidable.em (0 ≤ gI L (5 * j)) with
                | inl h => exact h
                | inr h =>
                  have := hinv j j0 j8 (by omega)
                  rw [if_neg (by omega)] at s0
                  omega
              have t0 := hcell j 0 j0 j8 (by omega) (by omega) hv
              have t1 := hcell j 1 j0 j8 (by omega) (by omega) hv
              rw [Int.add_zero] at t0
              have hnf : ¬ (j < ((8 : Nat) : Int) ∧ 0 ≤ gI La (5 * j) ∧ gI La (5 * j + 2) = v5) := by
                intro c; rw [if_pos c] at s0; simp at s0; omega
              rw [if_neg hnf] at s0 s1
              have hng : ¬ (gI L (5 * j) = v3 ∧ gI L (5 * j + 1) = v4) := by
                intro c; rw [if_pos c] at t0; simp at t0; omega
              rw [if_neg hng] at t0 t1
              have := hW.uniq j k j0 j8 (by omega) (by omega) hv (by omega) (by omega)
              subst this
              exact ⟨hj, g1⟩
            by_cases hg : E = v3 ∧ Pg = v4
            · right
              refine ⟨?_, .inl hg⟩
              rw [if_pos hg] at q0
              simp at q0
              rw [if_neg (by omega)] at r0
              have : atB Lb E Pg = -1 := by
                cases Decidable.em (atB Lb E Pg = -1) with
                | inl h => exact h
                | inr h => have := (only h).2; omega
              rw [hth, this]; rfl
            · rw [if_neg hg] at q0 q1 q2 q3
              rw [← gE] at q0
              by_cases hfr : F = v5
              · right
                refine ⟨?_, .inr hfr⟩
                rw [if_pos ⟨hkk, by omega, by omega⟩] at r0
                simp at r0
                have : atB Lb E Pg = -1 := by
                  cases Decidable.em (atB Lb E Pg = -1) with
                  | inl h => exact h
                  | inr h => have := (only h).2; omega
                rw [hth, this]; rfl
              · left
                rw [if_neg (by omega)] at r0 r1 r2 r3
                have hat : atB Lb E Pg = 5 * (k : Int) := hff.wb.at_of (by omega) (by omega) hE (by omega) (by omega)
                refine ⟨?_, hg, hfr, ?_, ?_, ?_, ?_⟩
                · rw [hth, hat]; simp [b2i]; omega
                · rw [h0]; unfold findB; rw [hat, if_neg (by omega), Int.add_zero]; omega
                · rw [h1]; unfold findB; rw [hat, if_neg (by omega)]; omega
                · rw [h2]; unfold findB; rw [hat, if_neg (by omega)]; omega
                · rw [h3]; unfold findB; rw [hat, if_neg (by omega)]; omega
          have hth01 : th = 0 ∨ th = 1 := by rw [hth]; cases decide (atB Lb E Pg ≠ -1) <;> simp [b2i]
          have hB : cntB La v5 (k + 1) = cntB La v5 k + (if 0 ≤ E ∧ ¬ (E = v3 ∧ Pg = v4) ∧ F = v5 then 1 else 0) := by
            simp only [cntB]
            congr 1
            by_cases hE : 0 ≤ E
            · have q0 := hcell k 0 (by omega) (by omega) (by omega) (by omega) (by omega)
              have q2 := hcell k 2 (by omega) (by omega) (by omega) (by omega) (by omega)
              rw [Int.add_zero] at q0
              rw [← gE, ← gP] at q0 q2
              by_cases hg : E = v3 ∧ Pg = v4
              · rw [if_pos hg] at q0
                simp at q0
                rw [if_neg (by omega), if_neg (fun c => c.2.1 hg)]
              · rw [if_neg hg] at q0 q2
                rw [← gF] at q2
                by_cases hfr : F = v5
                · rw [if_pos ⟨by omega, by omega⟩, if_pos ⟨hE, hg, hfr⟩]
                · rw [if_neg (by omega), if_neg (fun c => hfr c.2.2)]
            · have := hinv k (by omega) (by omega) (by omega)
              rw [if_neg (by omega), if_neg (fun c => hE c.1)]
          have hC : 0 ≤ E → E = v3 → Pg = v4 → atB L v3 v4 ≠ -1 := by
            intro hE c1 c2
            have := hW.at_of (i := k) (by omega) (by omega) (by omega) (by omega) (by omega) (e := v3) (p := v4)
            omega
          have hD : NoHit L v3 v4 k → ¬ (0 ≤ E ∧ E = v3 ∧ Pg = v4) → NoHit L v3 v4 (k + 1) := by
            intro hno hc
            refine ⟨fun j j0 j1 c => ?_⟩
            by_cases hj : j = k
            · subst hj; exact hc ⟨by omega, by omega, by omega⟩
            · exact hno.no j j0 (by omega) c
          rw [← hm] at hB
          clear hcell hinv hff hn hf hw hWa h0 h1 h2 h3 hth hLa hLb hnf hok
          simp only [forall_eq, hk1, hB, b2i, beq_iff_eq]
          repeat' first | refine And.intro ?_ ?_ | intro _
          all_goals first | omega | grind
        · have hk : k = 8 := by omega
          subst hk
          have hhit : okf = t := by
            rw [hok]
            rcases ht with ht | ht
            · have hno := ht0 ht
              have : atB L v3 v4 = -1 := by
                cases Decidable.em (atB L v3 v4 = -1) with
                | inl h => exact h
                | inr h =>
                  obtain ⟨j, j0, j8, hj, e0, g1, g2, _⟩ := hW.at_some h
                  exact absurd ⟨by omega, g1, g2⟩ (hno.no j j0 j8)
              rw [this, ht]; rfl
            · have := ht1 ht
              rw [ht]; simp [b2i, this]
          have hcnt : nf = m := by rw [hff.cnt, hm]
          subst hhit hcnt
          simp only [forall_eq]
          repeat' first | refine And.intro ?_ ?_ | intro _
          all_goals first | trivial | omega | simp_all [b2i])
theorem tlbFlush_holds : ((lawSpec 22 [.slc L2.ks4, .one (.i .i64), .one (.i .i64), .one (.i .i64)]).withPre fun _ => True).Holds Tryz.prog L2.ro := holds_withPre _ tlbFlush_holds0

end Go.Proofs.YthjfkblnbecjgaaGreatDoor
