/- The statement messuagelaw11.PlainFull of the seat: for every input the law returns true; the condition: errors.errorType is as the program lays it. -/
import Derived.Test.YtbpilohnhhbbpaaGreatDoorL2B
import Derived.Test.YtbpilohnhhbbpaaGreatDoorSxM7
import Derived.Test.YtbpilohnhhbbpaaGreatDoorL2Pb
import Derived.Test.YtbpilohnhhbbpaaGreatDoorL2Yh
import Derived.Test.YtbpilohnhhbbpaaGreatDoorL2Ff
import Derived.Test.YtbpilohnhhbbpaaGreatDoorPuM
set_option linter.unusedVariables false
set_option linter.constructorNameAsVariable false
set_option linter.unusedSimpArgs false
open Go Go.Sx
namespace Go.Proofs.YtbpilohnhhbbpaaGreatDoor
open Go.ChangeShapes Go.WideShapes Go.RowKit
set_option maxRecDepth 100000

noncomputable def PlainFull_t : Tree := .call 19 (Go.Sx.L2.yes Go.Sx.L2.f_messuagelaw11_begun).rel [] [] 0 0 (.call 77 (Go.Sx.L2.pNew2).rel [] [] 2 0 (.call 10 (Go.Sx.L2.qH1).rel [.v 2, .v 3] [] 0 0 (.letI (.cmp .lss (.c 0) (.v 0)) (.ite (.v 4) (.letI (.get 0 (.c 0)) (.letL (.lit [.c (1), .c (0)]) (.letL (.lit [.c (0), .c (3), .c (-1), .c (0), .c (0), .c (0), .c (0), .c (0), .c (0), .c (0), .c (0), .c (0), .c (0), .c (0), .c (0), .c (0), .c (0), .c (0), .c (0), .c (0), .c (0), .c (0), .c (0), .c (0), .c (0), .c (0), .c (0), .c (0), .c (0), .c (0), .c (0), .c (0), .c (0), .c (0), .c (0), .c (0), .c (0), .c (0), .c (0), .c (0), .c (0), .c (0), .c (0), .c (0), .c (0), .c (0), .c (0), .c (0), .c (0), .c (0), .c (0), .c (0), .c (0), .c (0), .c (0), .c (0), .c (0), .c (0), .c (0), .c (0), .c (0), .c (0), .c (0), .c (0)]) (.call 10 (Go.Sx.L2.fD).rel [.v 2, .v 3, .c (0), .c (1)] [2, 1] 1 2 (.letI (.cmp .neq (.v 6) (.c 0)) (.ite (.v 7) (.fail 180) (.letI (.cmp .lss (.c 1) (.v 0)) (.ite (.v 8) (.letI (.get 0 (.c 1)) (.letI (.rem (.v 9) (.c 2)) (.letI (.add (.v 10) (.c 2)) (.letI (.rem (.v 11) (.c 2)) (.call 10 (Go.Sx.L2.fD).rel [.v 2, .v 3, .v 12, .c (2)] [3, 4] 1 2 (.letI (.cmp .neq (.v 13) (.c 0)) (.ite (.v 14) (.fail 180) (.letI (.cmp .lss (.c 2) (.v 0)) (.ite (.v 15) (.letI (.get 0 (.c 2)) (.letI (.rem (.v 16) (.c 3)) (.letI (.add (.v 17) (.c 3)) (.letI (.rem (.v 18) (.c 3)) (.call 10 (Go.Sx.L2.fD).rel [.v 2, .v 3, .v 19, .c (3)] [5, 6] 1 2 (.letI (.cmp .neq (.v 20) (.c 0)) (.ite (.v 21) (.fail 180) (.letI (.cmp .lss (.c 3) (.v 0)) (.ite (.v 22) (.letI (.get 0 (.c 3)) (.letI (.rem (.v 23) (.c 4)) (.letI (.add (.v 24) (.c 4)) (.letI (.rem (.v 25) (.c 4)) (.call 10 (Go.Sx.L2.fD).rel [.v 2, .v 3, .v 26, .c (4)] [7, 8] 1 2 (.letI (.cmp .neq (.v 27) (.c 0)) (.ite (.v 28) (.fail 180) (.letI (.cmp .lss (.c 4) (.v 0)) (.ite (.v 29) (.letI (.get 0 (.c 4)) (.letI (.rem (.v 30) (.c 5)) (.letI (.add (.v 31) (.c 5)) (.letI (.rem (.v 32) (.c 5)) (.call 10 (Go.Sx.L2.fD).rel [.v 2, .v 3, .v 33, .c (5)] [9, 10] 1 2 (.letI (.cmp .neq (.v 34) (.c 0)) (.ite (.v 35) (.fail 180) (.letI (.cmp .lss (.c 5) (.v 0)) (.ite (.v 36) (.letI (.get 0 (.c 5)) (.letI (.rem (.v 37) (.c 6)) (.letI (.add (.v 38) (.c 6)) (.letI (.rem (.v 39) (.c 6)) (.call 10 (Go.Sx.L2.fD).rel [.v 2, .v 3, .v 40, .c (6)] [11, 12] 1 2 (.letI (.cmp .neq (.v 41) (.c 0)) (.ite (.v 42) (.fail 180) (.letI (.cmp .lss (.c 6) (.v 0)) (.ite (.v 43) (.letI (.get 0 (.c 6)) (.letI (.rem (.v 44) (.c 7)) (.letI (.add (.v 45) (.c 7)) (.letI (.rem (.v 46) (.c 7)) (.call 10 (Go.Sx.L2.fD).rel [.v 2, .v 3, .v 47, .c (7)] [13, 14] 1 2 (.letI (.cmp .neq (.v 48) (.c 6)) (.ite (.v 49) (.fail 180) (.letI (.cmp .lss (.c 7) (.v 0)) (.ite (.v 50) (.letI (.get 0 (.c 7)) (.letI (.rem (.v 51) (.c 7)) (.letI (.add (.v 52) (.c 7)) (.letI (.rem (.v 53) (.c 7)) (.call 10 (Go.Sx.L2.fD).rel [.v 2, .v 3, .v 54, .c (7)] [15, 16] 1 2 (.letI (.cmp .neq (.v 55) (.c 6)) (.ite (.v 56) (.fail 180) (.letI (.cmp .lss (.c 8) (.v 0)) (.ite (.v 57) (.letI (.get 0 (.c 8)) (.letI (.rem (.v 58) (.c 7)) (.letI (.add (.v 59) (.c 7)) (.letI (.rem (.v 60) (.c 7)) (.call 10 (Go.Sx.L2.fD).rel [.v 2, .v 3, .v 61, .c (7)] [17, 18] 1 2 (.letI (.cmp .neq (.v 62) (.c 6)) (.ite (.v 63) (.fail 180) (.call 10 (Go.Sx.L2.fG).rel [.v 2, .v 3] [19, 20] 1 2 (.letL (.lit [.c (0), .c (0), .c (0), .c (0), .c (0), .c (0), .c (0), .c (0), .c (0), .c (0), .c (0), .c (0), .c (0), .c (0), .c (0), .c (0), .c (0), .c (0), .c (0), .c (0), .c (0), .c (0), .c (0), .c (0)]) (.letL (.lit [.c (0), .c (0), .c (0), .c (0), .c (0), .c (0), .c (0), .c (0), .c (0), .c (0), .c (0), .c (0), .c (0), .c (0), .c (0), .c (0), .c (0), .c (0), .c (0), .c (0), .c (0), .c (0), .c (0), .c (0)]) (.call 10 (Go.Sx.L2.fX).rel [.v 2, .v 3] [21, 22, 23, 24] 1 4 (.letI (.cmp .eql (.v 64) (.c 6)) (.ite (.v 66) (.letI (.cmp .eql (.v 65) (.c 7)) (.letI (.pick (.v 67) (.c 1) (.c 0)) (.ite (.v 68) (.letI (.get 26 (.c 0)) (.letI (.cmp .eql (.v 69) (.c 0)) (.ite (.v 70) (.any (.c 1) (.c 9223372036854775807) (.letI (.get 26 (.c 1)) (.letI (.cmp .eql (.v 72) (.c 0)) (.ite (.v 73) (.any (.c 2) (.c 9223372036854775807) (.done [] [])) (.fail 180))))) (.letI (.get 26 (.c 1)) (.letI (.cmp .eql (.v 71) (.c 0)) (.ite (.v 72) (.any (.c 1) (.c 9223372036854775807) (.fail 180)) (.fail 180))))))) (.fail 180)))) (.fail 180)))))))))))))) (.call 10 (Go.Sx.L2.fD).rel [.v 2, .v 3, .c (0), .c (7)] [17, 18] 1 2 (.letI (.cmp .neq (.v 58) (.c 6)) (.ite (.v 59) (.fail 180) (.call 10 (Go.Sx.L2.fG).rel [.v 2, .v 3] [19, 20] 1 2 (.letL (.lit [.c (0), .c (0), .c (0), .c (0), .c (0), .c (0), .c (0), .c (0), .c (0), .c (0), .c (0), .c (0), .c (0), .c (0), .c (0), .c (0), .c (0), .c (0), .c (0), .c (0), .c (0), .c (0), .c (0), .c (0)]) (.letL (.lit [.c (0), .c (0), .c (0), .c (0), .c (0), .c (0), .c (0), .c (0), .c (0), .c (0), .c (0), .c (0), .c (0), .c (0), .c (0), .c (0), .c (0), .c (0), .c (0), .c (0), .c (0), .c (0), .c (0), .c (0)]) (.call 10 (Go.Sx.L2.fX).rel [.v 2, .v 3] [21, 22, 23, 24] 1 4 (.letI (.cmp .eql (.v 60) (.c 6)) (.ite (.v 62) (.letI (.cmp .eql (.v 61) (.c 7)) (.letI (.pick (.v 63) (.c 1) (.c 0)) (.ite (.v 64) (.letI (.get 26 (.c 0)) (.letI (.cmp .eql (.v 65) (.c 0)) (.ite (.v 66) (.any (.c 1) (.c 9223372036854775807) (.letI (.get 26 (.c 1)) (.letI (.cmp .eql (.v 68) (.c 0)) (.ite (.v 69) (.any (.c 2) (.c 9223372036854775807) (.done [] [])) (.fail 180))))) (.letI (.get 26 (.c 1)) (.letI (.cmp .eql (.v 67) (.c 0)) (.ite (.v 68) (.any (.c 1) (.c 9223372036854775807) (.fail 180)) (.fail 180))))))) (.fail 180)))) (.fail 180))))))))))))))))))) (.call 10 (Go.Sx.L2.fD).rel [.v 2, .v 3, .c (0), .c (7)] [15, 16] 1 2 (.letI (.cmp .neq (.v 51) (.c 6)) (.ite (.v 52) (.fail 180) (.call 10 (Go.Sx.L2.fD).rel [.v 2, .v 3, .c (0), .c (7)] [17, 18] 1 2 (.letI (.cmp .neq (.v 53) (.c 6)) (.ite (.v 54) (.fail 180) (.call 10 (Go.Sx.L2.fG).rel [.v 2, .v 3] [19, 20] 1 2 (.letL (.lit [.c (0), .c (0), .c (0), .c (0), .c (0), .c (0), .c (0), .c (0), .c (0), .c (0), .c (0), .c (0), .c (0), .c (0), .c (0), .c (0), .c (0), .c (0), .c (0), .c (0), .c (0), .c (0), .c (0), .c (0)]) (.letL (.lit [.c (0), .c (0), .c (0), .c (0), .c (0), .c (0), .c (0), .c (0), .c (0), .c (0), .c (0), .c (0), .c (0), .c (0), .c (0), .c (0), .c (0), .c (0), .c (0), .c (0), .c (0), .c (0), .c (0), .c (0)]) (.call 10 (Go.Sx.L2.fX).rel [.v 2, .v 3] [21, 22, 23, 24] 1 4 (.letI (.cmp .eql (.v 55) (.c 6)) (.ite (.v 57) (.letI (.cmp .eql (.v 56) (.c 7)) (.letI (.pick (.v 58) (.c 1) (.c 0)) (.ite (.v 59) (.letI (.get 26 (.c 0)) (.letI (.cmp .eql (.v 60) (.c 0)) (.ite (.v 61) (.any (.c 1) (.c 9223372036854775807) (.letI (.get 26 (.c 1)) (.letI (.cmp .eql (.v 63) (.c 0)) (.ite (.v 64) (.any (.c 2) (.c 9223372036854775807) (.done [] [])) (.fail 180))))) (.letI (.get 26 (.c 1)) (.letI (.cmp .eql (.v 62) (.c 0)) (.ite (.v 63) (.any (.c 1) (.c 9223372036854775807) (.fail 180)) (.fail 180))))))) (.fail 180)))) (.fail 180)))))))))))))))))))))) (.call 10 (Go.Sx.L2.fD).rel [.v 2, .v 3, .c (0), .c (7)] [13, 14] 1 2 (.letI (.cmp .neq (.v 44) (.c 6)) (.ite (.v 45) (.fail 180) (.call 10 (Go.Sx.L2.fD).rel [.v 2, .v 3, .c (0), .c (7)] [15, 16] 1 2 (.letI (.cmp .neq (.v 46) (.c 6)) (.ite (.v 47) (.fail 180) (.call 10 (Go.Sx.L2.fD).rel [.v 2, .v 3, .c (0), .c (7)] [17, 18] 1 2 (.letI (.cmp .neq (.v 48) (.c 6)) (.ite (.v 49) (.fail 180) (.call 10 (Go.Sx.L2.fG).rel [.v 2, .v 3] [19, 20] 1 2 (.letL (.lit [.c (0), .c (0), .c (0), .c (0), .c (0), .c (0), .c (0), .c (0), .c (0), .c (0), .c (0), .c (0), .c (0), .c (0), .c (0), .c (0), .c (0), .c (0), .c (0), .c (0), .c (0), .c (0), .c (0), .c (0)]) (.letL (.lit [.c (0), .c (0), .c (0), .c (0), .c (0), .c (0), .c (0), .c (0), .c (0), .c (0), .c (0), .c (0), .c (0), .c (0), .c (0), .c (0), .c (0), .c (0), .c (0), .c (0), .c (0), .c (0), .c (0), .c (0)]) (.call 10 (Go.Sx.L2.fX).rel [.v 2, .v 3] [21, 22, 23, 24] 1 4 (.letI (.cmp .eql (.v 50) (.c 6)) (.ite (.v 52) (.letI (.cmp .eql (.v 51) (.c 7)) (.letI (.pick (.v 53) (.c 1) (.c 0)) (.ite (.v 54) (.letI (.get 26 (.c 0)) (.letI (.cmp .eql (.v 55) (.c 0)) (.ite (.v 56) (.any (.c 1) (.c 9223372036854775807) (.letI (.get 26 (.c 1)) (.letI (.cmp .eql (.v 58) (.c 0)) (.ite (.v 59) (.any (.c 2) (.c 9223372036854775807) (.done [] [])) (.fail 180))))) (.letI (.get 26 (.c 1)) (.letI (.cmp .eql (.v 57) (.c 0)) (.ite (.v 58) (.any (.c 1) (.c 9223372036854775807) (.fail 180)) (.fail 180))))))) (.fail 180)))) (.fail 180))))))))))))))))))))))))) (.call 10 (Go.Sx.L2.fD).rel [.v 2, .v 3, .c (0), .c (6)] [11, 12] 1 2 (.letI (.cmp .neq (.v 37) (.c 0)) (.ite (.v 38) (.fail 180) (.call 10 (Go.Sx.L2.fD).rel [.v 2, .v 3, .c (0), .c (7)] [13, 14] 1 2 (.letI (.cmp .neq (.v 39) (.c 6)) (.ite (.v 40) (.fail 180) (.call 10 (Go.Sx.L2.fD).rel [.v 2, .v 3, .c (0), .c (7)] [15, 16] 1 2 (.letI (.cmp .neq (.v 41) (.c 6)) (.ite (.v 42) (.fail 180) (.call 10 (Go.Sx.L2.fD).rel [.v 2, .v 3, .c (0), .c (7)] [17, 18] 1 2 (.letI (.cmp .neq (.v 43) (.c 6)) (.ite (.v 44) (.fail 180) (.call 10 (Go.Sx.L2.fG).rel [.v 2, .v 3] [19, 20] 1 2 (.letL (.lit [.c (0), .c (0), .c (0), .c (0), .c (0), .c (0), .c (0), .c (0), .c (0), .c (0), .c (0), .c (0), .c (0), .c (0), .c (0), .c (0), .c (0), .c (0), .c (0), .c (0), .c (0), .c (0), .c (0), .c (0)]) (.letL (.lit [.c (0), .c (0), .c (0), .c (0), .c (0), .c (0), .c (0), .c (0), .c (0), .c (0), .c (0), .c (0), .c (0), .c (0), .c (0), .c (0), .c (0), .c (0), .c (0), .c (0), .c (0), .c (0), .c (0), .c (0)]) (.call 10 (Go.Sx.L2.fX).rel [.v 2, .v 3] [21, 22, 23, 24] 1 4 (.letI (.cmp .eql (.v 45) (.c 6)) (.ite (.v 47) (.letI (.cmp .eql (.v 46) (.c 7)) (.letI (.pick (.v 48) (.c 1) (.c 0)) (.ite (.v 49) (.letI (.get 26 (.c 0)) (.letI (.cmp .eql (.v 50) (.c 0)) (.ite (.v 51) (.any (.c 1) (.c 9223372036854775807) (.letI (.get 26 (.c 1)) (.letI (.cmp .eql (.v 53) (.c 0)) (.ite (.v 54) (.any (.c 2) (.c 9223372036854775807) (.done [] [])) (.fail 180))))) (.letI (.get 26 (.c 1)) (.letI (.cmp .eql (.v 52) (.c 0)) (.ite (.v 53) (.any (.c 1) (.c 9223372036854775807) (.fail 180)) (.fail 180))))))) (.fail 180)))) (.fail 180)))))))))))))))))))))))))))) (.call 10 (Go.Sx.L2.fD).rel [.v 2, .v 3, .c (0), .c (5)] [9, 10] 1 2 (.letI (.cmp .neq (.v 30) (.c 0)) (.ite (.v 31) (.fail 180) (.call 10 (Go.Sx.L2.fD).rel [.v 2, .v 3, .c (0), .c (6)] [11, 12] 1 2 (.letI (.cmp .neq (.v 32) (.c 0)) (.ite (.v 33) (.fail 180) (.call 10 (Go.Sx.L2.fD).rel [.v 2, .v 3, .c (0), .c (7)] [13, 14] 1 2 (.letI (.cmp .neq (.v 34) (.c 6)) (.ite (.v 35) (.fail 180) (.call 10 (Go.Sx.L2.fD).rel [.v 2, .v 3, .c (0), .c (7)] [15, 16] 1 2 (.letI (.cmp .neq (.v 36) (.c 6)) (.ite (.v 37) (.fail 180) (.call 10 (Go.Sx.L2.fD).rel [.v 2, .v 3, .c (0), .c (7)] [17, 18] 1 2 (.letI (.cmp .neq (.v 38) (.c 6)) (.ite (.v 39) (.fail 180) (.call 10 (Go.Sx.L2.fG).rel [.v 2, .v 3] [19, 20] 1 2 (.letL (.lit [.c (0), .c (0), .c (0), .c (0), .c (0), .c (0), .c (0), .c (0), .c (0), .c (0), .c (0), .c (0), .c (0), .c (0), .c (0), .c (0), .c (0), .c (0), .c (0), .c (0), .c (0), .c (0), .c (0), .c (0)]) (.letL (.lit [.c (0), .c (0), .c (0), .c (0), .c (0), .c (0), .c (0), .c (0), .c (0), .c (0), .c (0), .c (0), .c (0), .c (0), .c (0), .c (0), .c (0), .c (0), .c (0), .c (0), .c (0), .c (0), .c (0), .c (0)]) (.call 10 (Go.Sx.L2.fX).rel [.v 2, .v 3] [21, 22, 23, 24] 1 4 (.letI (.cmp .eql (.v 40) (.c 6)) (.ite (.v 42) (.letI (.cmp .eql (.v 41) (.c 7)) (.letI (.pick (.v 43) (.c 1) (.c 0)) (.ite (.v 44) (.letI (.get 26 (.c 0)) (.letI (.cmp .eql (.v 45) (.c 0)) (.ite (.v 46) (.any (.c 1) (.c 9223372036854775807) (.letI (.get 26 (.c 1)) (.letI (.cmp .eql (.v 48) (.c 0)) (.ite (.v 49) (.any (.c 2) (.c 9223372036854775807) (.done [] [])) (.fail 180))))) (.letI (.get 26 (.c 1)) (.letI (.cmp .eql (.v 47) (.c 0)) (.ite (.v 48) (.any (.c 1) (.c 9223372036854775807) (.fail 180)) (.fail 180))))))) (.fail 180)))) (.fail 180))))))))))))))))))))))))))))))) (.call 10 (Go.Sx.L2.fD).rel [.v 2, .v 3, .c (0), .c (4)] [7, 8] 1 2 (.letI (.cmp .neq (.v 23) (.c 0)) (.ite (.v 24) (.fail 180) (.call 10 (Go.Sx.L2.fD).rel [.v 2, .v 3, .c (0), .c (5)] [9, 10] 1 2 (.letI (.cmp .neq (.v 25) (.c 0)) (.ite (.v 26) (.fail 180) (.call 10 (Go.Sx.L2.fD).rel [.v 2, .v 3, .c (0), .c (6)] [11, 12] 1 2 (.letI (.cmp .neq (.v 27) (.c 0)) (.ite (.v 28) (.fail 180) (.call 10 (Go.Sx.L2.fD).rel [.v 2, .v 3, .c (0), .c (7)] [13, 14] 1 2 (.letI (.cmp .neq (.v 29) (.c 6)) (.ite (.v 30) (.fail 180) (.call 10 (Go.Sx.L2.fD).rel [.v 2, .v 3, .c (0), .c (7)] [15, 16] 1 2 (.letI (.cmp .neq (.v 31) (.c 6)) (.ite (.v 32) (.fail 180) (.call 10 (Go.Sx.L2.fD).rel [.v 2, .v 3, .c (0), .c (7)] [17, 18] 1 2 (.letI (.cmp .neq (.v 33) (.c 6)) (.ite (.v 34) (.fail 180) (.call 10 (Go.Sx.L2.fG).rel [.v 2, .v 3] [19, 20] 1 2 (.letL (.lit [.c (0), .c (0), .c (0), .c (0), .c (0), .c (0), .c (0), .c (0), .c (0), .c (0), .c (0), .c (0), .c (0), .c (0), .c (0), .c (0), .c (0), .c (0), .c (0), .c (0), .c (0), .c (0), .c (0), .c (0)]) (.letL (.lit [.c (0), .c (0), .c (0), .c (0), .c (0), .c (0), .c (0), .c (0), .c (0), .c (0), .c (0), .c (0), .c (0), .c (0), .c (0), .c (0), .c (0), .c (0), .c (0), .c (0), .c (0), .c (0), .c (0), .c (0)]) (.call 10 (Go.Sx.L2.fX).rel [.v 2, .v 3] [21, 22, 23, 24] 1 4 (.letI (.cmp .eql (.v 35) (.c 6)) (.ite (.v 37) (.letI (.cmp .eql (.v 36) (.c 7)) (.letI (.pick (.v 38) (.c 1) (.c 0)) (.ite (.v 39) (.letI (.get 26 (.c 0)) (.letI (.cmp .eql (.v 40) (.c 0)) (.ite (.v 41) (.any (.c 1) (.c 9223372036854775807) (.letI (.get 26 (.c 1)) (.letI (.cmp .eql (.v 43) (.c 0)) (.ite (.v 44) (.any (.c 2) (.c 9223372036854775807) (.done [] [])) (.fail 180))))) (.letI (.get 26 (.c 1)) (.letI (.cmp .eql (.v 42) (.c 0)) (.ite (.v 43) (.any (.c 1) (.c 9223372036854775807) (.fail 180)) (.fail 180))))))) (.fail 180)))) (.fail 180)))))))))))))))))))))))))))))))))) (.call 10 (Go.Sx.L2.fD).rel [.v 2, .v 3, .c (0), .c (3)] [5, 6] 1 2 (.letI (.cmp .neq (.v 16) (.c 0)) (.ite (.v 17) (.fail 180) (.call 10 (Go.Sx.L2.fD).rel [.v 2, .v 3, .c (0), .c (4)] [7, 8] 1 2 (.letI (.cmp .neq (.v 18) (.c 0)) (.ite (.v 19) (.fail 180) (.call 10 (Go.Sx.L2.fD).rel [.v 2, .v 3, .c (0), .c (5)] [9, 10] 1 2 (.letI (.cmp .neq (.v 20) (.c 0)) (.ite (.v 21) (.fail 180) (.call 10 (Go.Sx.L2.fD).rel [.v 2, .v 3, .c (0), .c (6)] [11, 12] 1 2 (.letI (.cmp .neq (.v 22) (.c 0)) (.ite (.v 23) (.fail 180) (.call 10 (Go.Sx.L2.fD).rel [.v 2, .v 3, .c (0), .c (7)] [13, 14] 1 2 (.letI (.cmp .neq (.v 24) (.c 6)) (.ite (.v 25) (.fail 180) (.call 10 (Go.Sx.L2.fD).rel [.v 2, .v 3, .c (0), .c (7)] [15, 16] 1 2 (.letI (.cmp .neq (.v 26) (.c 6)) (.ite (.v 27) (.fail 180) (.call 10 (Go.Sx.L2.fD).rel [.v 2, .v 3, .c (0), .c (7)] [17, 18] 1 2 (.letI (.cmp .neq (.v 28) (.c 6)) (.ite (.v 29) (.fail 180) (.call 10 (Go.Sx.L2.fG).rel [.v 2, .v 3] [19, 20] 1 2 (.letL (.lit [.c (0), .c (0), .c (0), .c (0), .c (0), .c (0), .c (0), .c (0), .c (0), .c (0), .c (0), .c (0), .c (0), .c (0), .c (0), .c (0), .c (0), .c (0), .c (0), .c (0), .c (0), .c (0), .c (0), .c (0)]) (.letL (.lit [.c (0), .c (0), .c (0), .c (0), .c (0), .c (0), .c (0), .c (0), .c (0), .c (0), .c (0), .c (0), .c (0), .c (0), .c (0), .c (0), .c (0), .c (0), .c (0), .c (0), .c (0), .c (0), .c (0), .c (0)]) (.call 10 (Go.Sx.L2.fX).rel [.v 2, .v 3] [21, 22, 23, 24] 1 4 (.letI (.cmp .eql (.v 30) (.c 6)) (.ite (.v 32) (.letI (.cmp .eql (.v 31) (.c 7)) (.letI (.pick (.v 33) (.c 1) (.c 0)) (.ite (.v 34) (.letI (.get 26 (.c 0)) (.letI (.cmp .eql (.v 35) (.c 0)) (.ite (.v 36) (.any (.c 1) (.c 9223372036854775807) (.letI (.get 26 (.c 1)) (.letI (.cmp .eql (.v 38) (.c 0)) (.ite (.v 39) (.any (.c 2) (.c 9223372036854775807) (.done [] [])) (.fail 180))))) (.letI (.get 26 (.c 1)) (.letI (.cmp .eql (.v 37) (.c 0)) (.ite (.v 38) (.any (.c 1) (.c 9223372036854775807) (.fail 180)) (.fail 180))))))) (.fail 180)))) (.fail 180))))))))))))))))))))))))))))))))))))) (.call 10 (Go.Sx.L2.fD).rel [.v 2, .v 3, .c (0), .c (2)] [3, 4] 1 2 (.letI (.cmp .neq (.v 9) (.c 0)) (.ite (.v 10) (.fail 180) (.call 10 (Go.Sx.L2.fD).rel [.v 2, .v 3, .c (0), .c (3)] [5, 6] 1 2 (.letI (.cmp .neq (.v 11) (.c 0)) (.ite (.v 12) (.fail 180) (.call 10 (Go.Sx.L2.fD).rel [.v 2, .v 3, .c (0), .c (4)] [7, 8] 1 2 (.letI (.cmp .neq (.v 13) (.c 0)) (.ite (.v 14) (.fail 180) (.call 10 (Go.Sx.L2.fD).rel [.v 2, .v 3, .c (0), .c (5)] [9, 10] 1 2 (.letI (.cmp .neq (.v 15) (.c 0)) (.ite (.v 16) (.fail 180) (.call 10 (Go.Sx.L2.fD).rel [.v 2, .v 3, .c (0), .c (6)] [11, 12] 1 2 (.letI (.cmp .neq (.v 17) (.c 0)) (.ite (.v 18) (.fail 180) (.call 10 (Go.Sx.L2.fD).rel [.v 2, .v 3, .c (0), .c (7)] [13, 14] 1 2 (.letI (.cmp .neq (.v 19) (.c 6)) (.ite (.v 20) (.fail 180) (.call 10 (Go.Sx.L2.fD).rel [.v 2, .v 3, .c (0), .c (7)] [15, 16] 1 2 (.letI (.cmp .neq (.v 21) (.c 6)) (.ite (.v 22) (.fail 180) (.call 10 (Go.Sx.L2.fD).rel [.v 2, .v 3, .c (0), .c (7)] [17, 18] 1 2 (.letI (.cmp .neq (.v 23) (.c 6)) (.ite (.v 24) (.fail 180) (.call 10 (Go.Sx.L2.fG).rel [.v 2, .v 3] [19, 20] 1 2 (.letL (.lit [.c (0), .c (0), .c (0), .c (0), .c (0), .c (0), .c (0), .c (0), .c (0), .c (0), .c (0), .c (0), .c (0), .c (0), .c (0), .c (0), .c (0), .c (0), .c (0), .c (0), .c (0), .c (0), .c (0), .c (0)]) (.letL (.lit [.c (0), .c (0), .c (0), .c (0), .c (0), .c (0), .c (0), .c (0), .c (0), .c (0), .c (0), .c (0), .c (0), .c (0), .c (0), .c (0), .c (0), .c (0), .c (0), .c (0), .c (0), .c (0), .c (0), .c (0)]) (.call 10 (Go.Sx.L2.fX).rel [.v 2, .v 3] [21, 22, 23, 24] 1 4 (.letI (.cmp .eql (.v 25) (.c 6)) (.ite (.v 27) (.letI (.cmp .eql (.v 26) (.c 7)) (.letI (.pick (.v 28) (.c 1) (.c 0)) (.ite (.v 29) (.letI (.get 26 (.c 0)) (.letI (.cmp .eql (.v 30) (.c 0)) (.ite (.v 31) (.any (.c 1) (.c 9223372036854775807) (.letI (.get 26 (.c 1)) (.letI (.cmp .eql (.v 33) (.c 0)) (.ite (.v 34) (.any (.c 2) (.c 9223372036854775807) (.done [] [])) (.fail 180))))) (.letI (.get 26 (.c 1)) (.letI (.cmp .eql (.v 32) (.c 0)) (.ite (.v 33) (.any (.c 1) (.c 9223372036854775807) (.fail 180)) (.fail 180))))))) (.fail 180)))) (.fail 180))))))))))))))))))))))))))))))))))))))) (.letL (.lit [.c (1), .c (0)]) (.letL (.lit [.c (0), .c (3), .c (-1), .c (0), .c (0), .c (0), .c (0), .c (0), .c (0), .c (0), .c (0), .c (0), .c (0), .c (0), .c (0), .c (0), .c (0), .c (0), .c (0), .c (0), .c (0), .c (0), .c (0), .c (0), .c (0), .c (0), .c (0), .c (0), .c (0), .c (0), .c (0), .c (0), .c (0), .c (0), .c (0), .c (0), .c (0), .c (0), .c (0), .c (0), .c (0), .c (0), .c (0), .c (0), .c (0), .c (0), .c (0), .c (0), .c (0), .c (0), .c (0), .c (0), .c (0), .c (0), .c (0), .c (0), .c (0), .c (0), .c (0), .c (0), .c (0), .c (0), .c (0), .c (0)]) (.call 10 (Go.Sx.L2.fD).rel [.v 2, .v 3, .c (0), .c (1)] [2, 1] 1 2 (.letI (.cmp .neq (.v 5) (.c 0)) (.ite (.v 6) (.fail 180) (.call 10 (Go.Sx.L2.fD).rel [.v 2, .v 3, .c (0), .c (2)] [3, 4] 1 2 (.letI (.cmp .neq (.v 7) (.c 0)) (.ite (.v 8) (.fail 180) (.call 10 (Go.Sx.L2.fD).rel [.v 2, .v 3, .c (0), .c (3)] [5, 6] 1 2 (.letI (.cmp .neq (.v 9) (.c 0)) (.ite (.v 10) (.fail 180) (.call 10 (Go.Sx.L2.fD).rel [.v 2, .v 3, .c (0), .c (4)] [7, 8] 1 2 (.letI (.cmp .neq (.v 11) (.c 0)) (.ite (.v 12) (.fail 180) (.call 10 (Go.Sx.L2.fD).rel [.v 2, .v 3, .c (0), .c (5)] [9, 10] 1 2 (.letI (.cmp .neq (.v 13) (.c 0)) (.ite (.v 14) (.fail 180) (.call 10 (Go.Sx.L2.fD).rel [.v 2, .v 3, .c (0), .c (6)] [11, 12] 1 2 (.letI (.cmp .neq (.v 15) (.c 0)) (.ite (.v 16) (.fail 180) (.call 10 (Go.Sx.L2.fD).rel [.v 2, .v 3, .c (0), .c (7)] [13, 14] 1 2 (.letI (.cmp .neq (.v 17) (.c 6)) (.ite (.v 18) (.fail 180) (.call 10 (Go.Sx.L2.fD).rel [.v 2, .v 3, .c (0), .c (7)] [15, 16] 1 2 (.letI (.cmp .neq (.v 19) (.c 6)) (.ite (.v 20) (.fail 180) (.call 10 (Go.Sx.L2.fD).rel [.v 2, .v 3, .c (0), .c (7)] [17, 18] 1 2 (.letI (.cmp .neq (.v 21) (.c 6)) (.ite (.v 22) (.fail 180) (.call 10 (Go.Sx.L2.fG).rel [.v 2, .v 3] [19, 20] 1 2 (.letL (.lit [.c (0), .c (0), .c (0), .c (0), .c (0), .c (0), .c (0), .c (0), .c (0), .c (0), .c (0), .c (0), .c (0), .c (0), .c (0), .c (0), .c (0), .c (0), .c (0), .c (0), .c (0), .c (0), .c (0), .c (0)]) (.letL (.lit [.c (0), .c (0), .c (0), .c (0), .c (0), .c (0), .c (0), .c (0), .c (0), .c (0), .c (0), .c (0), .c (0), .c (0), .c (0), .c (0), .c (0), .c (0), .c (0), .c (0), .c (0), .c (0), .c (0), .c (0)]) (.call 10 (Go.Sx.L2.fX).rel [.v 2, .v 3] [21, 22, 23, 24] 1 4 (.letI (.cmp .eql (.v 23) (.c 6)) (.ite (.v 25) (.letI (.cmp .eql (.v 24) (.c 7)) (.letI (.pick (.v 26) (.c 1) (.c 0)) (.ite (.v 27) (.letI (.get 26 (.c 0)) (.letI (.cmp .eql (.v 28) (.c 0)) (.ite (.v 29) (.any (.c 1) (.c 9223372036854775807) (.letI (.get 26 (.c 1)) (.letI (.cmp .eql (.v 31) (.c 0)) (.ite (.v 32) (.any (.c 2) (.c 9223372036854775807) (.done [] [])) (.fail 180))))) (.letI (.get 26 (.c 1)) (.letI (.cmp .eql (.v 30) (.c 0)) (.ite (.v 31) (.any (.c 1) (.c 9223372036854775807) (.fail 180)) (.fail 180))))))) (.fail 180)))) (.fail 180))))))))))))))))))))))))))))))))))))))))
theorem PlainFull_tree : (lawSpec L2.f_messuagelaw11_PlainFull [.slc [.i .i64]]).exe Tryz.prog (withC (withA (withS (L2.cfgB Tryz.prog) [L2.pNew2]) L2.f_plain_Kernel_Do [L2.qH1, L2.fD, L2.fG, L2.fX])) [] 20 200 = PlainFull_t := by kernel_rfl
theorem PlainFull_vc (Q : List Int → List (List Int) → Prop) (v0 v1 : Int) (L0 : List Int) : PlainFull_t.dn ⟨Q, []⟩ 2 [v1, v0] 1 [L0] = ((Go.Sx.L2.yes Go.Sx.L2.f_messuagelaw11_begun).rel.pre [] [] ∧
((Go.Sx.L2.yes Go.Sx.L2.f_messuagelaw11_begun).rel.post [] [] [] [] → (Go.Sx.L2.pNew2).rel.pre [] [] ∧
(∀ v2 : Int, ∀ v3 : Int, (Go.Sx.L2.pNew2).rel.post [] [] [v2, v3] [] → (Go.Sx.L2.qH1).rel.pre [v2, v3] [] ∧
((Go.Sx.L2.qH1).rel.post [v2, v3] [] [] [] → (((0 : Int) < v0) → ∀ v5 : Int, v5 = (L0).getD ((0 : Int)).toNat 0 → ∀ L1 : List Int, L1 = [(1 : Int), (0 : Int)] → ∀ L2 : List Int, L2 = [(0 : Int), (3 : Int), ((-1) : Int), (0 : Int), (0 : Int), (0 : Int), (0 : Int), (0 : Int), (0 : Int), (0 : Int), (0 : Int), (0 : Int), (0 : Int), (0 : Int), (0 : Int), (0 : Int), (0 : Int), (0 : Int), (0 : Int), (0 : Int), (0 : Int), (0 : Int), (0 : Int), (0 : Int), (0 : Int), (0 : Int), (0 : Int), (0 : Int), (0 : Int), (0 : Int), (0 : Int), (0 : Int), (0 : Int), (0 : Int), (0 : Int), (0 : Int), (0 : Int), (0 : Int), (0 : Int), (0 : Int), (0 : Int), (0 : Int), (0 : Int), (0 : Int), (0 : Int), (0 : Int), (0 : Int), (0 : Int), (0 : Int), (0 : Int), (0 : Int), (0 : Int), (0 : Int), (0 : Int), (0 : Int), (0 : Int), (0 : Int), (0 : Int), (0 : Int), (0 : Int), (0 : Int), (0 : Int), (0 : Int), (0 : Int)] → (Go.Sx.L2.fD).rel.pre [v2, v3, (0 : Int), (1 : Int)] [L2, L1] ∧
(∀ v6 : Int, ∀ L3 : List Int, ∀ L4 : List Int, (Go.Sx.L2.fD).rel.post [v2, v3, (0 : Int), (1 : Int)] [L2, L1] [v6] [L3, L4] → ((v6 ≠ (0 : Int)) → False) ∧
((v6 = (0 : Int)) → (((1 : Int) < v0) → ∀ v9 : Int, v9 = (L0).getD ((1 : Int)).toNat 0 → ∀ v10 : Int, v10 = (v9).tmod (2 : Int) → ∀ v11 : Int, v11 = v10 + (2 : Int) → ∀ v12 : Int, v12 = (v11).tmod (2 : Int) → (Go.Sx.L2.fD).rel.pre [v2, v3, v12, (2 : Int)] [L3, L4] ∧
(∀ v13 : Int, ∀ L5 : List Int, ∀ L6 : List Int, (Go.Sx.L2.fD).rel.post [v2, v3, v12, (2 : Int)] [L3, L4] [v13] [L5, L6] → ((v13 ≠ (0 : Int)) → False) ∧
((v13 = (0 : Int)) → (((2 : Int) < v0) → ∀ v16 : Int, v16 = (L0).getD ((2 : Int)).toNat 0 → ∀ v17 : Int, v17 = (v16).tmod (3 : Int) → ∀ v18 : Int, v18 = v17 + (3 : Int) → ∀ v19 : Int, v19 = (v18).tmod (3 : Int) → (Go.Sx.L2.fD).rel.pre [v2, v3, v19, (3 : Int)] [L5, L6] ∧
(∀ v20 : Int, ∀ L7 : List Int, ∀ L8 : List Int, (Go.Sx.L2.fD).rel.post [v2, v3, v19, (3 : Int)] [L5, L6] [v20] [L7, L8] → ((v20 ≠ (0 : Int)) → False) ∧
((v20 = (0 : Int)) → (((3 : Int) < v0) → ∀ v23 : Int, v23 = (L0).getD ((3 : Int)).toNat 0 → ∀ v24 : Int, v24 = (v23).tmod (4 : Int) → ∀ v25 : Int, v25 = v24 + (4 : Int) → ∀ v26 : Int, v26 = (v25).tmod (4 : Int) → (Go.Sx.L2.fD).rel.pre [v2, v3, v26, (4 : Int)] [L7, L8] ∧
(∀ v27 : Int, ∀ L9 : List Int, ∀ L10 : List Int, (Go.Sx.L2.fD).rel.post [v2, v3, v26, (4 : Int)] [L7, L8] [v27] [L9, L10] → ((v27 ≠ (0 : Int)) → False) ∧
((v27 = (0 : Int)) → (((4 : Int) < v0) → ∀ v30 : Int, v30 = (L0).getD ((4 : Int)).toNat 0 → ∀ v31 : Int, v31 = (v30).tmod (5 : Int) → ∀ v32 : Int, v32 = v31 + (5 : Int) → ∀ v33 : Int, v33 = (v32).tmod (5 : Int) → (Go.Sx.L2.fD).rel.pre [v2, v3, v33, (5 : Int)] [L9, L10] ∧
(∀ v34 : Int, ∀ L11 : List Int, ∀ L12 : List Int, (Go.Sx.L2.fD).rel.post [v2, v3, v33, (5 : Int)] [L9, L10] [v34] [L11, L12] → ((v34 ≠ (0 : Int)) → False) ∧
((v34 = (0 : Int)) → (((5 : Int) < v0) → ∀ v37 : Int, v37 = (L0).getD ((5 : Int)).toNat 0 → ∀ v38 : Int, v38 = (v37).tmod (6 : Int) → ∀ v39 : Int, v39 = v38 + (6 : Int) → ∀ v40 : Int, v40 = (v39).tmod (6 : Int) → (Go.Sx.L2.fD).rel.pre [v2, v3, v40, (6 : Int)] [L11, L12] ∧
(∀ v41 : Int, ∀ L13 : List Int, ∀ L14 : List Int, (Go.Sx.L2.fD).rel.post [v2, v3, v40, (6 : Int)] [L11, L12] [v41] [L13, L14] → ((v41 ≠ (0 : Int)) → False) ∧
((v41 = (0 : Int)) → (((6 : Int) < v0) → ∀ v44 : Int, v44 = (L0).getD ((6 : Int)).toNat 0 → ∀ v45 : Int, v45 = (v44).tmod (7 : Int) → ∀ v46 : Int, v46 = v45 + (7 : Int) → ∀ v47 : Int, v47 = (v46).tmod (7 : Int) → (Go.Sx.L2.fD).rel.pre [v2, v3, v47, (7 : Int)] [L13, L14] ∧
(∀ v48 : Int, ∀ L15 : List Int, ∀ L16 : List Int, (Go.Sx.L2.fD).rel.post [v2, v3, v47, (7 : Int)] [L13, L14] [v48] [L15, L16] → ((v48 ≠ (6 : Int)) → False) ∧
((v48 = (6 : Int)) → (((7 : Int) < v0) → ∀ v51 : Int, v51 = (L0).getD ((7 : Int)).toNat 0 → ∀ v52 : Int, v52 = (v51).tmod (7 : Int) → ∀ v53 : Int, v53 = v52 + (7 : Int) → ∀ v54 : Int, v54 = (v53).tmod (7 : Int) → (Go.Sx.L2.fD).rel.pre [v2, v3, v54, (7 : Int)] [L15, L16] ∧
(∀ v55 : Int, ∀ L17 : List Int, ∀ L18 : List Int, (Go.Sx.L2.fD).rel.post [v2, v3, v54, (7 : Int)] [L15, L16] [v55] [L17, L18] → ((v55 ≠ (6 : Int)) → False) ∧
((v55 = (6 : Int)) → (((8 : Int) < v0) → ∀ v58 : Int, v58 = (L0).getD ((8 : Int)).toNat 0 → ∀ v59 : Int, v59 = (v58).tmod (7 : Int) → ∀ v60 : Int, v60 = v59 + (7 : Int) → ∀ v61 : Int, v61 = (v60).tmod (7 : Int) → (Go.Sx.L2.fD).rel.pre [v2, v3, v61, (7 : Int)] [L17, L18] ∧
(∀ v62 : Int, ∀ L19 : List Int, ∀ L20 : List Int, (Go.Sx.L2.fD).rel.post [v2, v3, v61, (7 : Int)] [L17, L18] [v62] [L19, L20] → ((v62 ≠ (6 : Int)) → False) ∧
((v62 = (6 : Int)) → (Go.Sx.L2.fG).rel.pre [v2, v3] [L19, L20] ∧
(∀ v64 : Int, ∀ L21 : List Int, ∀ L22 : List Int, (Go.Sx.L2.fG).rel.post [v2, v3] [L19, L20] [v64] [L21, L22] → ∀ L23 : List Int, L23 = [(0 : Int), (0 : Int), (0 : Int), (0 : Int), (0 : Int), (0 : Int), (0 : Int), (0 : Int), (0 : Int), (0 : Int), (0 : Int), (0 : Int), (0 : Int), (0 : Int), (0 : Int), (0 : Int), (0 : Int), (0 : Int), (0 : Int), (0 : Int), (0 : Int), (0 : Int), (0 : Int), (0 : Int)] → ∀ L24 : List Int, L24 = [(0 : Int), (0 : Int), (0 : Int), (0 : Int), (0 : Int), (0 : Int), (0 : Int), (0 : Int), (0 : Int), (0 : Int), (0 : Int), (0 : Int), (0 : Int), (0 : Int), (0 : Int), (0 : Int), (0 : Int), (0 : Int), (0 : Int), (0 : Int), (0 : Int), (0 : Int), (0 : Int), (0 : Int)] → (Go.Sx.L2.fX).rel.pre [v2, v3] [L21, L22, L23, L24] ∧
(∀ v65 : Int, ∀ L25 : List Int, ∀ L26 : List Int, ∀ L27 : List Int, ∀ L28 : List Int, (Go.Sx.L2.fX).rel.post [v2, v3] [L21, L22, L23, L24] [v65] [L25, L26, L27, L28] → ((v64 = (6 : Int)) → ∀ v67 : Int, v67 = b2i (v65 == (7 : Int)) → ∀ v68 : Int, v68 = (if v67 = 0 then (0 : Int) else (1 : Int)) → (v68 ≠ 0 → ∀ v69 : Int, v69 = (L26).getD ((0 : Int)).toNat 0 → ((v69 = (0 : Int)) → ∀ v71 : Int, (1 : Int) ≤ v71 → v71 ≤ (9223372036854775807 : Int) → ∀ v72 : Int, v72 = (L26).getD ((1 : Int)).toNat 0 → ((v72 = (0 : Int)) → ∀ v74 : Int, (2 : Int) ≤ v74 → v74 ≤ (9223372036854775807 : Int) → Q [] []) ∧
((v72 ≠ (0 : Int)) → False)) ∧
((v69 ≠ (0 : Int)) → ∀ v71 : Int, v71 = (L26).getD ((1 : Int)).toNat 0 → ((v71 = (0 : Int)) → ∀ v73 : Int, (1 : Int) ≤ v73 → v73 ≤ (9223372036854775807 : Int) → False) ∧
((v71 ≠ (0 : Int)) → False))) ∧
(v68 = 0 → False)) ∧
((v64 ≠ (6 : Int)) → False)))))) ∧
((v0 ≤ (8 : Int)) → (Go.Sx.L2.fD).rel.pre [v2, v3, (0 : Int), (7 : Int)] [L17, L18] ∧
(∀ v58 : Int, ∀ L19 : List Int, ∀ L20 : List Int, (Go.Sx.L2.fD).rel.post [v2, v3, (0 : Int), (7 : Int)] [L17, L18] [v58] [L19, L20] → ((v58 ≠ (6 : Int)) → False) ∧
((v58 = (6 : Int)) → (Go.Sx.L2.fG).rel.pre [v2, v3] [L19, L20] ∧
(∀ v60 : Int, ∀ L21 : List Int, ∀ L22 : List Int, (Go.Sx.L2.fG).rel.post [v2, v3] [L19, L20] [v60] [L21, L22] → ∀ L23 : List Int, L23 = [(0 : Int), (0 : Int), (0 : Int), (0 : Int), (0 : Int), (0 : Int), (0 : Int), (0 : Int), (0 : Int), (0 : Int), (0 : Int), (0 : Int), (0 : Int), (0 : Int), (0 : Int), (0 : Int), (0 : Int), (0 : Int), (0 : Int), (0 : Int), (0 : Int), (0 : Int), (0 : Int), (0 : Int)] → ∀ L24 : List Int, L24 = [(0 : Int), (0 : Int), (0 : Int), (0 : Int), (0 : Int), (0 : Int), (0 : Int), (0 : Int), (0 : Int), (0 : Int), (0 : Int), (0 : Int), (0 : Int), (0 : Int), (0 : Int), (0 : Int), (0 : Int), (0 : Int), (0 : Int), (0 : Int), (0 : Int), (0 : Int), (0 : Int), (0 : Int)] → (Go.Sx.L2.fX).rel.pre [v2, v3] [L21, L22, L23, L24] ∧
(∀ v61 : Int, ∀ L25 : List Int, ∀ L26 : List Int, ∀ L27 : List Int, ∀ L28 : List Int, (Go.Sx.L2.fX).rel.post [v2, v3] [L21, L22, L23, L24] [v61] [L25, L26, L27, L28] → ((v60 = (6 : Int)) → ∀ v63 : Int, v63 = b2i (v61 == (7 : Int)) → ∀ v64 : Int, v64 = (if v63 = 0 then (0 : Int) else (1 : Int)) → (v64 ≠ 0 → ∀ v65 : Int, v65 = (L26).getD ((0 : Int)).toNat 0 → ((v65 = (0 : Int)) → ∀ v67 : Int, (1 : Int) ≤ v67 → v67 ≤ (9223372036854775807 : Int) → ∀ v68 : Int, v68 = (L26).getD ((1 : Int)).toNat 0 → ((v68 = (0 : Int)) → ∀ v70 : Int, (2 : Int) ≤ v70 → v70 ≤ (9223372036854775807 : Int) → Q [] []) ∧
((v68 ≠ (0 : Int)) → False)) ∧
((v65 ≠ (0 : Int)) → ∀ v67 : Int, v67 = (L26).getD ((1 : Int)).toNat 0 → ((v67 = (0 : Int)) → ∀ v69 : Int, (1 : Int) ≤ v69 → v69 ≤ (9223372036854775807 : Int) → False) ∧
((v67 ≠ (0 : Int)) → False))) ∧
(v64 = 0 → False)) ∧
((v60 ≠ (6 : Int)) → False))))))))) ∧
((v0 ≤ (7 : Int)) → (Go.Sx.L2.fD).rel.pre [v2, v3, (0 : Int), (7 : Int)] [L15, L16] ∧
(∀ v51 : Int, ∀ L17 : List Int, ∀ L18 : List Int, (Go.Sx.L2.fD).rel.post [v2, v3, (0 : Int), (7 : Int)] [L15, L16] [v51] [L17, L18] → ((v51 ≠ (6 : Int)) → False) ∧
((v51 = (6 : Int)) → (Go.Sx.L2.fD).rel.pre [v2, v3, (0 : Int), (7 : Int)] [L17, L18] ∧
(∀ v53 : Int, ∀ L19 : List Int, ∀ L20 : List Int, (Go.Sx.L2.fD).rel.post [v2, v3, (0 : Int), (7 : Int)] [L17, L18] [v53] [L19, L20] → ((v53 ≠ (6 : Int)) → False) ∧
((v53 = (6 : Int)) → (Go.Sx.L2.fG).rel.pre [v2, v3] [L19, L20] ∧
(∀ v55 : Int, ∀ L21 : List Int, ∀ L22 : List Int, (Go.Sx.L2.fG).rel.post [v2, v3] [L19, L20] [v55] [L21, L22] → ∀ L23 : List Int, L23 = [(0 : Int), (0 : Int), (0 : Int), (0 : Int), (0 : Int), (0 : Int), (0 : Int), (0 : Int), (0 : Int), (0 : Int), (0 : Int), (0 : Int), (0 : Int), (0 : Int), (0 : Int), (0 : Int), (0 : Int), (0 : Int), (0 : Int), (0 : Int), (0 : Int), (0 : Int), (0 : Int), (0 : Int)] → ∀ L24 : List Int, L24 = [(0 : Int), (0 : Int), (0 : Int), (0 : Int), (0 : Int), (0 : Int), (0 : Int), (0 : Int), (0 : Int), (0 : Int), (0 : Int), (0 : Int), (0 : Int), (0 : Int), (0 : Int), (0 : Int), (0 : Int), (0 : Int), (0 : Int), (0 : Int), (0 : Int), (0 : Int), (0 : Int), (0 : Int)] → (Go.Sx.L2.fX).rel.pre [v2, v3] [L21, L22, L23, L24] ∧
(∀ v56 : Int, ∀ L25 : List Int, ∀ L26 : List Int, ∀ L27 : List Int, ∀ L28 : List Int, (Go.Sx.L2.fX).rel.post [v2, v3] [L21, L22, L23, L24] [v56] [L25, L26, L27, L28] → ((v55 = (6 : Int)) → ∀ v58 : Int, v58 = b2i (v56 == (7 : Int)) → ∀ v59 : Int, v59 = (if v58 = 0 then (0 : Int) else (1 : Int)) → (v59 ≠ 0 → ∀ v60 : Int, v60 = (L26).getD ((0 : Int)).toNat 0 → ((v60 = (0 : Int)) → ∀ v62 : Int, (1 : Int) ≤ v62 → v62 ≤ (9223372036854775807 : Int) → ∀ v63 : Int, v63 = (L26).getD ((1 : Int)).toNat 0 → ((v63 = (0 : Int)) → ∀ v65 : Int, (2 : Int) ≤ v65 → v65 ≤ (9223372036854775807 : Int) → Q [] []) ∧
((v63 ≠ (0 : Int)) → False)) ∧
((v60 ≠ (0 : Int)) → ∀ v62 : Int, v62 = (L26).getD ((1 : Int)).toNat 0 → ((v62 = (0 : Int)) → ∀ v64 : Int, (1 : Int) ≤ v64 → v64 ≤ (9223372036854775807 : Int) → False) ∧
((v62 ≠ (0 : Int)) → False))) ∧
(v59 = 0 → False)) ∧
((v55 ≠ (6 : Int)) → False))))))))))) ∧
((v0 ≤ (6 : Int)) → (Go.Sx.L2.fD).rel.pre [v2, v3, (0 : Int), (7 : Int)] [L13, L14] ∧
(∀ v44 : Int, ∀ L15 : List Int, ∀ L16 : List Int, (Go.Sx.L2.fD).rel.post [v2, v3, (0 : Int), (7 : Int)] [L13, L14] [v44] [L15, L16] → ((v44 ≠ (6 : Int)) → False) ∧
((v44 = (6 : Int)) → (Go.Sx.L2.fD).rel.pre [v2, v3, (0 : Int), (7 : Int)] [L15, L16] ∧
(∀ v46 : Int, ∀ L17 : List Int, ∀ L18 : List Int, (Go.Sx.L2.fD).rel.post [v2, v3, (0 : Int), (7 : Int)] [L15, L16] [v46] [L17, L18] → ((v46 ≠ (6 : Int)) → False) ∧
((v46 = (6 : Int)) → (Go.Sx.L2.fD).rel.pre [v2, v3, (0 : Int), (7 : Int)] [L17, L18] ∧
(∀ v48 : Int, ∀ L19 : List Int, ∀ L20 : List Int, (Go.Sx.L2.fD).rel.post [v2, v3, (0 : Int), (7 : Int)] [L17, L18] [v48] [L19, L20] → ((v48 ≠ (6 : Int)) → False) ∧
((v48 = (6 : Int)) → (Go.Sx.L2.fG).rel.pre [v2, v3] [L19, L20] ∧
(∀ v50 : Int, ∀ L21 : List Int, ∀ L22 : List Int, (Go.Sx.L2.fG).rel.post [v2, v3] [L19, L20] [v50] [L21, L22] → ∀ L23 : List Int, L23 = [(0 : Int), (0 : Int), (0 : Int), (0 : Int), (0 : Int), (0 : Int), (0 : Int), (0 : Int), (0 : Int), (0 : Int), (0 : Int), (0 : Int), (0 : Int), (0 : Int), (0 : Int), (0 : Int), (0 : Int), (0 : Int), (0 : Int), (0 : Int), (0 : Int), (0 : Int), (0 : Int), (0 : Int)] → ∀ L24 : List Int, L24 = [(0 : Int), (0 : Int), (0 : Int), (0 : Int), (0 : Int), (0 : Int), (0 : Int), (0 : Int), (0 : Int), (0 : Int), (0 : Int), (0 : Int), (0 : Int), (0 : Int), (0 : Int), (0 : Int), (0 : Int), (0 : Int), (0 : Int), (0 : Int), (0 : Int), (0 : Int), (0 : Int), (0 : Int)] → (Go.Sx.L2.fX).rel.pre [v2, v3] [L21, L22, L23, L24] ∧
(∀ v51 : Int, ∀ L25 : List Int, ∀ L26 : List Int, ∀ L27 : List Int, ∀ L28 : List Int, (Go.Sx.L2.fX).rel.post [v2, v3] [L21, L22, L23, L24] [v51] [L25, L26, L27, L28] → ((v50 = (6 : Int)) → ∀ v53 : Int, v53 = b2i (v51 == (7 : Int)) → ∀ v54 : Int, v54 = (if v53 = 0 then (0 : Int) else (1 : Int)) → (v54 ≠ 0 → ∀ v55 : Int, v55 = (L26).getD ((0 : Int)).toNat 0 → ((v55 = (0 : Int)) → ∀ v57 : Int, (1 : Int) ≤ v57 → v57 ≤ (9223372036854775807 : Int) → ∀ v58 : Int, v58 = (L26).getD ((1 : Int)).toNat 0 → ((v58 = (0 : Int)) → ∀ v60 : Int, (2 : Int) ≤ v60 → v60 ≤ (9223372036854775807 : Int) → Q [] []) ∧
((v58 ≠ (0 : Int)) → False)) ∧
((v55 ≠ (0 : Int)) → ∀ v57 : Int, v57 = (L26).getD ((1 : Int)).toNat 0 → ((v57 = (0 : Int)) → ∀ v59 : Int, (1 : Int) ≤ v59 → v59 ≤ (9223372036854775807 : Int) → False) ∧
((v57 ≠ (0 : Int)) → False))) ∧
(v54 = 0 → False)) ∧
((v50 ≠ (6 : Int)) → False))))))))))))) ∧
((v0 ≤ (5 : Int)) → (Go.Sx.L2.fD).rel.pre [v2, v3, (0 : Int), (6 : Int)] [L11, L12] ∧
(∀ v37 : Int, ∀ L13 : List Int, ∀ L14 : List Int, (Go.Sx.L2.fD).rel.post [v2, v3, (0 : Int), (6 : Int)] [L11, L12] [v37] [L13, L14] → ((v37 ≠ (0 : Int)) → False) ∧
((v37 = (0 : Int)) → (Go.Sx.L2.fD).rel.pre [v2, v3, (0 : Int), (7 : Int)] [L13, L14] ∧
(∀ v39 : Int, ∀ L15 : List Int, ∀ L16 : List Int, (Go.Sx.L2.fD).rel.post [v2, v3, (0 : Int), (7 : Int)] [L13, L14] [v39] [L15, L16] → ((v39 ≠ (6 : Int)) → False) ∧
((v39 = (6 : Int)) → (Go.Sx.L2.fD).rel.pre [v2, v3, (0 : Int), (7 : Int)] [L15, L16] ∧
(∀ v41 : Int, ∀ L17 : List Int, ∀ L18 : List Int, (Go.Sx.L2.fD).rel.post [v2, v3, (0 : Int), (7 : Int)] [L15, L16] [v41] [L17, L18] → ((v41 ≠ (6 : Int)) → False) ∧
((v41 = (6 : Int)) → (Go.Sx.L2.fD).rel.pre [v2, v3, (0 : Int), (7 : Int)] [L17, L18] ∧
(∀ v43 : Int, ∀ L19 : List Int, ∀ L20 : List Int, (Go.Sx.L2.fD).rel.post [v2, v3, (0 : Int), (7 : Int)] [L17, L18] [v43] [L19, L20] → ((v43 ≠ (6 : Int)) → False) ∧
((v43 = (6 : Int)) → (Go.Sx.L2.fG).rel.pre [v2, v3] [L19, L20] ∧
(∀ v45 : Int, ∀ L21 : List Int, ∀ L22 : List Int, (Go.Sx.L2.fG).rel.post [v2, v3] [L19, L20] [v45] [L21, L22] → ∀ L23 : List Int, L23 = [(0 : Int), (0 : Int), (0 : Int), (0 : Int), (0 : Int), (0 : Int), (0 : Int), (0 : Int), (0 : Int), (0 : Int), (0 : Int), (0 : Int), (0 : Int), (0 : Int), (0 : Int), (0 : Int), (0 : Int), (0 : Int), (0 : Int), (0 : Int), (0 : Int), (0 : Int), (0 : Int), (0 : Int)] → ∀ L24 : List Int, L24 = [(0 : Int), (0 : Int), (0 : Int), (0 : Int), (0 : Int), (0 : Int), (0 : Int), (0 : Int), (0 : Int), (0 : Int), (0 : Int), (0 : Int), (0 : Int), (0 : Int), (0 : Int), (0 : Int), (0 : Int), (0 : Int), (0 : Int), (0 : Int), (0 : Int), (0 : Int), (0 : Int), (0 : Int)] → (Go.Sx.L2.fX).rel.pre [v2, v3] [L21, L22, L23, L24] ∧
(∀ v46 : Int, ∀ L25 : List Int, ∀ L26 : List Int, ∀ L27 : List Int, ∀ L28 : List Int, (Go.Sx.L2.fX).rel.post [v2, v3] [L21, L22, L23, L24] [v46] [L25, L26, L27, L28] → ((v45 = (6 : Int)) → ∀ v48 : Int, v48 = b2i (v46 == (7 : Int)) → ∀ v49 : Int, v49 = (if v48 = 0 then (0 : Int) else (1 : Int)) → (v49 ≠ 0 → ∀ v50 : Int, v50 = (L26).getD ((0 : Int)).toNat 0 → ((v50 = (0 : Int)) → ∀ v52 : Int, (1 : Int) ≤ v52 → v52 ≤ (9223372036854775807 : Int) → ∀ v53 : Int, v53 = (L26).getD ((1 : Int)).toNat 0 → ((v53 = (0 : Int)) → ∀ v55 : Int, (2 : Int) ≤ v55 → v55 ≤ (9223372036854775807 : Int) → Q [] []) ∧
((v53 ≠ (0 : Int)) → False)) ∧
((v50 ≠ (0 : Int)) → ∀ v52 : Int, v52 = (L26).getD ((1 : Int)).toNat 0 → ((v52 = (0 : Int)) → ∀ v54 : Int, (1 : Int) ≤ v54 → v54 ≤ (9223372036854775807 : Int) → False) ∧
((v52 ≠ (0 : Int)) → False))) ∧
(v49 = 0 → False)) ∧
((v45 ≠ (6 : Int)) → False))))))))))))))) ∧
((v0 ≤ (4 : Int)) → (Go.Sx.L2.fD).rel.pre [v2, v3, (0 : Int), (5 : Int)] [L9, L10] ∧
(∀ v30 : Int, ∀ L11 : List Int, ∀ L12 : List Int, (Go.Sx.L2.fD).rel.post [v2, v3, (0 : Int), (5 : Int)] [L9, L10] [v30] [L11, L12] → ((v30 ≠ (0 : Int)) → False) ∧
((v30 = (0 : Int)) → (Go.Sx.L2.fD).rel.pre [v2, v3, (0 : Int), (6 : Int)] [L11, L12] ∧
(∀ v32 : Int, ∀ L13 : List Int, ∀ L14 : List Int, (Go.Sx.L2.fD).rel.post [v2, v3, (0 : Int), (6 : Int)] [L11, L12] [v32] [L13, L14] → ((v32 ≠ (0 : Int)) → False) ∧
((v32 = (0 : Int)) → (Go.Sx.L2.fD).rel.pre [v2, v3, (0 : Int), (7 : Int)] [L13, L14] ∧
(∀ v34 : Int, ∀ L15 : List Int, ∀ L16 : List Int, (Go.Sx.L2.fD).rel.post [v2, v3, (0 : Int), (7 : Int)] [L13, L14] [v34] [L15, L16] → ((v34 ≠ (6 : Int)) → False) ∧
((v34 = (6 : Int)) → (Go.Sx.L2.fD).rel.pre [v2, v3, (0 : Int), (7 : Int)] [L15, L16] ∧
(∀ v36 : Int, ∀ L17 : List Int, ∀ L18 : List Int, (Go.Sx.L2.fD).rel.post [v2, v3, (0 : Int), (7 : Int)] [L15, L16] [v36] [L17, L18] → ((v36 ≠ (6 : Int)) → False) ∧
((v36 = (6 : Int)) → (Go.Sx.L2.fD).rel.pre [v2, v3, (0 : Int), (7 : Int)] [L17, L18] ∧
(∀ v38 : Int, ∀ L19 : List Int, ∀ L20 : List Int, (Go.Sx.L2.fD).rel.post [v2, v3, (0 : Int), (7 : Int)] [L17, L18] [v38] [L19, L20] → ((v38 ≠ (6 : Int)) → False) ∧
((v38 = (6 : Int)) → (Go.Sx.L2.fG).rel.pre [v2, v3] [L19, L20] ∧
(∀ v40 : Int, ∀ L21 : List Int, ∀ L22 : List Int, (Go.Sx.L2.fG).rel.post [v2, v3] [L19, L20] [v40] [L21, L22] → ∀ L23 : List Int, L23 = [(0 : Int), (0 : Int), (0 : Int), (0 : Int), (0 : Int), (0 : Int), (0 : Int), (0 : Int), (0 : Int), (0 : Int), (0 : Int), (0 : Int), (0 : Int), (0 : Int), (0 : Int), (0 : Int), (0 : Int), (0 : Int), (0 : Int), (0 : Int), (0 : Int), (0 : Int), (0 : Int), (0 : Int)] → ∀ L24 : List Int, L24 = [(0 : Int), (0 : Int), (0 : Int), (0 : Int), (0 : Int), (0 : Int), (0 : Int), (0 : Int), (0 : Int), (0 : Int), (0 : Int), (0 : Int), (0 : Int), (0 : Int), (0 : Int), (0 : Int), (0 : Int), (0 : Int), (0 : Int), (0 : Int), (0 : Int), (0 : Int), (0 : Int), (0 : Int)] → (Go.Sx.L2.fX).rel.pre [v2, v3] [L21, L22, L23, L24] ∧
(∀ v41 : Int, ∀ L25 : List Int, ∀ L26 : List Int, ∀ L27 : List Int, ∀ L28 : List Int, (Go.Sx.L2.fX).rel.post [v2, v3] [L21, L22, L23, L24] [v41] [L25, L26, L27, L28] → ((v40 = (6 : Int)) → ∀ v43 : Int, v43 = b2i (v41 == (7 : Int)) → ∀ v44 : Int, v44 = (if v43 = 0 then (0 : Int) else (1 : Int)) → (v44 ≠ 0 → ∀ v45 : Int, v45 = (L26).getD ((0 : Int)).toNat 0 → ((v45 = (0 : Int)) → ∀ v47 : Int, (1 : Int) ≤ v47 → v47 ≤ (9223372036854775807 : Int) → ∀ v48 : Int, v48 = (L26).getD ((1 : Int)).toNat 0 → ((v48 = (0 : Int)) → ∀ v50 : Int, (2 : Int) ≤ v50 → v50 ≤ (9223372036854775807 : Int) → Q [] []) ∧
((v48 ≠ (0 : Int)) → False)) ∧
((v45 ≠ (0 : Int)) → ∀ v47 : Int, v47 = (L26).getD ((1 : Int)).toNat 0 → ((v47 = (0 : Int)) → ∀ v49 : Int, (1 : Int) ≤ v49 → v49 ≤ (9223372036854775807 : Int) → False) ∧
((v47 ≠ (0 : Int)) → False))) ∧
(v44 = 0 → False)) ∧
((v40 ≠ (6 : Int)) → False))))))))))))))))) ∧
((v0 ≤ (3 : Int)) → (Go.Sx.L2.fD).rel.pre [v2, v3, (0 : Int), (4 : Int)] [L7, L8] ∧
(∀ v23 : Int, ∀ L9 : List Int, ∀ L10 : List Int, (Go.Sx.L2.fD).rel.post [v2, v3, (0 : Int), (4 : Int)] [L7, L8] [v23] [L9, L10] → ((v23 ≠ (0 : Int)) → False) ∧
((v23 = (0 : Int)) → (Go.Sx.L2.fD).rel.pre [v2, v3, (0 : Int), (5 : Int)] [L9, L10] ∧
(∀ v25 : Int, ∀ L11 : List Int, ∀ L12 : List Int, (Go.Sx.L2.fD).rel.post [v2, v3, (0 : Int), (5 : Int)] [L9, L10] [v25] [L11, L12] → ((v25 ≠ (0 : Int)) → False) ∧
((v25 = (0 : Int)) → (Go.Sx.L2.fD).rel.pre [v2, v3, (0 : Int), (6 : Int)] [L11, L12] ∧
(∀ v27 : Int, ∀ L13 : List Int, ∀ L14 : List Int, (Go.Sx.L2.fD).rel.post [v2, v3, (0 : Int), (6 : Int)] [L11, L12] [v27] [L13, L14] → ((v27 ≠ (0 : Int)) → False) ∧
((v27 = (0 : Int)) → (Go.Sx.L2.fD).rel.pre [v2, v3, (0 : Int), (7 : Int)] [L13, L14] ∧
(∀ v29 : Int, ∀ L15 : List Int, ∀ L16 : List Int, (Go.Sx.L2.fD).rel.post [v2, v3, (0 : Int), (7 : Int)] [L13, L14] [v29] [L15, L16] → ((v29 ≠ (6 : Int)) → False) ∧
((v29 = (6 : Int)) → (Go.Sx.L2.fD).rel.pre [v2, v3, (0 : Int), (7 : Int)] [L15, L16] ∧
(∀ v31 : Int, ∀ L17 : List Int, ∀ L18 : List Int, (Go.Sx.L2.fD).rel.post [v2, v3, (0 : Int), (7 : Int)] [L15, L16] [v31] [L17, L18] → ((v31 ≠ (6 : Int)) → False) ∧
((v31 = (6 : Int)) → (Go.Sx.L2.fD).rel.pre [v2, v3, (0 : Int), (7 : Int)] [L17, L18] ∧
(∀ v33 : Int, ∀ L19 : List Int, ∀ L20 : List Int, (Go.Sx.L2.fD).rel.post [v2, v3, (0 : Int), (7 : Int)] [L17, L18] [v33] [L19, L20] → ((v33 ≠ (6 : Int)) → False) ∧
((v33 = (6 : Int)) → (Go.Sx.L2.fG).rel.pre [v2, v3] [L19, L20] ∧
(∀ v35 : Int, ∀ L21 : List Int, ∀ L22 : List Int, (Go.Sx.L2.fG).rel.post [v2, v3] [L19, L20] [v35] [L21, L22] → ∀ L23 : List Int, L23 = [(0 : Int), (0 : Int), (0 : Int), (0 : Int), (0 : Int), (0 : Int), (0 : Int), (0 : Int), (0 : Int), (0 : Int), (0 : Int), (0 : Int), (0 : Int), (0 : Int), (0 : Int), (0 : Int), (0 : Int), (0 : Int), (0 : Int), (0 : Int), (0 : Int), (0 : Int), (0 : Int), (0 : Int)] → ∀ L24 : List Int, L24 = [(0 : Int), (0 : Int), (0 : Int), (0 : Int), (0 : Int), (0 : Int), (0 : Int), (0 : Int), (0 : Int), (0 : Int), (0 : Int), (0 : Int), (0 : Int), (0 : Int), (0 : Int), (0 : Int), (0 : Int), (0 : Int), (0 : Int), (0 : Int), (0 : Int), (0 : Int), (0 : Int), (0 : Int)] → (Go.Sx.L2.fX).rel.pre [v2, v3] [L21, L22, L23, L24] ∧
(∀ v36 : Int, ∀ L25 : List Int, ∀ L26 : List Int, ∀ L27 : List Int, ∀ L28 : List Int, (Go.Sx.L2.fX).rel.post [v2, v3] [L21, L22, L23, L24] [v36] [L25, L26, L27, L28] → ((v35 = (6 : Int)) → ∀ v38 : Int, v38 = b2i (v36 == (7 : Int)) → ∀ v39 : Int, v39 = (if v38 = 0 then (0 : Int) else (1 : Int)) → (v39 ≠ 0 → ∀ v40 : Int, v40 = (L26).getD ((0 : Int)).toNat 0 → ((v40 = (0 : Int)) → ∀ v42 : Int, (1 : Int) ≤ v42 → v42 ≤ (9223372036854775807 : Int) → ∀ v43 : Int, v43 = (L26).getD ((1 : Int)).toNat 0 → ((v43 = (0 : Int)) → ∀ v45 : Int, (2 : Int) ≤ v45 → v45 ≤ (9223372036854775807 : Int) → Q [] []) ∧
((v43 ≠ (0 : Int)) → False)) ∧
((v40 ≠ (0 : Int)) → ∀ v42 : Int, v42 = (L26).getD ((1 : Int)).toNat 0 → ((v42 = (0 : Int)) → ∀ v44 : Int, (1 : Int) ≤ v44 → v44 ≤ (9223372036854775807 : Int) → False) ∧
((v42 ≠ (0 : Int)) → False))) ∧
(v39 = 0 → False)) ∧
((v35 ≠ (6 : Int)) → False))))))))))))))))))) ∧
((v0 ≤ (2 : Int)) → (Go.Sx.L2.fD).rel.pre [v2, v3, (0 : Int), (3 : Int)] [L5, L6] ∧
(∀ v16 : Int, ∀ L7 : List Int, ∀ L8 : List Int, (Go.Sx.L2.fD).rel.post [v2, v3, (0 : Int), (3 : Int)] [L5, L6] [v16] [L7, L8] → ((v16 ≠ (0 : Int)) → False) ∧
((v16 = (0 : Int)) → (Go.Sx.L2.fD).rel.pre [v2, v3, (0 : Int), (4 : Int)] [L7, L8] ∧
(∀ v18 : Int, ∀ L9 : List Int, ∀ L10 : List Int, (Go.Sx.L2.fD).rel.post [v2, v3, (0 : Int), (4 : Int)] [L7, L8] [v18] [L9, L10] → ((v18 ≠ (0 : Int)) → False) ∧
((v18 = (0 : Int)) → (Go.Sx.L2.fD).rel.pre [v2, v3, (0 : Int), (5 : Int)] [L9, L10] ∧
(∀ v20 : Int, ∀ L11 : List Int, ∀ L12 : List Int, (Go.Sx.L2.fD).rel.post [v2, v3, (0 : Int), (5 : Int)] [L9, L10] [v20] [L11, L12] → ((v20 ≠ (0 : Int)) → False) ∧
((v20 = (0 : Int)) → (Go.Sx.L2.fD).rel.pre [v2, v3, (0 : Int), (6 : Int)] [L11, L12] ∧
(∀ v22 : Int, ∀ L13 : List Int, ∀ L14 : List Int, (Go.Sx.L2.fD).rel.post [v2, v3, (0 : Int), (6 : Int)] [L11, L12] [v22] [L13, L14] → ((v22 ≠ (0 : Int)) → False) ∧
((v22 = (0 : Int)) → (Go.Sx.L2.fD).rel.pre [v2, v3, (0 : Int), (7 : Int)] [L13, L14] ∧
(∀ v24 : Int, ∀ L15 : List Int, ∀ L16 : List Int, (Go.Sx.L2.fD).rel.post [v2, v3, (0 : Int), (7 : Int)] [L13, L14] [v24] [L15, L16] → ((v24 ≠ (6 : Int)) → False) ∧
((v24 = (6 : Int)) → (Go.Sx.L2.fD).rel.pre [v2, v3, (0 : Int), (7 : Int)] [L15, L16] ∧
(∀ v26 : Int, ∀ L17 : List Int, ∀ L18 : List Int, (Go.Sx.L2.fD).rel.post [v2, v3, (0 : Int), (7 : Int)] [L15, L16] [v26] [L17, L18] → ((v26 ≠ (6 : Int)) → False) ∧
((v26 = (6 : Int)) → (Go.Sx.L2.fD).rel.pre [v2, v3, (0 : Int), (7 : Int)] [L17, L18] ∧
(∀ v28 : Int, ∀ L19 : List Int, ∀ L20 : List Int, (Go.Sx.L2.fD).rel.post [v2, v3, (0 : Int), (7 : Int)] [L17, L18] [v28] [L19, L20] → ((v28 ≠ (6 : Int)) → False) ∧
((v28 = (6 : Int)) → (Go.Sx.L2.fG).rel.pre [v2, v3] [L19, L20] ∧
(∀ v30 : Int, ∀ L21 : List Int, ∀ L22 : List Int, (Go.Sx.L2.fG).rel.post [v2, v3] [L19, L20] [v30] [L21, L22] → ∀ L23 : List Int, L23 = [(0 : Int), (0 : Int), (0 : Int), (0 : Int), (0 : Int), (0 : Int), (0 : Int), (0 : Int), (0 : Int), (0 : Int), (0 : Int), (0 : Int), (0 : Int), (0 : Int), (0 : Int), (0 : Int), (0 : Int), (0 : Int), (0 : Int), (0 : Int), (0 : Int), (0 : Int), (0 : Int), (0 : Int)] → ∀ L24 : List Int, L24 = [(0 : Int), (0 : Int), (0 : Int), (0 : Int), (0 : Int), (0 : Int), (0 : Int), (0 : Int), (0 : Int), (0 : Int), (0 : Int), (0 : Int), (0 : Int), (0 : Int), (0 : Int), (0 : Int), (0 : Int), (0 : Int), (0 : Int), (0 : Int), (0 : Int), (0 : Int), (0 : Int), (0 : Int)] → (Go.Sx.L2.fX).rel.pre [v2, v3] [L21, L22, L23, L24] ∧
(∀ v31 : Int, ∀ L25 : List Int, ∀ L26 : List Int, ∀ L27 : List Int, ∀ L28 : List Int, (Go.Sx.L2.fX).rel.post [v2, v3] [L21, L22, L23, L24] [v31] [L25, L26, L27, L28] → ((v30 = (6 : Int)) → ∀ v33 : Int, v33 = b2i (v31 == (7 : Int)) → ∀ v34 : Int, v34 = (if v33 = 0 then (0 : Int) else (1 : Int)) → (v34 ≠ 0 → ∀ v35 : Int, v35 = (L26).getD ((0 : Int)).toNat 0 → ((v35 = (0 : Int)) → ∀ v37 : Int, (1 : Int) ≤ v37 → v37 ≤ (9223372036854775807 : Int) → ∀ v38 : Int, v38 = (L26).getD ((1 : Int)).toNat 0 → ((v38 = (0 : Int)) → ∀ v40 : Int, (2 : Int) ≤ v40 → v40 ≤ (9223372036854775807 : Int) → Q [] []) ∧
((v38 ≠ (0 : Int)) → False)) ∧
((v35 ≠ (0 : Int)) → ∀ v37 : Int, v37 = (L26).getD ((1 : Int)).toNat 0 → ((v37 = (0 : Int)) → ∀ v39 : Int, (1 : Int) ≤ v39 → v39 ≤ (9223372036854775807 : Int) → False) ∧
((v37 ≠ (0 : Int)) → False))) ∧
(v34 = 0 → False)) ∧
((v30 ≠ (6 : Int)) → False))))))))))))))))))))) ∧
((v0 ≤ (1 : Int)) → (Go.Sx.L2.fD).rel.pre [v2, v3, (0 : Int), (2 : Int)] [L3, L4] ∧
(∀ v9 : Int, ∀ L5 : List Int, ∀ L6 : List Int, (Go.Sx.L2.fD).rel.post [v2, v3, (0 : Int), (2 : Int)] [L3, L4] [v9] [L5, L6] → ((v9 ≠ (0 : Int)) → False) ∧
((v9 = (0 : Int)) → (Go.Sx.L2.fD).rel.pre [v2, v3, (0 : Int), (3 : Int)] [L5, L6] ∧
(∀ v11 : Int, ∀ L7 : List Int, ∀ L8 : List Int, (Go.Sx.L2.fD).rel.post [v2, v3, (0 : Int), (3 : Int)] [L5, L6] [v11] [L7, L8] → ((v11 ≠ (0 : Int)) → False) ∧
((v11 = (0 : Int)) → (Go.Sx.L2.fD).rel.pre [v2, v3, (0 : Int), (4 : Int)] [L7, L8] ∧
(∀ v13 : Int, ∀ L9 : List Int, ∀ L10 : List Int, (Go.Sx.L2.fD).rel.post [v2, v3, (0 : Int), (4 : Int)] [L7, L8] [v13] [L9, L10] → ((v13 ≠ (0 : Int)) → False) ∧
((v13 = (0 : Int)) → (Go.Sx.L2.fD).rel.pre [v2, v3, (0 : Int), (5 : Int)] [L9, L10] ∧
(∀ v15 : Int, ∀ L11 : List Int, ∀ L12 : List Int, (Go.Sx.L2.fD).rel.post [v2, v3, (0 : Int), (5 : Int)] [L9, L10] [v15] [L11, L12] → ((v15 ≠ (0 : Int)) → False) ∧
((v15 = (0 : Int)) → (Go.Sx.L2.fD).rel.pre [v2, v3, (0 : Int), (6 : Int)] [L11, L12] ∧
(∀ v17 : Int, ∀ L13 : List Int, ∀ L14 : List Int, (Go.Sx.L2.fD).rel.post [v2, v3, (0 : Int), (6 : Int)] [L11, L12] [v17] [L13, L14] → ((v17 ≠ (0 : Int)) → False) ∧
((v17 = (0 : Int)) → (Go.Sx.L2.fD).rel.pre [v2, v3, (0 : Int), (7 : Int)] [L13, L14] ∧
(∀ v19 : Int, ∀ L15 : List Int, ∀ L16 : List Int, (Go.Sx.L2.fD).rel.post [v2, v3, (0 : Int), (7 : Int)] [L13, L14] [v19] [L15, L16] → ((v19 ≠ (6 : Int)) → False) ∧
((v19 = (6 : Int)) → (Go.Sx.L2.fD).rel.pre [v2, v3, (0 : Int), (7 : Int)] [L15, L16] ∧
(∀ v21 : Int, ∀ L17 : List Int, ∀ L18 : List Int, (Go.Sx.L2.fD).rel.post [v2, v3, (0 : Int), (7 : Int)] [L15, L16] [v21] [L17, L18] → ((v21 ≠ (6 : Int)) → False) ∧
((v21 = (6 : Int)) → (Go.Sx.L2.fD).rel.pre [v2, v3, (0 : Int), (7 : Int)] [L17, L18] ∧
(∀ v23 : Int, ∀ L19 : List Int, ∀ L20 : List Int, (Go.Sx.L2.fD).rel.post [v2, v3, (0 : Int), (7 : Int)] [L17, L18] [v23] [L19, L20] → ((v23 ≠ (6 : Int)) → False) ∧
((v23 = (6 : Int)) → (Go.Sx.L2.fG).rel.pre [v2, v3] [L19, L20] ∧
(∀ v25 : Int, ∀ L21 : List Int, ∀ L22 : List Int, (Go.Sx.L2.fG).rel.post [v2, v3] [L19, L20] [v25] [L21, L22] → ∀ L23 : List Int, L23 = [(0 : Int), (0 : Int), (0 : Int), (0 : Int), (0 : Int), (0 : Int), (0 : Int), (0 : Int), (0 : Int), (0 : Int), (0 : Int), (0 : Int), (0 : Int), (0 : Int), (0 : Int), (0 : Int), (0 : Int), (0 : Int), (0 : Int), (0 : Int), (0 : Int), (0 : Int), (0 : Int), (0 : Int)] → ∀ L24 : List Int, L24 = [(0 : Int), (0 : Int), (0 : Int), (0 : Int), (0 : Int), (0 : Int), (0 : Int), (0 : Int), (0 : Int), (0 : Int), (0 : Int), (0 : Int), (0 : Int), (0 : Int), (0 : Int), (0 : Int), (0 : Int), (0 : Int), (0 : Int), (0 : Int), (0 : Int), (0 : Int), (0 : Int), (0 : Int)] → (Go.Sx.L2.fX).rel.pre [v2, v3] [L21, L22, L23, L24] ∧
(∀ v26 : Int, ∀ L25 : List Int, ∀ L26 : List Int, ∀ L27 : List Int, ∀ L28 : List Int, (Go.Sx.L2.fX).rel.post [v2, v3] [L21, L22, L23, L24] [v26] [L25, L26, L27, L28] → ((v25 = (6 : Int)) → ∀ v28 : Int, v28 = b2i (v26 == (7 : Int)) → ∀ v29 : Int, v29 = (if v28 = 0 then (0 : Int) else (1 : Int)) → (v29 ≠ 0 → ∀ v30 : Int, v30 = (L26).getD ((0 : Int)).toNat 0 → ((v30 = (0 : Int)) → ∀ v32 : Int, (1 : Int) ≤ v32 → v32 ≤ (9223372036854775807 : Int) → ∀ v33 : Int, v33 = (L26).getD ((1 : Int)).toNat 0 → ((v33 = (0 : Int)) → ∀ v35 : Int, (2 : Int) ≤ v35 → v35 ≤ (9223372036854775807 : Int) → Q [] []) ∧
((v33 ≠ (0 : Int)) → False)) ∧
((v30 ≠ (0 : Int)) → ∀ v32 : Int, v32 = (L26).getD ((1 : Int)).toNat 0 → ((v32 = (0 : Int)) → ∀ v34 : Int, (1 : Int) ≤ v34 → v34 ≤ (9223372036854775807 : Int) → False) ∧
((v32 ≠ (0 : Int)) → False))) ∧
(v29 = 0 → False)) ∧
((v25 ≠ (6 : Int)) → False))))))))))))))))))))))) ∧
((v0 ≤ (0 : Int)) → ∀ L1 : List Int, L1 = [(1 : Int), (0 : Int)] → ∀ L2 : List Int, L2 = [(0 : Int), (3 : Int), ((-1) : Int), (0 : Int), (0 : Int), (0 : Int), (0 : Int), (0 : Int), (0 : Int), (0 : Int), (0 : Int), (0 : Int), (0 : Int), (0 : Int), (0 : Int), (0 : Int), (0 : Int), (0 : Int), (0 : Int), (0 : Int), (0 : Int), (0 : Int), (0 : Int), (0 : Int), (0 : Int), (0 : Int), (0 : Int), (0 : Int), (0 : Int), (0 : Int), (0 : Int), (0 : Int), (0 : Int), (0 : Int), (0 : Int), (0 : Int), (0 : Int), (0 : Int), (0 : Int), (0 : Int), (0 : Int), (0 : Int), (0 : Int), (0 : Int), (0 : Int), (0 : Int), (0 : Int), (0 : Int), (0 : Int), (0 : Int), (0 : Int), (0 : Int), (0 : Int), (0 : Int), (0 : Int), (0 : Int), (0 : Int), (0 : Int), (0 : Int), (0 : Int), (0 : Int), (0 : Int), (0 : Int), (0 : Int)] → (Go.Sx.L2.fD).rel.pre [v2, v3, (0 : Int), (1 : Int)] [L2, L1] ∧
(∀ v5 : Int, ∀ L3 : List Int, ∀ L4 : List Int, (Go.Sx.L2.fD).rel.post [v2, v3, (0 : Int), (1 : Int)] [L2, L1] [v5] [L3, L4] → ((v5 ≠ (0 : Int)) → False) ∧
((v5 = (0 : Int)) → (Go.Sx.L2.fD).rel.pre [v2, v3, (0 : Int), (2 : Int)] [L3, L4] ∧
(∀ v7 : Int, ∀ L5 : List Int, ∀ L6 : List Int, (Go.Sx.L2.fD).rel.post [v2, v3, (0 : Int), (2 : Int)] [L3, L4] [v7] [L5, L6] → ((v7 ≠ (0 : Int)) → False) ∧
((v7 = (0 : Int)) → (Go.Sx.L2.fD).rel.pre [v2, v3, (0 : Int), (3 : Int)] [L5, L6] ∧
(∀ v9 : Int, ∀ L7 : List Int, ∀ L8 : List Int, (Go.Sx.L2.fD).rel.post [v2, v3, (0 : Int), (3 : Int)] [L5, L6] [v9] [L7, L8] → ((v9 ≠ (0 : Int)) → False) ∧
((v9 = (0 : Int)) → (Go.Sx.L2.fD).rel.pre [v2, v3, (0 : Int), (4 : Int)] [L7, L8] ∧
(∀ v11 : Int, ∀ L9 : List Int, ∀ L10 : List Int, (Go.Sx.L2.fD).rel.post [v2, v3, (0 : Int), (4 : Int)] [L7, L8] [v11] [L9, L10] → ((v11 ≠ (0 : Int)) → False) ∧
((v11 = (0 : Int)) → (Go.Sx.L2.fD).rel.pre [v2, v3, (0 : Int), (5 : Int)] [L9, L10] ∧
(∀ v13 : Int, ∀ L11 : List Int, ∀ L12 : List Int, (Go.Sx.L2.fD).rel.post [v2, v3, (0 : Int), (5 : Int)] [L9, L10] [v13] [L11, L12] → ((v13 ≠ (0 : Int)) → False) ∧
((v13 = (0 : Int)) → (Go.Sx.L2.fD).rel.pre [v2, v3, (0 : Int), (6 : Int)] [L11, L12] ∧
(∀ v15 : Int, ∀ L13 : List Int, ∀ L14 : List Int, (Go.Sx.L2.fD).rel.post [v2, v3, (0 : Int), (6 : Int)] [L11, L12] [v15] [L13, L14] → ((v15 ≠ (0 : Int)) → False) ∧
((v15 = (0 : Int)) → (Go.Sx.L2.fD).rel.pre [v2, v3, (0 : Int), (7 : Int)] [L13, L14] ∧
(∀ v17 : Int, ∀ L15 : List Int, ∀ L16 : List Int, (Go.Sx.L2.fD).rel.post [v2, v3, (0 : Int), (7 : Int)] [L13, L14] [v17] [L15, L16] → ((v17 ≠ (6 : Int)) → False) ∧
((v17 = (6 : Int)) → (Go.Sx.L2.fD).rel.pre [v2, v3, (0 : Int), (7 : Int)] [L15, L16] ∧
(∀ v19 : Int, ∀ L17 : List Int, ∀ L18 : List Int, (Go.Sx.L2.fD).rel.post [v2, v3, (0 : Int), (7 : Int)] [L15, L16] [v19] [L17, L18] → ((v19 ≠ (6 : Int)) → False) ∧
((v19 = (6 : Int)) → (Go.Sx.L2.fD).rel.pre [v2, v3, (0 : Int), (7 : Int)] [L17, L18] ∧
(∀ v21 : Int, ∀ L19 : List Int, ∀ L20 : List Int, (Go.Sx.L2.fD).rel.post [v2, v3, (0 : Int), (7 : Int)] [L17, L18] [v21] [L19, L20] → ((v21 ≠ (6 : Int)) → False) ∧
((v21 = (6 : Int)) → (Go.Sx.L2.fG).rel.pre [v2, v3] [L19, L20] ∧
(∀ v23 : Int, ∀ L21 : List Int, ∀ L22 : List Int, (Go.Sx.L2.fG).rel.post [v2, v3] [L19, L20] [v23] [L21, L22] → ∀ L23 : List Int, L23 = [(0 : Int), (0 : Int), (0 : Int), (0 : Int), (0 : Int), (0 : Int), (0 : Int), (0 : Int), (0 : Int), (0 : Int), (0 : Int), (0 : Int), (0 : Int), (0 : Int), (0 : Int), (0 : Int), (0 : Int), (0 : Int), (0 : Int), (0 : Int), (0 : Int), (0 : Int), (0 : Int), (0 : Int)] → ∀ L24 : List Int, L24 = [(0 : Int), (0 : Int), (0 : Int), (0 : Int), (0 : Int), (0 : Int), (0 : Int), (0 : Int), (0 : Int), (0 : Int), (0 : Int), (0 : Int), (0 : Int), (0 : Int), (0 : Int), (0 : Int), (0 : Int), (0 : Int), (0 : Int), (0 : Int), (0 : Int), (0 : Int), (0 : Int), (0 : Int)] → (Go.Sx.L2.fX).rel.pre [v2, v3] [L21, L22, L23, L24] ∧
(∀ v24 : Int, ∀ L25 : List Int, ∀ L26 : List Int, ∀ L27 : List Int, ∀ L28 : List Int, (Go.Sx.L2.fX).rel.post [v2, v3] [L21, L22, L23, L24] [v24] [L25, L26, L27, L28] → ((v23 = (6 : Int)) → ∀ v26 : Int, v26 = b2i (v24 == (7 : Int)) → ∀ v27 : Int, v27 = (if v26 = 0 then (0 : Int) else (1 : Int)) → (v27 ≠ 0 → ∀ v28 : Int, v28 = (L26).getD ((0 : Int)).toNat 0 → ((v28 = (0 : Int)) → ∀ v30 : Int, (1 : Int) ≤ v30 → v30 ≤ (9223372036854775807 : Int) → ∀ v31 : Int, v31 = (L26).getD ((1 : Int)).toNat 0 → ((v31 = (0 : Int)) → ∀ v33 : Int, (2 : Int) ≤ v33 → v33 ≤ (9223372036854775807 : Int) → Q [] []) ∧
((v31 ≠ (0 : Int)) → False)) ∧
((v28 ≠ (0 : Int)) → ∀ v30 : Int, v30 = (L26).getD ((1 : Int)).toNat 0 → ((v30 = (0 : Int)) → ∀ v32 : Int, (1 : Int) ≤ v32 → v32 ≤ (9223372036854775807 : Int) → False) ∧
((v30 ≠ (0 : Int)) → False))) ∧
(v27 = 0 → False)) ∧
((v23 ≠ (6 : Int)) → False)))))))))))))))))))))))))) := by kernel_rfl
set_option maxHeartbeats 4000000 in
theorem plainFull_holds0 : (lawSpec L2.f_messuagelaw11_PlainFull [.slc [.i .i64]]).Holds Tryz.prog L2.ro := FSpec.holdsV (cfg := withC (withA (withS (L2.cfgB Tryz.prog) [L2.pNew2]) L2.f_plain_Kernel_Do [L2.qH1, L2.fD, L2.fG, L2.fX])) [] 20 200 (withC_ok (withA_ok (withS_ok cfgB_ok ⟨pNew2_holds, trivial⟩) (fun s hs => by
  simp only [List.mem_cons, List.not_mem_nil, or_false] at hs
  rcases hs with rfl | rfl | rfl | rfl <;> rfl) ⟨qH1_holds, fD_holds, fG_holds, fX_holds, trivial⟩)) mixed (t := PlainFull_t) PlainFull_tree (by
  show ∀ (v0 v1 : Int) (L0 : List Int), _
  intro v0 v1 L0 hp hr hl
  replace hr : ((0 : Int) ≤ v0 ∧ v0 ≤ (9223372036854775807 : Int)) ∧ ((0 : Int) ≤ v1 ∧ v1 ≤ (9223372036854775807 : Int)) ∧ True := hr
  replace hp : (True ∧ ((0 : Int) ≤ v0 ∧ v0 ≤ v1 ∧ (L0.length : Int) = v0 * ((1 : Nat) : Int) ∧ ((1 : Nat) ≠ 1 → [v0, v1].getD 2 0 = v0 * ((1 : Nat) : Int)) ∧ ∀ j, j < L0.length → ((oneKind [.i .i64]).getD (j % (oneKind [.i .i64]).length) (.i .i64)).lo ≤ L0.getD j 0 ∧ L0.getD j 0 ≤ ((oneKind [.i .i64]).getD (j % (oneKind [.i .i64]).length) (.i .i64)).hi)) := hp
  show PlainFull_t.dn ⟨_, []⟩ 2 [v1, v0] 1 [L0]
  rw [PlainFull_vc]
  show ((L2.yes L2.f_messuagelaw11_begun).rel.pre [] [] ∧ _)
  refine ⟨trivial, fun _ => ?_⟩
  refine ⟨trivial, fun v2 v3 _ => ⟨trivial, fun _ => ?_⟩⟩
  refine ⟨fun c1 => ?_, fun c1 => ?_⟩
  · intro v ev
    intro R eR L eL
    have h : FS 1 L := by rw [eL]; exact FS.one
    have hR : R = [((1 : Nat) : Int), 0] := eR
    clear eR eL
    refine ⟨fPre h (by omega) hR (Int.le_refl 0) (show (0 : Int) < (1 : Nat) by omega) rfl, fun w1 L' R' q => ?_⟩
    obtain ⟨e, h', hR'⟩ := fPost q h hR rfl (by omega)
    replace e : w1 = 0 := e
    refine ⟨fun c => absurd e c, fun _ => ?_⟩
    clear q e h hR; have h := h'; have hR := hR'; clear h' hR'
    refine ⟨fun c2 => ?_, fun c2 => ?_⟩
    · intro v ev a ea b eb s es
      have hs : 0 ≤ s ∧ s < 2 := by rw [es, eb, ea]; exact tm_rng (by omega)
      refine ⟨fPre h (by omega) hR (hs.1) (hs.2) rfl, fun w2 L' R' q => ?_⟩
      obtain ⟨e, h', hR'⟩ := fPost q h hR rfl (by omega)
      replace e : w2 = 0 := e
      refine ⟨fun c => absurd e c, fun _ => ?_⟩
      clear q e h hR; have h := h'; have hR := hR'; clear h' hR'
      clear hs es eb ea ev
      refine ⟨fun c3 => ?_, fun c3 => ?_⟩
      · intro v ev a ea b eb s es
        have hs : 0 ≤ s ∧ s < 3 := by rw [es, eb, ea]; exact tm_rng (by omega)
        refine ⟨fPre h (by omega) hR (hs.1) (hs.2) rfl, fun w3 L' R' q => ?_⟩
        obtain ⟨e, h', hR'⟩ := fPost q h hR rfl (by omega)
        replace e : w3 = 0 := e
        refine ⟨fun c => absurd e c, fun _ => ?_⟩
        clear q e h hR; have h := h'; have hR := hR'; clear h' hR'
        clear hs es eb ea ev
        refine ⟨fun c4 => ?_, fun c4 => ?_⟩
        · intro v ev a ea b eb s es
          have hs : 0 ≤ s ∧ s < 4 := by rw [es, eb, ea]; exact tm_rng (by omega)
          refine ⟨fPre h (by omega) hR (hs.1) (hs.2) rfl, fun w4 L' R' q => ?_⟩
          obtain ⟨e, h', hR'⟩ := fPost q h hR rfl (by omega)
          replace e : w4 = 0 := e
          refine ⟨fun c => absurd e c, fun _ => ?_⟩
          clear q e h hR; have h := h'; have hR := hR'; clear h' hR'
          clear hs es eb ea ev
          refine ⟨fun c5 => ?_, fun c5 => ?_⟩
          · intro v ev a ea b eb s es
            have hs : 0 ≤ s ∧ s < 5 := by rw [es, eb, ea]; exact tm_rng (by omega)
            refine ⟨fPre h (by omega) hR (hs.1) (hs.2) rfl, fun w5 L' R' q => ?_⟩
            obtain ⟨e, h', hR'⟩ := fPost q h hR rfl (by omega)
            replace e : w5 = 0 := e
            refine ⟨fun c => absurd e c, fun _ => ?_⟩
            clear q e h hR; have h := h'; have hR := hR'; clear h' hR'
            clear hs es eb ea ev
            refine ⟨fun c6 => ?_, fun c6 => ?_⟩
            · intro v ev a ea b eb s es
              have hs : 0 ≤ s ∧ s < 6 := by rw [es, eb, ea]; exact tm_rng (by omega)
              refine ⟨fPre h (by omega) hR (hs.1) (hs.2) rfl, fun w6 L' R' q => ?_⟩
              obtain ⟨e, h', hR'⟩ := fPost q h hR rfl (by omega)
              replace e : w6 = 0 := e
              refine ⟨fun c => absurd e c, fun _ => ?_⟩
              clear q e h hR; have h := h'; have hR := hR'; clear h' hR'
              clear hs es eb ea ev
              refine ⟨fun c7 => ?_, fun c7 => ?_⟩
              · intro v ev a ea b eb s es
                have hs : 0 ≤ s ∧ s < 7 := by rw [es, eb, ea]; exact tm_rng (by omega)
                refine ⟨fPre h (by omega) hR (hs.1) (hs.2) rfl, fun w7 L' R' q => ?_⟩
                obtain ⟨e, h', hR'⟩ := fPost7 q h hR rfl
                replace e : w7 = 6 := e
                refine ⟨fun c => absurd e c, fun _ => ?_⟩
                clear q e h hR; have h := h'; have hR := hR'; clear h' hR'
                clear hs es eb ea ev
                refine ⟨fun c8 => ?_, fun c8 => ?_⟩
                · intro v ev a ea b eb s es
                  have hs : 0 ≤ s ∧ s < 7 := by rw [es, eb, ea]; exact tm_rng (by omega)
                  refine ⟨fPre h (by omega) hR (hs.1) (hs.2) rfl, fun w8 L' R' q => ?_⟩
                  obtain ⟨e, h', hR'⟩ := fPost7 q h hR rfl
                  replace e : w8 = 6 := e
                  refine ⟨fun c => absurd e c, fun _ => ?_⟩
                  clear q e h hR; have h := h'; have hR := hR'; clear h' hR'
                  clear hs es eb ea ev
                  refine ⟨fun c9 => ?_, fun c9 => ?_⟩
                  · intro v ev a ea b eb s es
                    have hs : 0 ≤ s ∧ s < 7 := by rw [es, eb, ea]; exact tm_rng (by omega)
                    refine ⟨fPre h (by omega) hR (hs.1) (hs.2) rfl, fun w9 L' R' q => ?_⟩
                    obtain ⟨e, h', hR'⟩ := fPost7 q h hR rfl
                    replace e : w9 = 6 := e
                    refine ⟨fun c => absurd e c, fun _ => ?_⟩
                    clear q e h hR; have h := h'; have hR := hR'; clear h' hR'
                    clear hs es eb ea ev
                    refine ⟨⟨h, hR⟩, fun x LG RG qG T eT U eU => ?_⟩
                    obtain ⟨ex, hG, hRG⟩ := qG
                    refine ⟨⟨hG, hRG, eT, eU⟩, fun y LX RX T' U' qX => ?_⟩
                    obtain ⟨ey, hX⟩ := qX
                    replace ex : x = 6 := ex
                    replace ey : y = 7 := ey
                    replace hX : RX = [0, 0] := hX
                    subst ex ey hX
                    refine ⟨fun _ a ea b eb => ⟨fun _ c ec => ⟨fun _ d _ _ f ef => ⟨fun _ g _ _ => trivial, fun z => z ef⟩, fun z => absurd ec z⟩, fun z => ?_⟩, fun z => z rfl⟩
                    subst ea; subst eb; exact absurd z (by decide)
                  · refine ⟨fPre h (by omega) hR (Int.le_refl 0) (show (0 : Int) < (7 : Nat) by omega) rfl, fun w9 L' R' q => ?_⟩
                    obtain ⟨e, h', hR'⟩ := fPost7 q h hR rfl
                    replace e : w9 = 6 := e
                    refine ⟨fun c => absurd e c, fun _ => ?_⟩
                    clear q e h hR; have h := h'; have hR := hR'; clear h' hR'
                    refine ⟨⟨h, hR⟩, fun x LG RG qG T eT U eU => ?_⟩
                    obtain ⟨ex, hG, hRG⟩ := qG
                    refine ⟨⟨hG, hRG, eT, eU⟩, fun y LX RX T' U' qX => ?_⟩
                    obtain ⟨ey, hX⟩ := qX
                    replace ex : x = 6 := ex
                    replace ey : y = 7 := ey
                    replace hX : RX = [0, 0] := hX
                    subst ex ey hX
                    refine ⟨fun _ a ea b eb => ⟨fun _ c ec => ⟨fun _ d _ _ f ef => ⟨fun _ g _ _ => trivial, fun z => z ef⟩, fun z => absurd ec z⟩, fun z => ?_⟩, fun z => z rfl⟩
                    subst ea; subst eb; exact absurd z (by decide)
                · refine ⟨fPre h (by omega) hR (Int.le_refl 0) (show (0 : Int) < (7 : Nat) by omega) rfl, fun w8 L' R' q => ?_⟩
                  obtain ⟨e, h', hR'⟩ := fPost7 q h hR rfl
                  replace e : w8 = 6 := e
                  refine ⟨fun c => absurd e c, fun _ => ?_⟩
                  clear q e h hR; have h := h'; have hR := hR'; clear h' hR'
                  refine ⟨fPre h (by omega) hR (Int.le_refl 0) (show (0 : Int) < (7 : Nat) by omega) rfl, fun w9 L' R' q => ?_⟩
                  obtain ⟨e, h', hR'⟩ := fPost7 q h hR rfl
                  replace e : w9 = 6 := e
                  refine ⟨fun c => absurd e c, fun _ => ?_⟩
                  clear q e h hR; have h := h'; have hR := hR'; clear h' hR'
                  refine ⟨⟨h, hR⟩, fun x LG RG qG T eT U eU => ?_⟩
                  obtain ⟨ex, hG, hRG⟩ := qG
                  refine ⟨⟨hG, hRG, eT, eU⟩, fun y LX RX T' U' qX => ?_⟩
                  obtain ⟨ey, hX⟩ := qX
                  replace ex : x = 6 := ex
                  replace ey : y = 7 := ey
                  replace hX : RX = [0, 0] := hX
                  subst ex ey hX
                  refine ⟨fun _ a ea b eb => ⟨fun _ c ec => ⟨fun _ d _ _ f ef => ⟨fun _ g _ _ => trivial, fun z => z ef⟩, fun z => absurd ec z⟩, fun z => ?_⟩, fun z => z rfl⟩
                  subst ea; subst eb; exact absurd z (by decide)
              · refine ⟨fPre h (by omega) hR (Int.le_refl 0) (show (0 : Int) < (7 : Nat) by omega) rfl, fun w7 L' R' q => ?_⟩
                obtain ⟨e, h', hR'⟩ := fPost7 q h hR rfl
                replace e : w7 = 6 := e
                refine ⟨fun c => absurd e c, fun _ => ?_⟩
                clear q e h hR; have h := h'; have hR := hR'; clear h' hR'
                refine ⟨fPre h (by omega) hR (Int.le_refl 0) (show (0 : Int) < (7 : Nat) by omega) rfl, fun w8 L' R' q => ?_⟩
                obtain ⟨e, h', hR'⟩ := fPost7 q h hR rfl
                replace e : w8 = 6 := e
                refine ⟨fun c => absurd e c, fun _ => ?_⟩
                clear q e h hR; have h := h'; have hR := hR'; clear h' hR'
                refine ⟨fPre h (by omega) hR (Int.le_refl 0) (show (0 : Int) < (7 : Nat) by omega) rfl, fun w9 L' R' q => ?_⟩
                obtain ⟨e, h', hR'⟩ := fPost7 q h hR rfl
                replace e : w9 = 6 := e
                refine ⟨fun c => absurd e c, fun _ => ?_⟩
                clear q e h hR; have h := h'; have hR := hR'; clear h' hR'
                refine ⟨⟨h, hR⟩, fun x LG RG qG T eT U eU => ?_⟩
                obtain ⟨ex, hG, hRG⟩ := qG
                refine ⟨⟨hG, hRG, eT, eU⟩, fun y LX RX T' U' qX => ?_⟩
                obtain ⟨ey, hX⟩ := qX
                replace ex : x = 6 := ex
                replace ey : y = 7 := ey
                replace hX : RX = [0, 0] := hX
                subst ex ey hX
                refine ⟨fun _ a ea b eb => ⟨fun _ c ec => ⟨fun _ d _ _ f ef => ⟨fun _ g _ _ => trivial, fun z => z ef⟩, fun z => absurd ec z⟩, fun z => ?_⟩, fun z => z rfl⟩
                subst ea; subst eb; exact absurd z (by decide)
            · refine ⟨fPre h (by omega) hR (Int.le_refl 0) (show (0 : Int) < (6 : Nat) by omega) rfl, fun w6 L' R' q => ?_⟩
              obtain ⟨e, h', hR'⟩ := fPost q h hR rfl (by omega)
              replace e : w6 = 0 := e
              refine ⟨fun c => absurd e c, fun _ => ?_⟩
              clear q e h hR; have h := h'; have hR := hR'; clear h' hR'
              refine ⟨fPre h (by omega) hR (Int.le_refl 0) (show (0 : Int) < (7 : Nat) by omega) rfl, fun w7 L' R' q => ?_⟩
              obtain ⟨e, h', hR'⟩ := fPost7 q h hR rfl
              replace e : w7 = 6 := e
              refine ⟨fun c => absurd e c, fun _ => ?_⟩
              clear q e h hR; have h := h'; have hR := hR'; clear h' hR'
              refine ⟨fPre h (by omega) hR (Int.le_refl 0) (show (0 : Int) < (7 : Nat) by omega) rfl, fun w8 L' R' q => ?_⟩
              obtain ⟨e, h', hR'⟩ := fPost7 q h hR rfl
              replace e : w8 = 6 := e
              refine ⟨fun c => absurd e c, fun _ => ?_⟩
              clear q e h hR; have h := h'; have hR := hR'; clear h' hR'
              refine ⟨fPre h (by omega) hR (Int.le_refl 0) (show (0 : Int) < (7 : Nat) by omega) rfl, fun w9 L' R' q => ?_⟩
              obtain ⟨e, h', hR'⟩ := fPost7 q h hR rfl
              replace e : w9 = 6 := e
              refine ⟨fun c => absurd e c, fun _ => ?_⟩
              clear q e h hR; have h := h'; have hR := hR'; clear h' hR'
              refine ⟨⟨h, hR⟩, fun x LG RG qG T eT U eU => ?_⟩
              obtain ⟨ex, hG, hRG⟩ := qG
              refine ⟨⟨hG, hRG, eT, eU⟩, fun y LX RX T' U' qX => ?_⟩
              obtain ⟨ey, hX⟩ := qX
              replace ex : x = 6 := ex
              replace ey : y = 7 := ey
              replace hX : RX = [0, 0] := hX
              subst ex ey hX
              refine ⟨fun _ a ea b eb => ⟨fun _ c ec => ⟨fun _ d _ _ f ef => ⟨fun _ g _ _ => trivial, fun z => z ef⟩, fun z => absurd ec z⟩, fun z => ?_⟩, fun z => z rfl⟩
              subst ea; subst eb; exact absurd z (by decide)
          · refine ⟨fPre h (by omega) hR (Int.le_refl 0) (show (0 : Int) < (5 : Nat) by omega) rfl, fun w5 L' R' q => ?_⟩
            obtain ⟨e, h', hR'⟩ := fPost q h hR rfl (by omega)
            replace e : w5 = 0 := e
            refine ⟨fun c => absurd e c, fun _ => ?_⟩
            clear q e h hR; have h := h'; have hR := hR'; clear h' hR'
            refine ⟨fPre h (by omega) hR (Int.le_refl 0) (show (0 : Int) < (6 : Nat) by omega) rfl, fun w6 L' R' q => ?_⟩
            obtain ⟨e, h', hR'⟩ := fPost q h hR rfl (by omega)
            replace e : w6 = 0 := e
            refine ⟨fun c => absurd e c, fun _ => ?_⟩
            clear q e h hR; have h := h'; have hR := hR'; clear h' hR'
            refine ⟨fPre h (by omega) hR (Int.le_refl 0) (show (0 : Int) < (7 : Nat) by omega) rfl, fun w7 L' R' q => ?_⟩
            obtain ⟨e, h', hR'⟩ := fPost7 q h hR rfl
            replace e : w7 = 6 := e
            refine ⟨fun c => absurd e c, fun _ => ?_⟩
            clear q e h hR; have h := h'; have hR := hR'; clear h' hR'
            refine ⟨fPre h (by omega) hR (Int.le_refl 0) (show (0 : Int) < (7 : Nat) by omega) rfl, fun w8 L' R' q => ?_⟩
            obtain ⟨e, h', hR'⟩ := fPost7 q h hR rfl
            replace e : w8 = 6 := e
            refine ⟨fun c => absurd e c, fun _ => ?_⟩
            clear q e h hR; have h := h'; have hR := hR'; clear h' hR'
            refine ⟨fPre h (by omega) hR (Int.le_refl 0) (show (0 : Int) < (7 : Nat) by omega) rfl, fun w9 L' R' q => ?_⟩
            obtain ⟨e, h', hR'⟩ := fPost7 q h hR rfl
            replace e : w9 = 6 := e
            refine ⟨fun c => absurd e c, fun _ => ?_⟩
            clear q e h hR; have h := h'; have hR := hR'; clear h' hR'
            refine ⟨⟨h, hR⟩, fun x LG RG qG T eT U eU => ?_⟩
            obtain ⟨ex, hG, hRG⟩ := qG
            refine ⟨⟨hG, hRG, eT, eU⟩, fun y LX RX T' U' qX => ?_⟩
            obtain ⟨ey, hX⟩ := qX
            replace ex : x = 6 := ex
            replace ey : y = 7 := ey
            replace hX : RX = [0, 0] := hX
            subst ex ey hX
            refine ⟨fun _ a ea b eb => ⟨fun _ c ec => ⟨fun _ d _ _ f ef => ⟨fun _ g _ _ => trivial, fun z => z ef⟩, fun z => absurd ec z⟩, fun z => ?_⟩, fun z => z rfl⟩
            subst ea; subst eb; exact absurd z (by decide)
        · refine ⟨fPre h (by omega) hR (Int.le_refl 0) (show (0 : Int) < (4 : Nat) by omega) rfl, fun w4 L' R' q => ?_⟩
          obtain ⟨e, h', hR'⟩ := fPost q h hR rfl (by omega)
          replace e : w4 = 0 := e
          refine ⟨fun c => absurd e c, fun _ => ?_⟩
          clear q e h hR; have h := h'; have hR := hR'; clear h' hR'
          refine ⟨fPre h (by omega) hR (Int.le_refl 0) (show (0 : Int) < (5 : Nat) by omega) rfl, fun w5 L' R' q => ?_⟩
          obtain ⟨e, h', hR'⟩ := fPost q h hR rfl (by omega)
          replace e : w5 = 0 := e
          refine ⟨fun c => absurd e c, fun _ => ?_⟩
          clear q e h hR; have h := h'; have hR := hR'; clear h' hR'
          refine ⟨fPre h (by omega) hR (Int.le_refl 0) (show (0 : Int) < (6 : Nat) by omega) rfl, fun w6 L' R' q => ?_⟩
          obtain ⟨e, h', hR'⟩ := fPost q h hR rfl (by omega)
          replace e : w6 = 0 := e
          refine ⟨fun c => absurd e c, fun _ => ?_⟩
          clear q e h hR; have h := h'; have hR := hR'; clear h' hR'
          refine ⟨fPre h (by omega) hR (Int.le_refl 0) (show (0 : Int) < (7 : Nat) by omega) rfl, fun w7 L' R' q => ?_⟩
          obtain ⟨e, h', hR'⟩ := fPost7 q h hR rfl
          replace e : w7 = 6 := e
          refine ⟨fun c => absurd e c, fun _ => ?_⟩
          clear q e h hR; have h := h'; have hR := hR'; clear h' hR'
          refine ⟨fPre h (by omega) hR (Int.le_refl 0) (show (0 : Int) < (7 : Nat) by omega) rfl, fun w8 L' R' q => ?_⟩
          obtain ⟨e, h', hR'⟩ := fPost7 q h hR rfl
          replace e : w8 = 6 := e
          refine ⟨fun c => absurd e c, fun _ => ?_⟩
          clear q e h hR; have h := h'; have hR := hR'; clear h' hR'
          refine ⟨fPre h (by omega) hR (Int.le_refl 0) (show (0 : Int) < (7 : Nat) by omega) rfl, fun w9 L' R' q => ?_⟩
          obtain ⟨e, h', hR'⟩ := fPost7 q h hR rfl
          replace e : w9 = 6 := e
          refine ⟨fun c => absurd e c, fun _ => ?_⟩
          clear q e h hR; have h := h'; have hR := hR'; clear h' hR'
          refine ⟨⟨h, hR⟩, fun x LG RG qG T eT U eU => ?_⟩
          obtain ⟨ex, hG, hRG⟩ := qG
          refine ⟨⟨hG, hRG, eT, eU⟩, fun y LX RX T' U' qX => ?_⟩
          obtain ⟨ey, hX⟩ := qX
          replace ex : x = 6 := ex
          replace ey : y = 7 := ey
          replace hX : RX = [0, 0] := hX
          subst ex ey hX
          refine ⟨fun _ a ea b eb => ⟨fun _ c ec => ⟨fun _ d _ _ f ef => ⟨fun _ g _ _ => trivial, fun z => z ef⟩, fun z => absurd ec z⟩, fun z => ?_⟩, fun z => z rfl⟩
          subst ea; subst eb; exact absurd z (by decide)
      · refine ⟨fPre h (by omega) hR (Int.le_refl 0) (show (0 : Int) < (3 : Nat) by omega) rfl, fun w3 L' R' q => ?_⟩
        obtain ⟨e, h', hR'⟩ := fPost q h hR rfl (by omega)
        replace e : w3 = 0 := e
        refine ⟨fun c => absurd e c, fun _ => ?_⟩
        clear q e h hR; have h := h'; have hR := hR'; clear h' hR'
        refine ⟨fPre h (by omega) hR (Int.le_refl 0) (show (0 : Int) < (4 : Nat) by omega) rfl, fun w4 L' R' q => ?_⟩
        obtain ⟨e, h', hR'⟩ := fPost q h hR rfl (by omega)
        replace e : w4 = 0 := e
        refine ⟨fun c => absurd e c, fun _ => ?_⟩
        clear q e h hR; have h := h'; have hR := hR'; clear h' hR'
        refine ⟨fPre h (by omega) hR (Int.le_refl 0) (show (0 : Int) < (5 : Nat) by omega) rfl, fun w5 L' R' q => ?_⟩
        obtain ⟨e, h', hR'⟩ := fPost q h hR rfl (by omega)
        replace e : w5 = 0 := e
        refine ⟨fun c => absurd e c, fun _ => ?_⟩
        clear q e h hR; have h := h'; have hR := hR'; clear h' hR'
        refine ⟨fPre h (by omega) hR (Int.le_refl 0) (show (0 : Int) < (6 : Nat) by omega) rfl, fun w6 L' R' q => ?_⟩
        obtain ⟨e, h', hR'⟩ := fPost q h hR rfl (by omega)
        replace e : w6 = 0 := e
        refine ⟨fun c => absurd e c, fun _ => ?_⟩
        clear q e h hR; have h := h'; have hR := hR'; clear h' hR'
        refine ⟨fPre h (by omega) hR (Int.le_refl 0) (show (0 : Int) < (7 : Nat) by omega) rfl, fun w7 L' R' q => ?_⟩
        obtain ⟨e, h', hR'⟩ := fPost7 q h hR rfl
        replace e : w7 = 6 := e
        refine ⟨fun c => absurd e c, fun _ => ?_⟩
        clear q e h hR; have h := h'; have hR := hR'; clear h' hR'
        refine ⟨fPre h (by omega) hR (Int.le_refl 0) (show (0 : Int) < (7 : Nat) by omega) rfl, fun w8 L' R' q => ?_⟩
        obtain ⟨e, h', hR'⟩ := fPost7 q h hR rfl
        replace e : w8 = 6 := e
        refine ⟨fun c => absurd e c, fun _ => ?_⟩
        clear q e h hR; have h := h'; have hR := hR'; clear h' hR'
        refine ⟨fPre h (by omega) hR (Int.le_refl 0) (show (0 : Int) < (7 : Nat) by omega) rfl, fun w9 L' R' q => ?_⟩
        obtain ⟨e, h', hR'⟩ := fPost7 q h hR rfl
        replace e : w9 = 6 := e
        refine ⟨fun c => absurd e c, fun _ => ?_⟩
        clear q e h hR; have h := h'; have hR := hR'; clear h' hR'
        refine ⟨⟨h, hR⟩, fun x LG RG qG T eT U eU => ?_⟩
        obtain ⟨ex, hG, hRG⟩ := qG
        refine ⟨⟨hG, hRG, eT, eU⟩, fun y LX RX T' U' qX => ?_⟩
        obtain ⟨ey, hX⟩ := qX
        replace ex : x = 6 := ex
        replace ey : y = 7 := ey
        replace hX : RX = [0, 0] := hX
        subst ex ey hX
        refine ⟨fun _ a ea b eb => ⟨fun _ c ec => ⟨fun _ d _ _ f ef => ⟨fun _ g _ _ => trivial, fun z => z ef⟩, fun z => absurd ec z⟩, fun z => ?_⟩, fun z => z rfl⟩
        subst ea; subst eb; exact absurd z (by decide)
    · refine ⟨fPre h (by omega) hR (Int.le_refl 0) (show (0 : Int) < (2 : Nat) by omega) rfl, fun w2 L' R' q => ?_⟩
      obtain ⟨e, h', hR'⟩ := fPost q h hR rfl (by omega)
      replace e : w2 = 0 := e
      refine ⟨fun c => absurd e c, fun _ => ?_⟩
      clear q e h hR; have h := h'; have hR := hR'; clear h' hR'
      refine ⟨fPre h (by omega) hR (Int.le_refl 0) (show (0 : Int) < (3 : Nat) by omega) rfl, fun w3 L' R' q => ?_⟩
      obtain ⟨e, h', hR'⟩ := fPost q h hR rfl (by omega)
      replace e : w3 = 0 := e
      refine ⟨fun c => absurd e c, fun _ => ?_⟩
      clear q e h hR; have h := h'; have hR := hR'; clear h' hR'
      refine ⟨fPre h (by omega) hR (Int.le_refl 0) (show (0 : Int) < (4 : Nat) by omega) rfl, fun w4 L' R' q => ?_⟩
      obtain ⟨e, h', hR'⟩ := fPost q h hR rfl (by omega)
      replace e : w4 = 0 := e
      refine ⟨fun c => absurd e c, fun _ => ?_⟩
      clear q e h hR; have h := h'; have hR := hR'; clear h' hR'
      refine ⟨fPre h (by omega) hR (Int.le_refl 0) (show (0 : Int) < (5 : Nat) by omega) rfl, fun w5 L' R' q => ?_⟩
      obtain ⟨e, h', hR'⟩ := fPost q h hR rfl (by omega)
      replace e : w5 = 0 := e
      refine ⟨fun c => absurd e c, fun _ => ?_⟩
      clear q e h hR; have h := h'; have hR := hR'; clear h' hR'
      refine ⟨fPre h (by omega) hR (Int.le_refl 0) (show (0 : Int) < (6 : Nat) by omega) rfl, fun w6 L' R' q => ?_⟩
      obtain ⟨e, h', hR'⟩ := fPost q h hR rfl (by omega)
      replace e : w6 = 0 := e
      refine ⟨fun c => absurd e c, fun _ => ?_⟩
      clear q e h hR; have h := h'; have hR := hR'; clear h' hR'
      refine ⟨fPre h (by omega) hR (Int.le_refl 0) (show (0 : Int) < (7 : Nat) by omega) rfl, fun w7 L' R' q => ?_⟩
      obtain ⟨e, h', hR'⟩ := fPost7 q h hR rfl
      replace e : w7 = 6 := e
      refine ⟨fun c => absurd e c, fun _ => ?_⟩
      clear q e h hR; have h := h'; have hR := hR'; clear h' hR'
      refine ⟨fPre h (by omega) hR (Int.le_refl 0) (show (0 : Int) < (7 : Nat) by omega) rfl, fun w8 L' R' q => ?_⟩
      obtain ⟨e, h', hR'⟩ := fPost7 q h hR rfl
      replace e : w8 = 6 := e
      refine ⟨fun c => absurd e c, fun _ => ?_⟩
      clear q e h hR; have h := h'; have hR := hR'; clear h' hR'
      refine ⟨fPre h (by omega) hR (Int.le_refl 0) (show (0 : Int) < (7 : Nat) by omega) rfl, fun w9 L' R' q => ?_⟩
      obtain ⟨e, h', hR'⟩ := fPost7 q h hR rfl
      replace e : w9 = 6 := e
      refine ⟨fun c => absurd e c, fun _ => ?_⟩
      clear q e h hR; have h := h'; have hR := hR'; clear h' hR'
      refine ⟨⟨h, hR⟩, fun x LG RG qG T eT U eU => ?_⟩
      obtain ⟨ex, hG, hRG⟩ := qG
      refine ⟨⟨hG, hRG, eT, eU⟩, fun y LX RX T' U' qX => ?_⟩
      obtain ⟨ey, hX⟩ := qX
      replace ex : x = 6 := ex
      replace ey : y = 7 := ey
      replace hX : RX = [0, 0] := hX
      subst ex ey hX
      refine ⟨fun _ a ea b eb => ⟨fun _ c ec => ⟨fun _ d _ _ f ef => ⟨fun _ g _ _ => trivial, fun z => z ef⟩, fun z => absurd ec z⟩, fun z => ?_⟩, fun z => z rfl⟩
      subst ea; subst eb; exact absurd z (by decide)
  · intro R eR L eL
    have h : FS 1 L := by rw [eL]; exact FS.one
    have hR : R = [((1 : Nat) : Int), 0] := eR
    clear eR eL
    refine ⟨fPre h (by omega) hR (Int.le_refl 0) (show (0 : Int) < (1 : Nat) by omega) rfl, fun w1 L' R' q => ?_⟩
    obtain ⟨e, h', hR'⟩ := fPost q h hR rfl (by omega)
    replace e : w1 = 0 := e
    refine ⟨fun c => absurd e c, fun _ => ?_⟩
    clear q e h hR; have h := h'; have hR := hR'; clear h' hR'
    refine ⟨fPre h (by omega) hR (Int.le_refl 0) (show (0 : Int) < (2 : Nat) by omega) rfl, fun w2 L' R' q => ?_⟩
    obtain ⟨e, h', hR'⟩ := fPost q h hR rfl (by omega)
    replace e : w2 = 0 := e
    refine ⟨fun c => absurd e c, fun _ => ?_⟩
    clear q e h hR; have h := h'; have hR := hR'; clear h' hR'
    refine ⟨fPre h (by omega) hR (Int.le_refl 0) (show (0 : Int) < (3 : Nat) by omega) rfl, fun w3 L' R' q => ?_⟩
    obtain ⟨e, h', hR'⟩ := fPost q h hR rfl (by omega)
    replace e : w3 = 0 := e
    refine ⟨fun c => absurd e c, fun _ => ?_⟩
    clear q e h hR; have h := h'; have hR := hR'; clear h' hR'
    refine ⟨fPre h (by omega) hR (Int.le_refl 0) (show (0 : Int) < (4 : Nat) by omega) rfl, fun w4 L' R' q => ?_⟩
    obtain ⟨e, h', hR'⟩ := fPost q h hR rfl (by omega)
    replace e : w4 = 0 := e
    refine ⟨fun c => absurd e c, fun _ => ?_⟩
    clear q e h hR; have h := h'; have hR := hR'; clear h' hR'
    refine ⟨fPre h (by omega) hR (Int.le_refl 0) (show (0 : Int) < (5 : Nat) by omega) rfl, fun w5 L' R' q => ?_⟩
    obtain ⟨e, h', hR'⟩ := fPost q h hR rfl (by omega)
    replace e : w5 = 0 := e
    refine ⟨fun c => absurd e c, fun _ => ?_⟩
    clear q e h hR; have h := h'; have hR := hR'; clear h' hR'
    refine ⟨fPre h (by omega) hR (Int.le_refl 0) (show (0 : Int) < (6 : Nat) by omega) rfl, fun w6 L' R' q => ?_⟩
    obtain ⟨e, h', hR'⟩ := fPost q h hR rfl (by omega)
    replace e : w6 = 0 := e
    refine ⟨fun c => absurd e c, fun _ => ?_⟩
    clear q e h hR; have h := h'; have hR := hR'; clear h' hR'
    refine ⟨fPre h (by omega) hR (Int.le_refl 0) (show (0 : Int) < (7 : Nat) by omega) rfl, fun w7 L' R' q => ?_⟩
    obtain ⟨e, h', hR'⟩ := fPost7 q h hR rfl
    replace e : w7 = 6 := e
    refine ⟨fun c => absurd e c, fun _ => ?_⟩
    clear q e h hR; have h := h'; have hR := hR'; clear h' hR'
    refine ⟨fPre h (by omega) hR (Int.le_refl 0) (show (0 : Int) < (7 : Nat) by omega) rfl, fun w8 L' R' q => ?_⟩
    obtain ⟨e, h', hR'⟩ := fPost7 q h hR rfl
    replace e : w8 = 6 := e
    refine ⟨fun c => absurd e c, fun _ => ?_⟩
    clear q e h hR; have h := h'; have hR := hR'; clear h' hR'
    refine ⟨fPre h (by omega) hR (Int.le_refl 0) (show (0 : Int) < (7 : Nat) by omega) rfl, fun w9 L' R' q => ?_⟩
    obtain ⟨e, h', hR'⟩ := fPost7 q h hR rfl
    replace e : w9 = 6 := e
    refine ⟨fun c => absurd e c, fun _ => ?_⟩
    clear q e h hR; have h := h'; have hR := hR'; clear h' hR'
    refine ⟨⟨h, hR⟩, fun x LG RG qG T eT U eU => ?_⟩
    obtain ⟨ex, hG, hRG⟩ := qG
    refine ⟨⟨hG, hRG, eT, eU⟩, fun y LX RX T' U' qX => ?_⟩
    obtain ⟨ey, hX⟩ := qX
    replace ex : x = 6 := ex
    replace ey : y = 7 := ey
    replace hX : RX = [0, 0] := hX
    subst ex ey hX
    refine ⟨fun _ a ea b eb => ⟨fun _ c ec => ⟨fun _ d _ _ f ef => ⟨fun _ g _ _ => trivial, fun z => z ef⟩, fun z => absurd ec z⟩, fun z => ?_⟩, fun z => z rfl⟩
    subst ea; subst eb; exact absurd z (by decide))
theorem plainFull_holds : ((lawSpec L2.f_messuagelaw11_PlainFull [.slc [.i .i64]]).withPre fun _ => True).Holds Tryz.prog L2.ro := holds_withPre _ plainFull_holds0

noncomputable def PlainFull_n_t : Tree := .call 19 (Go.Sx.L2.yes Go.Sx.L2.f_messuagelaw11_begun).rel [] [] 0 0 (.call 77 (Go.Sx.L2.pNew2).rel [] [] 2 0 (.call 10 (Go.Sx.L2.qH1).rel [.v 0, .v 1] [] 0 0 (.letL (.lit [.c (1), .c (0)]) (.letL (.lit [.c (0), .c (3), .c (-1), .c (0), .c (0), .c (0), .c (0), .c (0), .c (0), .c (0), .c (0), .c (0), .c (0), .c (0), .c (0), .c (0), .c (0), .c (0), .c (0), .c (0), .c (0), .c (0), .c (0), .c (0), .c (0), .c (0), .c (0), .c (0), .c (0), .c (0), .c (0), .c (0), .c (0), .c (0), .c (0), .c (0), .c (0), .c (0), .c (0), .c (0), .c (0), .c (0), .c (0), .c (0), .c (0), .c (0), .c (0), .c (0), .c (0), .c (0), .c (0), .c (0), .c (0), .c (0), .c (0), .c (0), .c (0), .c (0), .c (0), .c (0), .c (0), .c (0), .c (0), .c (0)]) (.call 10 (Go.Sx.L2.fD).rel [.v 0, .v 1, .c (0), .c (1)] [1, 0] 1 2 (.letI (.cmp .neq (.v 2) (.c 0)) (.ite (.v 3) (.fail 180) (.call 10 (Go.Sx.L2.fD).rel [.v 0, .v 1, .c (0), .c (2)] [2, 3] 1 2 (.letI (.cmp .neq (.v 4) (.c 0)) (.ite (.v 5) (.fail 180) (.call 10 (Go.Sx.L2.fD).rel [.v 0, .v 1, .c (0), .c (3)] [4, 5] 1 2 (.letI (.cmp .neq (.v 6) (.c 0)) (.ite (.v 7) (.fail 180) (.call 10 (Go.Sx.L2.fD).rel [.v 0, .v 1, .c (0), .c (4)] [6, 7] 1 2 (.letI (.cmp .neq (.v 8) (.c 0)) (.ite (.v 9) (.fail 180) (.call 10 (Go.Sx.L2.fD).rel [.v 0, .v 1, .c (0), .c (5)] [8, 9] 1 2 (.letI (.cmp .neq (.v 10) (.c 0)) (.ite (.v 11) (.fail 180) (.call 10 (Go.Sx.L2.fD).rel [.v 0, .v 1, .c (0), .c (6)] [10, 11] 1 2 (.letI (.cmp .neq (.v 12) (.c 0)) (.ite (.v 13) (.fail 180) (.call 10 (Go.Sx.L2.fD).rel [.v 0, .v 1, .c (0), .c (7)] [12, 13] 1 2 (.letI (.cmp .neq (.v 14) (.c 6)) (.ite (.v 15) (.fail 180) (.call 10 (Go.Sx.L2.fD).rel [.v 0, .v 1, .c (0), .c (7)] [14, 15] 1 2 (.letI (.cmp .neq (.v 16) (.c 6)) (.ite (.v 17) (.fail 180) (.call 10 (Go.Sx.L2.fD).rel [.v 0, .v 1, .c (0), .c (7)] [16, 17] 1 2 (.letI (.cmp .neq (.v 18) (.c 6)) (.ite (.v 19) (.fail 180) (.call 10 (Go.Sx.L2.fG).rel [.v 0, .v 1] [18, 19] 1 2 (.letL (.lit [.c (0), .c (0), .c (0), .c (0), .c (0), .c (0), .c (0), .c (0), .c (0), .c (0), .c (0), .c (0), .c (0), .c (0), .c (0), .c (0), .c (0), .c (0), .c (0), .c (0), .c (0), .c (0), .c (0), .c (0)]) (.letL (.lit [.c (0), .c (0), .c (0), .c (0), .c (0), .c (0), .c (0), .c (0), .c (0), .c (0), .c (0), .c (0), .c (0), .c (0), .c (0), .c (0), .c (0), .c (0), .c (0), .c (0), .c (0), .c (0), .c (0), .c (0)]) (.call 10 (Go.Sx.L2.fX).rel [.v 0, .v 1] [20, 21, 22, 23] 1 4 (.letI (.cmp .eql (.v 20) (.c 6)) (.ite (.v 22) (.letI (.cmp .eql (.v 21) (.c 7)) (.letI (.pick (.v 23) (.c 1) (.c 0)) (.ite (.v 24) (.letI (.get 25 (.c 0)) (.letI (.cmp .eql (.v 25) (.c 0)) (.ite (.v 26) (.any (.c 1) (.c 9223372036854775807) (.letI (.get 25 (.c 1)) (.letI (.cmp .eql (.v 28) (.c 0)) (.ite (.v 29) (.any (.c 2) (.c 9223372036854775807) (.done [] [])) (.fail 180))))) (.letI (.get 25 (.c 1)) (.letI (.cmp .eql (.v 27) (.c 0)) (.ite (.v 28) (.any (.c 1) (.c 9223372036854775807) (.fail 180)) (.fail 180))))))) (.fail 180)))) (.fail 180))))))))))))))))))))))))))))))))))))))
theorem PlainFull_n_tree : (lawSpec L2.f_messuagelaw11_PlainFull [.nil]).exe Tryz.prog (withC (withA (withS (L2.cfgB Tryz.prog) [L2.pNew2]) L2.f_plain_Kernel_Do [L2.qH1, L2.fD, L2.fG, L2.fX])) [] 20 200 = PlainFull_n_t := by kernel_rfl
theorem PlainFull_n_vc (Q : List Int → List (List Int) → Prop) : PlainFull_n_t.dn ⟨Q, []⟩ 0 [] 0 [] = ((Go.Sx.L2.yes Go.Sx.L2.f_messuagelaw11_begun).rel.pre [] [] ∧
((Go.Sx.L2.yes Go.Sx.L2.f_messuagelaw11_begun).rel.post [] [] [] [] → (Go.Sx.L2.pNew2).rel.pre [] [] ∧
(∀ v0 : Int, ∀ v1 : Int, (Go.Sx.L2.pNew2).rel.post [] [] [v0, v1] [] → (Go.Sx.L2.qH1).rel.pre [v0, v1] [] ∧
((Go.Sx.L2.qH1).rel.post [v0, v1] [] [] [] → ∀ L0 : List Int, L0 = [(1 : Int), (0 : Int)] → ∀ L1 : List Int, L1 = [(0 : Int), (3 : Int), ((-1) : Int), (0 : Int), (0 : Int), (0 : Int), (0 : Int), (0 : Int), (0 : Int), (0 : Int), (0 : Int), (0 : Int), (0 : Int), (0 : Int), (0 : Int), (0 : Int), (0 : Int), (0 : Int), (0 : Int), (0 : Int), (0 : Int), (0 : Int), (0 : Int), (0 : Int), (0 : Int), (0 : Int), (0 : Int), (0 : Int), (0 : Int), (0 : Int), (0 : Int), (0 : Int), (0 : Int), (0 : Int), (0 : Int), (0 : Int), (0 : Int), (0 : Int), (0 : Int), (0 : Int), (0 : Int), (0 : Int), (0 : Int), (0 : Int), (0 : Int), (0 : Int), (0 : Int), (0 : Int), (0 : Int), (0 : Int), (0 : Int), (0 : Int), (0 : Int), (0 : Int), (0 : Int), (0 : Int), (0 : Int), (0 : Int), (0 : Int), (0 : Int), (0 : Int), (0 : Int), (0 : Int), (0 : Int)] → (Go.Sx.L2.fD).rel.pre [v0, v1, (0 : Int), (1 : Int)] [L1, L0] ∧
(∀ v2 : Int, ∀ L2 : List Int, ∀ L3 : List Int, (Go.Sx.L2.fD).rel.post [v0, v1, (0 : Int), (1 : Int)] [L1, L0] [v2] [L2, L3] → ((v2 ≠ (0 : Int)) → False) ∧
((v2 = (0 : Int)) → (Go.Sx.L2.fD).rel.pre [v0, v1, (0 : Int), (2 : Int)] [L2, L3] ∧
(∀ v4 : Int, ∀ L4 : List Int, ∀ L5 : List Int, (Go.Sx.L2.fD).rel.post [v0, v1, (0 : Int), (2 : Int)] [L2, L3] [v4] [L4, L5] → ((v4 ≠ (0 : Int)) → False) ∧
((v4 = (0 : Int)) → (Go.Sx.L2.fD).rel.pre [v0, v1, (0 : Int), (3 : Int)] [L4, L5] ∧
(∀ v6 : Int, ∀ L6 : List Int, ∀ L7 : List Int, (Go.Sx.L2.fD).rel.post [v0, v1, (0 : Int), (3 : Int)] [L4, L5] [v6] [L6, L7] → ((v6 ≠ (0 : Int)) → False) ∧
((v6 = (0 : Int)) → (Go.Sx.L2.fD).rel.pre [v0, v1, (0 : Int), (4 : Int)] [L6, L7] ∧
(∀ v8 : Int, ∀ L8 : List Int, ∀ L9 : List Int, (Go.Sx.L2.fD).rel.post [v0, v1, (0 : Int), (4 : Int)] [L6, L7] [v8] [L8, L9] → ((v8 ≠ (0 : Int)) → False) ∧
((v8 = (0 : Int)) → (Go.Sx.L2.fD).rel.pre [v0, v1, (0 : Int), (5 : Int)] [L8, L9] ∧
(∀ v10 : Int, ∀ L10 : List Int, ∀ L11 : List Int, (Go.Sx.L2.fD).rel.post [v0, v1, (0 : Int), (5 : Int)] [L8, L9] [v10] [L10, L11] → ((v10 ≠ (0 : Int)) → False) ∧
((v10 = (0 : Int)) → (Go.Sx.L2.fD).rel.pre [v0, v1, (0 : Int), (6 : Int)] [L10, L11] ∧
(∀ v12 : Int, ∀ L12 : List Int, ∀ L13 : List Int, (Go.Sx.L2.fD).rel.post [v0, v1, (0 : Int), (6 : Int)] [L10, L11] [v12] [L12, L13] → ((v12 ≠ (0 : Int)) → False) ∧
((v12 = (0 : Int)) → (Go.Sx.L2.fD).rel.pre [v0, v1, (0 : Int), (7 : Int)] [L12, L13] ∧
(∀ v14 : Int, ∀ L14 : List Int, ∀ L15 : List Int, (Go.Sx.L2.fD).rel.post [v0, v1, (0 : Int), (7 : Int)] [L12, L13] [v14] [L14, L15] → ((v14 ≠ (6 : Int)) → False) ∧
((v14 = (6 : Int)) → (Go.Sx.L2.fD).rel.pre [v0, v1, (0 : Int), (7 : Int)] [L14, L15] ∧
(∀ v16 : Int, ∀ L16 : List Int, ∀ L17 : List Int, (Go.Sx.L2.fD).rel.post [v0, v1, (0 : Int), (7 : Int)] [L14, L15] [v16] [L16, L17] → ((v16 ≠ (6 : Int)) → False) ∧
((v16 = (6 : Int)) → (Go.Sx.L2.fD).rel.pre [v0, v1, (0 : Int), (7 : Int)] [L16, L17] ∧
(∀ v18 : Int, ∀ L18 : List Int, ∀ L19 : List Int, (Go.Sx.L2.fD).rel.post [v0, v1, (0 : Int), (7 : Int)] [L16, L17] [v18] [L18, L19] → ((v18 ≠ (6 : Int)) → False) ∧
((v18 = (6 : Int)) → (Go.Sx.L2.fG).rel.pre [v0, v1] [L18, L19] ∧
(∀ v20 : Int, ∀ L20 : List Int, ∀ L21 : List Int, (Go.Sx.L2.fG).rel.post [v0, v1] [L18, L19] [v20] [L20, L21] → ∀ L22 : List Int, L22 = [(0 : Int), (0 : Int), (0 : Int), (0 : Int), (0 : Int), (0 : Int), (0 : Int), (0 : Int), (0 : Int), (0 : Int), (0 : Int), (0 : Int), (0 : Int), (0 : Int), (0 : Int), (0 : Int), (0 : Int), (0 : Int), (0 : Int), (0 : Int), (0 : Int), (0 : Int), (0 : Int), (0 : Int)] → ∀ L23 : List Int, L23 = [(0 : Int), (0 : Int), (0 : Int), (0 : Int), (0 : Int), (0 : Int), (0 : Int), (0 : Int), (0 : Int), (0 : Int), (0 : Int), (0 : Int), (0 : Int), (0 : Int), (0 : Int), (0 : Int), (0 : Int), (0 : Int), (0 : Int), (0 : Int), (0 : Int), (0 : Int), (0 : Int), (0 : Int)] → (Go.Sx.L2.fX).rel.pre [v0, v1] [L20, L21, L22, L23] ∧
(∀ v21 : Int, ∀ L24 : List Int, ∀ L25 : List Int, ∀ L26 : List Int, ∀ L27 : List Int, (Go.Sx.L2.fX).rel.post [v0, v1] [L20, L21, L22, L23] [v21] [L24, L25, L26, L27] → ((v20 = (6 : Int)) → ∀ v23 : Int, v23 = b2i (v21 == (7 : Int)) → ∀ v24 : Int, v24 = (if v23 = 0 then (0 : Int) else (1 : Int)) → (v24 ≠ 0 → ∀ v25 : Int, v25 = (L25).getD ((0 : Int)).toNat 0 → ((v25 = (0 : Int)) → ∀ v27 : Int, (1 : Int) ≤ v27 → v27 ≤ (9223372036854775807 : Int) → ∀ v28 : Int, v28 = (L25).getD ((1 : Int)).toNat 0 → ((v28 = (0 : Int)) → ∀ v30 : Int, (2 : Int) ≤ v30 → v30 ≤ (9223372036854775807 : Int) → Q [] []) ∧
((v28 ≠ (0 : Int)) → False)) ∧
((v25 ≠ (0 : Int)) → ∀ v27 : Int, v27 = (L25).getD ((1 : Int)).toNat 0 → ((v27 = (0 : Int)) → ∀ v29 : Int, (1 : Int) ≤ v29 → v29 ≤ (9223372036854775807 : Int) → False) ∧
((v27 ≠ (0 : Int)) → False))) ∧
(v24 = 0 → False)) ∧
((v20 ≠ (6 : Int)) → False))))))))))))))))))))))))) := by kernel_rfl
set_option maxHeartbeats 4000000 in
theorem plainFull_holds_n0 : (lawSpec L2.f_messuagelaw11_PlainFull [.nil]).Holds Tryz.prog L2.ro := FSpec.holdsV (cfg := withC (withA (withS (L2.cfgB Tryz.prog) [L2.pNew2]) L2.f_plain_Kernel_Do [L2.qH1, L2.fD, L2.fG, L2.fX])) [] 20 200 (withC_ok (withA_ok (withS_ok cfgB_ok ⟨pNew2_holds, trivial⟩) (fun s hs => by
  simp only [List.mem_cons, List.not_mem_nil, or_false] at hs
  rcases hs with rfl | rfl | rfl | rfl <;> rfl) ⟨qH1_holds, fD_holds, fG_holds, fX_holds, trivial⟩)) mixed (t := PlainFull_n_t) PlainFull_n_tree (by
  show _ → _
  intro   hp hr hl
  replace hr : True := hr
  replace hp : True := hp
  show PlainFull_n_t.dn ⟨_, []⟩ 0 [] 0 []
  rw [PlainFull_n_vc]
  show ((L2.yes L2.f_messuagelaw11_begun).rel.pre [] [] ∧ _)
  refine ⟨trivial, fun _ => ?_⟩
  refine ⟨trivial, fun v2 v3 _ => ⟨trivial, fun _ => ?_⟩⟩
  intro R eR L eL
  have h : FS 1 L := by rw [eL]; exact FS.one
  have hR : R = [((1 : Nat) : Int), 0] := eR
  clear eR eL
  refine ⟨fPre h (by omega) hR (Int.le_refl 0) (show (0 : Int) < (1 : Nat) by omega) rfl, fun w1 L' R' q => ?_⟩
  obtain ⟨e, h', hR'⟩ := fPost q h hR rfl (by omega)
  replace e : w1 = 0 := e
  refine ⟨fun c => absurd e c, fun _ => ?_⟩
  clear q e h hR; have h := h'; have hR := hR'; clear h' hR'
  refine ⟨fPre h (by omega) hR (Int.le_refl 0) (show (0 : Int) < (2 : Nat) by omega) rfl, fun w2 L' R' q => ?_⟩
  obtain ⟨e, h', hR'⟩ := fPost q h hR rfl (by omega)
  replace e : w2 = 0 := e
  refine ⟨fun c => absurd e c, fun _ => ?_⟩
  clear q e h hR; have h := h'; have hR := hR'; clear h' hR'
  refine ⟨fPre h (by omega) hR (Int.le_refl 0) (show (0 : Int) < (3 : Nat) by omega) rfl, fun w3 L' R' q => ?_⟩
  obtain ⟨e, h', hR'⟩ := fPost q h hR rfl (by omega)
  replace e : w3 = 0 := e
  refine ⟨fun c => absurd e c, fun _ => ?_⟩
  clear q e h hR; have h := h'; have hR := hR'; clear h' hR'
  refine ⟨fPre h (by omega) hR (Int.le_refl 0) (show (0 : Int) < (4 : Nat) by omega) rfl, fun w4 L' R' q => ?_⟩
  obtain ⟨e, h', hR'⟩ := fPost q h hR rfl (by omega)
  replace e : w4 = 0 := e
  refine ⟨fun c => absurd e c, fun _ => ?_⟩
  clear q e h hR; have h := h'; have hR := hR'; clear h' hR'
  refine ⟨fPre h (by omega) hR (Int.le_refl 0) (show (0 : Int) < (5 : Nat) by omega) rfl, fun w5 L' R' q => ?_⟩
  obtain ⟨e, h', hR'⟩ := fPost q h hR rfl (by omega)
  replace e : w5 = 0 := e
  refine ⟨fun c => absurd e c, fun _ => ?_⟩
  clear q e h hR; have h := h'; have hR := hR'; clear h' hR'
  refine ⟨fPre h (by omega) hR (Int.le_refl 0) (show (0 : Int) < (6 : Nat) by omega) rfl, fun w6 L' R' q => ?_⟩
  obtain ⟨e, h', hR'⟩ := fPost q h hR rfl (by omega)
  replace e : w6 = 0 := e
  refine ⟨fun c => absurd e c, fun _ => ?_⟩
  clear q e h hR; have h := h'; have hR := hR'; clear h' hR'
  refine ⟨fPre h (by omega) hR (Int.le_refl 0) (show (0 : Int) < (7 : Nat) by omega) rfl, fun w7 L' R' q => ?_⟩
  obtain ⟨e, h', hR'⟩ := fPost7 q h hR rfl
  replace e : w7 = 6 := e
  refine ⟨fun c => absurd e c, fun _ => ?_⟩
  clear q e h hR; have h := h'; have hR := hR'; clear h' hR'
  refine ⟨fPre h (by omega) hR (Int.le_refl 0) (show (0 : Int) < (7 : Nat) by omega) rfl, fun w8 L' R' q => ?_⟩
  obtain ⟨e, h', hR'⟩ := fPost7 q h hR rfl
  replace e : w8 = 6 := e
  refine ⟨fun c => absurd e c, fun _ => ?_⟩
  clear q e h hR; have h := h'; have hR := hR'; clear h' hR'
  refine ⟨fPre h (by omega) hR (Int.le_refl 0) (show (0 : Int) < (7 : Nat) by omega) rfl, fun w9 L' R' q => ?_⟩
  obtain ⟨e, h', hR'⟩ := fPost7 q h hR rfl
  replace e : w9 = 6 := e
  refine ⟨fun c => absurd e c, fun _ => ?_⟩
  clear q e h hR; have h := h'; have hR := hR'; clear h' hR'
  refine ⟨⟨h, hR⟩, fun x LG RG qG T eT U eU => ?_⟩
  obtain ⟨ex, hG, hRG⟩ := qG
  refine ⟨⟨hG, hRG, eT, eU⟩, fun y LX RX T' U' qX => ?_⟩
  obtain ⟨ey, hX⟩ := qX
  replace ex : x = 6 := ex
  replace ey : y = 7 := ey
  replace hX : RX = [0, 0] := hX
  subst ex ey hX
  refine ⟨fun _ a ea b eb => ⟨fun _ c ec => ⟨fun _ d _ _ f ef => ⟨fun _ g _ _ => trivial, fun z => z ef⟩, fun z => absurd ec z⟩, fun z => ?_⟩, fun z => z rfl⟩
  subst ea; subst eb; exact absurd z (by decide))
theorem plainFull_holds_n : ((lawSpec L2.f_messuagelaw11_PlainFull [.nil]).withPre fun _ => True).Holds Tryz.prog L2.ro := holds_withPre _ plainFull_holds_n0

theorem plainFull_calls {H : Type} {enc : TypeId × Value → H} {W : World} {base : Nat} {args : Array Value} {ds : List (DataW H)} {p : List MemPlace} (hval : ∀ (j : Nat) t v, Tryz.f8.params[j]? = some t → args[j]? = some v → Value.okWide Tryz.prog W .any base t v)
    (hA : DataW.TrodAll enc Tryz.prog W 0 (fun _ => true) true Tryz.f8.params.toList args.toList ds p) (hL : laidMetH Tryz.prog laid1 W) : Calls Tryz.prog 8 args W fun e W' => e = .returned (.bool true) ∧ Go.Sx.Frame ⟨W, [], L2.ro⟩ W' := by
  rw [Tryz.params8] at hA hval
  obtain ⟨v0, d0, rfl, rfl, h0⟩ := trodAll_one hA
  rcases par_flats (base := 0) (f := 9) und57 flat3 cells3 (by decide) (hval 0 57 v0 rfl rfl) h0 with q0 | ⟨e0, q0⟩
  · exact law_calls (plainFull_holds_n) Tryz.func8 (show Tryz.f8.body = some _ from rfl) (by kernel_rfl) (.cons q0 .none) trivial (ro_of_laid hL)
  · exact law_calls (plainFull_holds) Tryz.func8 (show Tryz.f8.body = some _ from rfl) (by kernel_rfl) (.cons q0 .none) trivial (ro_of_laid hL)
set_option maxHeartbeats 1000000 in
theorem plainFull_lifted (os : Os) (started : os.Started) (H : Type) (enc : TypeId × Value → H) :
    ReturnsInHanded {} Tryz.checked os 8 .any (fun w args => (Rows.plainFullSpec.pre enc Tryz.prog Tryz.f8 [] false w args ∧ laidMetH Tryz.prog laid1 w) ∧ sizedMet enc Tryz.prog Tryz.f8 (OpenSpec.ofChange Rows.plainFullSpec) false w args)
      (Rows.plainFullSpec.post enc Tryz.prog Tryz.f8 false true false false) := by
  refine returnsInHanded_of_change_and (C := Tryz.checked) (X := fun w _ => laidMetH Tryz.prog laid1 w) (fun _ _ _ hh h => h.of_heap hh) Tryz.own started (by kernel_rfl) Tryz.func8
    (ChangeSpec.witness_at (enc := enc) (C := Tryz.checked) (os := os) (X := fun w _ => laidMetH Tryz.prog laid1 w) false (laidWorld os) #[.slice none 0 0] 8 rfl (by kernel_rfl) (by kernel_rfl) (by kernel_rfl) (by kernel_rfl) (by kernel_rfl) (laidWorld_met os _)) ?_
  intro W base args ds gs before hval0 hW _ _ hL _
  have hval : ∀ (j : Nat) t v, Tryz.f8.params[j]? = some t → args[j]? = some v → Value.okWide Tryz.prog W .any base t v := hval0
  have hW' := hW
  obtain ⟨p, q, hA0, hV0, rfl, hfz, hnd⟩ := hW
  have hcall := plainFull_calls (enc := enc) hval hA0 hL
  refine Calls.mono hcall ?_
  rintro e W' ⟨rfl, hfr⟩
  exact ⟨_, rfl, post_kept Tryz.laidOut (by kernel_rfl) rfl rfl und4 hW' hfr (by
    have hg : gs = [] := by cases gs with | nil => rfl | cons g r => exact absurd hV0 (by intro h; cases h)
    subst hg
    have hA1 : DataW.TrodAll enc Tryz.prog W 0 (fun _ => true) true Tryz.f8.params.toList args.toList ds p := hA0
    rw [Tryz.params8] at hA1
    obtain ⟨v0, d0, ea, rfl, h0⟩ := trodAll_one hA1
    rfl)⟩

theorem plainFull_row : Rows.PlainFullSaid :=
  OpenClaim.holds_of_wide 8 Tryz.f8 rfl rfl rfl rfl rfl rfl rfl ⟨rfl, rfl, rfl, rfl, rfl⟩ rfl rfl rfl rfl rfl (by kernel_rfl) Tryz.func8 (restFacts.2 _ _ _ _ _ Tryz.mayEnter Tryz.liftsFinal Tryz.make (by kernel_rfl))
    (of_decide_eq_true (by kernel_rfl)) (by unfold Func.isWrapper; rw [if_neg (of_decide_eq_false (by kernel_rfl))]; exact ⟨rfl, rfl⟩)
    (fun os started H enc _ => plainFull_lifted os started H enc)
theorem plainFull_card : Rows.PlainFullCardSaid :=
  Claim7.holds_tied_plain_at .later [] [.handle] true (true, "851eb3c6cb4eec7be8b282394a5029edcc67dd85afd058a13b27a4b6edc94801") true
    plainFull_row (fun _ h => by cases h) (by kernel_rfl) (fun _ h => by cases h) plainFull_row_tie rfl ⟨rfl, rfl⟩ Tryz.mainIs rfl
    (fun f fn hf hfn => by
      obtain rfl : f = 8 := Option.some.inj ((show Tryz.prog.funcNamed "messuage/messuagelaw11.PlainFull" = some 8 by kernel_rfl).symm.trans hf) |>.symm
      obtain rfl : fn = Tryz.f8 := (Option.some.inj (Tryz.func8.symm.trans hfn)).symm
      exact ⟨by kernel_rfl, fun j t ht => by
        rw [Tryz.params8] at ht
        rcases j with _ | j
        · obtain rfl : 57 = t := by simpa using ht
          exact (show Tryz.prog.wantsStandIn 57 = false by kernel_rfl)
        · simp at ht⟩)
    (by kernel_rfl)
#print axioms plainFull_card
end Go.Proofs.YtbpilohnhhbbpaaGreatDoor
